/- Several texts in one: see the remarks ahead of each part. No condition but those told there. -/
import Derived.Test.YtjfagifjajielaaGreatX1
import Derived.Test.YtjfagifjajielaaGreatX26
import Derived.Test.YtjfagifjajielaaGreatX14
import Derived.Test.YtjfagifjajielaaGreatX24
import Derived.Test.YtjfagifjajielaaGreatX19
import Derived.Test.YtjfagifjajielaaGreatX17
import Derived.Test.YtjfagifjajielaaGreatX22
import Derived.Test.YtjfagifjajielaaGreatX10
set_option linter.unusedSimpArgs false
set_option linter.unusedVariables false
namespace Go.Proofs.YtjfagifjajielaaGreat
open Go Go.RowKit
set_option maxRecDepth 100000
theorem TxS.r {zs:List IV} {NI J K:Heaplet} {m:TxM} {d a b:Value} (h:TxS zs NI J m d a b) (h1:NI.le K) (h2:J.le K):TxR K m d a b:=by
 obtain⟨da,dc,aa,cc,ba,bc,axs,e1,e2,_,e3,e4,e5,e6,e7⟩:=h
 exact⟨da,dc,aa,cc,ba,bc,axs,e1,e2.le h1,e3,e4.le h2,e5.le h2,e6,e7.le h2⟩
theorem TxR.le {N M:Heaplet} {m:TxM} {d a b:Value} (h:TxR N m d a b) (hl:N.le M):TxR M m d a b:=by
 obtain⟨da,dc,aa,cc,ba,bc,axs,e1,e2,e3,e4,e5,e6,e7⟩:=h
 exact⟨da,dc,aa,cc,ba,bc,axs,e1,e2.le hl,e3,e4.le hl,e5.le hl,e6,e7.le hl⟩
theorem TxR.ac {N:Heaplet} {m:TxM} {d a b:Value} (h:TxR N m d a b):AcOk m:=fun g hg=>by
 obtain⟨da,dc,aa,cc,ba,bc,axs,e1,e2,e3,e4,e5,e6,e7⟩:=h
 obtain⟨i,hi,rfl⟩:=List.mem_iff_getElem.1 hg
 obtain⟨g',x,h1,h2,h3⟩:=e5.at hi
 rw [List.getElem?_eq_getElem hi]at h1
 obtain rfl:=Option.some.inj h1
 exact⟨h3.2.1,h3.2.2.2.2⟩
theorem cut_cut (m:TxM):cutM (cutM m)=cutM m:=by
 have h: ∀g:AccM,g.cut.cut=g.cut:=fun g=>by simp [AccM.cut,List.take_take]
 have e:cutA (cutA m.ac)=cutA m.ac:=by
  rw [cutA,cutA, ←List.map_take,List.take_take,List.map_map]
  exact List.map_congr_left fun g _=>h g
 simp only [cutM,e,List.take_take,Nat.min_self]
theorem forms_bound {its:List It} {B:Nat} (h: ∀t∈its,t.form.length≤B):(It.forms its).length≤its.length*B:=by
 induction its with
 |nil=>rw [forms_nil];exact Nat.zero_le _
 |cons t ts ih=>
  rw [forms_cons,List.length_append,List.length_cons,Nat.succ_mul]
  have h1:=h t (by simp)
  have h2:=ih fun y hy=>h y (List.mem_cons_of_mem _ hy)
  omega
theorem BlkS.r {NI NT NK NO NW K:Heaplet} {m:BlkM} {cs:List Value} (h:BlkS NI NT NK NO NW m cs) (h1:NI.le K) (h2:NT.le K) (h3:NK.le K) (h4:NO.le K) (h5:NW.le K):BlkR K m cs∧okF m.hd.fi∧ ∀x∈m.oms,okF x.fi:=by
 obtain⟨v1,ta,tc,vs,ys,oa,oc,xs,wa,wc,t,zs,zt,e,k1,k2,⟨zs',ea,ec,k3,k4,_⟩,k5,_,k6,k7,k8,k9,k10,k11,_⟩:=h
 refine⟨⟨v1,ta,tc,vs,oa,oc,xs,wa,wc,e,⟨k1,ea,ec,k3,k4.le h1⟩,k5.rsl.le h2,⟨k6.lv,fun i g hg=>?_⟩,k7.rsl.le h4,fun x hx=>?_,k9,k10.rsl.le h5,k11⟩,k2,fun x hx=>?_⟩
 ·obtain⟨p,c,q1,q2⟩:=k6.at hg
  exact⟨p,c,q1,q2.elim (fun q=>q.le h1) (fun q=>q.le h3)⟩
 ·obtain⟨q1,_,zs,ea,ec,q3,q4,_⟩:=k8 x hx
  exact⟨q1,ea,ec,q3,q4.le h1⟩
 ·rw [←k9]at hx
  obtain⟨y,hy,rfl⟩:=List.mem_map.1 hx
  exact(k8 y hy).2.1
section
variable {N : Heaplet} {m : TxM} {d a b : Value}
def WTxP (m:TxM) (v:Value) (L:List Heaplet):Prop:=
 (∃M p c,fitsM m∧v=.tuple #[.slice p (txB m).length c,.int .i64 0]∧L= [M]∧Row M 5 1 p (txB m).length c (u8s (txB m)))∨
 (¬fitsM m∧v=.tuple #[.slice none 0 0,.int .i64 1]∧L= [])
theorem BlkS.len {NI NT NK NO NW:Heaplet} {m:BlkM} {cs:List Value} (h:BlkS NI NT NK NO NW m cs):cs.length=560∧cs.all (·.oneCell')=true:=by
 obtain⟨v1,ta,tc,vs,ys,oa,oc,xs,wa,wc,t,zs,zt,rfl,k1,k2,⟨zs',k3⟩,_⟩:=h
 exact⟨blk_len (HdM.len k1 _),blk_one (HdM.one k3.one) rfl rfl rfl⟩
theorem TxR.one (h:TxR N m d a b):d.oneCell'=true∧a.oneCell'=true∧b.oneCell'=true:=by
 obtain⟨da,dc,aa,cc,ba,bc,axs,rfl,_,rfl,_,_,rfl,_⟩:=h
 exact⟨rfl,rfl,rfl⟩
theorem BlkS.ok {NI NT NK NO NW:Heaplet} {m:BlkM} {cs:List Value} (h:BlkS NI NT NK NO NW m cs):okF m.hd.fi∧ ∀x∈m.oms,okF x.fi:=by
 obtain⟨v1,ta,tc,vs,ys,oa,oc,xs,wa,wc,t,zs,zt,e,k1,k2,_,k5,_,k6,k7,k8,k9,_⟩:=h
 refine⟨k2,fun x hx=>?_⟩
 rw [←k9]at hx
 obtain⟨y,hy,rfl⟩:=List.mem_map.1 hx
 exact(k8 y hy).2.1
end
theorem hd_plain (h:HdM):h.it.plain=h.it:=plain_L fun t ht=>by
 have:=List.mem_of_mem_take ht
 simp only [HdM.items,List.mem_cons,List.not_mem_nil,or_false]at this
 rcases this with rfl|rfl|rfl|rfl|rfl|rfl|rfl|rfl|rfl|rfl|rfl|rfl|rfl|rfl|rfl|rfl|rfl|rfl|rfl|rfl<;>exact plain_S _
theorem hd_dep (h:HdM):h.it.depth≤1:=by
 rw [HdM.it,depthL]
 have:It.depths (h.items.take h.fi.toNat)≤0:=depths_le.2 fun t ht=>by
  have:=List.mem_of_mem_take ht
  simp only [HdM.items,List.mem_cons,List.not_mem_nil,or_false]at this
  rcases this with rfl|rfl|rfl|rfl|rfl|rfl|rfl|rfl|rfl|rfl|rfl|rfl|rfl|rfl|rfl|rfl|rfl|rfl|rfl|rfl<;>exact Nat.le_refl _
 omega
section
variable {N : Heaplet} {h : HdM} {ao : Option Addr} {n cap : Nat}
set_option maxHeartbeats 8000000 in
theorem rHeader (k:h.Ok) (hr:RSl N 1 ao n cap (u8s h.ex)) (hx:h.ex.length≤1099511627776) (hv:okF h.fi):Fn Tryz.prog 70 #[.agg (h.cells (.slice ao n cap)).toArray] [] [N] (fun v L=> ∃J x,v=.agg #[.bool x.l,.slice x.ab x.nb x.cb,.slice x.ai x.ni x.ci]∧L= [J]∧ ∀K:Heaplet,J.le K→ItN K h.it x):=by
 have hcl:=HdM.len k (.slice ao n cap)
 have hls:=HdM.lens k (.slice ao n cap)
 have hwd:(u64s (wl h.df)).length=4:=by rw [u64s_len,length_wl]
 have hwb:(u64s (wl h.bf)).length=4:=by rw [u64s_len,length_wl]
 have hfi:h.fi=15∨h.fi=16∨h.fi=17∨h.fi=20:=hv
 have hexn:=hr.len8
 refine Fn.enter (vs:= [.agg (h.cells (.slice ao n cap)).toArray]) Tryz.func70 U U U ?_
 intro E R hR
 have hrR:=hr.le (hR N (by simp))
 change At _ _ E [R] _
 refine aC fun _ s_1=>aA (op_box aZ U U U (fun N1 b1 B1=>bE aZ ze91 U (fun N2 b2 B2=>?_)))
 change Blk N2 b2 _ [.bool false,.slice none 0 0,.slice none 0 0]at B2
 refine aB (s_1 (aC fun _ s_2=>?_))
 have s5:=sub8 B1.rng (part_get hls (j:=1) (o:=1) rfl rfl (cK _▸k.pa)) k.pa (by decide)
 have s8:=sub8 B1.rng (part_get hls (j:=2) (o:=33) rfl rfl (cK _▸k.om)) k.om (by decide)
 have s11:=sub8 B1.rng (part_get hls (j:=3) (o:=65) rfl rfl (cK _▸k.co)) k.co (by decide)
 have s14:=sub8 B1.rng (part_get hls (j:=4) (o:=85) rfl rfl (cK _▸k.st)) k.st (by decide)
 have s17:=sub8 B1.rng (part_get hls (j:=5) (o:=117) rfl rfl (cK _▸k.tx)) k.tx (by decide)
 have s20:=sub8 B1.rng (part_get hls (j:=6) (o:=149) rfl rfl (cK _▸k.rc)) k.rc (by decide)
 have s23:=sub8 B1.rng (part_get hls (j:=7) (o:=181) rfl rfl (cK _▸k.bl)) k.bl (by decide)
 have s44:=sub8 B1.rng (part_get hls (j:=14) (o:=446) rfl rfl (cK _▸k.mx)) k.mx (by decide)
 have s47:=sub8 B1.rng (part_get hls (j:=15) (o:=478) rfl rfl (cK _▸k.no)) k.no (by decide)
 have s53:=sub8 B1.rng (part_get hls (j:=17) (o:=490) rfl rfl (cK _▸k.wd)) k.wd (by decide)
 have s62:=sub8 B1.rng (part_get hls (j:=20) (o:=524) rfl rfl (cK _▸k.be)) k.be (by decide)
 refine At.drawnS [N1,R] [59,60] [] [0,1,3,4,6,7,9,10,12,13,15,16,18,19,21,22,24,25,27,28,30,31,33,34,36,37,39,40,42,43,45,46,48,49,51,52,54,55,57,58,2,5,8,11,14,17,20,23,26,29,32,35,38,41,44,47,50,53,56,59,60,61] (by kernel_rfl) (by kernel_rfl) (.cons _ (.refl _)) (aI (bF U U U) fl44_1 U U (op_sliceA (bF U U U) ae40 U .none .none .none (by omega) (by omega) (by omega) (by simp) U (aI (bF U U U) fl44_2 U U (op_sliceA (bF U U U) ae40 U .none .none .none (by omega) (by omega) (by omega) (by simp) U (aI (bF U U U) fl44_3 U U (op_sliceA (bF U U U) ae28 U .none .none .none (by omega) (by omega) (by omega) (by simp) U (aI (bF U U U) fl44_4 U U (op_sliceA (bF U U U) ae40 U .none .none .none (by omega) (by omega) (by omega) (by simp) U (aI (bF U U U) fl44_5 U U (op_sliceA (bF U U U) ae40 U .none .none .none (by omega) (by omega) (by omega) (by simp) U (aI (bF U U U) fl44_6 U U (op_sliceA (bF U U U) ae40 U .none .none .none (by omega) (by omega) (by omega) (by simp) U (aI (bF U U U) fl44_7 U U (op_sliceA (bF U U U) ae41 U .none .none .none (by omega) (by omega) (by omega) (by simp) U (aI (bF U U U) fl44_8 U U (aY (ds:=u64s (wl h.df)) (bF U U U) ag26 U B1 (by exact part_get hls (j:=8) U U hwd) (by exact hwd) bZ U ?_))))))))))))))))
 refine aI (bF U U U) fl44_9 U U (aV (bF U U U) sc24 U B1 (by first|rfl|exact aP hls (j:=9) U rfl|exact aP hls (j:=10) U rfl|exact aP hls (j:=11) U rfl|exact aP hls (j:=12) U rfl|exact aP hls (j:=13) U rfl|exact aP hls (j:=18) U rfl|exact aP hls (j:=19) U rfl|exact aP hls (j:=0) U U) bZ U ?_)
 refine aI (bF U U U) fl44_10 U U (aV (bF U U U) sc24 U B1 (by first|rfl|exact aP hls (j:=9) U rfl|exact aP hls (j:=10) U rfl|exact aP hls (j:=11) U rfl|exact aP hls (j:=12) U rfl|exact aP hls (j:=13) U rfl|exact aP hls (j:=18) U rfl|exact aP hls (j:=19) U rfl|exact aP hls (j:=0) U U) bZ U ?_)
 refine aI (bF U U U) fl44_11 U U (aV (bF U U U) sc24 U B1 (by first|rfl|exact aP hls (j:=9) U rfl|exact aP hls (j:=10) U rfl|exact aP hls (j:=11) U rfl|exact aP hls (j:=12) U rfl|exact aP hls (j:=13) U rfl|exact aP hls (j:=18) U rfl|exact aP hls (j:=19) U rfl|exact aP hls (j:=0) U U) bZ U ?_)
 refine aI (bF U U U) fl44_12 U U (aV (bF U U U) sc24 U B1 (by first|rfl|exact aP hls (j:=9) U rfl|exact aP hls (j:=10) U rfl|exact aP hls (j:=11) U rfl|exact aP hls (j:=12) U rfl|exact aP hls (j:=13) U rfl|exact aP hls (j:=18) U rfl|exact aP hls (j:=19) U rfl|exact aP hls (j:=0) U U) bZ U ?_)
 refine aI (bF U U U) fl44_13 U U (aV (bF U U U) sc22 U B1 (by first|rfl|exact aP hls (j:=9) U rfl|exact aP hls (j:=10) U rfl|exact aP hls (j:=11) U rfl|exact aP hls (j:=12) U rfl|exact aP hls (j:=13) U rfl|exact aP hls (j:=18) U rfl|exact aP hls (j:=19) U rfl|exact aP hls (j:=0) U U) bZ U ?_)
 refine aI (bF U U U) fl44_14 U U (op_sliceA (bF U U U) ae40 U .none .none .none (by omega) (by omega) (by omega) (by simp) U (aI (bF U U U) fl44_15 U U (op_sliceA (bF U U U) ae42 U .none .none .none (by omega) (by omega) (by omega) (by simp) U (aI (bF U U U) fl44_16 U U (aY (ds:=u64s (wl h.bf)) (bF U U U) ag26 U B1 (by exact part_get hls (j:=16) U U hwb) (by exact hwb) bZ U ?_)))))
 refine aI (bF U U U) fl44_17 U U (op_sliceA (bF U U U) ae40 U .none .none .none (by omega) (by omega) (by omega) (by simp) U (aI (bF U U U) fl44_18 U U (aV (bF U U U) sc24 U B1 (by first|rfl|exact aP hls (j:=9) U rfl|exact aP hls (j:=10) U rfl|exact aP hls (j:=11) U rfl|exact aP hls (j:=12) U rfl|exact aP hls (j:=13) U rfl|exact aP hls (j:=18) U rfl|exact aP hls (j:=19) U rfl|exact aP hls (j:=0) U U) bZ U ?_)))
 refine aI (bF U U U) fl44_19 U U (aV (bF U U U) sc24 U B1 (by first|rfl|exact aP hls (j:=9) U rfl|exact aP hls (j:=10) U rfl|exact aP hls (j:=11) U rfl|exact aP hls (j:=12) U rfl|exact aP hls (j:=13) U rfl|exact aP hls (j:=18) U rfl|exact aP hls (j:=19) U rfl|exact aP hls (j:=0) U U) bZ U ?_)
 refine aI (bF U U U) fl44_20 U U (op_sliceA (bF U U U) ae40 U .none .none .none (by omega) (by omega) (by omega) (by simp) U (aH (Nx.agree (nxsm U U U)) (.cons U .nil) (rBytes_b s5 (by decide)) Tryz.func71 U U (by simp) U ?_))
 rintro _ _ ⟨M6,p6,k6,rfl,rfl,t6⟩
 show At _ _ _ [M6,N2,N1,R] _
 refine cH (cH (bR (cH (At.moreS (Lst:= [N1,R]) (Lst':= [M6,N1,R]) (.cons _ (.refl _)) (.cons _ (.refl _)) (aH (Nx.agree (nxsm U U U)) (.cons U .nil) (rBytes_b s8 (by decide)) Tryz.func71 U U (by simp) U ?_)))))
 rintro _ _ ⟨M9,p9,k9,rfl,rfl,t9⟩
 show At _ _ _ [M9,N2,M6,N1,R] _
 refine bI (bI (bI (cH (bI (At.moreS (Lst:= [M6,N1,R]) (Lst':= [M9,M6,N1,R]) (.cons _ (.refl _)) (.cons _ (.refl _)) (aH (Nx.agree (nxsm U U U)) (.cons U .nil) (rBytes_b s11 (by decide)) Tryz.func71 U U (by simp) U ?_))))))
 rintro _ _ ⟨M12,p12,k12,rfl,rfl,t12⟩
 show At _ _ _ [M12,N2,M9,M6,N1,R] _
 refine bY (bY (bY (bY (bI (bY (At.moreS (Lst:= [M9,M6,N1,R]) (Lst':= [M12,M9,M6,N1,R]) (.cons _ (.refl _)) (.cons _ (.refl _)) (aH (Nx.agree (nxsm U U U)) (.cons U .nil) (rBytes_b s14 (by decide)) Tryz.func71 U U (by simp) U ?_)))))))
 rintro _ _ ⟨M15,p15,k15,rfl,rfl,t15⟩
 show At _ _ _ [M15,N2,M12,M9,M6,N1,R] _
 refine bM (bM (bM (bM (bM (bY (bM (At.moreS (Lst:= [M12,M9,M6,N1,R]) (Lst':= [M15,M12,M9,M6,N1,R]) (.cons _ (.refl _)) (.cons _ (.refl _)) (aH (Nx.agree (nxsm U U U)) (.cons U .nil) (rBytes_b s17 (by decide)) Tryz.func71 U U (by simp) U ?_))))))))
 rintro _ _ ⟨M18,p18,k18,rfl,rfl,t18⟩
 show At _ _ _ [M18,N2,M15,M12,M9,M6,N1,R] _
 refine bN (bN (bN (bN (bN (bN (bM (bN (At.moreS (Lst:= [M15,M12,M9,M6,N1,R]) (Lst':= [M18,M15,M12,M9,M6,N1,R]) (.cons _ (.refl _)) (.cons _ (.refl _)) (aH (Nx.agree (nxsm U U U)) (.cons U .nil) (rBytes_b s20 (by decide)) Tryz.func71 U U (by simp) U ?_)))))))))
 rintro _ _ ⟨M21,p21,k21,rfl,rfl,t21⟩
 show At _ _ _ [M21,N2,M18,M15,M12,M9,M6,N1,R] _
 refine bL (bL (bL (bL (bL (bL (bL (bN (bL (At.moreS (Lst:= [M18,M15,M12,M9,M6,N1,R]) (Lst':= [M21,M18,M15,M12,M9,M6,N1,R]) (.cons _ (.refl _)) (.cons _ (.refl _)) (aH (Nx.agree (nxsm U U U)) (.cons U .nil) (rBytes_b s23 (by decide)) Tryz.func71 U U (by simp) U ?_))))))))))
 rintro _ _ ⟨M24,p24,k24,rfl,rfl,t24⟩
 show At _ _ _ [M24,N2,M21,M18,M15,M12,M9,M6,N1,R] _
 refine bJ (bJ (bJ (bJ (bJ (bJ (bJ (bJ (bL (bJ (At.moreS (Lst:= [M21,M18,M15,M12,M9,M6,N1,R]) (Lst':= [M24,M21,M18,M15,M12,M9,M6,N1,R]) (.cons _ (.refl _)) (.cons _ (.refl _)) (aH (Nx.agree (nxsm U U U)) (.cons U .nil) (rOf_b k.df) Tryz.func115 U U (by simp) U ?_)))))))))))
 rintro _ _ ⟨M27,p27,k27,rfl,rfl,t27⟩
 show At _ _ _ [M27,N2,M24,M21,M18,M15,M12,M9,M6,N1,R] _
 refine bB (bB (bB (bB (bB (bB (bB (bB (bB (bJ (bB (At.moreS (Lst:= [M24,M21,M18,M15,M12,M9,M6,N1,R]) (Lst':= [M27,M24,M21,M18,M15,M12,M9,M6,N1,R]) (.cons _ (.refl _)) (.cons _ (.refl _)) (aH (Nx.agree (nxsm U U U)) (.cons U .nil) (rNum_b h.nu) Tryz.func116 U U (by simp) U ?_))))))))))))
 rintro _ _ ⟨M30,p30,k30,rfl,rfl,t30⟩
 show At _ _ _ [M30,N2,M27,M24,M21,M18,M15,M12,M9,M6,N1,R] _
 refine permSel11 (permSel11 (permSel11 (permSel11 (permSel11 (permSel11 (permSel11 (permSel11 (permSel11 (permSel11 (bB (permSel11 (At.moreS (Lst:= [M27,M24,M21,M18,M15,M12,M9,M6,N1,R]) (Lst':= [M30,M27,M24,M21,M18,M15,M12,M9,M6,N1,R]) (.cons _ (.refl _)) (.cons _ (.refl _)) (aH (Nx.agree (nxsm U U U)) (.cons U .nil) (rNum_b h.gl) Tryz.func116 U U (by simp) U ?_)))))))))))))
 rintro _ _ ⟨M33,p33,k33,rfl,rfl,t33⟩
 show At _ _ _ [M33,N2,M30,M27,M24,M21,M18,M15,M12,M9,M6,N1,R] _
 refine permSel12 (permSel12 (permSel12 (permSel12 (permSel12 (permSel12 (permSel12 (permSel12 (permSel12 (permSel12 (permSel12 (permSel11 (permSel12 (At.moreS (Lst:= [M30,M27,M24,M21,M18,M15,M12,M9,M6,N1,R]) (Lst':= [M33,M30,M27,M24,M21,M18,M15,M12,M9,M6,N1,R]) (.cons _ (.refl _)) (.cons _ (.refl _)) (aH (Nx.agree (nxsm U U U)) (.cons U .nil) (rNum_b h.gu) Tryz.func116 U U (by simp) U ?_))))))))))))))
 rintro _ _ ⟨M36,p36,k36,rfl,rfl,t36⟩
 show At _ _ _ [M36,N2,M33,M30,M27,M24,M21,M18,M15,M12,M9,M6,N1,R] _
 refine permSel13 (permSel13 (permSel13 (permSel13 (permSel13 (permSel13 (permSel13 (permSel13 (permSel13 (permSel13 (permSel13 (permSel13 (permSel12 (permSel13 (At.moreS (Lst:= [M33,M30,M27,M24,M21,M18,M15,M12,M9,M6,N1,R]) (Lst':= [M36,M33,M30,M27,M24,M21,M18,M15,M12,M9,M6,N1,R]) (.cons _ (.refl _)) (.cons _ (.refl _)) (aH (Nx.agree (nxsm U U U)) (.cons U .nil) (rNum_b h.ti) Tryz.func116 U U (by simp) U ?_)))))))))))))))
 rintro _ _ ⟨M39,p39,k39,rfl,rfl,t39⟩
 show At _ _ _ [M39,N2,M36,M33,M30,M27,M24,M21,M18,M15,M12,M9,M6,N1,R] _
 refine permSel14 (permSel14 (permSel14 (permSel14 (permSel14 (permSel14 (permSel14 (permSel14 (permSel14 (permSel14 (permSel14 (permSel14 (permSel14 (permSel13 (permSel14 (At.moreS (Lst:= [M36,M33,M30,M27,M24,M21,M18,M15,M12,M9,M6,N1,R]) (Lst':= [M39,M36,M33,M30,M27,M24,M21,M18,M15,M12,M9,M6,N1,R]) (.cons _ (.refl _)) (.cons _ (.refl _)) (aH (Nx.agree (nxsm U U U)) (.cons U .nil) (rBytes_b hrR (by omega)) Tryz.func71 U U (by simp) U ?_))))))))))))))))
 rintro _ _ ⟨M42,p42,k42,rfl,rfl,t42⟩
 show At _ _ _ [M42,N2,M39,M36,M33,M30,M27,M24,M21,M18,M15,M12,M9,M6,N1,R] _
 refine permSel15 (permSel15 (permSel15 (permSel15 (permSel15 (permSel15 (permSel15 (permSel15 (permSel15 (permSel15 (permSel15 (permSel15 (permSel15 (permSel15 (permSel14 (permSel15 (At.moreS (Lst:= [M39,M36,M33,M30,M27,M24,M21,M18,M15,M12,M9,M6,N1,R]) (Lst':= [M42,M39,M36,M33,M30,M27,M24,M21,M18,M15,M12,M9,M6,N1,R]) (.cons _ (.refl _)) (.cons _ (.refl _)) (aH (Nx.agree (nxsm U U U)) (.cons U .nil) (rBytes_b s44 (by decide)) Tryz.func71 U U (by simp) U ?_)))))))))))))))))
 rintro _ _ ⟨M45,p45,k45,rfl,rfl,t45⟩
 show At _ _ _ [M45,N2,M42,M39,M36,M33,M30,M27,M24,M21,M18,M15,M12,M9,M6,N1,R] _
 refine permSel16 (permSel16 (permSel16 (permSel16 (permSel16 (permSel16 (permSel16 (permSel16 (permSel16 (permSel16 (permSel16 (permSel16 (permSel16 (permSel16 (permSel16 (permSel15 (permSel16 (At.moreS (Lst:= [M42,M39,M36,M33,M30,M27,M24,M21,M18,M15,M12,M9,M6,N1,R]) (Lst':= [M45,M42,M39,M36,M33,M30,M27,M24,M21,M18,M15,M12,M9,M6,N1,R]) (.cons _ (.refl _)) (.cons _ (.refl _)) (aH (Nx.agree (nxsm U U U)) (.cons U .nil) (rBytes_b s47 (by decide)) Tryz.func71 U U (by simp) U ?_))))))))))))))))))
 rintro _ _ ⟨M48,p48,k48,rfl,rfl,t48⟩
 show At _ _ _ [M48,N2,M45,M42,M39,M36,M33,M30,M27,M24,M21,M18,M15,M12,M9,M6,N1,R] _
 refine permSel17 (permSel17 (permSel17 (permSel17 (permSel17 (permSel17 (permSel17 (permSel17 (permSel17 (permSel17 (permSel17 (permSel17 (permSel17 (permSel17 (permSel17 (permSel17 (permSel16 (permSel17 (At.moreS (Lst:= [M45,M42,M39,M36,M33,M30,M27,M24,M21,M18,M15,M12,M9,M6,N1,R]) (Lst':= [M48,M45,M42,M39,M36,M33,M30,M27,M24,M21,M18,M15,M12,M9,M6,N1,R]) (.cons _ (.refl _)) (.cons _ (.refl _)) (aH (Nx.agree (nxsm U U U)) (.cons U .nil) (rOf_b k.bf) Tryz.func115 U U (by simp) U ?_)))))))))))))))))))
 rintro _ _ ⟨M51,p51,k51,rfl,rfl,t51⟩
 show At _ _ _ [M51,N2,M48,M45,M42,M39,M36,M33,M30,M27,M24,M21,M18,M15,M12,M9,M6,N1,R] _
 refine permSel18 (permSel18 (permSel18 (permSel18 (permSel18 (permSel18 (permSel18 (permSel18 (permSel18 (permSel18 (permSel18 (permSel18 (permSel18 (permSel18 (permSel18 (permSel18 (permSel18 (permSel17 (permSel18 (At.moreS (Lst:= [M48,M45,M42,M39,M36,M33,M30,M27,M24,M21,M18,M15,M12,M9,M6,N1,R]) (Lst':= [M51,M48,M45,M42,M39,M36,M33,M30,M27,M24,M21,M18,M15,M12,M9,M6,N1,R]) (.cons _ (.refl _)) (.cons _ (.refl _)) (aH (Nx.agree (nxsm U U U)) (.cons U .nil) (rBytes_b s53 (by decide)) Tryz.func71 U U (by simp) U ?_))))))))))))))))))))
 rintro _ _ ⟨M54,p54,k54,rfl,rfl,t54⟩
 show At _ _ _ [M54,N2,M51,M48,M45,M42,M39,M36,M33,M30,M27,M24,M21,M18,M15,M12,M9,M6,N1,R] _
 refine permSel19 (permSel19 (permSel19 (permSel19 (permSel19 (permSel19 (permSel19 (permSel19 (permSel19 (permSel19 (permSel19 (permSel19 (permSel19 (permSel19 (permSel19 (permSel19 (permSel19 (permSel19 (permSel18 (permSel19 (At.moreS (Lst:= [M51,M48,M45,M42,M39,M36,M33,M30,M27,M24,M21,M18,M15,M12,M9,M6,N1,R]) (Lst':= [M54,M51,M48,M45,M42,M39,M36,M33,M30,M27,M24,M21,M18,M15,M12,M9,M6,N1,R]) (.cons _ (.refl _)) (.cons _ (.refl _)) (aH (Nx.agree (nxsm U U U)) (.cons U .nil) (rNum_b h.bg) Tryz.func116 U U (by simp) U ?_)))))))))))))))))))))
 rintro _ _ ⟨M57,p57,k57,rfl,rfl,t57⟩
 show At _ _ _ [M57,N2,M54,M51,M48,M45,M42,M39,M36,M33,M30,M27,M24,M21,M18,M15,M12,M9,M6,N1,R] _
 refine permSel20 (permSel20 (permSel20 (permSel20 (permSel20 (permSel20 (permSel20 (permSel20 (permSel20 (permSel20 (permSel20 (permSel20 (permSel20 (permSel20 (permSel20 (permSel20 (permSel20 (permSel20 (permSel20 (permSel19 (permSel20 (At.moreS (Lst:= [M54,M51,M48,M45,M42,M39,M36,M33,M30,M27,M24,M21,M18,M15,M12,M9,M6,N1,R]) (Lst':= [M57,M54,M51,M48,M45,M42,M39,M36,M33,M30,M27,M24,M21,M18,M15,M12,M9,M6,N1,R]) (.cons _ (.refl _)) (.cons _ (.refl _)) (aH (Nx.agree (nxsm U U U)) (.cons U .nil) (rNum_b h.xs) Tryz.func116 U U (by simp) U ?_))))))))))))))))))))))
 rintro _ _ ⟨M60,p60,k60,rfl,rfl,t60⟩
 show At _ _ _ [M60,N2,M57,M54,M51,M48,M45,M42,M39,M36,M33,M30,M27,M24,M21,M18,M15,M12,M9,M6,N1,R] _
 refine permSel21 (permSel21 (permSel21 (permSel21 (permSel21 (permSel21 (permSel21 (permSel21 (permSel21 (permSel21 (permSel21 (permSel21 (permSel21 (permSel21 (permSel21 (permSel21 (permSel21 (permSel21 (permSel21 (permSel21 (permSel20 (permSel21 (At.moreS (Lst:= [M57,M54,M51,M48,M45,M42,M39,M36,M33,M30,M27,M24,M21,M18,M15,M12,M9,M6,N1,R]) (Lst':= [M60,M57,M54,M51,M48,M45,M42,M39,M36,M33,M30,M27,M24,M21,M18,M15,M12,M9,M6,N1,R]) (.cons _ (.refl _)) (.cons _ (.refl _)) (aH (Nx.agree (nxss U U U U)) (.cons U .nil) (rBytes_b s62 (by decide)) Tryz.func71 U U (by simp) U ?_)))))))))))))))))))))))
 rintro _ _ ⟨M63,p63,k63,rfl,rfl,t63⟩
 show At _ _ _ [M63,N2,M60,M57,M54,M51,M48,M45,M42,M39,M36,M33,M30,M27,M24,M21,M18,M15,M12,M9,M6,N1,R] _
 refine At.anyS (.refl _) (op_lit (Nx.agree (nxss U U U U)) Tryz.underlying89 ze91 sz91 (.cons U (.cons U (.cons U (.cons U (.cons U (.cons U (.cons U (.cons U (.cons U (.cons U (.cons U (.cons U (.cons U (.cons U (.cons U (.cons U (.cons U (.cons U (.cons U (.cons U .nil)))))))))))))))))))) U U (by simp [Value.cells]) U U U (fun N64 a64 r64=>?_))
 simp only [flatV,List.flatMap_cons,List.flatMap_nil,Value.cells,List.append_nil,List.cons_append,List.nil_append]at r64
 have s64:=r64.rsl
 refine At.anyS (.refl _) ?_
 obtain⟨xs,hxs⟩: ∃xs:List IV,xs= [ivS p6 h.pa.length k6,ivS p9 h.om.length k9,ivS p12 h.co.length k12,ivS p15 h.st.length k15,ivS p18 h.tx.length k18,ivS p21 h.rc.length k21,ivS p24 h.bl.length k24,ivS p27 (bytesOf h.df).length k27,ivS p30 (bytesOf h.nu.toNat).length k30,ivS p33 (bytesOf h.gl.toNat).length k33,ivS p36 (bytesOf h.gu.toNat).length k36,ivS p39 (bytesOf h.ti.toNat).length k39,ivS p42 h.ex.length k42,ivS p45 h.mx.length k45,ivS p48 h.no.length k48,ivS p51 (bytesOf h.bf).length k51,ivS p54 h.wd.length k54,ivS p57 (bytesOf h.bg.toNat).length k57,ivS p60 (bytesOf h.xs.toNat).length k60,ivS p63 h.be.length k63]:=⟨_,rfl⟩
 change Row N64 _ 3 a64 20 20 (cellsI [ivS p6 h.pa.length k6,ivS p9 h.om.length k9,ivS p12 h.co.length k12,ivS p15 h.st.length k15,ivS p18 h.tx.length k18,ivS p21 h.rc.length k21,ivS p24 h.bl.length k24,ivS p27 (bytesOf h.df).length k27,ivS p30 (bytesOf h.nu.toNat).length k30,ivS p33 (bytesOf h.gl.toNat).length k33,ivS p36 (bytesOf h.gu.toNat).length k36,ivS p39 (bytesOf h.ti.toNat).length k39,ivS p42 h.ex.length k42,ivS p45 h.mx.length k45,ivS p48 h.no.length k48,ivS p51 (bytesOf h.bf).length k51,ivS p54 h.wd.length k54,ivS p57 (bytesOf h.bg.toNat).length k57,ivS p60 (bytesOf h.xs.toNat).length k60,ivS p63 h.be.length k63])at r64
 rw [←hxs]at r64
 have s64:=r64.rsl
 have i64: ∀K:Heaplet,(∀N∈ [M6,M9,M12,M15,M18,M21,M24,M27,M30,M33,M36,M39,M42,M45,M48,M51,M54,M57,M60,M63],N.le K)→ItsN K h.items xs:=fun K hK=>by
  rw [hxs]
  have hle: ∀ {M:Heaplet},M∈ [M6,M9,M12,M15,M18,M21,M24,M27,M30,M33,M36,M39,M42,M45,M48,M51,M54,M57,M60,M63]→M.le K:=fun hM=>hK _ hM
  exact cO (ItN_S (t6.le (hle (by simp)))) (cO (ItN_S (t9.le (hle (by simp)))) (cO (ItN_S (t12.le (hle (by simp)))) (cO (ItN_S (t15.le (hle (by simp)))) (cO (ItN_S (t18.le (hle (by simp)))) (cO (ItN_S (t21.le (hle (by simp)))) (cO (ItN_S (t24.le (hle (by simp)))) (cO (ItN_S (t27.le (hle (by simp)))) (cO (ItN_S (t30.le (hle (by simp)))) (cO (ItN_S (t33.le (hle (by simp)))) (cO (ItN_S (t36.le (hle (by simp)))) (cO (ItN_S (t39.le (hle (by simp)))) (cO (ItN_S (t42.le (hle (by simp)))) (cO (ItN_S (t45.le (hle (by simp)))) (cO (ItN_S (t48.le (hle (by simp)))) (cO (ItN_S (t51.le (hle (by simp)))) (cO (ItN_S (t54.le (hle (by simp)))) (cO (ItN_S (t57.le (hle (by simp)))) (cO (ItN_S (t60.le (hle (by simp)))) (cO (ItN_S (t63.le (hle (by simp)))) (ItsN_nil))))))))))))))))))))
 clear hxs
 refine bX (bF U U U) U U (At.sNil (aE (s_2 (aC fun _ s_3=>aA (aF U U (aI aD fl44_0 U U (aV aD sc3 U B1 (by first|rfl|exact aP hls (j:=9) U rfl|exact aP hls (j:=10) U rfl|exact aP hls (j:=11) U rfl|exact aP hls (j:=12) U rfl|exact aP hls (j:=13) U rfl|exact aP hls (j:=18) U rfl|exact aP hls (j:=19) U rfl|exact aP hls (j:=0) U U) mem22 U ?_)))))))
 refine op_slice0 aD se89 U (.some U (show _=(((h.fi.toNat:Nat)):Int)from by omega)) .none (by omega) (by omega) (by simp) U ?_
 refine permSel23 (permSel23 (bI (bI (bY (bM (bN (bL (bJ (bB (permSel11 (permSel12 (permSel13 (permSel14 (permSel15 (permSel16 (permSel17 (permSel18 (permSel19 (permSel20 (permSel21 (permSel22 (permSel23 (permSel23 (At.pack (As:= [N64,M6,M9,M12,M15,M18,M21,M24,M27,M30,M33,M36,M39,M42,M45,M48,M51,M54,M57,M60,M63]) (fun hAZ=>?_)))))))))))))))))))))))))
 obtain⟨Z,eZ⟩: ∃N,N=joinL [N64,M6,M9,M12,M15,M18,M21,M24,M27,M30,M33,M36,M39,M42,M45,M48,M51,M54,M57,M60,M63]:=⟨_,rfl⟩
 rw [←eZ]
 refine aH aZ (.cons U .nil) (rList_b) Tryz.func73 U U (by simp) U ?_
 rintro _ _ ⟨rfl,rfl⟩
 show At _ _ _ [Z,N2,N1,R] _
 refine aX nxQ sz91 U U U U U B2 (by simp) sel1 (fun N2 B2=>?_)
 simp only [setL,List.set]at B2
 refine aB (s_3 (aR ((cA (aW (L1:= [Z]) U (.cell U (res_agg (ds:= [_,_,_]) ag91 B2 U U bZ) .nil) (.cons _ (.refl _)) aM ?_)))))
 have q:=s64.take (hi:=h.fi.toNat) (m:=20) (by omega) (Nat.le_refl _) (by omega)
 rw [cellsI_take]at q
 exact⟨Z,ivL a64 h.fi.toNat 20,rfl,rfl,fun K hK=>ItN_L (q.le (Heaplet.le_trans (by rw [eZ];exact le_joinL hAZ (by simp)) hK)) (ItsN.take _ (i64 K fun N hN=>Heaplet.le_trans (by rw [eZ];exact le_joinL hAZ (List.mem_cons_of_mem _ hN)) hK))⟩
end
def RWBlkP (m:BlkM) (v:Value) (L:List Heaplet):Prop:=
 (∃bs M p c,wBlk m=some bs∧v=.tuple #[.slice p bs.length c,.bool true]∧L= [M]∧Row M 5 1 p bs.length c (u8s bs))∨
 (wBlk m=none∧v=.tuple #[.slice none 0 0,.bool false]∧L= [])
theorem RFields_or (n:Int):Fn Tryz.prog 21 #[.int .i64 n] [] [] (fun v L=>(okF n∧v=.bool true∧L= [])∨(¬okF n∧v=.bool false∧L= [])):=(RFields n).mono fun v L ⟨h1,h2⟩=>by
 by_cases h:okF n
 ·rw [decide_eq_true h]at h1;exact .inl ⟨h,h1,h2⟩
 ·rw [decide_eq_false h]at h1;exact .inr ⟨h,h1,h2⟩
theorem hd_f0 {h:HdM} {v:Value} :(h.cells v)[0]? =some (.int .i64 h.fi):=rfl
theorem om_fi {xs:List (HdM×Value)} {i:Nat} {x:HdM×Value} (hc: ∀y∈xs,(y.1.cells y.2).length=556) (hx:xs[i]? =some x):(omC xs)[i*556+0]? =some (.int .i64 x.1.fi):=by
 have h:=flat_at (fun x:HdM×Value=>x.1.cells x.2) hc hx
 have:=congrArg (fun l=>l[0]?) h
 simp only [List.getElem?_take,List.getElem?_drop]at this
 rw [if_pos (by decide)]at this
 rw [omC,this,hd_f0]
section
variable {N : Heaplet} {m : BlkM} {cs : List Value}
end
end Go.Proofs.YtjfagifjajielaaGreat
