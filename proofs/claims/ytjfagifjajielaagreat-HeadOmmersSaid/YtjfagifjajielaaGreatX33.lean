/- Several texts in one: see the remarks ahead of each part. No condition but those told there. -/
import Derived.Test.YtjfagifjajielaaGreatX1
import Derived.Test.YtjfagifjajielaaGreatX32
import Derived.Test.YtjfagifjajielaaGreatX8
import Derived.Test.YtjfagifjajielaaGreatX5
import Derived.Test.YtjfagifjajielaaGreatX25
import Derived.Test.YtjfagifjajielaaGreatX7
import Derived.Test.YtjfagifjajielaaGreatX6
import Derived.Test.YtjfagifjajielaaGreatX13
set_option linter.unusedSimpArgs false
set_option linter.unusedVariables false
namespace Go.Proofs.YtjfagifjajielaaGreat
open Go Go.RowKit
set_option maxRecDepth 100000
section
variable {N : Heaplet} {q : PlanM} {h : HdM} {cs : List Value} {hv : Value} {ks : List (List UInt8)} {ko oa : Option Addr} {kn kc oc : Nat} {xs : List (HdM × Value)} {l : List HdM} {H : HdM → List UInt8} {Kf : List UInt8}
theorem rHash_y {o:HdM} {v:Value} {z:List UInt8} (hz:kec o.it.form=z) (hi:HdIn N o v) (hx:o.ex.length≤4294960000) (hk:okF o.fi):Fn Tryz.prog 84 #[.agg (o.cells v).toArray] [] [N] (fun v L=>v=.tuple #[.agg (u8s z).toArray,.bool true]∧L= []):=(rHash_z hz hi hx).mono fun v L hp=>by
 rcases hp with ⟨_,h⟩|⟨h,_⟩
 ·exact h
 ·exact absurd hk h
theorem beside_mk {o:HdM} {y:List UInt8} (h1:o.fi=fieldsN (q.at o.nu o.ti)) (h2:o.ex.length≤32) (hlt:o.nu.toNat<h.nu.toNat) (hd:(h.nu- o.nu).toNat≤6) (hy:ks[(h.nu- o.nu).toNat]? =some y) (e:y=o.pa):Beside q h o ks:=(beside_yes h1 h2 hlt hd hy).1 (decide_eq_true e.symm)
theorem bad_b {i:Nat} {o:HdM} (h1: ¬Beside q h o ks):Bad q h l ks H i o:=.inl h1
theorem nbad {i:Nat} {o:HdM} (h1:Beside q h o ks) (h2:H o∉ks) (h3:H o∉(l.map H).take i): ¬Bad q h l ks H i o:=fun hb=>by
 rcases hb with hb|hb|hb
 ·exact hb h1
 ·exact h2 hb
 ·exact h3 hb
theorem beside_ne {o:HdM} {y:List UInt8} (hlt:o.nu.toNat<h.nu.toNat) (hy:ks[(h.nu- o.nu).toNat]? =some y) (e: ¬y=o.pa): ¬Beside q h o ks:=fun hb=>by
 have:=hb.2.2.2.2
 rw [←nu_sub hlt,hy]at this
 exact e (Option.some.inj this)
theorem mem_take {α:Type} {l:List α} {x:α} {m j:Nat} (hx:l[m]? =some x) (h:m<j):x∈l.take j:=List.mem_of_getElem? (i:=m) (by rw [List.getElem?_take,if_pos h];exact hx)
theorem r51 {r:Prop} (hg:q.good) (ho:OkA h l) (hb:Head51 q h l Kf∨ ∃i o,l[i]? =some o∧Bad q h l ks H i o) (hr:r): ∃x:Int,(.int .i64 51:Value)=.int .i64 x∧OmR q h l ks H Kf x∧r:=⟨51,rfl,.inr (.inr (.inl ⟨hg,ho,hb,rfl⟩)),hr⟩
theorem not_snoc {α:Type} {l:List α} {x y:α} (h:x∉l) (e: ¬y=x):x∉l++ [y]:=fun hm=>(List.mem_append.1 hm).elim h fun k=>e (List.mem_singleton.1 k).symm
theorem okb_1 {b:Bool} {i:Nat} {o:HdM} (hb1:b=true→okF h.fi∧ ∀o∈l.take i,okF o.fi) (hb:b=true) (hi:l[i]? =some o) (hd:decide (okF o.fi)=true):okF h.fi∧ ∀o∈l.take (i+1),okF o.fi:=by
 obtain⟨k1,k2⟩:=hb1 hb
 refine⟨k1,fun u hu=>?_⟩
 rw [take_next2 hi]at hu
 rcases List.mem_append.1 hu with hu|hu
 ·exact k2 u hu
 ·rw [List.mem_singleton.1 hu];exact of_decide_eq_true hd
theorem om_end {i k:Nat} {b:Bool} {ys:List IV} {NJ:Heaplet} (hi:i≤l.length) (he:l.length≤i∨b=false) (hbk:b=true→k=i) (hb1:b=true→okF h.fi∧ ∀o∈l.take i,okF o.fi) (hy:b=true→ ∀K:Heaplet,NJ.le K→ItsN K ((l.take i).map HdM.it) ys):b=true→k=l.length∧OkA h l∧ ∀K:Heaplet,NJ.le K→ItsN K (l.map HdM.it) ys:=fun e=>by
 have hil:i=l.length:=by
  rcases he with k|k
  ·omega
  ·rw [e]at k;cases k
 have a1:=hbk e
 have a2:=hb1 e
 have a3:=hy e
 rw [hil]at a1 a2 a3
 rw [List.take_of_length_le (Nat.le_refl _)]at a2 a3
 exact⟨a1,a2,a3⟩
set_option maxHeartbeats 16000000 in
theorem ROmmers (hc:CfgIn N q cs) (hh:HdIn N h hv) (hx:h.ex.length≤1000) (hO:RSl N 556 oa l.length oc (omC xs)) (hxs: ∀x∈xs,HdIn N x.1 x.2) (hxm:xs.map Prod.fst=l) (hxe: ∀o∈l,o.ex.length≤1000) (hl:l.length≤10) (hK:RSl N 32 ko kn kc (hashC ks)) (hkn:ks.length=kn) (k32: ∀y∈ks,y.length=32) (hH: ∀o:HdM,kec o.it.form=H o) (hKf:kec (itL (l.map HdM.it)).form=Kf):Fn Tryz.prog 26 #[.agg cs.toArray,.agg (h.cells hv).toArray,.slice oa l.length oc,.slice ko kn kc] [] [N] (fun v L=> ∃r:Int,v=.int .i64 r∧OmR q h l ks H Kf r∧L= []):=by
 obtain⟨c1,c2⟩:=hc.len
 obtain⟨h1,h2⟩:=hh.one
 have hxl:xs.length=l.length:=by rw [←hxm,List.length_map]
 have h32: ∀o:HdM,(H o).length=32:=fun o=>by rw [←hH o,kec_len]
 have hul: ∀o:HdM,(u8s (H o)).length=32:=fun o=>by rw [cK,h32]
 have hKl:Kf.length=32:=by rw [←hKf,kec_len]
 have hoks: ∀o∈l,o.Ok:=fun o ho=>by
  rw [←hxm]at ho
  obtain⟨x,hx,rfl⟩:=List.mem_map.1 ho
  exact(hxs x hx).1
 obtain⟨hfm,hfd⟩:=oms_form hoks hxe hl
 obtain⟨F,hF⟩: ∃F,q.at h.nu h.ti=F:=⟨_,rfl⟩
 have hAt:=rAt_g hc h.nu h.ti
 rw [hF]at hAt
 have z1:=hK.2.1
 have z2:=hK.2.2.1
 unfold maxLen at z2
 have hkk:(UInt64.ofNat kn).toNat=kn:=by rw [UInt64.toNat_ofNat',Nat.mod_eq_of_lt (by omega)]
 refine Fn.enter (vs:= [.agg cs.toArray,.agg (h.cells hv).toArray,.slice oa l.length oc,.slice ko kn kc]) Tryz.func26 U U U ?_
 intro E R hR
 have hNR:=hR N (by simp)
 have hO':=hO.le hNR
 have hK':=hK.le hNR
 change At _ _ E [R] _
 refine aC fun _ s_1=>aA (op_box aZ U U U (fun N4 b4 B4=>op_box aZ U U U (fun N5 b5 B5=>aG U U (aB (s_1 (aC fun _ s_2=>aA (aY (ds:=cs) aD ag75 U B4 (by exact tk_all c1) (by exact c1) mem1 U ?_)))))))
 refine aI aD fl44_9 U U (aV aD sc24 U B5 (oh_nu hh.1 _) bZ U (aI aD fl44_12 U U (aV aD sc24 U B5 (oh_ti hh.1 _) bZ U (aH aZ (.cons U (.cons U (.cons U .nil))) (hAt.liftB hNR) Tryz.func81 U U (by simp) U ?_))))
 rintro _ _ (⟨hg,rfl,rfl⟩|⟨hng,rfl,rfl⟩)
 ·show At _ _ _ [N5,N4,R] _
  refine aF U U (aN aD U U U (aN aD U U U (aG U U (aG U U (aB (s_2 (aC fun _ s_3=>aC fun _ s_4=>aA (aF U U (op_neq aD U U U (aB (s_4 (aO U (fun c37=>?_) (fun c37=>?_)))))))))))))
  ·exact absurd U c37
  refine At.knowF (d:=37) U c37 (aQ (aE (s_3 (aC fun _ s_5=>aA (aG U U (aB (s_5 (aC fun _ s_6=>aA (aI aD fl44_0 U U (aV aD sc3 U B5 (oh_fi) bZ U (aH aZ (.cons U .nil) (RFields h.fi) Tryz.func21 U U (by simp) U ?_)))))))))))
  rintro _ _ ⟨rfl,rfl⟩
  show At _ _ _ [N5,N4,R] _
  refine aG U U (aB (s_6 (aC fun _ s_7=>At.meet (fun fr_ hp_=> ∃(b:Bool) (k:Nat) (a:Option Addr) (c:Nat) (ys:List IV) (Na NJ:Heaplet),fr_= [(2,.slice oa l.length oc),(3,.slice ko kn kc),(4,.pointer (some ⟨b4,0,none⟩)),(5,.pointer (some ⟨b5,0,none⟩)),(9,.int .i64 (F:Int)),(11,.slice a k c),(12,.bool b)]∧hp_= [Na,NJ,N4,N5,R]∧(Row Na 91 3 a k c (cellsI ys))∧(b=false→ ¬OkA h l)∧(b=true→k=l.length∧OkA h l∧ ∀K:Heaplet,NJ.le K→ItsN K (l.map HdM.it) ys)) ?_ (fun K7_ jk_7=>?_))))
  rotate_left
  ·skip
   refine aC fun _ s_8=>aA (aG U U (aB (s_8 (aT (At.empty (At.empty (bI (cH (bI (cH (bI (cF (fun fr_ hp_ ms_=> ∃(i k:Nat) (b:Bool) (a:Option Addr) (c:Nat) (ys:List IV) (Na NJ:Heaplet),fr_= [(2,.slice oa l.length oc),(3,.slice ko kn kc),(4,.pointer (some ⟨b4,0,none⟩)),(5,.pointer (some ⟨b5,0,none⟩)),(9,.int .i64 (F:Int)),(11,.slice a k c),(12,.bool b),(13,.int .i64 (i:Int))]∧hp_= [Na,NJ,N4,N5,R]∧l.length- i=ms_∧(i≤l.length)∧(k≤i)∧(Row Na 91 3 a k c (cellsI ys))∧(b=true→k=i)∧(b=true→okF h.fi∧ ∀o∈l.take i,okF o.fi)∧(b=false→ ¬OkA h l)∧(b=true→ ∀K:Heaplet,NJ.le K→ItsN K ((l.take i).map HdM.it) ys)) ?_ aM ⟨0,0,decide (okF h.fi),none,0,[],nilH,nilH,rfl,rfl,rfl,Nat.zero_le _,Nat.le_refl _,Row.nil _ _ _,fun _=>rfl,fun e=>⟨of_decide_eq_true e,fun o ho=>by simp at ho⟩,fun e k=>absurd k.1 (of_decide_eq_false e),fun _ K _=>ItsN_nil⟩ ?_))))))))))))
   ·repeat first|apply bD|exact .nil|exact lkI rfl (by omega)|rfl
   rintro _ _ _ ⟨i,k,b,a,c,ys,Na,NJ,rfl,rfl,rfl,hi,hki,ra,hbk,hb1,hb0,hy⟩
   refine aC fun _ s_9=>aC fun _ s_10=>aA (aF U U (aF U U (bG aD se51 U U (op_lss aD U U U (aF U U (cJ (d:=45) U (fun g45=>?_) (fun g45=>?_)))))))
   ·refine aL (cL U U U U) U U (bO aD U U U (aB (s_10 (At.condB U (fun c47=>?_) (fun c47=>?_)))))
    ·refine At.knowBT (d:=47) U c47 ?_
     have hbt:b=true:=by first|exact c47|simpa using c47
     have hlt:i<xs.length:=by omega
     obtain⟨⟨xh,xv⟩,hxi⟩: ∃x,xs[i]? =some x:=⟨_,List.getElem?_eq_getElem hlt⟩
     have hxin:=hxs _ (List.mem_of_getElem? hxi)
     simp only at hxin
     have hgi:l[i]? =some xh:=by rw [←hxm,List.getElem?_map,hxi];rfl
     obtain⟨hxl2,hx1⟩:=hxin.one
     have hxe2:=hxe xh (List.mem_of_getElem? hgi)
     have hdc:=hd_dec hxin.1 (by omega)
     have hfl:=HdM.form_len hxin.1 (by omega)
     have hxf:=om_fi (omC_cells hxs) hxi
     have hsome:oa.isSome=true:=by
      obtain⟨bA,oA,hao,_⟩:=hO.2.2.2 (by omega)
      rw [hao];rfl
     refine aQ (aE (s_9 (aC fun _ s_11=>aT (aC fun _ s_12=>aA (aF U U (aF U U (op_idxE aD se51 U U hO' (show _=(((i:Nat)):Int)from by omega) (by omega) U ?_)))))))
     refine op_fieldAddrE aD fl44_0 U (by first|rfl|assumption) U ?_
     refine cC aD sc3 U hO' (by first|exact get8 (by omega)|exact get64 (by omega)|exact get32 (by omega)|exact hxf) (by simp) U ?_
     refine aH aZ (.cons U .nil) (RFields xh.fi) Tryz.func21 U U (by simp) U ?_
     rintro _ _ ⟨rfl,rfl⟩
     show At _ _ _ [Na,NJ,N4,N5,R] _
     refine aG U U (aB (s_12 (aC fun _ s_13=>aA (aF U U (aB (s_13 (At.condB U (fun c56=>?_) (fun c56=>?_))))))))
     ·refine At.knowBT (d:=56) U c56 (aC fun _ s_14=>aA (aF U U (aF U U (op_idxE aD se51 U U hO' (show _=(((i:Nat)):Int)from by omega) (by omega) U ?_))))
      refine op_loadAggE (ds:=xh.cells xv) aD ag44 U hO' (by exact flat_at (fun x:HdM×Value=>x.1.cells x.2) (omC_cells hxs) hxi) (by exact hxl2) (by omega) (by simp) U ?_
      refine aH aZ (.cons U .nil) ((RWriteHeader hxin (by omega) (of_decide_eq_true c56)).liftB hNR) Tryz.func22 U U (by simp) U ?_
      rintro _ _ ⟨M62,p62,c62,rfl,rfl,r62⟩
      show At _ _ _ [M62,Na,NJ,N4,N5,R] _
      have s62:=r62.rsl
      refine aH aZ (.cons U .nil) (rDec_hd s62 (by omega) hdc) Tryz.func36 U U (by simp) U ?_
      rintro _ _ ⟨M63,x63,rfl,rfl,j63⟩
      show At _ _ _ [M63,M62,Na,NJ,N4,N5,R] _
      refine aF U U (aN aD U U U (aN aD U U U (bE aZ ze91 U (fun N14 b14 B14=>?_))))
      change Blk N14 b14 _ [.bool false,.slice none 0 0,.slice none 0 0]at B14
      refine aX nxQ sz91 U U U U U B14 (by simp) sel0 (fun N14 B14=>?_)
      simp only [setL,List.set]at B14
      refine aG U U (aB (s_14 (aA (aF U U ?_))))
      refine aY (ds:= [.bool x63.l,.slice x63.ab x63.nb x63.cb,.slice x63.ai x63.ni x63.ci]) aD ag91 U B14 (by first|(rw [List.drop_zero,List.take_of_length_le (by first|(simp;done)|(simp;omega))];done)|rfl) (by first|(simp;done)|(simp;omega)) bZ U ?_
      refine op_lit aZ Tryz.underlying89 ze91 sz91 (.cons U .nil) U U (by simp [Value.cells]) U U U (fun N68 a68 r68=>?_)
      simp only [flatV,List.flatMap_cons,List.flatMap_nil,Value.cells,List.append_nil,List.cons_append,List.nil_append]at r68
      have s68:=r68.rsl
      change Row N68 _ 3 a68 1 1 (cellsI [x63])at r68
      refine op_append nxQ Tryz.underlying89 Tryz.underlying89 te91 U U ra r68.rsl (by simp) (cellsI_oneB _) (by omega) (by omega) sel4 U (fun N69 a69 p69 r69=>?_)
      have s69:=r69.rsl
      rw [←cellsI_app]at r69
      refine aG U U (At.opsNil (a0 (aE (s_11 (aA (aF U U (a6 aD U U (by omega) (by omega) U (aG U U (aB (bL (bL (bL (bN (bM (bM (bM (bN (bL (At.mergeN (fun W W1 W2=>dropAt4 (dropAt3 (cA (bI (bI (bI (cH (bI ?_)))))))))))))))))))))))))))
      refine bQ ?_ aM ⟨i+1,k+1,decide (okF xh.fi),a69,p69,ys++ [x63],N69,W,rfl,rfl,rfl,by omega,by omega,r69,fun _=>by rw [hbk hbt],fun e=>okb_1 hb1 hbt hgi e,fun e k=>absurd (k.2 xh (List.mem_of_getElem? hgi)) (of_decide_eq_false e),fun _=>by rw [take_next2 hgi,List.map_append];exact fun Q hJ=>(hy hbt Q (Heaplet.le_trans W1 hJ)).snoc (j63.le (Heaplet.le_trans W2 hJ))⟩ ?_
      ·repeat first|apply bD|exact .nil|exact lkI rfl (by omega)|rfl
      ·omega
     refine At.knowBF (d:=56) U c56 ?_
     have hbf2:decide (okF xh.fi)=false:=c56
     refine aQ (a0 (aE (s_11 (aA (aF U U (a6 aD U U (by omega) (by omega) U (aG U U (aB ?_))))))))
     refine bQ ?_ aM ⟨i+1,k,decide (okF xh.fi),a,c,ys,Na,NJ,rfl,rfl,rfl,by omega,by omega,ra,fun e=>absurd e (by rw [hbf2];decide),fun e=>absurd e (by rw [hbf2];decide),fun e k=>absurd (k.2 xh (List.mem_of_getElem? hgi)) (of_decide_eq_false e),fun e=>absurd e (by rw [hbf2];decide)⟩ ?_
     ·repeat first|apply bD|exact .nil|exact lkI rfl (by omega)|rfl
     ·omega
    refine At.knowBF (d:=47) U c47 (bW (aK (aK (bH (aE (jk_7 ?_ aM ⟨b,k,a,c,ys,Na,NJ,rfl,rfl,ra,hb0,om_end hi (by first|(exact .inl (by omega))|(exact .inr (by first|exact c47|exact g45|simpa using c47))) hbk hb1 hy⟩))))))
    repeat first|apply bD|exact .nil|exact lkI rfl (by omega)|rfl
   refine aU U U U U U U U (cB aD U U U (aB (s_10 (At.condF U (bW (aK (aK (bH (aE (jk_7 ?_ aM ⟨b,k,a,c,ys,Na,NJ,rfl,rfl,ra,hb0,om_end hi (by first|(exact .inl (by omega))|(exact .inr (by first|exact c47|exact g45|simpa using c47))) hbk hb1 hy⟩))))))))))
   repeat first|apply bD|exact .nil|exact lkI rfl (by omega)|rfl
  rintro _ _ ⟨b,k,a,c,ys,Na,NJ,rfl,rfl,ra,hb0,hb1⟩
  refine s_7 (aC fun _ s_15=>aC fun _ s_16=>aA (aF U U (op_not aD U U (aB (s_16 (At.condB U (fun c71=>?_) (fun c71=>?_)))))))
  ·refine At.knowBT (d:=71) U c71 (aC fun _ s_17=>aA (aG U U (aB (s_17 (aR (aJ ((dropAt3 (cA (a7 (bP (aW (L1:= []) U (.tmp U .nil) (.refl _) aM ?_))))))))))))
   exact⟨_,rfl,.inr (.inl ⟨hg,hb0 (by simpa using c71),rfl⟩),rfl⟩
  refine At.knowBF (d:=71) U c71 ?_
  have hbt:b=true:=by simpa using c71
  obtain⟨rfl,hoka,hyK⟩:=hb1 hbt
  refine aQ (aE (s_15 (aC fun _ s_18=>At.meet (fun fr_ hp_=>fr_= [(2,.slice oa l.length oc),(3,.slice ko kn kc),(4,.pointer (some ⟨b4,0,none⟩)),(5,.pointer (some ⟨b5,0,none⟩))]∧hp_= [N4,N5,R]∧(¬Head51 q h l Kf)) ?_ (fun K18_ jk_18=>?_))))
  rotate_left
  ·skip
   refine aC fun _ s_19=>bI (bR (bR (bI (bI (At.drawnS [N5,Na,NJ,R] [] [] [0,1,2,3,4,5,6,7,8,9,10,11,12,13,17,18,14,15,16,19,20] (by kernel_rfl) (by kernel_rfl) (.cons _ (.refl _)) (aL (bF U U U) U U (bG (bF U U U) se51 U U (op_gtr (bF U U U) U U U (aL (bF U U U) U U (cJ (d:=75) U (fun g75=>?_) (fun g75=>?_)))))))))))
   ·refine cD U U U U U U U U (cD U U U U U U U U (cD U U U U U U U U (op_sskipU U U U U U U U (op_sskipU U U U U U U U (op_sskipU U U U U U U U (cD U U U U U U U U (bO (bF U U U) U U U (aL (bF U U U) U U (cD U U U U U U U U (cD U U U U U U U U (cD U U U U U U U U (cD U U U U U U U U (cD U U U U U U U U (cD U U U U U U U U (cD U U U U U U U U (bO (bF U U U) U U U (At.sNil (aE (s_19 (At.condT U (aC fun _ s_20=>aA (aG U U (aB (s_20 (aR (aJ ((dropAt3 (cA (a7 (bP (aW (L1:= []) U (.tmp U .nil) (.refl _) aM ?_))))))))))))))))))))))))))))))))
    exact r51 hg hoka (.inl (.inl (by omega))) U
   refine aL (nxsgf U U U U U U) U U (op_geq (nxsgf U U U U U U) U U U (aL (nxsgf U U U U U U) U U (cJ (d:=78) U (fun g78=>?_) (fun g78=>?_))))
   ·refine aL (nxsgf U U U U U U) U U (bG (nxsgf U U U U U U) se51 U U (op_gtr (nxsgf U U U U U U) U U U (bO (nxsgf U U U U U U) U U U (cB (bF U U U) U U U (aL (bF U U U) U U (cJ (d:=84) U (fun g84=>?_) (fun g84=>?_)))))))
    ·refine cD U U U U U U U U (cD U U U U U U U U (cD U U U U U U U U (cD U U U U U U U U (cD U U U U U U U U (cD U U U U U U U U (cD U U U U U U U U (bO (bF U U U) U U U (At.sNil (aE (s_19 (At.condT U (aC fun _ s_21=>aA (aG U U (aB (s_21 (aR (aJ ((dropAt3 (cA (a7 (bP (aW (L1:= []) U (.tmp U .nil) (.refl _) aM ?_)))))))))))))))))))))))
     exact r51 hg hoka (.inl (.inr (.inl ⟨by omega,by rw [hF];omega⟩))) U
    refine aL (nxsgf U U U U U U) U U (aI (nxsgf U U U U U U) fl44_2 U U (aY (ds:=u8s h.om) (nxsgf U U U U U U) ag40 U B5 (by exact oh_om hh.1 _) (by rw [cK,hh.1.om]) bZ U ?_))
    refine aH (Nx.agree (nxsgm U U U U U U)) (.cons U .nil) (rList_b) Tryz.func73 U U (by simp) U ?_
    rintro _ _ ⟨rfl,rfl⟩
    show At _ _ _ [N4,N5,Na,NJ,R] _
    refine At.moreS (Lst:= [N5,Na,NJ,R]) (Lst':= [N5,Na,NJ,R]) (.refl _) (.cons _ (.refl _)) (aH (Nx.agree (nxsgm U U U U U U)) (.cons U .nil) (Fn.overJ (Ns:= [Na,NJ]) fun K hK=>rForm_b (t:=itL (l.map HdM.it)) (x:=ivL a l.length c) (ItN_L (ra.rsl.le (hK _ (by simp))) (hyK K (hK _ (by simp)))) (by omega)) Tryz.func60 U U (by simp) U ?_)
    rintro _ _ ⟨M87,p87,c87,rfl,rfl,r87⟩
    show At _ _ _ [M87,N4,N5,Na,NJ,R] _
    have s87:=r87.rsl
    refine bY (bY (bY (bY (bI (bY (At.moreS (Lst:= [N5,Na,NJ,R]) (Lst':= [M87,N5,Na,NJ,R]) (.cons _ (.refl _)) (.cons _ (.refl _)) (aH (Nx.agree (nxsgm U U U U U U)) (.cons U .nil) (rKec_z hKf s87 (by omega)) Tryz.func82 U U (by simp) U ?_)))))))
    rintro _ _ ⟨rfl,rfl⟩
    show At _ _ _ [N4,M87,N5,Na,NJ,R] _
    refine At.moreS (Lst:= [M87,N5,Na,NJ,R]) (Lst':= [M87,N5,Na,NJ,R]) (.refl _) (.cons _ (.refl _)) (op_neW8 (a:=Kf) (b:=h.om) (nxsgf U U U U U U) ae39 Tryz.underlying5 (by kernel_rfl) U U hKl hh.1.om U (cB (bF U U U) U U U (At.sNil (aE (s_19 (aO U (fun c92=>?_) (fun c92=>?_)))))))
    ·refine At.knowT (d:=92) U c92 (aC fun _ s_22=>aA (aG U U (aB (s_22 (aR (aJ ((dropAt4 (dropAt3 (cA (a7 (bP (aW (L1:= []) U (.tmp U .nil) (.refl _) aM ?_)))))))))))))
     exact r51 hg hoka (.inl (.inr (.inr fun e=>c92 e.symm))) U
    refine At.knowF (d:=92) U c92 (aQ (dropAt4 (dropAt3 (a7 (aE (jk_18 ?_ aM ⟨rfl,rfl,no51 (by omega) (by omega) hF (Classical.not_not.1 c92).symm⟩))))))
    repeat first|apply bD|exact .nil|exact lkI rfl (by omega)|rfl
   refine cD U U U U U U U U (cD U U U U U U U U (cD U U U U U U U U (cB (nxsgf U U U U U U) U U U (cB (bF U U U) U U U (aL (bF U U U) U U (aL (nxsgf U U U U U U) U U (aI (nxsgf U U U U U U) fl44_2 U U (aY (ds:=u8s h.om) (nxsgf U U U U U U) ag40 U B5 (by exact oh_om hh.1 _) (by rw [cK,hh.1.om]) bZ U ?_))))))))
   refine aH (Nx.agree (nxsgm U U U U U U)) (.cons U .nil) (rList_b) Tryz.func73 U U (by simp) U ?_
   rintro _ _ ⟨rfl,rfl⟩
   show At _ _ _ [N4,N5,Na,NJ,R] _
   refine At.moreS (Lst:= [N5,Na,NJ,R]) (Lst':= [N5,Na,NJ,R]) (.refl _) (.cons _ (.refl _)) (aH (Nx.agree (nxsgm U U U U U U)) (.cons U .nil) (Fn.overJ (Ns:= [Na,NJ]) fun K hK=>rForm_b (t:=itL (l.map HdM.it)) (x:=ivL a l.length c) (ItN_L (ra.rsl.le (hK _ (by simp))) (hyK K (hK _ (by simp)))) (by omega)) Tryz.func60 U U (by simp) U ?_)
   rintro _ _ ⟨M87,p87,c87,rfl,rfl,r87⟩
   show At _ _ _ [M87,N4,N5,Na,NJ,R] _
   have s87:=r87.rsl
   refine bY (bY (bY (bY (bI (bY (At.moreS (Lst:= [N5,Na,NJ,R]) (Lst':= [M87,N5,Na,NJ,R]) (.cons _ (.refl _)) (.cons _ (.refl _)) (aH (Nx.agree (nxsgm U U U U U U)) (.cons U .nil) (rKec_z hKf s87 (by omega)) Tryz.func82 U U (by simp) U ?_)))))))
   rintro _ _ ⟨rfl,rfl⟩
   show At _ _ _ [N4,M87,N5,Na,NJ,R] _
   refine At.moreS (Lst:= [M87,N5,Na,NJ,R]) (Lst':= [M87,N5,Na,NJ,R]) (.refl _) (.cons _ (.refl _)) (op_neW8 (a:=Kf) (b:=h.om) (nxsgf U U U U U U) ae39 Tryz.underlying5 (by kernel_rfl) U U hKl hh.1.om U (cB (bF U U U) U U U (At.sNil (aE (s_19 (aO U (fun c92=>?_) (fun c92=>?_)))))))
   ·refine At.knowT (d:=92) U c92 (aC fun _ s_23=>aA (aG U U (aB (s_23 (aR (aJ ((dropAt4 (dropAt3 (cA (a7 (bP (aW (L1:= []) U (.tmp U .nil) (.refl _) aM ?_)))))))))))))
    exact r51 hg hoka (.inl (.inr (.inr fun e=>c92 e.symm))) U
   refine At.knowF (d:=92) U c92 (aQ (dropAt4 (dropAt3 (a7 (aE (jk_18 ?_ aM ⟨rfl,rfl,no51 (by omega) (by omega) hF (Classical.not_not.1 c92).symm⟩))))))
   repeat first|apply bD|exact .nil|exact lkI rfl (by omega)|rfl
  rintro _ _ ⟨rfl,rfl,h51⟩
  refine s_18 (aC fun _ s_24=>aC fun _ s_25=>aA (aG U U (aB (s_25 (aT (cF (fun fr_ hp_ ms_=> ∃(j:Nat),fr_= [(2,.slice oa l.length oc),(3,.slice ko kn kc),(4,.pointer (some ⟨b4,0,none⟩)),(5,.pointer (some ⟨b5,0,none⟩)),(16,.int .i64 (j:Int))]∧hp_= [N4,N5,R]∧l.length- j=ms_∧(j≤l.length)∧(∀i o,i<j→l[i]? =some o→ ¬Bad q h l ks H i o)) ?_ aM ⟨0,rfl,rfl,rfl,Nat.zero_le _,fun i o hi=>absurd hi (Nat.not_lt_zero _)⟩ ?_))))))
  ·repeat first|apply bD|exact .nil|exact lkI rfl (by omega)|rfl
  rintro _ _ _ ⟨j,rfl,rfl,rfl,hj,hnb⟩
  refine aC fun _ s_26=>aC fun _ s_27=>aA (aF U U (aF U U (bG aD se51 U U (op_lss aD U U U (aB (s_27 (aO U (fun c96=>?_) (fun c96=>?_))))))))
  ·refine At.knowT (d:=96) U c96 ?_
   have hlt:j<xs.length:=by omega
   obtain⟨⟨xo,xw⟩,hxj⟩: ∃x,xs[j]? =some x:=⟨_,List.getElem?_eq_getElem hlt⟩
   have hxin:=hxs _ (List.mem_of_getElem? hxj)
   simp only at hxin
   have hgj:l[j]? =some xo:=by rw [←hxm,List.getElem?_map,hxj];rfl
   obtain⟨hxl2,hx1⟩:=hxin.one
   obtain⟨oea,oec,oev⟩: ∃ea ec,xw=.slice ea xo.ex.length ec:=by
    obtain⟨_,ea,ec,e,_⟩:=hxin
    exact⟨ea,ec,e⟩
   subst oev
   have hxok:=hxin.1
   have hxe2:=hxe xo (List.mem_of_getElem? hgj)
   obtain⟨G,hG⟩: ∃G,q.at xo.nu xo.ti=G:=⟨_,rfl⟩
   have hAo:=rAt_y hc hg xo.nu xo.ti
   rw [hG]at hAo
   have hul2:=hul xo
   refine aQ (aE (s_26 (aC fun _ s_28=>aT (aC fun _ s_29=>aA (aF U U (aF U U (op_idxE aD se51 U U hO' (show _=(((j:Nat)):Int)from by omega) (by omega) U ?_)))))))
   refine op_loadAggE (ds:=xo.cells (.slice oea xo.ex.length oec)) aD ag44 U hO' (by exact flat_at (fun x:HdM×Value=>x.1.cells x.2) (omC_cells hxs) hxj) (by exact hxl2) (by omega) (by simp) U ?_
   refine bE aZ ze44 U (fun N17 b17 B17=>?_)
   change Blk N17 b17 _ z44 at B17
   refine aX nxQ sz44 U U U hxl2 hx1 B17 (by rw [hxl2];exact Nat.le_refl _) sel0 (fun N17 B17=>?_)
   rw [setL_whole (by rw [hxl2];rfl)]at B17
   refine aB (s_29 (aC fun _ s_30=>aA (aY (ds:=cs) aD ag75 U B4 (by exact tk_all c1) (by exact c1) mem1 U ?_)))
   refine aI aD fl44_9 U U (aV aD sc24 U B17 (oh_nu hxok _) bZ U (aI aD fl44_12 U U (aV aD sc24 U B17 (oh_ti hxok _) bZ U (aH aZ (.cons U (.cons U (.cons U .nil))) (hAo.liftB hNR) Tryz.func81 U U (by simp) U ?_))))
   rintro _ _ ⟨rfl,rfl⟩
   show At _ _ _ [N17,N4,N5,R] _
   refine aF U U (aN aD U U U (aN aD U U U (aG U U (aG U U (aB (s_30 (aC fun _ s_31=>aC fun _ s_32=>At.drawn [] [0,1,2,3,4,5,6,7,8,9,10,11,12,13,14,15,16,17,18,19,20,21,22,23,24,25] (by kernel_rfl) (by kernel_rfl) (aI (aS U U U (by kernel_rfl)) fl44_0 U U (aV (aS U U U (by kernel_rfl)) sc3 U B17 (oh_fi) bZ U (aL (aS U U U (by kernel_rfl)) U U (aH (nxoa U U U) (.cons U .nil) (rFields G) Tryz.func83 U U (by simp) U ?_)))))))))))
   rintro _ _ ⟨rfl,rfl⟩
   show At _ _ _ [N17,N4,N5,R] _
   refine op_neq (aS U U U (by kernel_rfl)) U U U (aL (aS U U U (by kernel_rfl)) U U (cJ (d:=117) U (fun g117=>?_) (fun g117=>?_)))
   ·refine bK U U U U U U U U (bK U U U U U U U U (bK U U U U U U U U (bK U U U U U U U U (bO (aS U U U (by kernel_rfl)) U U U (aL (aS U U U (by kernel_rfl)) U U (bK U U U U U U U U (bK U U U U U U U U (bK U U U U U U U U (bK U U U U U U U U (bK U U U U U U U U (bO (aS U U U (by kernel_rfl)) U U U (aL (aS U U U (by kernel_rfl)) U U (bK U U U U U U U U (bK U U U U U U U U (bK U U U U U U U U (bK U U U U U U U U (bK U U U U U U U U (bK U U U U U U U U (bO (aS U U U (by kernel_rfl)) U U U (cG (aE (s_32 (At.condT U (aC fun _ s_33=>aA (aG U U (aB (s_33 (aR (aJ (b9 (aJ (aJ (b9 (aJ ((cA (a7 (bP (aW (L1:= []) U (.tmp U .nil) (.refl _) aM ?_)))))))))))))))))))))))))))))))))))))))
    exact r51 hg hoka (.inr ⟨j,xo,hgj,bad_b fun hb=>g117 (by rw [←hG];exact hb.1.symm)⟩) U
   refine aI (nxogf U U U U U U (by kernel_rfl)) fl44_13 U U (aV (nxogf U U U U U U (by kernel_rfl)) sc22 U B17 (hk_x hxok) bZ U (bG (nxogf U U U U U U (by kernel_rfl)) se22 U U (op_gtr (nxogf U U U U U U (by kernel_rfl)) U U U (cB (aS U U U (by kernel_rfl)) U U U (aL (aS U U U (by kernel_rfl)) U U (cJ (d:=123) U (fun g123=>?_) (fun g123=>?_)))))))
   ·refine bK U U U U U U U U (bK U U U U U U U U (bK U U U U U U U U (bK U U U U U U U U (bK U U U U U U U U (bO (aS U U U (by kernel_rfl)) U U U (aL (aS U U U (by kernel_rfl)) U U (bK U U U U U U U U (bK U U U U U U U U (bK U U U U U U U U (bK U U U U U U U U (bK U U U U U U U U (bK U U U U U U U U (bO (aS U U U (by kernel_rfl)) U U U (cG (aE (s_32 (At.condT U (aC fun _ s_34=>aA (aG U U (aB (s_34 (aR (aJ (b9 (aJ (aJ (b9 (aJ ((cA (a7 (bP (aW (L1:= []) U (.tmp U .nil) (.refl _) aM ?_)))))))))))))))))))))))))))))))))
    exact r51 hg hoka (.inr ⟨j,xo,hgj,bad_b fun hb=>absurd hb.2.1 (by omega)⟩) U
   refine aI (nxogf U U U U U U (by kernel_rfl)) fl44_9 U U (aV (nxogf U U U U U U (by kernel_rfl)) sc24 U B17 (oh_nu hxok _) bZ U (aI (nxogf U U U U U U (by kernel_rfl)) fl44_9 U U (aV (nxogf U U U U U U (by kernel_rfl)) sc24 U B5 (oh_nu hh.1 _) mem2 U (op_geq (nxogf U U U U U U (by kernel_rfl)) U U U (cB (aS U U U (by kernel_rfl)) U U U (aL (aS U U U (by kernel_rfl)) U U (cJ (d:=130) U (fun g130=>?_) (fun g130=>?_))))))))
   ·refine bK U U U U U U U U (bK U U U U U U U U (bK U U U U U U U U (bK U U U U U U U U (bK U U U U U U U U (bK U U U U U U U U (bO (aS U U U (by kernel_rfl)) U U U (cG (aE (s_32 (At.condT U (aC fun _ s_35=>aA (aG U U (aB (s_35 (aR (aJ (b9 (aJ (aJ (b9 (aJ ((cA (a7 (bP (aW (L1:= []) U (.tmp U .nil) (.refl _) aM ?_))))))))))))))))))))))))))
    exact r51 hg hoka (.inr ⟨j,xo,hgj,bad_b fun hb=>absurd hb.2.2.1 (by omega)⟩) U
   refine aI (nxogf U U U U U U (by kernel_rfl)) fl44_9 U U (aV (nxogf U U U U U U (by kernel_rfl)) sc24 U B5 (oh_nu hh.1 _) mem2 U (aI (nxogf U U U U U U (by kernel_rfl)) fl44_9 U U (aV (nxogf U U U U U U (by kernel_rfl)) sc24 U B17 (oh_nu hxok _) bZ U (op_subU (nxogf U U U U U U (by kernel_rfl)) U U U (op_gtr (nxogf U U U U U U (by kernel_rfl)) U U U (cB (aS U U U (by kernel_rfl)) U U U (cG (aE (s_32 (aO U (fun c137=>?_) (fun c137=>?_)))))))))))
   ·refine At.knowT (d:=137) U c137 (aC fun _ s_36=>aA (aG U U (aB (s_36 (aR (aJ (b9 (aJ (aJ (b9 (aJ ((cA (a7 (bP (aW (L1:= []) U (.tmp U .nil) (.refl _) aM ?_))))))))))))))))
    exact r51 hg hoka (.inr ⟨j,xo,hgj,bad_b (beside_no (by omega) (.inl (by omega)))⟩) U
   refine At.knowF (d:=137) U c137 (aQ (aE (s_31 (aC fun _ s_37=>aA (aI aD fl44_9 U U (aV aD sc24 U B5 (oh_nu hh.1 _) mem2 U (aI aD fl44_9 U U (aV aD sc24 U B17 (oh_nu hxok _) bZ U (op_subU aD U U U (aG U U (aB (s_37 (aC fun _ s_38=>aA (aY (ds:=xo.cells (.slice oea xo.ex.length oec)) aD ag44 U B17 (by exact tk_all hxl2) (by exact hxl2) bZ U ?_))))))))))))))
   refine aH aZ (.cons U .nil) ((rHash_y (hH xo) hxin (by omega) (hoka.2 xo (List.mem_of_getElem? hgj))).liftB hNR) Tryz.func84 U U (by simp) U ?_
   rintro _ _ ⟨rfl,rfl⟩
   show At _ _ _ [N17,N4,N5,R] _
   refine aF U U (aN aD U U U (aN aD U U U (bE aZ ze40 U (fun N21 b21 B21=>?_))))
   change Blk N21 b21 _ [.int .u8 0,.int .u8 0,.int .u8 0,.int .u8 0,.int .u8 0,.int .u8 0,.int .u8 0,.int .u8 0,.int .u8 0,.int .u8 0,.int .u8 0,.int .u8 0,.int .u8 0,.int .u8 0,.int .u8 0,.int .u8 0,.int .u8 0,.int .u8 0,.int .u8 0,.int .u8 0,.int .u8 0,.int .u8 0,.int .u8 0,.int .u8 0,.int .u8 0,.int .u8 0,.int .u8 0,.int .u8 0,.int .u8 0,.int .u8 0,.int .u8 0,.int .u8 0]at B21
   refine aX nxQ sz40 U U U hul2 (by rw [List.all_eq_true];exact one_u8s _) B21 (by rw [hul2];exact Nat.le_refl _) sel0 (fun N21 B21=>?_)
   rw [setL_whole (by rw [hul2];rfl)]at B21
   refine aG U U (aB (s_38 (aC fun _ s_39=>aC fun _ s_40=>At.drawn [] [0,1,2,3,4,5,6,7,8,9,10,11,12,13] (by kernel_rfl) (by kernel_rfl) (aL (aS U U U (by kernel_rfl)) U U (aL (aS U U U (by kernel_rfl)) U U (bG (aS U U U (by kernel_rfl)) se30 U U (op_conv64 (aS U U U (by kernel_rfl)) (und_some Tryz.underlying3) Tryz.underlying24 U (by first|rfl|exact(Int.toNat_of_nonneg (by omega)).symm) U ?_)))))))
   refine op_geq (aS U U U (by kernel_rfl)) U U U (aL (aS U U U (by kernel_rfl)) U U (cJ (d:=153) U (fun g153=>?_) (fun g153=>?_)))
   ·refine bK U U U U U U U U (bK U U U U U U U U (bK U U U U U U U U (bK U U U U U U U U (bK U U U U U U U U (bK U U U U U U U U (bK U U U U U U U U (bO (aS U U U (by kernel_rfl)) U U U (cG (aE (s_40 (At.condT U (aC fun _ s_41=>aA (aG U U (aB (s_41 (aR (aJ (b9 (aJ (aJ (b9 (aJ ((dropAt3 (cA (a7 (bP (aW (L1:= []) U (.tmp U .nil) (.refl _) aM ?_))))))))))))))))))))))))))))
    exact r51 hg hoka (.inr ⟨j,xo,hgj,bad_b (beside_no (by omega) (.inr (by omega)))⟩) U
   obtain⟨yd,hyd⟩: ∃y,ks[(h.nu- xo.nu).toNat]? =some y:=⟨_,List.getElem?_eq_getElem (by omega)⟩
   have hyd32:=k32 yd (List.mem_of_getElem? hyd)
   have hydl:(u8s yd).length=32:=by rw [cK,hyd32]
   refine aL (nxogf U U U U U U (by kernel_rfl)) U U (aL (nxogf U U U U U U (by kernel_rfl)) U U (op_idxE (nxogf U U U U U U (by kernel_rfl)) se30 U U hK' (show _=((((h.nu- xo.nu).toNat:Nat)):Int)from by omega) (by omega) U ?_))
   refine op_loadAggE (ds:=u8s yd) (nxogf U U U U U U (by kernel_rfl)) ag40 U hK' (by exact hs_at k32 hyd) (by exact hydl) (by omega) (by simp) U ?_
   refine aI (nxogf U U U U U U (by kernel_rfl)) fl44_1 U U (aY (ds:=u8s xo.pa) (nxogf U U U U U U (by kernel_rfl)) ag40 U B17 (by exact oh_pa hxok _) (by rw [cK,hxok.pa]) mem1 U ?_)
   refine op_neW8 (a:=yd) (b:=xo.pa) (nxogf U U U U U U (by exact okB_ne8 U U (by kernel_rfl))) ae40 Tryz.underlying5 (by kernel_rfl) U U hyd32 hxok.pa U ?_
   refine cB (aS U U U (by kernel_rfl)) U U U (cG (aE (s_40 (aO U (fun c161=>?_) (fun c161=>?_)))))
   ·refine At.knowT (d:=161) U c161 (aC fun _ s_42=>aA (aG U U (aB (s_42 (aR (aJ (b9 (aJ (aJ (b9 (aJ ((dropAt3 (cA (a7 (bP (aW (L1:= []) U (.tmp U .nil) (.refl _) aM ?_)))))))))))))))))
    exact r51 hg hoka (.inr ⟨j,xo,hgj,bad_b (beside_ne (by omega) hyd c161)⟩) U
   refine At.knowF (d:=161) U c161 (aQ (aE (s_39 (aC fun _ s_43=>aC fun _ s_44=>aA (aG U U (aB (s_44 (aT (a7 (cF (fun fr_ hp_ ms_=> ∃(m:Nat),fr_= [(2,.slice oa l.length oc),(3,.slice ko kn kc),(4,.pointer (some ⟨b4,0,none⟩)),(5,.pointer (some ⟨b5,0,none⟩)),(16,.int .i64 (j:Int)),(21,.pointer (some ⟨b21,0,none⟩)),(23,.int .i64 (m:Int))]∧hp_= [N21,N4,N5,R]∧kn- m=ms_∧(m≤kn)∧(H xo∉ks.take m)) ?_ aM ⟨0,rfl,rfl,rfl,Nat.zero_le _,by simp⟩ ?_))))))))))
   ·repeat first|apply bD|exact .nil|exact lkI rfl (by omega)|rfl
   rintro _ _ _ ⟨m,rfl,rfl,rfl,hm,hno⟩
   refine aC fun _ s_45=>aC fun _ s_46=>aA (aF U U (aF U U (bG aD se30 U U (op_lss aD U U U (aB (s_46 (aO U (fun c165=>?_) (fun c165=>?_))))))))
   ·refine At.knowT (d:=165) U c165 ?_
    obtain⟨ym,hym⟩: ∃y,ks[m]? =some y:=⟨_,List.getElem?_eq_getElem (by omega)⟩
    have hym32:=k32 ym (List.mem_of_getElem? hym)
    have hyml:(u8s ym).length=32:=by rw [cK,hym32]
    refine aQ (aE (s_45 (aC fun _ s_47=>aT (aC fun _ s_48=>At.drawn [] [0,1,2,3,4,5] (by kernel_rfl) (by kernel_rfl) (aL (aS U U U (by kernel_rfl)) U U (aL (aS U U U (by kernel_rfl)) U U (op_idxE (aS U U U (by kernel_rfl)) se30 U U hK' (show _=(((m:Nat)):Int)from by omega) (by omega) U ?_)))))))
    refine op_loadAggE (ds:=u8s ym) (aS U U U (by kernel_rfl)) ag40 U hK' (by exact hs_at k32 hym) (by exact hyml) (by omega) (by simp) U ?_
    refine aY (ds:=u8s (H xo)) (aS U U U (by kernel_rfl)) ag40 U B21 (by exact tk_all hul2) (by exact hul2) bZ U ?_
    refine op_eqW8 (a:=ym) (b:=H xo) (aS U U U (by exact okB_eqH U U (by kernel_rfl))) ae40 Tryz.underlying5 (by kernel_rfl) U U hym32 (h32 xo) U ?_
    refine cG (aE (s_48 (aO U (fun c173=>?_) (fun c173=>?_))))
    ·refine At.knowT (d:=173) U c173 (aC fun _ s_49=>aA (aG U U (aB (s_49 (aR (b9 (aJ (aJ (b9 (aJ (b9 (aJ (aJ (b9 (aJ ((cA (a7 (bP (aW (L1:= []) U (.tmp U .nil) (.refl _) aM ?_))))))))))))))))))))
     exact r51 hg hoka (.inr ⟨j,xo,hgj,.inr (.inl (c173▸List.mem_of_getElem? hym))⟩) U
    refine At.knowF (d:=173) U c173 (aQ (a0 (aE (s_47 (aA (aF U U (a6 aD U U (by omega) (by omega) U (aG U U (aB ?_)))))))))
    refine bQ ?_ aM ⟨m+1,rfl,rfl,rfl,by omega,by rw [take_nx hym];exact not_snoc hno c173⟩ ?_
    ·repeat first|apply bD|exact .nil|exact lkI rfl (by omega)|rfl
    ·omega
   refine At.knowF (d:=165) U c165 ?_
   have hnk:H xo∉ks:=by
    rw [List.take_of_length_le (by omega)]at hno
    exact hno
   refine bW (aK (aK (bH (aE (s_43 (aC fun _ s_50=>aA (aG U U (aB (s_50 (aT (cF (fun fr_ hp_ ms_=> ∃(m:Nat),fr_= [(2,.slice oa l.length oc),(3,.slice ko kn kc),(4,.pointer (some ⟨b4,0,none⟩)),(5,.pointer (some ⟨b5,0,none⟩)),(16,.int .i64 (j:Int)),(21,.pointer (some ⟨b21,0,none⟩)),(24,.int .i64 (m:Int))]∧hp_= [N21,N4,N5,R]∧j- m=ms_∧(m≤j)∧(H xo∉(l.map H).take m)) ?_ aM ⟨0,rfl,rfl,rfl,Nat.zero_le _,by simp⟩ ?_)))))))))))
   ·repeat first|apply bD|exact .nil|exact lkI rfl (by omega)|rfl
   rintro _ _ _ ⟨m,rfl,rfl,rfl,hm2,hnp⟩
   refine aC fun _ s_51=>aC fun _ s_52=>aA (aF U U (aF U U (op_lss aD U U U (aB (s_52 (aO U (fun c176=>?_) (fun c176=>?_)))))))
   ·refine At.knowT (d:=176) U c176 ?_
    have hltm:m<xs.length:=by omega
    obtain⟨⟨xm,xmv⟩,hxm2⟩: ∃x,xs[m]? =some x:=⟨_,List.getElem?_eq_getElem hltm⟩
    have hmin:=hxs _ (List.mem_of_getElem? hxm2)
    simp only at hmin
    have hgm:l[m]? =some xm:=by rw [←hxm,List.getElem?_map,hxm2];rfl
    have hmm:(l.map H)[m]? =some (H xm):=by rw [List.getElem?_map,hgm];rfl
    have hml2:=hmin.one.1
    have hme2:=hxe xm (List.mem_of_getElem? hgm)
    have hulm:=hul xm
    refine aQ (aE (s_51 (aC fun _ s_53=>aT (aC fun _ s_54=>aA (aF U U (aF U U (op_idxE aD se51 U U hO' (show _=(((m:Nat)):Int)from by omega) (by omega) U ?_)))))))
    refine op_loadAggE (ds:=xm.cells xmv) aD ag44 U hO' (by exact flat_at (fun x:HdM×Value=>x.1.cells x.2) (omC_cells hxs) hxm2) (by exact hml2) (by omega) (by simp) U ?_
    refine aH aZ (.cons U .nil) ((rHash_y (hH xm) hmin (by omega) (hoka.2 xm (List.mem_of_getElem? hgm))).liftB hNR) Tryz.func84 U U (by simp) U ?_
    rintro _ _ ⟨rfl,rfl⟩
    show At _ _ _ [N21,N4,N5,R] _
    refine aF U U (aN aD U U U (aN aD U U U (bE aZ ze40 U (fun N25 b25 B25=>?_))))
    change Blk N25 b25 _ [.int .u8 0,.int .u8 0,.int .u8 0,.int .u8 0,.int .u8 0,.int .u8 0,.int .u8 0,.int .u8 0,.int .u8 0,.int .u8 0,.int .u8 0,.int .u8 0,.int .u8 0,.int .u8 0,.int .u8 0,.int .u8 0,.int .u8 0,.int .u8 0,.int .u8 0,.int .u8 0,.int .u8 0,.int .u8 0,.int .u8 0,.int .u8 0,.int .u8 0,.int .u8 0,.int .u8 0,.int .u8 0,.int .u8 0,.int .u8 0,.int .u8 0,.int .u8 0]at B25
    refine aX nxQ sz40 U U U hulm (by rw [List.all_eq_true];exact one_u8s _) B25 (by rw [hulm];exact Nat.le_refl _) sel0 (fun N25 B25=>?_)
    rw [setL_whole (by rw [hulm];rfl)]at B25
    refine aG U U (aB (s_54 (aC fun _ s_55=>aA (aY (ds:=u8s (H xm)) aD ag40 U B25 (by exact tk_all hulm) (by exact hulm) bZ U ?_))))
    refine aY (ds:=u8s (H xo)) aD ag40 U B21 (by exact tk_all hul2) (by exact hul2) mem1 U ?_
    refine op_eqW8 (a:=H xm) (b:=H xo) aD ae40 Tryz.underlying5 (by kernel_rfl) U U (h32 xm) (h32 xo) U (aB (s_55 (aO U (fun c189=>?_) (fun c189=>?_))))
    ·refine At.knowT (d:=189) U c189 (aC fun _ s_56=>aA (aG U U (aB (s_56 (aR (b9 (aJ (aJ (b9 (b9 (aJ (aJ (b9 (aJ ((dropAt3 (cA (a7 (bP (aW (L1:= []) U (.tmp U .nil) (.refl _) aM ?_))))))))))))))))))))
     exact r51 hg hoka (.inr ⟨j,xo,hgj,.inr (.inr (c189▸mem_take hmm (by omega)))⟩) U
    refine At.knowF (d:=189) U c189 (aQ (a0 (aE (s_53 (aA (aF U U (a6 aD U U (by omega) (by omega) U (aG U U (aB (bP ?_))))))))))
    refine bQ ?_ aM ⟨m+1,rfl,rfl,rfl,by omega,by rw [take_nx hmm];exact not_snoc hnp c189⟩ ?_
    ·repeat first|apply bD|exact .nil|exact lkI rfl (by omega)|rfl
    ·omega
   refine At.knowF (d:=176) U c176 ?_
   have hno2:H xo∉(l.map H).take j:=by
    have e:m=j:=by omega
    rw [e]at hnp
    exact hnp
   refine bW (aK (aK (bH (a0 (aE (s_28 (aA (aF U U (a6 aD U U (by omega) (by omega) U (aG U U (aB (bP ?_))))))))))))
   refine bQ ?_ aM ⟨j+1,rfl,rfl,rfl,by omega,nb_next hnb hgj (nbad (beside_mk (by rw [hG];exact Classical.not_not.1 g117) (by omega) (by omega) (by omega) hyd (Classical.not_not.1 c161)) hnk hno2)⟩ ?_
   ·repeat first|apply bD|exact .nil|exact lkI rfl (by omega)|rfl
   ·omega
  refine At.knowF (d:=96) U c96 (bW (aK (aK (bH (aE (s_24 (aC fun _ s_57=>aA (aG U U (aB (s_57 (aR ((a7 (bP (aW (L1:= []) U (.tmp U .nil) (.refl _) aM ?_)))))))))))))))
  exact⟨_,rfl,.inr (.inr (.inr ⟨hg,hoka,h51,nb_all hnb (by omega),rfl⟩)),rfl⟩
 show At _ _ _ [N5,N4,R] _
 refine aF U U (aN aD U U U (aN aD U U U (aG U U (aG U U (aB (s_2 (aC fun _ s_58=>aC fun _ s_59=>aA (aF U U (op_neq aD U U U (aB (s_59 (aO U (fun c37=>?_) (fun c37=>?_)))))))))))))
 rotate_left
 ·exfalso;omega
 refine At.knowT (d:=37) U c37 (aC fun _ s_60=>aA (aG U U (aB (s_60 (aR (aJ ((a7 (bP (aW (L1:= []) U (.tmp U .nil) (.refl _) aM ?_))))))))))
 exact⟨_,rfl,.inl ⟨hng,rfl⟩,rfl⟩
end
def bC:Nat:=3338477
def bT (x:Nat):Nat→Nat
 |0=>bC
 |k+1=>bT x k*x/ (bC*(k+1))
def bS (x:Nat):Nat→Nat
 |0=>0
 |k+1=>bS x k+bT x k
theorem bT_s (x k:Nat):bT x (k+1)=bT x k*x/ (3338477*(k+1)):=rfl
theorem bS_s (x k:Nat):bS x (k+1)=bS x k+bT x k:=rfl
theorem bT_mono {x y:Nat} (h:x≤y): ∀k,bT x k≤bT y k
 |0=>Nat.le_refl _
 |k+1=>Nat.div_le_div_right (Nat.mul_le_mul (bT_mono h k) h)
theorem bT_zero {x k:Nat} (h:bT x k=0): ∀m,bT x (k+m)=0
 |0=>h
 |m+1=>by
  rw [←Nat.add_assoc,bT,bT_zero h m,Nat.zero_mul,Nat.zero_div]
theorem bS_end {x k:Nat} (h:bT x k=0): ∀m,bS x (k+m)=bS x k
 |0=>rfl
 |m+1=>by
  rw [←Nat.add_assoc,bS,bT_zero h m,bS_end h m,Nat.add_zero]
theorem bS_stop {x k:Nat} (h:bT x k=0) (hk:k≤700):bS x 700=bS x k:=by
 have:=bS_end h (700- k)
 rwa [show k+(700- k)=700 by omega]at this
set_option maxRecDepth 100000 in
theorem bT_last6:bT 600000000 700=0:=by decide+kernel
theorem bT_last {x:Nat} (h:x≤600000000):bT x 700=0:=Nat.le_zero.1 (bT_last6▸bT_mono h 700)
theorem bT_on {x k:Nat} (h:x≤600000000) (hk:k≤700) (h0:bT x k≠0):k+1≤700:=by
 rcases Nat.lt_or_ge k 700 with h1|h1
 ·exact h1
 ·exact absurd ((show k=700 by omega)▸bT_last h) h0
theorem bT_pow {x:Nat} (h:x≤600000000): ∀k,bT x k≤bC*256^k
 |0=>by simp [bT]
 |k+1=>by
  have h1:=bT_pow h k
  rw [bT]
  refine Nat.div_le_of_le_mul ?_
  calc bT x k*x≤bC*256^k*(bC*256):=Nat.mul_le_mul h1 (by rw [bC];omega)
   _≤bC*256^k*(bC*256)*(k+1):=Nat.le_mul_of_pos_right _ (by omega)
   _=bC*(k+1)*(bC*256^(k+1)):=by rw [Nat.pow_succ];ac_rfl
theorem bT_lt {x k:Nat} (h:x≤600000000):bT x k<2^(22+8*k):=by
 refine Nat.lt_of_le_of_lt (bT_pow h k) ?_
 rw [Nat.pow_add,Nat.pow_mul]
 exact Nat.mul_lt_mul_of_pos_right (by decide) (Nat.pow_pos (by decide))
theorem bS_lt {x:Nat} (h:x≤600000000): ∀k,bS x k<2^(22+8*k)
 |0=>Nat.pow_pos (by decide)
 |k+1=>by
  have h1:=bS_lt h k
  have h2:=bT_lt (k:=k) h
  rw [bS,show 22+8*(k+1)=22+8*k+8 by omega,Nat.pow_add _ (22+8*k) 8]
  omega
theorem bTx_lt {x k:Nat} (h:x≤600000000):bT x k*x<2^(22+8*k+30):=by
 rw [Nat.pow_add _ (22+8*k) 30]
 have h2:=bT_lt (k:=k) h
 exact Nat.lt_of_le_of_lt (Nat.mul_le_mul_left _ (show x≤2^30 by omega)) (Nat.mul_lt_mul_of_pos_right h2 (by decide))
def blobQ (x:Nat):Nat:=bS x 700/bC
theorem blobQ_eq {x k:Nat} (h:bT x k=0) (hk:k≤700):bS x k/3338477=blobQ x:=by rw [blobQ,bS_stop h hk];rfl
def capW (n:Nat):Nat:=if n<WW then n else WW- 1
def blobF (x:Nat):Nat:=if 600000000<x then WW- 1 else capW (blobQ x)
theorem blobF_0:blobF 0=1:=by
 have h:blobQ 0=1:=by rw [←blobQ_eq (k:=1) (by decide) (by decide)];decide
 rw [blobF,if_neg (by decide),h];decide+kernel
theorem blobF_1:blobF 10000000=19:=by
 have h:blobQ 10000000=19:=by rw [←blobQ_eq (k:=60) (by decide+kernel) (by decide)];decide+kernel
 rw [blobF,if_neg (by decide),h];decide+kernel
def fitV (n:Nat):Nat:=if n<WW then n else 0
theorem fitV_y {n:Nat} (h:n<WW):fitV n=n:=if_pos h
theorem fitV_n {n:Nat} (h: ¬n<WW):fitV n=0:=if_neg h
def partN (b g a:Nat):Nat:=b*a/g/8
def moreN (b g a:Nat):Nat:=if partN b g a=0 then 1 else partN b g a
def baseF (gl gu b:Nat):Nat:=if gl/2<gu then b+moreN b (gl/2) (gu- gl/2)else b- partN b (gl/2) (gl/2- gu)
def feeR (first:Bool) (gl gu b:Nat):Nat×Bool:=if first=true then (1000000000,true)else if gl/2=0 then (0,false)else (fitV (baseF gl gu b),decide (baseF gl gu b<WW))
def exF (ex bg:Nat):Nat:=if ex+bg<393216 then 0 else if 18446744073709551616≤ex+bg- 393216 then 18446744073709551615 else ex+bg- 393216
theorem v64_x1 (x:UInt64):v64 [x]=x.toNat:=by simp [v64,n64,val]
theorem small_f (x:UInt64):Fn Tryz.prog 132 #[.int .u64 (x.toNat:Int)] [] [] (fun v L=> ∃M a c,v=.slice a 1 c∧L= [M]∧RSl M 1 a 1 c (u64s [x])):=by
 refine Fn.enter (vs:= [.int .u64 (x.toNat:Int)]) Tryz.func132 U U U ?_
 intro E R hR
 change At _ _ E [R] _
 refine aC fun _ s_1=>aA (aG U U (aB (s_1 (aC fun _ s_2=>aA (aF U U (op_lit aZ Tryz.underlying200 ze24 sz24 (.cons U .nil) U U (by simp [Value.cells]) U U U (fun N4 a4 r4=>?_)))))))
 simp only [flatV,List.flatMap_cons,List.flatMap_nil,Value.cells,List.append_nil,List.cons_append,List.nil_append]at r4
 have s4:=r4.rsl
 refine aG U U (aB (s_2 (aR ((aW (L1:= [N4]) U (.tmp U .nil) (.refl _) aM ?_)))))
 exact⟨N4,a4,_,rfl,rfl,s4⟩
theorem over_f {N:Heaplet} {ao:Option Addr} {n ca:Nat} {a:List UInt64} (ha:RSl N 1 ao n ca (u64s a)) (hn:n≤1099511627774) (x:UInt64) (hx:0<x.toNat):Fn Tryz.prog 131 #[.slice ao n ca,.int .u64 (x.toNat:Int)] [] [N] (LimbsP (v64 a/x.toNat)):=by
 refine Fn.enter (vs:= [.slice ao n ca,.int .u64 (x.toNat:Int)]) Tryz.func131 U U U ?_
 intro E R hR
 have ha:=ha.le (hR N (by simp))
 change At _ _ E [R] _
 refine aC fun _ s_1=>aA (aG U U (aB (s_1 (aC fun _ s_2=>aA (aF U U (aF U U (aH aZ (.cons U .nil) (small_f x) Tryz.func132 U U (by simp) U ?_)))))))
 rintro _ _ ⟨N10,p10,c10,rfl,rfl,s10⟩
 show At _ _ _ [N10,R] _
 refine aH aZ (.cons U (.cons U .nil)) (DivMod_f ha s10 hn (by omega) (by rw [v64_x1];exact hx)) Tryz.func164 U U (by simp) U ?_
 rintro _ _ ⟨Mq,pq,cq,Mr,pr,cr,rfl,rfl,sq,sr⟩
 show At _ _ _ [Mq,Mr,N10,R] _
 rw [v64_x1]at sq⊢
 refine aF U U (aN aD U U U (aN aD U U U (aG U U (aG U U (aB (s_2 (aC fun _ s_3=>aA (aF U U (aG U U (aB (s_3 (aR ((cA (a7 (aW (L1:= [Mq]) U (.tmp U .nil) (.refl _) aM ?_))))))))))))))))
 exact⟨Mq,pq,cq,rfl,rfl,sq⟩
theorem fit_n {N:Heaplet} {ao:Option Addr} {n ca:Nat} {a:List UInt64} (ha:RSl N 1 ao n ca (u64s a)) (hn:n≤1099511627774) (h: ¬v64 a<WW):Fn Tryz.prog 136 #[.slice ao n ca] [] [N] (fun v L=>v=.tuple #[wo 0,.bool false]∧L= []):=by
 have hb: ¬bitLen (v64 a)≤256:=fun h1=>h (bitLen_le.1 h1)
 refine Fn.enter (vs:= [.slice ao n ca]) Tryz.func136 U U U ?_
 intro E R hR
 have ha:=ha.le (hR N (by simp))
 change At _ _ E [R] _
 refine aC fun _ s_1=>aA (bE aZ ze26 U (fun N2 b2 B2=>?_))
 change Blk N2 b2 _ [.int .u64 0,.int .u64 0,.int .u64 0,.int .u64 0]at B2
 refine aG U U (aB (s_1 (aC fun _ s_2=>aA (bE aZ ze26 U (fun N4 b4 B4=>?_)))))
 change Blk N4 b4 _ [.int .u64 0,.int .u64 0,.int .u64 0,.int .u64 0]at B4
 refine aB (s_2 (aC fun _ s_3=>aC fun _ s_4=>aA (aF U U (aH aZ (.cons U .nil) (Bits_f ha (by omega)) Tryz.func167 U U (by simp) U ?_))))
 rintro _ _ ⟨rfl,rfl⟩
 show At _ _ _ [N4,N2,R] _
 refine op_gtr aD U U U (aB (s_4 (aO U (fun c7=>?_) (fun c7=>?_))))
 rotate_left
 ·exfalso;omega
 refine aC fun _ s_5=>aA (aY (ds:= [_,_,_,_]) aD ag26 U B4 U U bZ U (aX nxQ sz26 U U U U U B2 (by simp) sel1 (fun N2 B2=>?_)))
 simp only [setL,List.set]at B2
 refine aG U U (aB (s_5 (aR (aJ ((a7 (bV (L1:= []) U (.cell U (res_agg (ds:= [_,_,_,_]) ag26 B2 U U bZ) (.tmp U .nil)) U (.cons _ (.refl _)) aM ?_)))))))
 exact⟨by rw [wo_zero],rfl⟩
theorem fit_y {N:Heaplet} {ao:Option Addr} {n ca:Nat} {a:List UInt64} (ha:RSl N 1 ao n ca (u64s a)) (hn:n≤1099511627774) (h:v64 a<WW):Fn Tryz.prog 136 #[.slice ao n ca] [] [N] (fun v L=>v=.tuple #[wo (v64 a),.bool true]∧L= []):=by
 have hb:bitLen (v64 a)≤256:=bitLen_le.2 h
 refine Fn.enter (vs:= [.slice ao n ca]) Tryz.func136 U U U ?_
 intro E R hR
 have ha:=ha.le (hR N (by simp))
 change At _ _ E [R] _
 refine aC fun _ s_1=>aA (bE aZ ze26 U (fun N2 b2 B2=>?_))
 change Blk N2 b2 _ [.int .u64 0,.int .u64 0,.int .u64 0,.int .u64 0]at B2
 refine aG U U (aB (s_1 (aC fun _ s_2=>aA (bE aZ ze26 U (fun N4 b4 B4=>?_)))))
 change Blk N4 b4 _ [.int .u64 0,.int .u64 0,.int .u64 0,.int .u64 0]at B4
 refine aB (s_2 (aC fun _ s_3=>aC fun _ s_4=>aA (aF U U (aH aZ (.cons U .nil) (Bits_f ha (by omega)) Tryz.func167 U U (by simp) U ?_))))
 rintro _ _ ⟨rfl,rfl⟩
 show At _ _ _ [N4,N2,R] _
 refine op_gtr aD U U U (aB (s_4 (aO U (fun c7=>?_) (fun c7=>?_))))
 ·exfalso;omega
 refine aQ (aE (s_3 (aC fun _ s_5=>At.drawn [3] [0,1,2,3] (by kernel_rfl) (by kernel_rfl) (op_sliceA (aS U U U (by kernel_rfl)) ae26 U .none .none .none (by omega) (by omega) (by omega) (by simp) U (aL (aS U U U (by kernel_rfl)) U U (aH (nxoa U U U) (.cons U .nil) (Trim_f ha) Tryz.func139 U U (by simp) U ?_))))))
 rintro _ _ ⟨rfl,rfl,t11,l11⟩
 show At _ _ _ [N4,N2,R] _
 have sT:=ha.trimmed t11 l11
 refine op_copyB (nxos rfl rfl rfl rfl) se200 rfl rfl B4 sT (by simp) (by first|exact one_u8s _|exact one_u64s _|exact one_u32s _|(intro u hu;simp at hu;subst hu;rfl)) (by simp<;>omega) sel0 rfl (fun N4 B4=>?_)
 rw [copy_limbs rfl (by simp)]at B4
 refine cG (aE (s_5 (aC fun _ s_6=>aA ?_)))
 refine aY (ds:=u64s (wl (v64 a))) aD ag26 U B4 (by first|(rw [List.drop_zero,List.take_of_length_le (by first|(simp;done)|(simp;omega))];done)|rfl) (by first|(simp;done)|(simp;omega)) bZ U ?_
 refine aX nxQ sz26 U U U U U B2 (by simp) sel1 (fun N2 B2=>?_)
 rw [setL_whole (by simp)]at B2
 refine aG U U (aB (s_6 (aR ((a7 ?_)))))
 refine bV (L1:= []) U (.cell U (res_agg (ds:=u64s (wl (v64 a))) ag26 B2 (by first|(rw [List.drop_zero,List.take_of_length_le (by first|(simp;done)|(simp;omega))];done)|rfl) (by first|(simp;done)|(simp;omega)) bZ) (.tmp U .nil)) U (.cons _ (.refl _)) aM ?_
 exact⟨rfl,rfl⟩
theorem fit_f {N:Heaplet} {ao:Option Addr} {n ca:Nat} {a:List UInt64} (ha:RSl N 1 ao n ca (u64s a)) (hn:n≤1099511627774):Fn Tryz.prog 136 #[.slice ao n ca] [] [N] (fun v L=>v=.tuple #[wo (fitV (v64 a)),.bool (decide (v64 a<WW))]∧L= []):=by
 by_cases h:v64 a<WW
 ·have:=fit_y ha hn h
  rw [fitV_y h,decide_eq_true h];exact this
 ·have:=fit_n ha hn h
  rw [fitV_n h,decide_eq_false h];exact this
theorem limbs_le {V k:Nat} (h:V<2^k):(limbsOf V).length≤(k+63)/64:=by
 rw [length_limbsOf]
 have:=bitLen_le.2 h
 omega
theorem limbs_nil {V:Nat} :(limbsOf V).length=0↔V=0:=by
 rw [length_limbsOf]
 have h:=bitLen_le (n:=V) (k:=0)
 rw [Nat.pow_zero]at h
 omega
theorem u64_mul {a b:Nat} (x y:UInt64) (hx:x.toNat=a) (hy:y.toNat=b) (h:a*b<18446744073709551616):(x*y).toNat=a*b:=by
 rw [UInt64.toNat_mul,hx,hy,Nat.mod_eq_of_lt h]
theorem bT_len {x k:Nat} (h:x≤600000000) (hk:k≤700):(limbsOf (bT x k)).length≤100:=Nat.le_trans (limbs_le (bT_lt h)) (by omega)
theorem bS_len {x k:Nat} (h:x≤600000000) (hk:k≤700):(limbsOf (bS x k)).length≤100:=Nat.le_trans (limbs_le (bS_lt h k)) (by omega)
theorem bTx_len {x k:Nat} (h:x≤600000000) (hk:k≤700):(limbsOf (bT x k*x)).length≤100:=Nat.le_trans (limbs_le (bTx_lt h)) (by omega)
theorem blobQ_len {x k:Nat} (h:x≤600000000) (h0:bT x k=0) (hk:k≤700):(limbsOf (blobQ x)).length≤100:=by
 rw [←blobQ_eq h0 hk]
 exact Nat.le_trans (limbs_le (Nat.lt_of_le_of_lt (Nat.div_le_self ..) (bS_lt h k))) (by omega)
theorem WNot_0:Fn Tryz.prog 138 #[.agg #[.int .u64 0,.int .u64 0,.int .u64 0,.int .u64 0]] [] [] (fun v L=>v=wo (WW- 1)∧L= []):=by
 have:=WNot_f (x:=0) WW_pos
 rw [wo_zero,Nat.sub_zero]at this
 exact this
set_option maxRecDepth 100000 in
set_option maxHeartbeats 2000000 in
theorem FBlobFee_f (x:UInt64):Fn Tryz.prog 86 #[.int .u64 (x.toNat:Int)] [] [] (fun v L=>v=wo (blobF x.toNat)∧L= []):=by
 have hWp:=WW_pos
 refine Fn.enter (vs:= [.int .u64 (x.toNat:Int)]) Tryz.func86 U U U ?_
 intro E R hR
 change At _ _ E [R] _
 refine aC fun _ s_1=>aA (bE aZ ze26 U (fun N2 b2 B2=>?_))
 change Blk N2 b2 _ [.int .u64 0,.int .u64 0,.int .u64 0,.int .u64 0]at B2
 refine aB (s_1 (aC fun _ s_2=>aA (op_buildA (out:= [.int .u64 0,.int .u64 0,.int .u64 0,.int .u64 0]) aD ze26 ae26 .nil U U (aH aZ (.cons U .nil) (WNot_0) Tryz.func138 U U (by simp) U ?_))))
 rintro _ _ ⟨rfl,rfl⟩
 show At _ _ _ [N2,R] _
 refine bE aZ ze26 U (fun N3 b3 B3=>?_)
 change Blk N3 b3 _ [.int .u64 0,.int .u64 0,.int .u64 0,.int .u64 0]at B3
 refine aX nxQ sz26 U U U U U B3 (by simp) sel0 (fun N3 B3=>?_)
 rw [setL_whole (by simp)]at B3
 refine aB (s_2 (aC fun _ s_3=>aC fun _ s_4=>aA (aF U U (op_gtr aD U U U (aB (s_4 (aO U (fun c12=>?_) (fun c12=>?_))))))))
 ·have hF:WW- 1=blobF x.toNat:=by rw [blobF,if_pos (by omega)]
  refine aC fun _ s_5=>aA ?_
  refine aY (ds:=u64s (wl (WW- 1))) aD ag26 U B3 (by first|(rw [List.drop_zero,List.take_of_length_le (by first|(simp;done)|(simp;omega))];done)|rfl) (by first|(simp;done)|(simp;omega)) bZ U ?_
  refine aX nxQ sz26 U U U U U B2 (by simp) sel1 (fun N2 B2=>?_)
  rw [setL_whole (by simp),hF]at B2
  refine aB (s_5 (aR (aJ ((a7 ?_)))))
  refine aW (L1:= []) U (.cell U (res_agg (ds:=u64s (wl (blobF x.toNat))) ag26 B2 (by first|(rw [List.drop_zero,List.take_of_length_le (by first|(simp;done)|(simp;omega))];done)|rfl) (by first|(simp;done)|(simp;omega)) bZ) .nil) (.cons _ (.refl _)) aM ?_
  exact⟨rfl,rfl⟩
 have hx6:x.toNat≤600000000:=by omega
 have hbf:blobF x.toNat=capW (blobQ x.toNat):=by rw [blobF,if_neg (by omega)]
 refine aQ (aE (s_3 (aC fun _ s_6=>aA (aH aZ (.cons U .nil) (small_f 0) Tryz.func132 U U (by simp) U ?_))))
 rintro _ _ ⟨N14,p14,c14,rfl,rfl,s14⟩
 show At _ _ _ [N14,N3,N2,R] _
 refine aH aZ (.cons U .nil) (small_f 3338477) Tryz.func132 U U (by simp) U ?_
 rintro _ _ ⟨N15,p15,c15,rfl,rfl,s15⟩
 show At _ _ _ [N15,N14,N3,N2,R] _
 refine aG U U (aG U U (aB (s_6 (aC fun _ s_7=>aC fun _ s_8=>aA (aG U U (aB (s_8 (aT (bI (cH (bI (cH (bI ?_)))))))))))))
 refine cF (fun fr_ hp_ ms_=> ∃(k:Nat) (i:UInt64) (a b:List UInt64) (pa pb:Option Addr) (na nb ca cb:Nat) (Na Nb:Heaplet),fr_= [(0,.int .u64 (x.toNat:Int)),(2,.pointer (some ⟨b2,0,none⟩)),(3,.pointer (some ⟨b3,0,none⟩)),(4,.slice pa na ca),(5,.slice pb nb cb),(6,.int .u64 (i.toNat:Int))]∧hp_= [Na,Nb,N2,N3,R]∧701- k=ms_∧(k≤700)∧(i.toNat=k+1)∧(RSl Na 1 pa na ca (u64s a))∧(RSl Nb 1 pb nb cb (u64s b))∧(v64 a=bS x.toNat k)∧(v64 b=bT x.toNat k)∧(na≤100)∧(nb≤100)) ?_ aM ⟨0,1,[0],[3338477],p14,p15,1,1,c14,c15,N14,N15,rfl,rfl,rfl,by omega,rfl,s14,s15,by rw [v64_x1];rfl,by rw [v64_x1];rfl,by omega,by omega⟩ ?_
 ·repeat first|apply bD|exact .nil|exact lkI rfl (by omega)|rfl
 rintro _ _ _ ⟨k,i,a,b,pa,pb,na,nb,ca,cb,Na,Nb,rfl,rfl,rfl,hkk,hi,sa,sb,hva,hvb,hna,hnb⟩
 have hmul:(3338477*i).toNat=3338477*(k+1):=u64_mul _ _ rfl hi (by omega)
 refine aC fun _ s_9=>aC fun _ s_10=>aA (aF U U (aH aZ (.cons U .nil) (Trim_f sb) Tryz.func139 U U (by simp) U ?_))
 rintro _ _ ⟨rfl,rfl,t17,l17⟩
 show At _ _ _ [Na,Nb,N2,N3,R] _
 refine bG aD se200 U U (op_gtr aD U U U (aB (s_10 (aO U (fun c19=>?_) (fun c19=>?_)))))
 ·have hne:bT x.toNat k≠0:=by
   intro h0
   rw [hvb,limbs_nil.2 h0]at c19
   exact absurd c19 (by decide)
  have hk1:k+1≤700:=bT_on hx6 hkk hne
  refine aQ (aE (s_9 (aC fun _ s_11=>aT (aC fun _ s_12=>aA (aF U U (aF U U (aH aZ (.cons U (.cons U .nil)) (Add_f sa sb (by omega) (by omega)) Tryz.func134 U U (by simp) U ?_)))))))
  rintro _ _ ⟨N24,p24,c24,rfl,rfl,s24⟩
  show At _ _ _ [N24,Na,Nb,N2,N3,R] _
  rw [hva,hvb, ←bS_s]at s24⊢
  refine aG U U (aB (s_12 (aA (aF U U (aF U U (aH aZ (.cons U .nil) (small_f x) Tryz.func132 U U (by simp) U ?_))))))
  rintro _ _ ⟨N27,p27,c27,rfl,rfl,s27⟩
  show At _ _ _ [N27,N24,Na,Nb,N2,N3,R] _
  refine aH aZ (.cons U (.cons U .nil)) (Mul_f sb s27 (by omega) (by omega)) Tryz.func130 U U (by simp) U ?_
  rintro _ _ ⟨N28,p28,c28,rfl,rfl,s28⟩
  show At _ _ _ [N28,N27,N24,Na,Nb,N2,N3,R] _
  rw [hvb,v64_x1]at s28⊢
  refine aF U U (op_mulU (a:=3338477) aD U U U (aH aZ (.cons U (.cons U .nil)) (over_f s28 (Nat.le_trans (bTx_len hx6 hkk) (by decide)) (3338477*i) (by omega)) Tryz.func131 U U (by simp) U ?_))
  rintro _ _ ⟨N31,p31,c31,rfl,rfl,s31⟩
  show At _ _ _ [N31,N28,N27,N24,Na,Nb,N2,N3,R] _
  rw [v64_limbsOf,hmul, ←bT_s]at s31⊢
  refine aG U U (At.opsNil (a0 (aE (s_11 (aA (aF U U (op_addU (b:=1) aD U U U (aG U U (aB (dropAt5 (dropAt4 (cA (a7 (bI (bI (bI (cH (bI ?_))))))))))))))))))
  refine bQ ?_ aM ⟨k+1,i+1,limbsOf (bS x.toNat (k+1)),limbsOf (bT x.toNat (k+1)),p24,p31,(limbsOf (bS x.toNat (k+1))).length,(limbsOf (bT x.toNat (k+1))).length,c24,c31,N24,N31,rfl,rfl,rfl,hk1,by rw [UInt64.toNat_add,hi];show(k+1+1) % 18446744073709551616=_;omega,s24,s31,v64_limbsOf _,v64_limbsOf _,bS_len hx6 hk1,bT_len hx6 hk1⟩ ?_
  ·repeat first|apply bD|exact .nil|exact lkI rfl (by omega)|rfl
  ·omega
 have h0:bT x.toNat k=0:=by
  rw [hvb]at c19
  exact limbs_nil.1 (by omega)
 refine bW (aK (aK (bH (aE (s_7 (aC fun _ s_13=>aC fun _ s_14=>aA (aF U U (aH aZ (.cons U (.cons U .nil)) (over_f sa (by omega) 3338477 (by decide)) Tryz.func131 U U (by simp) U ?_))))))))
 rintro _ _ ⟨N34,p34,c34,rfl,rfl,s34⟩
 show At _ _ _ [N34,Na,Nb,N2,N3,R] _
 rw [hva,show(3338477:UInt64).toNat=3338477 from rfl,blobQ_eq h0 hkk]at s34⊢
 refine aH aZ (.cons U .nil) (fit_f s34 (Nat.le_trans (blobQ_len hx6 h0 hkk) (by decide))) Tryz.func136 U U (by simp) U ?_
 rintro _ _ ⟨rfl,rfl⟩
 show At _ _ _ [N34,Na,Nb,N2,N3,R] _
 rw [v64_limbsOf]
 refine aF U U (aN aD U U U (aN aD U U U (bE aZ ze26 U (fun N7 b7 B7=>?_))))
 change Blk N7 b7 _ [.int .u64 0,.int .u64 0,.int .u64 0,.int .u64 0]at B7
 refine aX nxQ sz26 U U U U U B7 (by simp) sel0 (fun N7 B7=>?_)
 rw [setL_whole (by simp)]at B7
 refine aG U U (aB (s_14 (aC fun _ s_15=>aA (aF U U (aB (s_15 (aO U (fun c38=>?_) (fun c38=>?_))))))))
 ·have hF:fitV (blobQ x.toNat)=blobF x.toNat:=by rw [hbf,fitV_y (by assumption),capW,if_pos (by assumption)]
  refine aC fun _ s_16=>aA ?_
  refine aY (ds:=u64s (wl (fitV (blobQ x.toNat)))) aD ag26 U B7 (by first|(rw [List.drop_zero,List.take_of_length_le (by first|(simp;done)|(simp;omega))];done)|rfl) (by first|(simp;done)|(simp;omega)) bZ U ?_
  refine aX nxQ sz26 U U U U U B2 (by simp) sel4 (fun N2 B2=>?_)
  rw [setL_whole (by simp),hF]at B2
  refine aB (s_16 (aR (aJ ((dropAt5 (dropAt4 (dropAt3 (cA (a7 ?_)))))))))
  refine aW (L1:= []) U (.cell U (res_agg (ds:=u64s (wl (blobF x.toNat))) ag26 B2 (by first|(rw [List.drop_zero,List.take_of_length_le (by first|(simp;done)|(simp;omega))];done)|rfl) (by first|(simp;done)|(simp;omega)) bZ) .nil) (.cons _ (.refl _)) aM ?_
  exact⟨rfl,rfl⟩
 have hF:WW- 1=blobF x.toNat:=by rw [hbf,capW,if_neg (by assumption)]
 refine aQ (aE (s_13 (aC fun _ s_17=>aA ?_)))
 refine aY (ds:=u64s (wl (WW- 1))) aD ag26 U B3 (by first|(rw [List.drop_zero,List.take_of_length_le (by first|(simp;done)|(simp;omega))];done)|rfl) (by first|(simp;done)|(simp;omega)) mem5 U ?_
 refine aX nxQ sz26 U U U U U B2 (by simp) sel4 (fun N2 B2=>?_)
 rw [setL_whole (by simp),hF]at B2
 refine aB (s_17 (aR ((dropAt5 (dropAt4 (dropAt3 (cA (a7 ?_))))))))
 refine aW (L1:= []) U (.cell U (res_agg (ds:=u64s (wl (blobF x.toNat))) ag26 B2 (by first|(rw [List.drop_zero,List.take_of_length_le (by first|(simp;done)|(simp;omega))];done)|rfl) (by first|(simp;done)|(simp;omega)) bZ) .nil) (.cons _ (.refl _)) aM ?_
 exact⟨rfl,rfl⟩
end Go.Proofs.YtjfagifjajielaaGreat
