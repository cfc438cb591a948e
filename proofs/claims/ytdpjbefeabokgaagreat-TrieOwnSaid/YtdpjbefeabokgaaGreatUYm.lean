/- Layer 12, the reference: a key's value is taken away, laid. No condition but bounds. -/
import Derived.Test.YtdpjbefeabokgaaGreatU14
set_option linter.unusedSimpArgs false
set_option linter.unusedVariables false
namespace Go.Proofs.YtdpjbefeabokgaaGreat
open Go Go.RowKit
set_option maxRecDepth 100000
def RefO (bt:Nat) (Nt Nk Nv Ne:Heaplet) (R0:List PR):Prop:= ∃ka kc va vc ks vs,Blk Nt bt 52 [.slice ka R0.length kc,.slice va R0.length vc]∧Row Nk 23 1 ka R0.length kc ks∧Row Nv 23 1 va R0.length vc vs∧Bags Ne ks (R0.map Prod.fst)∧Bags Ne vs (R0.map Prod.snd)∧Good R0
theorem RefO.s {bt:Nat} {Nt Nk Nv Ne J:Heaplet} {R0:List PR} (h:RefO bt Nt Nk Nv Ne R0) (h1:Nt.le J) (h2:Nk.le J) (h3:Nv.le J) (h4:Ne.le J):RefS J bt R0:=by
 obtain⟨ka,kc,va,vc,ks,vs,g1,g2,g3,g4,g5,g6⟩:=h
 exact⟨ka,kc,va,vc,ks,vs,g1.le h1,g2.rsl.le h2,g3.rsl.le h3,g4.le h4,g5.le h4,g6⟩
theorem Fn.dupN {P:Program} {f:FuncId} {args:Array Value} {L0:List Heaplet} {K:Heaplet} {Post:Value→List Heaplet→Prop} (h:Fn P f args L0 [K,K] Post):Fn P f args L0 [K] Post:=h.liftN fun N hN=>by
 simp only [List.mem_cons,List.not_mem_nil,or_false]at hN
 rcases hN with rfl|rfl<;>exact Heaplet.le_refl _
theorem del_take {k:List UInt8} {R0:List PR} {i:Nat} {p:PR} (h:R0[i]? =some p):delM k (R0.take (i+1))=delM k (R0.take i)++(if p.1=k then []else [p]):=by
 rw [take_next1 h,delM,List.filter_append]
 by_cases e:p.1=k<;>simp [delM,e]
theorem Bags.one {N:Heaplet} {us:List Value} {gs:List (List UInt8)} {a:Option Addr} {c:Nat} {g:List UInt8} (h:Bags N us gs) (hr:RSl N 1 a g.length c (u8s g)):Bags N (us++ [.slice a g.length c]) (gs++ [g]):=by
 refine⟨by simp [h.len],fun i y hy=>?_⟩
 rcases snoc_get hy with ⟨hi,hy⟩|⟨hi,rfl⟩
 ·obtain⟨q,d,h1,h2⟩:=h.rsl i y hy
  exact⟨q,d,get_snoc_l h1,h2⟩
 ·exact⟨a,c,get_snoc_r (by rw [hi,h.len]),hr⟩
theorem bags_one {N:Heaplet} {us:List Value} {gs:List (List UInt8)} (h:Bags N us gs): ∀u∈us,u.oneCell'=true:=fun u hu=>by
 obtain⟨i,hi,rfl⟩:=List.mem_iff_getElem.1 hu
 obtain⟨q,d,h1,_⟩:=h.rsl i (gs[i]'(by rw [←h.len];exact hi)) (List.getElem?_eq_getElem _)
 rw [List.getElem?_eq_getElem hi]at h1
 rw [Option.some.inj h1];rfl
section
variable {Nt Nk Nv Ne K V : Heaplet} {bt : Nat} {R0 : List PR} {ka va : Option Addr} {kn kc vn vc : Nat} {k v : List UInt8}
set_option maxHeartbeats 2000000 in
theorem rDelete_o (h:RefO bt Nt Nk Nv Ne R0) (hk:RSl K 1 ka kn kc (u8s k)) (hc:R0.length≤1000000):Fn Tryz.prog 25 #[.pointer (some ⟨bt,0,none⟩),.slice ka kn kc] [Nt,Nk,Nv,Ne] [K] (fun x L=> ∃Nt Nk Nv Ne,x=.bool (hasM k R0)∧L= [Nt,Nk,Nv,Ne]∧RefO bt Nt Nk Nv Ne (delM k R0)):=by
 have hO:=h
 obtain⟨aa,ac,ba,bc,ks,vs,Bt,rk,rv,bk,bv,hG⟩:=h
 have sk:=rk.rsl
 have sv:=rv.rsl
 have hcap:=sk.cap63
 have hcap2:=sv.cap63
 refine Fn.enter (vs:= [.pointer (some ⟨bt,0,none⟩),.slice ka kn kc]) Tryz.func25 rfl rfl rfl ?_
 intro E R hR
 have hk:=hk.le (hR K (by simp))
 change At _ _ E [Nt,Nk,Nv,Ne,R] _
 refine At.seq fun _ s_1=>At.region (aE (aD rfl) rfl rfl (aA (aB (s_1 (At.seq fun _ s_2=>At.region (aC (aD rfl) rfl rfl (aC (aD rfl) rfl rfl (aJ (bA rfl) (.cons rfl (.cons rfl .nil)) (Fn.overJ (Ns:= [Nt,Nk,Nv,Ne,R]) fun J hJ=>(rAt (hO.s (hJ _ (by simp)) (hJ _ (by simp)) (hJ _ (by simp)) (hJ _ (by simp))) (hk.le (hJ _ (by simp)))).dupN) Tryz.func54 rfl rfl (by simp) rfl ?_))))))))
 rintro v11 L11 ⟨z,rfl,rfl,hat⟩
 change At _ _ _ [Nt,Nk,Nv,Ne,R] _
 refine aE (aD rfl) rfl rfl (aA (aB (s_2 (At.seq fun _ s_3=>At.seq fun _ s_4=>At.region (aC (aD rfl) rfl rfl (op_lss (aD rfl) rfl rfl rfl (aA (aB (s_4 (aK rfl (fun c13=>?_) (fun c13=>?_)))))))))))
 ·refine At.seq fun _ s_5=>At.region (aE (aD rfl) rfl rfl (aA (aB (s_5 (At.ret (aM ((aW (L1:= [Nt,Nk,Nv,Ne]) rfl (.tmp rfl .nil) (.refl _) (.refl _) ?_))))))))
  have hn:hasM k R0=false:=by
   rcases hat with ⟨q,_⟩|⟨i,x,e,_⟩
   ·exact q
   ·omega
  exact⟨Nt,Nk,Nv,Ne,by rw [hn],rfl,by rw [del_none hn];exact hO⟩
 obtain⟨j,x,rfl,hjx⟩:=hat.resolve_left fun q=>c13 (by rw [q.2];decide)
 have hjl:j<R0.length:=(List.getElem?_eq_some_iff.1 hjx).1
 obtain⟨hg1,hg2⟩:=get_at hG.dis hjx
 refine At.skip (aB (s_3 (At.seq fun _ s_6=>At.region (aE (aD rfl) rfl rfl (aE (aD rfl) rfl rfl (aA (aB (s_6 (At.seq fun _ s_7=>At.seq fun _ s_8=>At.region (aE (aD rfl) rfl rfl (aA (aB (s_8 (At.block (At.empty (At.empty (At.perm bV (At.perm bV (At.perm bV (At.perm bV ?_))))))))))))))))))))
 refine At.perm bV (At.perm sel5 (At.perm bV (At.loop (fun fr_ hp_ ms_=> ∃(i m:Nat) (a b:Option Addr) (ca cb:Nat) (us bs:List Value) (Na Nb:Heaplet),fr_= [(0,.pointer (some ⟨bt,0,none⟩)),(5,.int .i64 (j:Int)),(6,.slice a m ca),(7,.slice b m cb),(8,.int .i64 (i:Int))]∧hp_= [Na,Nb,Nt,Nk,Nv,Ne,R]∧R0.length- i=ms_∧(i≤R0.length)∧(m=(delM k (R0.take i)).length)∧(m≤i)∧(Row Na 23 1 a m ca us)∧(Row Nb 23 1 b m cb bs)∧(Bags Ne us ((delM k (R0.take i)).map Prod.fst))∧(Bags Ne bs ((delM k (R0.take i)).map Prod.snd))) ?_ (.refl _) ⟨0,0,none,none,0,0,[],[],nilH,nilH,rfl,rfl,rfl,Nat.zero_le _,rfl,Nat.le_refl _,Row.nil _ _ _,Row.nil _ _ _,Bags.nil _,Bags.nil _⟩ ?_)))
 ·exact .cons (by first|exact aP rfl (by omega)|rfl) (.cons (by first|exact aP rfl (by omega)|rfl) (.cons (by first|exact aP rfl (by omega)|rfl) (.cons (by first|exact aP rfl (by omega)|rfl) (.cons (by first|exact aP rfl (by omega)|rfl) .nil))))
 rintro _ _ _ ⟨i,m,a,b,ca,cb,us,bs,Na,Nb,rfl,rfl,rfl,hi,hm,hm2,ra,rb,ba,bb⟩
 refine At.seq fun _ s_9=>At.seq fun _ s_10=>At.region (aC (aD rfl) rfl rfl (aC (aD rfl) rfl rfl (aQ (aD rfl) rfl rfl (aF (aD rfl) fl52_0 rfl rfl (aI (aD rfl) sc22 rfl Bt (by first|rfl) bB rfl ?_)))))
 refine aU (aD rfl) se22 rfl rfl (op_lss (aD rfl) rfl rfl rfl (aA (aB (s_10 (aK rfl (fun c20=>?_) (fun c20=>?_))))))
 ·obtain⟨p,hp⟩: ∃p,R0[i]? =some p:=⟨_,List.getElem?_eq_getElem (by omega)⟩
  obtain⟨ya,yc,hkc,hks⟩:=bags_at (f:=Prod.fst) bk hp
  obtain⟨xa,xc,hvc,hvs⟩:=bags_at (f:=Prod.snd) bv hp
  refine At.skip (aB (s_9 (At.seq fun _ s_11=>At.block (At.seq fun _ s_12=>At.region (aC (aD rfl) rfl rfl (aC (aD rfl) rfl rfl (op_neq (aD rfl) rfl rfl rfl (aA (aB (s_12 (aK rfl (fun c25=>?_) (fun c25=>?_))))))))))))
  ·have hpk:p.1≠k:=fun e=>by
    have h1:=hG.dis.eq (List.mem_of_getElem? hp) (List.mem_of_getElem? hjx) e
    have h2:i<(R0.map Prod.fst).length:=by rw [List.length_map];omega
    have h3:=(List.getElem?_inj h2 hG.dis (j:=j)).1 (by rw [List.getElem?_map,List.getElem?_map,hp,hjx,h1])
    exact c25 (by rw [h3])
   refine At.seq fun _ s_13=>At.region (aC (aD rfl) rfl rfl (aC (aD rfl) rfl rfl (aQ (aD rfl) rfl rfl (aF (aD rfl) fl52_0 rfl rfl (aI (aD rfl) sc22 rfl Bt (by first|rfl) bB rfl ?_)))))
   refine aC (aD rfl) rfl rfl (bI (aD rfl) se22 rfl rfl sk (show _=(((i:Nat)):Int)from by omega) (by omega) rfl ?_)
   refine aT (aD rfl) sc23 rfl sk (by first|exact get8 (by omega)|exact bT (by omega)|exact bU (by omega)|exact hkc) (by first|exact aL|exact aZ|exact bB|exact bF|exact bG|exact bH|exact bL|exact bK|exact bJ|exact bM) rfl ?_
   refine op_lit (bA rfl) Tryz.underlying22 ze23 sz23 (.cons rfl .nil) rfl rfl (by simp [Value.cells]) rfl rfl rfl (fun N34 a34 r34=>?_)
   simp only [flatV,List.flatMap_cons,List.flatMap_nil,Value.cells,List.append_nil,List.cons_append,List.nil_append]at r34
   have s34:=r34.rsl
   refine bE (nxl rfl) Tryz.underlying22 Tryz.underlying22 te23 rfl rfl ra s34 (by first|exact aL|exact aZ|exact bB|exact bF|exact bG|exact bH|exact bL|exact bK|exact bJ|exact bM) (by intro u hu;simp at hu;subst hu;rfl) (by omega) (by omega) sel1 rfl (fun N35 a35 p35 r35=>?_)
   have s35:=r35.rsl
   refine aE (aD rfl) rfl rfl (aA (aB (s_13 (At.region (aC (aD rfl) rfl rfl (aC (aD rfl) rfl rfl (aQ (aD rfl) rfl rfl (aF (aD rfl) fl52_1 rfl rfl (aI (aD rfl) sc22 rfl Bt (by first|rfl) bF rfl ?_)))))))))
   refine aC (aD rfl) rfl rfl (bI (aD rfl) se22 rfl rfl sv (show _=(((i:Nat)):Int)from by omega) (by omega) rfl ?_)
   refine aT (aD rfl) sc23 rfl sv (by first|exact get8 (by omega)|exact bT (by omega)|exact bU (by omega)|exact hvc) (by first|exact aL|exact aZ|exact bB|exact bF|exact bG|exact bH|exact bL|exact bK|exact bJ|exact bM) rfl ?_
   refine op_lit (bA rfl) Tryz.underlying22 ze23 sz23 (.cons rfl .nil) rfl rfl (by simp [Value.cells]) rfl rfl rfl (fun N44 a44 r44=>?_)
   simp only [flatV,List.flatMap_cons,List.flatMap_nil,Value.cells,List.append_nil,List.cons_append,List.nil_append]at r44
   have s44:=r44.rsl
   refine bE (nxl rfl) Tryz.underlying22 Tryz.underlying22 te23 rfl rfl rb s44 (by first|exact aL|exact aZ|exact bB|exact bF|exact bG|exact bH|exact bL|exact bK|exact bJ|exact bM) (by intro u hu;simp at hu;subst hu;rfl) (by omega) (by omega) sel3 rfl (fun N45 a45 p45 r45=>?_)
   have s45:=r45.rsl
   refine aE (aD rfl) rfl rfl (aA (aR (aB (s_11 (At.region (aC (aD rfl) rfl rfl (aV (aD rfl) rfl rfl (by omega) (by omega) rfl (aE (aD rfl) rfl rfl (aA (aB (At.sub (L':= [N45,N35,Nt,Nk,Nv,Ne,R]) (.cons_cons _ (.cons _ (.cons_cons _ (.cons _ (.cons_cons _ (.cons_cons _ (.cons_cons _ (.cons_cons _ (.cons_cons _ (.slnil)))))))))) (At.perm bV (At.perm bV (At.perm bV (At.perm bV (At.perm bV (At.perm sel5 (At.perm bV ?_))))))))))))))))))
   refine bD ?_ (.refl _) ⟨i+1,m+1,a35,a45,p35,p45,us++ [.slice ya p.1.length yc],bs++ [.slice xa p.2.length xc],N35,N45,rfl,rfl,rfl,by omega,by rw [del_take hp,if_neg hpk,List.length_append,hm];rfl,by omega,r35,r45,by rw [del_take hp,if_neg hpk,List.map_append];exact ba.one hks,by rw [del_take hp,if_neg hpk,List.map_append];exact bb.one hvs⟩ ?_
   ·exact .cons (by first|exact aP rfl (by omega)|rfl) (.cons (by first|exact aP rfl (by omega)|rfl) (.cons (by first|exact aP rfl (by omega)|rfl) (.cons (by first|exact aP rfl (by omega)|rfl) (.cons (by first|exact aP rfl (by omega)|rfl) .nil))))
   ·omega
  have hpk:p.1=k:=by
   have:i=j:=by omega
   rw [this,hjx]at hp
   rw [←Option.some.inj hp]
  refine At.skip (aR (aB (s_11 (At.region (aC (aD rfl) rfl rfl (aV (aD rfl) rfl rfl (by omega) (by omega) rfl (aE (aD rfl) rfl rfl (aA (aB ?_)))))))))
  refine bD ?_ (.refl _) ⟨i+1,m,a,b,ca,cb,us,bs,Na,Nb,rfl,rfl,rfl,by omega,by rw [del_take hp,if_pos hpk,List.append_nil,hm],by omega,ra,rb,by rw [del_take hp,if_pos hpk,List.append_nil];exact ba,by rw [del_take hp,if_pos hpk,List.append_nil];exact bb⟩ ?_
  ·exact .cons (by first|exact aP rfl (by omega)|rfl) (.cons (by first|exact aP rfl (by omega)|rfl) (.cons (by first|exact aP rfl (by omega)|rfl) (.cons (by first|exact aP rfl (by omega)|rfl) (.cons (by first|exact aP rfl (by omega)|rfl) .nil))))
  ·omega
 refine At.exit (aG (aG (bC (aB (s_7 (At.seq fun _ s_14=>At.region (aC (aD rfl) rfl rfl (aC (aD rfl) rfl rfl (aQ (aD rfl) rfl rfl (aF (aD rfl) fl52_0 rfl rfl (aO (nxl rfl) sz22 rfl rfl rfl rfl rfl Bt (by simp) sel2 (fun Nt Bt=>?_))))))))))))
 simp only [setL,List.set]at Bt
 refine aA (aB (s_14 (At.seq fun _ s_15=>At.region (aC (aD rfl) rfl rfl (aC (aD rfl) rfl rfl (aQ (aD rfl) rfl rfl (aF (aD rfl) fl52_1 rfl rfl (aO (nxl rfl) sz22 rfl rfl rfl rfl rfl Bt (by simp) sel0 (fun Nt Bt=>?_)))))))))
 simp only [setL,List.set]at Bt
 refine aA (aB (s_15 (At.seq fun _ s_16=>At.region (aE (aD rfl) rfl rfl (aA (aB (s_16 (At.ret ((At.sub (L':= [Nt,Na,Nb,Ne,R]) (.cons_cons _ (.cons_cons _ (.cons_cons _ (.cons _ (.cons _ (.cons_cons _ (.cons_cons _ (.slnil)))))))) (aW (L1:= [Nt,Na,Nb,Ne]) rfl (.tmp rfl .nil) (.refl _) (.refl _) ?_)))))))))))
 rw [List.take_of_length_le (by omega)]at hm ba bb
 rw [hm]at ra rb Bt
 exact⟨Nt,Na,Nb,Ne,by rw [hg2],rfl,a,ca,b,cb,us,bs,Bt,ra,rb,ba,bb,hG.del k⟩
set_option maxHeartbeats 2000000 in
theorem rPut_o (h:RefO bt Nt Nk Nv Ne R0) (hk:RSl K 1 ka kn kc (u8s k)) (hv:RSl V 1 va vn vc (u8s v)) (hkn:kn≤40) (hvn:vn≤1000000) (hc:R0.length≤1000000):Fn Tryz.prog 27 #[.pointer (some ⟨bt,0,none⟩),.slice ka kn kc,.slice va vn vc] [Nt,Nk,Nv,Ne] [K,V] (fun x L=> ∃Nt Nk Nv Ne,x=.tuple #[]∧L= [Nt,Nk,Nv,Ne]∧RefO bt Nt Nk Nv Ne (putM k v R0)):=by
 have hkl:=hk.len8
 have hvl:=hv.len8
 have hdl:(delM k R0).length≤R0.length:=List.length_filter_le _ _
 have hG0:Good R0:=by obtain⟨_,_,_,_,_,_,_,_,_,_,_,hG⟩:=h;exact hG
 refine Fn.enter (vs:= [.pointer (some ⟨bt,0,none⟩),.slice ka kn kc,.slice va vn vc]) Tryz.func27 rfl rfl rfl ?_
 intro E R hR
 have hk:=hk.le (hR K (by simp))
 have hv:=hv.le (hR V (by simp))
 change At _ _ E [Nt,Nk,Nv,Ne,R] _
 refine At.seq fun _ s_1=>At.region (aC (aD rfl) rfl rfl (aC (aD rfl) rfl rfl (op_call (nxl rfl) (.cons rfl (.cons rfl .nil)) (rDelete_o h hk hc) (F:= [R]) Tryz.func25 rfl rfl (.refl _) (by simp) rfl ?_)))
 rintro v8 L8 ⟨Nt,Nk,Nv,Ne,rfl,rfl,hO⟩
 change At _ _ _ [Nt,Nk,Nv,Ne,R] _
 obtain⟨aa,ac,ba,bc,ks,vs,Bt,rk,rv,bk,bv,hG⟩:=id hO
 refine aA (aB (s_1 (At.seq fun _ s_2=>At.region (aC (aD rfl) rfl rfl (aU (aD rfl) se23 rfl rfl (op_gtr (aD rfl) rfl rfl rfl (aA (aB (s_2 (aK rfl (fun c11=>?_) (fun c11=>?_)))))))))))
 ·refine At.seq fun _ s_3=>At.perm sel0 (At.perm sel4 (At.perm sel4 (At.perm sel4 (At.perm sel4 (At.drawnS [R,Nt] [9,12] [0,1,6] [0,1,2,3,4,6,5,7,8,9,10,11,12] (by kernel_rfl) (by kernel_rfl) (.cons _ (.cons _ (.cons _ (.refl _)))) (aC (aX rfl rfl rfl) rfl rfl (aC (aX rfl rfl rfl) rfl rfl (aQ (aX rfl rfl rfl) rfl rfl (aF (aX rfl rfl rfl) fl52_0 rfl rfl (aI (aX rfl rfl rfl) sc22 rfl Bt (by first|rfl) aZ rfl ?_))))))))))
  refine aC (aX rfl rfl rfl) rfl rfl (op_lit (Nx.agree (nxsm rfl rfl rfl)) Tryz.underlying23 ze5 sz5 .nil rfl rfl (by simp [Value.cells]) rfl rfl rfl (fun N17 a17 r17=>?_))
  simp only [flatV,List.flatMap_cons,List.flatMap_nil,Value.cells,List.append_nil,List.cons_append,List.nil_append]at r17
  have s17:=r17.rsl
  refine At.moreS (Lst:= [R,Nt]) (Lst':= [R,Nt]) (.refl _) (.cons _ (.cons _ (.cons _ (.cons _ (.refl _))))) ?_
  refine bE (nxsm rfl rfl rfl) Tryz.underlying23 Tryz.underlying23 te5 rfl rfl r17 hk (by first|exact aL|exact aZ|exact bB|exact bF|exact bG|exact bH|exact bL|exact bK|exact bJ|exact bM) (by first|exact one_u8s _|exact one_u64s _|exact one_u32s _|(intro u hu;simp at hu;subst hu;rfl)) (by omega) (by omega) sel0 rfl (fun N19 a19 p19 r19=>?_)
  have s19:=r19.rsl
  refine At.perm sel5 (At.perm sel5 (At.perm sel2 (At.perm sel5 (At.perm sel5 (At.perm sel5 (At.moreS (Lst:= [R,Nt]) (Lst':= [N19,R,Nt]) (.cons _ (.refl _)) (.cons _ (.cons _ (.cons _ (.refl _)))) (op_lit (Nx.agree (nxsm rfl rfl rfl)) Tryz.underlying22 ze23 sz23 (.cons rfl .nil) rfl rfl (by simp [Value.cells]) rfl rfl rfl (fun N20 a20 r20=>?_))))))))
  simp only [flatV,List.flatMap_cons,List.flatMap_nil,Value.cells,List.append_nil,List.cons_append,List.nil_append]at r20
  have s20:=r20.rsl
  refine At.moreS (Lst:= [N19,R,Nt]) (Lst':= [N19,R,Nt]) (.refl _) (.cons _ (.cons _ (.cons _ (.cons _ (.refl _))))) ?_
  have hbk:=bags_one bk
  change Row N20 _ 1 a20 1 1 [.slice a19 (0+kn) p19]at r20
  refine bE (nxss rfl rfl rfl rfl) Tryz.underlying22 Tryz.underlying22 te23 rfl rfl rk s20 (by first|exact aL|exact aZ|exact bB|exact bF|exact bG|exact bH|exact bL|exact bK|exact bJ|exact bM) (by intro u hu;simp at hu;subst hu;rfl) (by omega) (by omega) sel1 rfl (fun N21 a21 p21 r21=>?_)
  have s21:=r21.rsl
  refine At.anyS (.refl _) (aQ (aX rfl rfl rfl) rfl rfl (aF (aX rfl rfl rfl) fl52_0 rfl rfl (aO (nxsl rfl rfl rfl rfl) sz22 rfl rfl rfl rfl rfl Bt (by simp) bV (fun Nt Bt=>?_))))
  simp only [setL,List.set]at Bt
  refine At.sNil (aB (s_3 (At.perm sel0 (At.perm bV (At.perm bV (At.perm bV (At.perm bV (At.perm bV (At.perm bV (At.drawnS [R,Nt] [9,12] [0,1,6] [0,1,2,3,4,6,5,7,8,9,10,11,12] (by kernel_rfl) (by kernel_rfl) (.cons _ (.cons _ (.cons _ (.cons _ (.cons _ (.refl _)))))) (aC (aX rfl rfl rfl) rfl rfl (aC (aX rfl rfl rfl) rfl rfl (aQ (aX rfl rfl rfl) rfl rfl (aF (aX rfl rfl rfl) fl52_1 rfl rfl (aI (aX rfl rfl rfl) sc22 rfl Bt (by first|rfl) aZ rfl ?_)))))))))))))))
  refine aC (aX rfl rfl rfl) rfl rfl (op_lit (Nx.agree (nxsm rfl rfl rfl)) Tryz.underlying23 ze5 sz5 .nil rfl rfl (by simp [Value.cells]) rfl rfl rfl (fun N29 a29 r29=>?_))
  simp only [flatV,List.flatMap_cons,List.flatMap_nil,Value.cells,List.append_nil,List.cons_append,List.nil_append]at r29
  have s29:=r29.rsl
  refine At.moreS (Lst:= [R,Nt]) (Lst':= [R,Nt]) (.refl _) (.cons _ (.cons _ (.cons _ (.cons _ (.cons _ (.cons _ (.refl _))))))) ?_
  refine bE (nxsm rfl rfl rfl) Tryz.underlying23 Tryz.underlying23 te5 rfl rfl r29 hv (by first|exact aL|exact aZ|exact bB|exact bF|exact bG|exact bH|exact bL|exact bK|exact bJ|exact bM) (by first|exact one_u8s _|exact one_u64s _|exact one_u32s _|(intro u hu;simp at hu;subst hu;rfl)) (by omega) (by omega) sel0 rfl (fun N31 a31 p31 r31=>?_)
  have s31:=r31.rsl
  refine At.perm sel7 (At.perm sel7 (At.perm sel2 (At.perm sel7 (At.perm sel7 (At.perm sel7 (At.perm sel7 (At.perm sel7 (At.moreS (Lst:= [R,Nt]) (Lst':= [N31,R,Nt]) (.cons _ (.refl _)) (.cons _ (.cons _ (.cons _ (.cons _ (.cons _ (.refl _)))))) (op_lit (Nx.agree (nxsm rfl rfl rfl)) Tryz.underlying22 ze23 sz23 (.cons rfl .nil) rfl rfl (by simp [Value.cells]) rfl rfl rfl (fun N32 a32 r32=>?_))))))))))
  simp only [flatV,List.flatMap_cons,List.flatMap_nil,Value.cells,List.append_nil,List.cons_append,List.nil_append]at r32
  have s32:=r32.rsl
  refine At.moreS (Lst:= [N31,R,Nt]) (Lst':= [N31,R,Nt]) (.refl _) (.cons _ (.cons _ (.cons _ (.cons _ (.cons _ (.cons _ (.refl _))))))) ?_
  refine bE (nxss rfl rfl rfl rfl) Tryz.underlying22 Tryz.underlying22 te23 rfl rfl rv s32 (by first|exact aL|exact aZ|exact bB|exact bF|exact bG|exact bH|exact bL|exact bK|exact bJ|exact bM) (by intro u hu;simp at hu;subst hu;rfl) (by omega) (by omega) sel3 rfl (fun N33 a33 p33 r33=>?_)
  have s33:=r33.rsl
  refine At.anyS (.refl _) (aQ (aX rfl rfl rfl) rfl rfl (aF (aX rfl rfl rfl) fl52_1 rfl rfl (aO (nxsl rfl rfl rfl rfl) sz22 rfl rfl rfl rfl rfl Bt (by simp) sel8 (fun Nt Bt=>?_))))
  simp only [setL,List.set]at Bt
  refine At.sNil (At.perm sel8 (At.perm sel8 (At.perm bV (At.perm bV (At.perm bV (At.perm bV (At.perm bV (At.perm sel8 (At.perm sel8 (At.mergeN (fun P P1 P2=>At.perm sel7 (At.perm bV (At.perm bV (At.perm bV (At.perm bV (At.perm bV (At.perm sel7 (At.perm sel7 (At.mergeN (fun Q Q1 Q2=>At.sub (L':= [Q,Nt,N33,N21,R]) (.cons_cons _ (.cons_cons _ (.cons_cons _ (.cons _ (.cons_cons _ (.cons _ (.cons_cons _ (.slnil)))))))) ?_))))))))))))))))))))
  refine At.perm sel4 (At.perm sel1 (At.perm sel3 (At.perm sel4 (At.perm sel4 (At.retNE (L1:= [Nt,N21,N33,Q]) rfl .nil rfl (.refl _) (.refl _) ?_)))))
  have e:v≠ []:=fun e=>by rw [e]at hvl;simp at hvl;omega
  have ep:putM k v R0=delM k R0++ [(k,v)]:=if_neg e
  rw [Nat.zero_add]at r19 r31 r21 r33
  rw [←hkl]at r19 r21
  rw [←hvl]at r31 r33
  have el:(putM k v R0).length=(delM k R0).length+1:=by rw [ep,List.length_append];rfl
  refine⟨Nt,N21,N33,Q,rfl,rfl,a21,p21,a33,p33,_,_,by rw [el];exact Bt,by rw [el];exact r21,by rw [el];exact r33,?_,?_,hG0.put (by omega) (by omega)⟩
  ·rw [ep,List.map_append]
   exact(bk.le (Heaplet.le_trans P1 Q1)).one (r19.rsl.le (Heaplet.le_trans P2 Q1))
  ·rw [ep,List.map_append]
   exact(bv.le (Heaplet.le_trans P1 Q1)).one (r31.rsl.le Q2)
 refine At.skip (At.retNE (L1:= [Nt,Nk,Nv,Ne]) rfl .nil rfl (.refl _) (.refl _) ?_)
 have e:v= []:=List.eq_nil_of_length_eq_zero (by omega)
 exact⟨Nt,Nk,Nv,Ne,rfl,rfl,by rw [putM,if_pos e];exact hO⟩
end
end Go.Proofs.YtdpjbefeabokgaaGreat
