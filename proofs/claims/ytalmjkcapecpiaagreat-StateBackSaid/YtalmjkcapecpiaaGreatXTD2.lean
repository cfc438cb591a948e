/- StateBack: what is done between a mark and the way back to it is not seen. Condition: none. -/
import Derived.Test.YtalmjkcapecpiaaGreatX1
import Derived.Test.YtalmjkcapecpiaaGreatX25
import Derived.Test.YtalmjkcapecpiaaGreatX20
set_option linter.unusedSimpArgs false
set_option linter.unusedVariables false
namespace Go.Proofs.YtalmjkcapecpiaaGreat
open Go Go.RowKit
set_option maxRecDepth 100000
set_option maxHeartbeats 16000000 in
theorem StateBack_f {K:Heaplet} {la oa ta:Option Addr} {ln lc on oc tn tc:Nat} {ws0:List (AcA×AcI)} {os ts:List (OpM×(Option Addr×Nat))} (hl:RSl K 27 la ln lc (ws0.flatMap accC)) (hln:ws0.length=ln) (hin: ∀p∈ws0,AccIn K p) (ho:RSl K 32 oa on oc (os.flatMap opF)) (hon:os.length=on) (hv: ∀p∈os,OpV K p.1 p.2.1 p.2.2) (ht:RSl K 32 ta tn tc (ts.flatMap opF)) (htn:ts.length=tn) (hv2: ∀p∈ts,OpV K p.1 p.2.1 p.2.2):
 Fn Tryz.prog 4 #[.slice la ln lc,.slice oa on oc,.slice ta tn tc] [] [K] (fun v L=>v=.bool true∧L= []):=by
 have hoc:=ho.cap63
 have htc:=ht.cap63
 have hol: ∀y∈os,(opF y).length=32:=fun y hy=>opC_len (hv y hy).a
 have htl: ∀y∈ts,(opF y).length=32:=fun y hy=>opC_len (hv2 y hy).a
 refine Fn.enter (vs:= [.slice la ln lc,.slice oa on oc,.slice ta tn tc]) Tryz.func4 U U U ?_
 intro E R hR
 have hle:=hR K (by simp)
 have hl:=hl.le hle
 have hin: ∀p∈ws0,AccIn R p:=fun p hp=>(hin p hp).le hle
 have ho:=ho.le hle
 have hv: ∀p∈os,OpV R p.1 p.2.1 p.2.2:=fun p hp=>(hv p hp).le hle
 have ht:=ht.le hle
 have hv2: ∀p∈ts,OpV R p.1 p.2.1 p.2.2:=fun p hp=>(hv2 p hp).le hle
 change At _ _ E [R] _
 refine aH fun _ s_1=>aB (bV U U (aI (s_1 (aH fun _ s_2=>aB (bC U U (bG bT (.cons U .nil) ((FTwinsS (NB:=R) (K:=R) hl hln hin)) Tryz.func6 U U (by simp) U ?_))))))
 rintro _ _ ⟨NB,NI,a0,n0,c0,rfl,rfl,wz,hz1,hz2,hz3,hz4⟩
 show At _ _ _ [NB,NI,R] _
 refine bV U U (aI (s_2 (aH fun _ s_3=>aB (bC U U (bG bT (.cons U .nil) ((FTwinsS (NB:=NB) (K:=NI) hz1.rsl hz2 (fun p hp=>(hz4 p hp).inn))) Tryz.func6 U U (by simp) U ?_)))))
 rintro _ _ ⟨NBp,NIp,ap,np,cp,rfl,rfl,wp,hp1,hp2,hp3,hp4⟩
 show At _ _ _ [NBp,NIp,NB,NI,R] _
 have hp6:np≤30:=by(have e:=congrArg List.length hp3;rw [List.length_map,cutA,List.length_map,List.length_take]at e;omega)
 obtain⟨b,hb⟩: ∃b,wp.map Prod.fst=b:=⟨_,rfl⟩
 rw [hb]at hp3
 refine At.empty (cR nxQ (.cons U .nil) (QLoadB (c:=30) hp1.rsl hp2 (fun p hp=>(hp4 p hp).mono (by decide)) hp6 (by decide) hb) (F:= [NBp,NIp,NB,NI,R]) Tryz.func5 U U aZ (by simp) U ?_)
 rintro _ _ (⟨Np,hbad,rfl,rfl⟩|⟨Np,sp,hok,rfl,rfl,hP0⟩)
 ·show At _ _ _ [Np,NBp,NIp,NB,NI,R] _
  skip
  refine bC U U (bW aN U U U (bW aN U U U (bV U U (bV U U (aI (s_3 (aH fun _ s_4=>aB (bC U U (bG bT (.cons U .nil) ((FTwinsS (NB:=NB) (K:=NI) hz1.rsl hz2 (fun p hp=>(hz4 p hp).inn))) Tryz.func6 U U (by simp) U ?_)))))))))
  rintro _ _ ⟨NBq,NIq,aq,nq,cq,rfl,rfl,wq,hq1,hq2,hq3,hq4⟩
  show At _ _ _ [NBq,NIq,Np,NBp,NIp,NB,NI,R] _
  have hq6:nq≤30:=by(have e:=congrArg List.length hq3;rw [List.length_map,cutA,List.length_map,List.length_take]at e;omega)
  refine At.empty (cR nxQ (.cons U .nil) (QLoadF (c:=30) hq1.rsl hq2 (fun p hp=>(hq4 p hp).mono (by decide)) hq6 (by decide) (hq3.trans hp3.symm) hbad) (F:= [NBq,NIq,Np,NBp,NIp,NB,NI,R]) Tryz.func5 U U aZ (by simp) U ?_)
  rintro _ _ ⟨Nq,rfl,rfl⟩
  show At _ _ _ [Nq,NBq,NIq,Np,NBp,NIp,NB,NI,R] _
  skip
  refine bC U U (bW aN U U U (bW aN U U U (bV U U (bV U U (aI (s_4 (aH fun _ s_5=>aH fun _ s_6=>aB (bC U U (bC U U (op_neq aN U U U (bC U U (At.partP (d:=35) U (fun g35=>?_) (fun g35=>?_)))))))))))))
  ·exact absurd U g35
  refine bG (nxga U U U U) .nil (SWakes_f) Tryz.func7 U U (by simp) U ?_
  rintro _ _ ⟨rfl,rfl⟩
  show At _ _ _ [Nq,NBq,NIq,Np,NBp,NIp,NB,NI,R] _
  refine op_not (nxgf U U U U) U U (op_pickF aN U U U (aI (s_6 (At.condF U (cG (aS (s_5 (aH fun _ s_7=>aH fun _ s_8=>aB (bC U U (op_eqPO aN Tryz.underlying25 U U (bC U U (dF U U U U U U U (dF U U U U U U U (op_pickT aN U U U (aI (s_8 (At.condT U (aH fun _ s_9=>aB (bC U U (op_eqPO aN Tryz.underlying25 U U (bC U U (aR (nxgf U U U U) U U (op_eqPO (nxgf U U U U) Tryz.underlying25 U U (op_pickT aN U U U (bV U U (aI (s_9 (cK (dC ((dropAt7 (dropAt6 (dropAt5 (dropAt4 (dropAt3 (dropAt2 (cT (dropAt0 (cF (L1:= []) U (.tmp U .nil) (.refl _) aZ ?_)))))))))))))))))))))))))))))))))))))))
  exact⟨rfl,rfl⟩
 show At _ _ _ [Np,NBp,NIp,NB,NI,R] _
 refine bC U U (bW aN U U U (bW aN U U U (bV U U (bV U U (aI (s_3 (aH fun _ s_10=>aB (bC U U (bG bT (.cons U .nil) ((FTwinsS (NB:=NB) (K:=NI) hz1.rsl hz2 (fun p hp=>(hz4 p hp).inn))) Tryz.func6 U U (by simp) U ?_)))))))))
 rintro _ _ ⟨NBq,NIq,aq,nq,cq,rfl,rfl,wq,hq1,hq2,hq3,hq4⟩
 show At _ _ _ [NBq,NIq,Np,NBp,NIp,NB,NI,R] _
 have hq6:nq≤30:=by(have e:=congrArg List.length hq3;rw [List.length_map,cutA,List.length_map,List.length_take]at e;omega)
 refine At.empty (cR nxQ (.cons U .nil) (QLoadT (c:=30) hq1.rsl hq2 (fun p hp=>(hq4 p hp).mono (by decide)) hq6 (by decide) (hq3.trans hp3.symm) hok) (F:= [NBq,NIq,Np,NBp,NIp,NB,NI,R]) Tryz.func5 U U aZ (by simp) U ?_)
 rintro _ _ ⟨sq,Nq,rfl,rfl,hQ0⟩
 show At _ _ _ [Nq,NBq,NIq,Np,NBp,NIp,NB,NI,R] _
 skip
 refine bC U U (bW aN U U U (bW aN U U U (bV U U (bV U U (aI (s_10 (aH fun _ s_11=>aH fun _ s_12=>aB (bC U U (bC U U (op_neq aN U U U (bC U U (At.partP (d:=35) U (fun g35=>?_) (fun g35=>?_)))))))))))))
 ·exact absurd U g35
 refine bG (nxga U U U U) .nil (SWakes_f) Tryz.func7 U U (by simp) U ?_
 rintro _ _ ⟨rfl,rfl⟩
 show At _ _ _ [Nq,NBq,NIq,Np,NBp,NIp,NB,NI,R] _
 refine op_not (nxgf U U U U) U U (op_pickF aN U U U (aI (s_12 (At.condF U (cG (aS (s_11 (aH fun _ s_13=>aH fun _ s_14=>aB (bC U U (op_eqPO aN Tryz.underlying25 U U (bC U U (aR (nxgf U U U U) U U (op_eqPO (nxgf U U U U) Tryz.underlying25 U U (op_pickF aN U U U (aI (s_14 (At.condF U (cG (aS (s_13 (aH fun _ s_15=>At.meet (fun fr_ hp_=> ∃(n c oo:Nat) (Np Nq:Heaplet) (V:Vw) (lo:LoF),fr_= [(2,.slice ta tn tc),(8,.pointer (some ⟨sp,0,none⟩)),(10,.pointer (some ⟨sq,0,none⟩))]∧hp_= [Np,Nq,R]∧(StQ sp n c oo V lo [] 0 Np)∧(StQ sq n c oo V lo [] 0 Nq)∧(c≤510∧oo≤120000∧n≤480)∧(∀g∈V.lg,LgU g)) ?_ (fun K15_ jk_15=>?_))))))))))))))))))))))
 rotate_left
 ·skip
  refine aH fun _ s_16=>aB (bV U U (aI (s_16 (bX (dropAt7 (dropAt6 (dropAt5 (dropAt4 (dropAt2 (cT (bF (cH (bF (At.loop (fun fr_ hp_ ms_=> ∃(i n c oo:Nat) (Np Nq:Heaplet) (V:Vw) (lo:LoF),fr_= [(1,.slice oa on oc),(2,.slice ta tn tc),(8,.pointer (some ⟨sp,0,none⟩)),(10,.pointer (some ⟨sq,0,none⟩)),(12,.int .i64 (i:Int))]∧hp_= [Np,Nq,R]∧on- i=ms_∧(i≤on)∧(i≤120)∧(StQ sp n c oo V lo [] 0 Np)∧(StQ sq n c oo V lo [] 0 Nq)∧(n=4*i)∧(c=30+4*i)∧(oo≤1000*i)∧(∀g∈V.lg,LgU g)) ?_ aZ ⟨0,0,30,0,Np,Nq,v0 b,(fun _=>none),rfl,rfl,rfl,Nat.zero_le _,Nat.zero_le _,hP0,hQ0,rfl,rfl,Nat.le_refl _,fun _ h=>absurd h List.not_mem_nil⟩ ?_))))))))))))))
  ·repeat first|apply cW|exact .nil|exact lkI rfl (by omega)|rfl
  rintro _ _ _ ⟨i,n,c,oo,Np,Nq,V,lo,rfl,rfl,rfl,hi,hi120,hP,hQ,hn,hc,hoo,hu⟩
  refine aH fun _ s_17=>aH fun _ s_18=>aB (bC U U (bC U U (dB aN se23 U U (op_lss aN U U U (bC U U (At.partP (d:=55) U (fun g55=>?_) (fun g55=>?_)))))))
  ·refine aR (nxgf U U U U) U U (op_lss (nxgf U U U U) U U U (op_pickT aN U U U (aI (s_18 (cD U (fun c58=>?_) (fun c58=>?_))))))
   ·have hlt:i<on∧i<120:=⟨by omega,by omega⟩
    obtain⟨m,hmi⟩: ∃q,os[i]? =some q:=⟨_,List.getElem?_eq_getElem (by omega)⟩
    have hm:=hv m (List.mem_of_getElem? hmi)
    have hml:=hol m (List.mem_of_getElem? hmi)
    refine cG (aS (s_17 (aH fun _ s_19=>bX (aH fun _ s_20=>aB (bC U U (bC U U (bC U U (op_idxE aN se23 U U ho (show _=(((i:Nat)):Int)from by omega) (by omega) U ?_))))))))
    refine op_loadAggE (ds:=opF m) aN ag39 U ho (by exact flat_atS opF hol hmi) (by exact hml) (by omega) (by simp) U ?_
    refine cR nxQ (.cons U (.cons U .nil)) ((FDoesQ hP hm (by omega))) (F:= [Nq,R]) Tryz.func8 U U aZ (by simp) U ?_
    rintro _ _ ⟨Np2,rfl,hP2⟩
    show At _ _ _ [Np2,Nq,R] _
    refine aI (s_20 (aB (bC U U (bC U U (bC U U (op_idxE aN se23 U U ho (show _=(((i:Nat)):Int)from by omega) (by omega) U ?_))))))
    refine op_loadAggE (ds:=opF m) aN ag39 U ho (by exact flat_atS opF hol hmi) (by exact hml) (by omega) (by simp) U ?_
    refine bF (cH (bF (cR nxQ (.cons U (.cons U .nil)) ((FDoesQ hQ hm (by omega))) (F:= [Np2,R]) Tryz.func8 U U aZ (by simp) U ?_)))
    rintro _ _ ⟨Nq2,rfl,hQ2⟩
    show At _ _ _ [Nq2,Np2,R] _
    refine cE (cJ (aS (s_19 (aB (bC U U (dD aN U U (by omega) (by omega) U (bV U U (aI (bF (cH (bF (At.back ?_ aZ ⟨i+1,n+4,c+4,oo+c+4,Np2,Nq2,(doesV m.1 V lo).1,(doesV m.1 V lo).2,rfl,rfl,rfl,by omega,by omega,hP2,hQ2,by omega,by omega,by omega,does_lg hu⟩ ?_))))))))))))
    ·repeat first|apply cW|exact .nil|exact lkI rfl (by omega)|rfl
    ·omega
   refine At.exit (bD (bD (dE (aS (jk_15 ?_ aZ ⟨n,c,oo,Np,Nq,V,lo,rfl,rfl,hP,hQ,⟨by omega,by omega,by omega⟩,hu⟩)))))
   repeat first|apply cW|exact .nil|exact lkI rfl (by omega)|rfl
  refine dF U U U U U U U (dF U U U U U U U (op_pickF aN U U U (aI (s_18 (At.condF U (At.exit (bD (bD (dE (aS (jk_15 ?_ aZ ⟨n,c,oo,Np,Nq,V,lo,rfl,rfl,hP,hQ,⟨by omega,by omega,by omega⟩,hu⟩)))))))))))
  repeat first|apply cW|exact .nil|exact lkI rfl (by omega)|rfl
 rintro _ _ ⟨n,c,oo,Np,Nq,V,lo,rfl,rfl,hP,hQ,hci,hu⟩
 refine s_15 (aH fun _ s_21=>aB (bC U U (cR nxQ (.cons U .nil) (QMark hP (by omega)) (F:= [Nq,R]) Tryz.func17 U U aZ (by simp) U ?_)))
 rintro _ _ ⟨rfl,Np1,rfl,hP1⟩
 show At _ _ _ [Np1,Nq,R] _
 refine bV U U (aI (s_21 (aH fun _ s_22=>At.meet (fun fr_ hp_=> ∃(n1 c1 oo1:Nat) (Np:Heaplet) (V1:Vw) (lo1:LoF) (ms:List (Int×Vw)) (tl:Int),fr_= [(2,.slice ta tn tc),(8,.pointer (some ⟨sp,0,none⟩)),(10,.pointer (some ⟨sq,0,none⟩)),(13,.int .i64 0)]∧hp_= [Np,Nq,R]∧(StQ sp n1 c1 oo1 V1 lo1 ms tl Np)∧(MkO (orO V lo) lo1 V1 V ms tl)∧(n1≤2000∧c1≤260000∧oo1≤31000000)) ?_ (fun K22_ jk_22=>?_))))
 rotate_left
 ·skip
  refine aH fun _ s_23=>aB (bV U U (aI (s_23 (bX (At.loop (fun fr_ hp_ ms_=> ∃(i n1 c1 oo1:Nat) (Np:Heaplet) (V1:Vw) (lo1:LoF) (ms:List (Int×Vw)) (tl:Int),fr_= [(2,.slice ta tn tc),(8,.pointer (some ⟨sp,0,none⟩)),(10,.pointer (some ⟨sq,0,none⟩)),(13,.int .i64 0),(14,.int .i64 (i:Int))]∧hp_= [Np,Nq,R]∧tn- i=ms_∧(i≤tn)∧(i≤120)∧(StQ sp n1 c1 oo1 V1 lo1 ms tl Np)∧(MkO (orO V lo) lo1 V1 V ms tl)∧(n1≤484+8*i)∧(c1≤514+2000*i)∧(oo1≤120000+250000*i)) ?_ aZ ⟨0,n+4,c+4,oo,Np1,V,lo,_,_,rfl,rfl,rfl,Nat.zero_le _,Nat.zero_le _,hP1,MkO.start V lo,by omega,by omega,by omega⟩ ?_)))))
  ·repeat first|apply cW|exact .nil|exact lkI rfl (by omega)|rfl
  rintro _ _ _ ⟨i,n1,c1,oo1,Np,V1,lo1,ms,tl,rfl,rfl,rfl,hi,hi120,hP,hM,hn1,hc1,hoo1⟩
  refine aH fun _ s_24=>aH fun _ s_25=>aB (bC U U (bC U U (dB aN se23 U U (op_lss aN U U U (bC U U (At.partP (d:=79) U (fun g79=>?_) (fun g79=>?_)))))))
  ·refine aR (nxgf U U U U) U U (op_lss (nxgf U U U U) U U U (op_pickT aN U U U (aI (s_25 (cD U (fun c82=>?_) (fun c82=>?_))))))
   ·have hlt:i<tn∧i<120:=⟨by omega,by omega⟩
    obtain⟨m,hmi⟩: ∃q,ts[i]? =some q:=⟨_,List.getElem?_eq_getElem (by omega)⟩
    have hm:=hv2 m (List.mem_of_getElem? hmi)
    have hml:=htl m (List.mem_of_getElem? hmi)
    refine cG (aS (s_24 (aH fun _ s_26=>bX (aH fun _ s_27=>aB (bC U U (bC U U (bC U U (op_idxE aN se23 U U ht (show _=(((i:Nat)):Int)from by omega) (by omega) U ?_))))))))
    refine op_loadAggE (ds:=opF m) aN ag39 U ht (by exact flat_atS opF htl hmi) (by exact hml) (by omega) (by simp) U ?_
    refine cR nxQ (.cons U (.cons U .nil)) ((FDoesQ hP hm (by omega))) (F:= [Nq,R]) Tryz.func8 U U aZ (by simp) U ?_
    rintro _ _ ⟨Np2,rfl,hP2⟩
    show At _ _ _ [Np2,Nq,R] _
    have hM2:=hM.does m.1
    refine aI (s_27 (aH fun _ s_28=>At.meet (fun fr_ hp_=> ∃(n2 c2 oo2:Nat) (Np2:Heaplet) (V2:Vw) (lo2:LoF) (ms2:List (Int×Vw)) (tl2:Int),fr_= [(2,.slice ta tn tc),(8,.pointer (some ⟨sp,0,none⟩)),(10,.pointer (some ⟨sq,0,none⟩)),(13,.int .i64 0),(14,.int .i64 (i:Int))]∧hp_= [Np2,Nq,R]∧(StQ sp n2 c2 oo2 V2 lo2 ms2 tl2 Np2)∧(MkO (orO V lo) lo2 V2 V ms2 tl2)∧(n2≤484+8*i+8)∧(c2≤514+2000*i+8)∧(oo2≤120000+250000*(i+1))) ?_ (fun K28_ jk_28=>?_)))
    rotate_left
    ·skip
     refine aH fun _ s_29=>aB (bC U U (op_rem aN U U (by omega) (by omega) U (op_eql aN U U U (aI (s_29 (cD U (fun c93=>?_) (fun c93=>?_)))))))
     ·refine aB (bC U U (cR nxQ (.cons U .nil) (QMark hP2 (by omega)) (F:= [Nq,R]) Tryz.func17 U U aZ (by simp) U ?_))
      rintro _ _ ⟨rfl,Np2,rfl,hP2⟩
      show At _ _ _ [Np2,Nq,R] _
      have hM2:=hM2.mark
      refine aI (jk_28 ?_ aZ ⟨_,_,_,Np2,_,_,_,_,rfl,rfl,hP2,hM2,by omega,by omega,by omega⟩)
      repeat first|apply cW|exact .nil|exact lkI rfl (by omega)|rfl
     refine cG (aS (jk_28 ?_ aZ ⟨_,_,_,Np2,_,_,_,_,rfl,rfl,hP2,hM2,by omega,by omega,by omega⟩))
     repeat first|apply cW|exact .nil|exact lkI rfl (by omega)|rfl
    rintro _ _ ⟨n2,c2,oo2,Np2,V2,lo2,ms2,tl2,rfl,rfl,hP2,hM2,hn2,hc2,hoo2⟩
    refine s_28 (aH fun _ s_30=>aB (bC U U (op_rem aN U U (by omega) (by omega) U (op_eql aN U U U (aI (s_30 (cD U (fun c98=>?_) (fun c98=>?_))))))))
    ·refine aB (bC U U (bC U U (dD aN U U (by omega) (by omega) U (bC U U (op_rem aN U U (by omega) (by omega) U (dD aN U U (by omega) (by omega) U (cR nxQ (.cons U (.cons U .nil)) (QBackL hP2 hM2 (by omega) (by omega)) (F:= [Nq,R]) Tryz.func18 U U aZ (by simp) U ?_)))))))
     rintro _ _ ⟨b105,V2,ms2,Np2,rfl,rfl,hP2,hM2⟩
     show At _ _ _ [Np2,Nq,R] _
     skip
     refine cE (cJ (aS (s_26 (aB (bC U U (dD aN U U (by omega) (by omega) U (bV U U (aI (At.back ?_ aZ ⟨i+1,_,_,_,Np2,_,_,_,_,rfl,rfl,rfl,by omega,by omega,hP2,hM2,by omega,by omega,by omega⟩ ?_)))))))))
     ·repeat first|apply cW|exact .nil|exact lkI rfl (by omega)|rfl
     ·omega
    refine cG (cJ (aS (s_26 (aB (bC U U (dD aN U U (by omega) (by omega) U (bV U U (aI (At.back ?_ aZ ⟨i+1,_,_,_,Np2,_,_,_,_,rfl,rfl,rfl,by omega,by omega,hP2,hM2,by omega,by omega,by omega⟩ ?_)))))))))
    ·repeat first|apply cW|exact .nil|exact lkI rfl (by omega)|rfl
    ·omega
   refine At.exit (bD (bD (dE (aS (jk_22 ?_ aZ ⟨_,_,_,Np,_,_,_,_,rfl,rfl,hP,hM,⟨by omega,by omega,by omega⟩⟩)))))
   repeat first|apply cW|exact .nil|exact lkI rfl (by omega)|rfl
  refine dF U U U U U U U (dF U U U U U U U (op_pickF aN U U U (aI (s_25 (At.condF U (At.exit (bD (bD (dE (aS (jk_22 ?_ aZ ⟨_,_,_,Np,_,_,_,_,rfl,rfl,hP,hM,⟨by omega,by omega,by omega⟩⟩)))))))))))
  repeat first|apply cW|exact .nil|exact lkI rfl (by omega)|rfl
 rintro _ _ ⟨n1,c1,oo1,Np,V1,lo1,ms,tl,rfl,rfl,hP,hM,hbd⟩
 refine s_22 (aH fun _ s_31=>aH fun _ s_32=>aB (bC U U (bC U U (cR nxQ (.cons U (.cons U .nil)) (QBackM hP hM (by omega)) (F:= [Nq,R]) Tryz.func18 U U aZ (by simp) U ?_))))
 rintro _ _ ⟨ms4,Np4,rfl,rfl,hP4,hO4⟩
 show At _ _ _ [Np4,Nq,R] _
 have hO0:=OkO.start V lo
 refine op_not aN U U (bC U U (aR (nxgf U U U U) U U (bG (nxga U U U U) (.cons U .nil) (QRefund hP4) Tryz.func19 U U (by simp) U ?_)))
 rintro _ _ ⟨rfl,rfl⟩
 show At _ _ _ [Np4,Nq,R] _
 refine aR (nxgf U U U U) U U (bG (nxga U U U U) (.cons U .nil) (QRefund hQ) Tryz.func19 U U (by simp) U ?_)
 rintro _ _ ⟨rfl,rfl⟩
 show At _ _ _ [Np4,Nq,R] _
 refine op_neq (nxgf U U U U) U U U (op_pickF aN U U U (bC U U (At.partP (d:=117) U (fun g117=>?_) (fun g117=>?_))))
 ·exact absurd U g117
 refine aR (nxgf U U U U) U U (bG (nxga U U U U) (.cons U .nil) (QLogs hP4 (by omega)) Tryz.func21 U U (by simp) U ?_)
 rintro _ _ ⟨NLa,NLi,aL,nL,cL,lsL,rfl,rfl,hnL,rL,gL⟩
 show At _ _ _ [NLa,NLi,Np4,Nq,R] _
 refine aR (nxgf U U U U) U U (bG (nxga U U U U) (.cons U .nil) (QLogs hQ (by omega)) Tryz.func21 U U (by simp) U ?_)
 rintro _ _ ⟨NMa,NMi,aM,nM,cM,lsM,rfl,rfl,hnM,rM,gM⟩
 show At _ _ _ [NMa,NMi,NLa,NLi,Np4,Nq,R] _
 subst hnL hnM
 refine bG (nxga U U U U) (.cons U (.cons U .nil)) (FSameLogs rL rM U gL gM hu) Tryz.func20 U U (by simp) U ?_
 rintro _ _ ⟨rfl,rfl⟩
 show At _ _ _ [NMa,NMi,NLa,NLi,Np4,Nq,R] _
 obtain⟨b1,y1,hy1,hA1,hA2,hR1,hR2⟩:=(QAccs hP4).two (QAccs hQ) (by omega) (by omega)
 refine op_not (nxgf U U U U) U U (op_pickF aN U U U (bC U U (aR (nxgf U U U U) U U (bG (nxga U U U U) (.cons U .nil) (hA1) Tryz.func9 U U (by simp) U ?_))))
 rintro _ _ ⟨NA1,NA2,aA,nA,cA,rfl,rfl,w1,p1,p2,p3,p4⟩
 show At _ _ _ [NA1,NA2,NMa,NMi,NLa,NLi,Np4,Nq,R] _
 refine aR (nxgf U U U U) U U (bG (nxga U U U U) (.cons U .nil) (hA2) Tryz.func9 U U (by simp) U ?_)
 rintro _ _ ⟨NC1,NC2,aC,nC,cC,rfl,rfl,w2,q1,q2,q3,q4⟩
 show At _ _ _ [NC1,NC2,NA1,NA2,NMa,NMi,NLa,NLi,Np4,Nq,R] _
 have e21:nC=nA:=(by rw [←q2, ←p2];have e:=congrArg List.length q3;have e':=congrArg List.length p3;rw [List.length_map]at e e';rw [e,e']);subst e21
 refine bG (nxga U U U U) (.cons U (.cons U .nil)) (FSame p1.rsl q1.rsl p2 (by rw [q3,p3]) (fun p hp=>(p4 p hp).inn) (fun p hp=>(q4 p hp).inn)) Tryz.func11 U U (by simp) U ?_
 rintro _ _ ⟨rfl,rfl⟩
 show At _ _ _ [NC1,NC2,NA1,NA2,NMa,NMi,NLa,NLi,Np4,Nq,R] _
 refine op_not (nxgf U U U U) U U (op_pickF aN U U U (bC U U (aR (nxgf U U U U) U U (bG (nxga U U U U) (.cons U .nil) (hR1) Tryz.func10 U U (by simp) U ?_))))
 rintro _ _ ⟨rfl,rfl⟩
 show At _ _ _ [NC1,NC2,NA1,NA2,NMa,NMi,NLa,NLi,Np4,Nq,R] _
 refine aR (nxgf U U U U) U U (bG (nxga U U U U) (.cons U .nil) (hR2) Tryz.func10 U U (by simp) U ?_)
 rintro _ _ ⟨rfl,rfl⟩
 show At _ _ _ [NC1,NC2,NA1,NA2,NMa,NMi,NLa,NLi,Np4,Nq,R] _
 refine op_neW8 (a:=y1) (b:=y1) (nxgf U U U U) ae45 Tryz.underlying5 (by kernel_rfl) U U hy1 hy1 U (op_pickF aN U U U (aI (s_32 (cD U (fun c139=>?_) (fun c139=>?_)))))
 ·exact absurd U c139
 refine cG (aS (s_31 (aH fun _ s_33=>At.meet (fun fr_ hp_=> ∃(n3 c3 o3 n4 c4 o4:Nat) (Np Nq:Heaplet) (V3:Vw),fr_= [(8,.pointer (some ⟨sp,0,none⟩)),(10,.pointer (some ⟨sq,0,none⟩))]∧hp_= [Np,Nq,R]∧(StQ sp n3 c3 o3 V3 lo1 ms4 tl Np)∧(StQ sq n4 c4 o4 V3 lo [] 0 Nq)∧(c3≤300000)∧(c4≤1000)) ?_ (fun K33_ jk_33=>?_))))
 rotate_left
 ·skip
  refine aH fun _ s_34=>aB (bV U U (aI (s_34 (bX (dropAt7 (dropAt6 (dropAt5 (dropAt4 (dropAt3 (dropAt2 (cT (dropAt0 (At.loop (fun fr_ hp_ ms_=> ∃(i n3 c3 o3 n4 c4 o4:Nat) (Np Nq:Heaplet) (V3:Vw),fr_= [(2,.slice ta tn tc),(8,.pointer (some ⟨sp,0,none⟩)),(10,.pointer (some ⟨sq,0,none⟩)),(15,.int .i64 (i:Int))]∧hp_= [Np,Nq,R]∧tn- i=ms_∧(i≤tn)∧(i≤120)∧(StQ sp n3 c3 o3 V3 lo1 ms4 tl Np)∧(StQ sq n4 c4 o4 V3 lo [] 0 Nq)∧(OkO (orO V lo) lo1 V3)∧(OkO (orO V lo) lo V3)∧(c3≤270000+4*i)∧(o3≤31000000+300000*i)∧(c4≤510+4*i)∧(o4≤120000+2000*i)) ?_ aZ ⟨0,_,_,_,_,_,_,Np4,Nq,V,rfl,rfl,rfl,Nat.zero_le _,Nat.zero_le _,hP4,hQ,hO4,hO0,by omega,by omega,by omega,by omega⟩ ?_)))))))))))))
  ·repeat first|apply cW|exact .nil|exact lkI rfl (by omega)|rfl
  rintro _ _ _ ⟨i,n3,c3,o3,n4,c4,o4,Np,Nq,V3,rfl,rfl,rfl,hi,hi120,hP,hQ,hO1,hO2,hc3,ho3,hc4,ho4⟩
  refine aH fun _ s_35=>aH fun _ s_36=>aB (bC U U (bC U U (dB aN se23 U U (op_lss aN U U U (bC U U (At.partP (d:=144) U (fun g144=>?_) (fun g144=>?_)))))))
  ·refine aR (nxgf U U U U) U U (op_lss (nxgf U U U U) U U U (op_pickT aN U U U (aI (s_36 (cD U (fun c147=>?_) (fun c147=>?_))))))
   ·have hlt:i<tn∧i<120:=⟨by omega,by omega⟩
    obtain⟨m,hmi⟩: ∃q,ts[i]? =some q:=⟨_,List.getElem?_eq_getElem (by omega)⟩
    have hm:=hv2 m (List.mem_of_getElem? hmi)
    have hml:=htl m (List.mem_of_getElem? hmi)
    have hkA:okAd m.1.a:=hm.a
    have hkl:=len_A hkA
    have hpl:okPl (m.1.a,m.1.k):=⟨hm.a,hm.k⟩
    have hita:ta.isSome=true:=ht.isSome (by omega)
    obtain⟨xt,hxt⟩: ∃x,(V3.lq (m.1.a,m.1.k)).getD 0=x:=⟨_,rfl⟩
    obtain⟨xo,hxo⟩: ∃x,(if (V3.lm m.1.a).isSome=true then 0 else orO V lo (m.1.a,m.1.k))=x:=⟨_,rfl⟩
    refine cG (aS (s_35 (aH fun _ s_37=>bX (aH fun _ s_38=>At.planS [R] (.take 0 (.take 1 (.take 2 (.take 3 (.take 4 (.take 5 (.take 6 (.take 7 (.take 8 (.take 9 (.fork 10 false (.fork 11 false (.fork 12 false (.fork 13 true .done .nofork) .nofork) .nofork) (.fork 11 false (.fork 10 false (.fork 12 false (.fork 13 true .done .nofork) .nofork) .nofork) .nofork)))))))))))) (by kernel_rfl) (by kernel_rfl) (.cons _ (.cons _ (.refl _))) (aR (nxpf U U) U U (aR (nxpf U U) U U (op_idxE (nxpf U U) se23 U U ht (show _=(((i:Nat)):Int)from by omega) (by omega) U ?_)))))))
    refine dA (nxpf U U) fl39_2 U (by first|rfl|assumption) U ?_
    refine op_loadAggE (ds:=u8s m.1.a) (nxpf U U) ag33 U ht (by exact(flat_partA htl hmi (by decide)).trans (opC_a hm.a)) (by exact hkl) (by omega) (by simp) U ?_
    refine aR (nxpf U U) U U (aR (nxpf U U) U U (op_idxE (nxpf U U) se23 U U ht (show _=(((i:Nat)):Int)from by omega) (by omega) U ?_))
    refine dA (nxpf U U) fl39_3 U (by first|rfl|assumption) U ?_
    refine op_loadAggE (ds:=u64s (wl m.1.k)) (nxpf U U) ag36 U ht (by exact(flat_partA htl hmi (by decide)).trans (opC_k hm.a)) (by exact bQ _) (by omega) (by simp) U ?_
    refine At.fork ?_ ?_
    rotate_left
    ·refine At.fork ?_ ?_
     rotate_left
     ·exact At.pNo
     refine bZ (Nx.agree (nxpa U U)) ze36 U (fun N17 b17 B17=>?_)
     change Blk N17 b17 _ [.int .u64 0,.int .u64 0,.int .u64 0,.int .u64 0]at B17
     refine At.andS (.cons _ (.cons _ (.cons _ (.refl _)))) (At.fork ?_ ?_)
     rotate_left
     ·exact At.pNo
     refine bZ (Nx.agree (nxpa U U)) ze33 U (fun N16 b16 B16=>?_)
     change Blk N16 b16 _ [.int .u8 0,.int .u8 0,.int .u8 0,.int .u8 0,.int .u8 0,.int .u8 0,.int .u8 0,.int .u8 0,.int .u8 0,.int .u8 0,.int .u8 0,.int .u8 0,.int .u8 0,.int .u8 0,.int .u8 0,.int .u8 0,.int .u8 0,.int .u8 0,.int .u8 0,.int .u8 0]at B16
     refine At.andS (.cons _ (.cons _ (.cons _ (.cons _ (.refl _))))) (At.fork ?_ ?_)
     rotate_left
     ·exact At.pNo
     refine bP (nxpa U U) sz33 U U U hkl len_A1 B16 (by rw [hkl];decide) sel0 (fun N16 B16=>?_)
     rw [setL_full (by rw [hkl];rfl)]at B16
     refine At.andS (.cons _ (.cons _ (.cons _ (.cons _ (.refl _))))) (At.fork ?_ ?_)
     rotate_left
     ·exact At.pNo
     refine bP (nxpl U U) sz36 U U U (bQ _) (one_wl _) B17 (by rw [bQ];decide) sel1 (fun N17 B17=>?_)
     rw [setL_full (by rw [bQ];rfl)]at B17
     refine At.pDone (aS (s_38 (aH fun _ s_39=>permSel0 (cH (bA (bA (bA (cS [N16,N17] [5,15,26,35,44,55] [3,12,23,33,42,52] [0,1,3,4,2,5,6,7,8,9,10,12,13,14,11,15,16,17,18,19,20,21,23,24,25,22,26,27,28,29,30,31,33,34,32,35,36,37,38,39,40,42,43,41,44,45,46,47,48,49,50,52,53,54,51,55,56,57] (by kernel_rfl) (by kernel_rfl) (.cons _ (.cons _ (.cons _ (.refl _)))) (aR (bB U U U) U U (aK (ds:=u8s m.1.a) (bB U U U) ag33 U B16 (by exact bJ hkl) (by exact hkl) cO U ?_))))))))))
     refine aR (bB U U U) U U (aK (ds:=u8s m.1.a) (bB U U U) ag33 U B16 (by exact bJ hkl) (by exact hkl) cO U ?_)
     refine bG (Nx.agree (nxsm U U U)) (.cons U (.cons U .nil)) (QWarm hP hkA) Tryz.func22 U U (by simp) U ?_
     rintro _ _ ⟨rfl,rfl⟩
     show At _ _ _ [Np,Nq,R,N16,N17] _
     refine At.moreS (Lst:= [N16,N17]) (Lst':= [N16,N17]) (.refl _) (.cons _ (.cons _ (.cons _ (.refl _)))) (bG (Nx.agree (nxss U U U U)) (.cons U (.cons U .nil)) (QWarm hQ hkA) Tryz.func22 U U (by simp) U ?_)
     rintro _ _ ⟨rfl,rfl⟩
     show At _ _ _ [Np,Nq,R,N16,N17] _
     refine At.anyS (Lst:= [N16,N17]) (.cons _ (.cons _ (.cons _ (.cons_cons _ (.cons_cons _ (.slnil)))))) (op_neB (bB U U U) Tryz.underlying4 U U U (aR (bB U U U) U U (At.part (d:=167) U (fun g167=>?_) (fun g167=>?_))))
     ·exact absurd g167 (by simp)
     refine aR (nxsgf U U U U U U) U U (aK (ds:=u8s m.1.a) (nxsgf U U U U U U) ag33 U B16 (by exact bJ hkl) (by exact hkl) cO U ?_)
     refine aK (ds:=u64s (wl m.1.k)) (nxsgf U U U U U U) ag36 U B17 (by exact bJ (bQ _)) (by exact bQ _) dG U ?_
     refine aR (nxsgf U U U U U U) U U (aK (ds:=u8s m.1.a) (nxsgf U U U U U U) ag33 U B16 (by exact bJ hkl) (by exact hkl) cO U ?_)
     refine aK (ds:=u64s (wl m.1.k)) (nxsgf U U U U U U) ag36 U B17 (by exact bJ (bQ _)) (by exact bQ _) dG U ?_
     refine bG (Nx.agree (nxsgm U U U U U U)) (.cons U (.cons U (.cons U .nil))) (((QTransient hP hpl).mono (fun v L h=>(by rw [←hxt];exact h:v=.agg (u64s (wl xt)).toArray∧L= [])))) Tryz.func23 U U (by simp) U ?_
     rintro _ _ ⟨rfl,rfl⟩
     show At _ _ _ [Np,Nq,R,N16,N17] _
     refine At.moreS (Lst:= [N16,N17]) (Lst':= [N16,N17]) (.refl _) (.cons _ (.cons _ (.cons _ (.refl _)))) ?_
     refine bG (Nx.agree (nxsgs U U U U U U U)) (.cons U (.cons U (.cons U .nil))) (((QTransient hQ hpl).mono (fun v L h=>(by rw [←hxt];exact h:v=.agg (u64s (wl xt)).toArray∧L= [])))) Tryz.func23 U U (by simp) U ?_
     rintro _ _ ⟨rfl,rfl⟩
     show At _ _ _ [Np,Nq,R,N16,N17] _
     refine At.anyS (Lst:= [N16,N17]) (.cons _ (.cons _ (.cons _ (.cons_cons _ (.cons_cons _ (.slnil)))))) (op_neW (a:=wl xt) (b:=wl xt) (nxsgf U U U U U U) ae36 Tryz.underlying34 (by kernel_rfl) U U U U U (op_pickF (bB U U U) U U U (aR (bB U U U) U U (At.partP (d:=178) U (fun g178=>?_) (fun g178=>?_)))))
     ·exact absurd U g178
     refine aR (nxsgf U U U U U U) U U (aK (ds:=u8s m.1.a) (nxsgf U U U U U U) ag33 U B16 (by exact bJ hkl) (by exact hkl) cO U ?_)
     refine aK (ds:=u64s (wl m.1.k)) (nxsgf U U U U U U) ag36 U B17 (by exact bJ (bQ _)) (by exact bQ _) dG U ?_
     refine aR (nxsgf U U U U U U) U U (aK (ds:=u8s m.1.a) (nxsgf U U U U U U) ag33 U B16 (by exact bJ hkl) (by exact hkl) cO U ?_)
     refine aK (ds:=u64s (wl m.1.k)) (nxsgf U U U U U U) ag36 U B17 (by exact bJ (bQ _)) (by exact bQ _) dG U ?_
     refine bG (Nx.agree (nxsgm U U U U U U)) (.cons U (.cons U (.cons U .nil))) (((QOriginal hP hO1 hpl).mono (fun v L h=>(by rw [←hxo];exact h:v=.agg (u64s (wl xo)).toArray∧L= [])))) Tryz.func24 U U (by simp) U ?_
     rintro _ _ ⟨rfl,rfl⟩
     show At _ _ _ [Np,Nq,R,N16,N17] _
     refine At.moreS (Lst:= [N16,N17]) (Lst':= [N16,N17]) (.refl _) (.cons _ (.cons _ (.cons _ (.refl _)))) ?_
     refine bG (Nx.agree (nxsgs U U U U U U U)) (.cons U (.cons U (.cons U .nil))) (((QOriginal hQ hO2 hpl).mono (fun v L h=>(by rw [←hxo];exact h:v=.agg (u64s (wl xo)).toArray∧L= [])))) Tryz.func24 U U (by simp) U ?_
     rintro _ _ ⟨rfl,rfl⟩
     show At _ _ _ [Np,Nq,R,N16,N17] _
     refine At.anyS (Lst:= [N16,N17]) (.cons _ (.cons _ (.cons _ (.cons_cons _ (.cons_cons _ (.slnil)))))) (op_neW (a:=wl xo) (b:=wl xo) (nxsgf U U U U U U) ae36 Tryz.underlying34 (by kernel_rfl) U U U U U (op_pickF (bB U U U) U U U (aR (bB U U U) U U (At.partP (d:=189) U (fun g189=>?_) (fun g189=>?_)))))
     ·exact absurd U g189
     refine aR (nxsgf U U U U U U) U U (aK (ds:=u8s m.1.a) (nxsgf U U U U U U) ag33 U B16 (by exact bJ hkl) (by exact hkl) cO U ?_)
     refine aR (nxsgf U U U U U U) U U (aK (ds:=u8s m.1.a) (nxsgf U U U U U U) ag33 U B16 (by exact bJ hkl) (by exact hkl) cO U ?_)
     refine bG (Nx.agree (nxsgm U U U U U U)) (.cons U (.cons U .nil)) (QDestroyed hP hkA) Tryz.func25 U U (by simp) U ?_
     rintro _ _ ⟨rfl,rfl⟩
     show At _ _ _ [Np,Nq,R,N16,N17] _
     refine At.moreS (Lst:= [N16,N17]) (Lst':= [N16,N17]) (.refl _) (.cons _ (.cons _ (.cons _ (.refl _)))) (bG (Nx.agree (nxsgs U U U U U U U)) (.cons U (.cons U .nil)) (QDestroyed hQ hkA) Tryz.func25 U U (by simp) U ?_)
     rintro _ _ ⟨rfl,rfl⟩
     show At _ _ _ [Np,Nq,R,N16,N17] _
     refine At.anyS (Lst:= [N16,N17]) (.cons _ (.cons _ (.cons _ (.cons_cons _ (.cons_cons _ (.slnil)))))) (op_neB (nxsgf U U U U U U) Tryz.underlying4 U U U (op_pickF (bB U U U) U U U (aR (bB U U U) U U (At.part (d:=198) U (fun g198=>?_) (fun g198=>?_)))))
     ·exact absurd g198 (by simp)
     refine aR (nxsgf U U U U U U) U U (aK (ds:=u8s m.1.a) (nxsgf U U U U U U) ag33 U B16 (by exact bJ hkl) (by exact hkl) cO U ?_)
     refine aR (nxsgf U U U U U U) U U (aK (ds:=u8s m.1.a) (nxsgf U U U U U U) ag33 U B16 (by exact bJ hkl) (by exact hkl) cO U ?_)
     refine bG (Nx.agree (nxsgm U U U U U U)) (.cons U (.cons U .nil)) (QMade hP hkA) Tryz.func26 U U (by simp) U ?_
     rintro _ _ ⟨rfl,rfl⟩
     show At _ _ _ [Np,Nq,R,N16,N17] _
     refine At.moreS (Lst:= [N16,N17]) (Lst':= [N16,N17]) (.refl _) (.cons _ (.cons _ (.cons _ (.refl _)))) (bG (Nx.agree (nxsgs U U U U U U U)) (.cons U (.cons U .nil)) (QMade hQ hkA) Tryz.func26 U U (by simp) U ?_)
     rintro _ _ ⟨rfl,rfl⟩
     show At _ _ _ [Np,Nq,R,N16,N17] _
     refine At.anyS (Lst:= [N16,N17]) (.cons _ (.cons _ (.cons _ (.cons_cons _ (.cons_cons _ (.slnil)))))) (op_neB (nxsgf U U U U U U) Tryz.underlying4 U U U (op_pickF (bB U U U) U U U (aR (bB U U U) U U (At.part (d:=207) U (fun g207=>?_) (fun g207=>?_)))))
     ·exact absurd g207 (by simp)
     refine aR (nxsgf U U U U U U) U U (aK (ds:=u8s m.1.a) (nxsgf U U U U U U) ag33 U B16 (by exact bJ hkl) (by exact hkl) cO U ?_)
     refine aK (ds:=u64s (wl m.1.k)) (nxsgf U U U U U U) ag36 U B17 (by exact bJ (bQ _)) (by exact bQ _) dG U ?_
     refine aR (nxsgf U U U U U U) U U (aK (ds:=u8s m.1.a) (nxsgf U U U U U U) ag33 U B16 (by exact bJ hkl) (by exact hkl) cO U ?_)
     refine aK (ds:=u64s (wl m.1.k)) (nxsgf U U U U U U) ag36 U B17 (by exact bJ (bQ _)) (by exact bQ _) dG U ?_
     refine cR (nxsgm U U U U U U) (.cons U (.cons U (.cons U .nil))) (QHSlot hP hpl (by omega)) (F:= [Nq,R,N16,N17]) Tryz.func27 U U aZ (by simp) U ?_
     rintro _ _ ⟨rfl,Np5,rfl,hP5⟩
     show At _ _ _ [Np5,Nq,R,N16,N17] _
     refine bA (bA (bF (bA (bA (At.moreS (Lst:= [N16,N17]) (Lst':= [Np5,N16,N17]) (.cons _ (.refl _)) (.cons _ (.cons _ (.refl _))) (cR (nxsgs U U U U U U U) (.cons U (.cons U (.cons U .nil))) (QHSlot hQ hpl (by omega)) (F:= [R,Np5,N16,N17]) Tryz.func27 U U (.refl _) (by simp) U ?_))))))
     rintro _ _ ⟨rfl,Nq5,rfl,hQ5⟩
     show At _ _ _ [Nq5,R,Np5,N16,N17] _
     refine At.anyS (Lst:= [N16,N17]) (.cons _ (.cons _ (.cons _ (.cons_cons _ (.cons_cons _ (.slnil)))))) (op_neB (nxsgf U U U U U U) Tryz.underlying4 U U U (op_pickF (bB U U U) U U U (dH (aS (s_39 (At.condB U (fun c217=>?_) (fun c217=>?_)))))))
     ·exact absurd c217 (by simp)
     refine cG (cJ (aS (s_37 (aB (bC U U (dD aN U U (by omega) (by omega) U (bV U U (aI (dropAt4 (dropAt3 (cH (cH (bF (At.back ?_ aZ ⟨i+1,_,_,_,_,_,_,Np5,Nq5,_,rfl,rfl,rfl,by omega,by omega,hP5,hQ5,hO1,hO2,by omega,by omega,by omega,by omega⟩ ?_))))))))))))))
     ·repeat first|apply cW|exact .nil|exact lkI rfl (by omega)|rfl
     ·omega
    refine bZ (Nx.agree (nxpa U U)) ze33 U (fun N16 b16 B16=>?_)
    change Blk N16 b16 _ [.int .u8 0,.int .u8 0,.int .u8 0,.int .u8 0,.int .u8 0,.int .u8 0,.int .u8 0,.int .u8 0,.int .u8 0,.int .u8 0,.int .u8 0,.int .u8 0,.int .u8 0,.int .u8 0,.int .u8 0,.int .u8 0,.int .u8 0,.int .u8 0,.int .u8 0,.int .u8 0]at B16
    refine At.andS (.cons _ (.cons _ (.cons _ (.refl _)))) (At.fork ?_ ?_)
    rotate_left
    ·exact At.pNo
    refine bZ (Nx.agree (nxpa U U)) ze36 U (fun N17 b17 B17=>?_)
    change Blk N17 b17 _ [.int .u64 0,.int .u64 0,.int .u64 0,.int .u64 0]at B17
    refine At.andS (.cons _ (.cons _ (.cons _ (.cons _ (.refl _))))) (At.fork ?_ ?_)
    rotate_left
    ·exact At.pNo
    refine bP (nxpa U U) sz33 U U U hkl len_A1 B16 (by rw [hkl];decide) sel1 (fun N16 B16=>?_)
    rw [setL_full (by rw [hkl];rfl)]at B16
    refine At.andS (.cons _ (.cons _ (.cons _ (.cons _ (.refl _))))) (At.fork ?_ ?_)
    rotate_left
    ·exact At.pNo
    refine bP (nxpl U U) sz36 U U U (bQ _) (one_wl _) B17 (by rw [bQ];decide) sel1 (fun N17 B17=>?_)
    rw [setL_full (by rw [bQ];rfl)]at B17
    refine At.pDone (aS (s_38 (aH fun _ s_40=>permSel0 (cH (bA (bA (bA (cS [N16,N17] [5,15,26,35,44,55] [3,12,23,33,42,52] [0,1,3,4,2,5,6,7,8,9,10,12,13,14,11,15,16,17,18,19,20,21,23,24,25,22,26,27,28,29,30,31,33,34,32,35,36,37,38,39,40,42,43,41,44,45,46,47,48,49,50,52,53,54,51,55,56,57] (by kernel_rfl) (by kernel_rfl) (.cons _ (.cons _ (.cons _ (.refl _)))) (aR (bB U U U) U U (aK (ds:=u8s m.1.a) (bB U U U) ag33 U B16 (by exact bJ hkl) (by exact hkl) cO U ?_))))))))))
    refine aR (bB U U U) U U (aK (ds:=u8s m.1.a) (bB U U U) ag33 U B16 (by exact bJ hkl) (by exact hkl) cO U ?_)
    refine bG (Nx.agree (nxsm U U U)) (.cons U (.cons U .nil)) (QWarm hP hkA) Tryz.func22 U U (by simp) U ?_
    rintro _ _ ⟨rfl,rfl⟩
    show At _ _ _ [Np,Nq,R,N16,N17] _
    refine At.moreS (Lst:= [N16,N17]) (Lst':= [N16,N17]) (.refl _) (.cons _ (.cons _ (.cons _ (.refl _)))) (bG (Nx.agree (nxss U U U U)) (.cons U (.cons U .nil)) (QWarm hQ hkA) Tryz.func22 U U (by simp) U ?_)
    rintro _ _ ⟨rfl,rfl⟩
    show At _ _ _ [Np,Nq,R,N16,N17] _
    refine At.anyS (Lst:= [N16,N17]) (.cons _ (.cons _ (.cons _ (.cons_cons _ (.cons_cons _ (.slnil)))))) (op_neB (bB U U U) Tryz.underlying4 U U U (aR (bB U U U) U U (At.part (d:=167) U (fun g167=>?_) (fun g167=>?_))))
    ·exact absurd g167 (by simp)
    refine aR (nxsgf U U U U U U) U U (aK (ds:=u8s m.1.a) (nxsgf U U U U U U) ag33 U B16 (by exact bJ hkl) (by exact hkl) cO U ?_)
    refine aK (ds:=u64s (wl m.1.k)) (nxsgf U U U U U U) ag36 U B17 (by exact bJ (bQ _)) (by exact bQ _) dG U ?_
    refine aR (nxsgf U U U U U U) U U (aK (ds:=u8s m.1.a) (nxsgf U U U U U U) ag33 U B16 (by exact bJ hkl) (by exact hkl) cO U ?_)
    refine aK (ds:=u64s (wl m.1.k)) (nxsgf U U U U U U) ag36 U B17 (by exact bJ (bQ _)) (by exact bQ _) dG U ?_
    refine bG (Nx.agree (nxsgm U U U U U U)) (.cons U (.cons U (.cons U .nil))) (((QTransient hP hpl).mono (fun v L h=>(by rw [←hxt];exact h:v=.agg (u64s (wl xt)).toArray∧L= [])))) Tryz.func23 U U (by simp) U ?_
    rintro _ _ ⟨rfl,rfl⟩
    show At _ _ _ [Np,Nq,R,N16,N17] _
    refine At.moreS (Lst:= [N16,N17]) (Lst':= [N16,N17]) (.refl _) (.cons _ (.cons _ (.cons _ (.refl _)))) ?_
    refine bG (Nx.agree (nxsgs U U U U U U U)) (.cons U (.cons U (.cons U .nil))) (((QTransient hQ hpl).mono (fun v L h=>(by rw [←hxt];exact h:v=.agg (u64s (wl xt)).toArray∧L= [])))) Tryz.func23 U U (by simp) U ?_
    rintro _ _ ⟨rfl,rfl⟩
    show At _ _ _ [Np,Nq,R,N16,N17] _
    refine At.anyS (Lst:= [N16,N17]) (.cons _ (.cons _ (.cons _ (.cons_cons _ (.cons_cons _ (.slnil)))))) (op_neW (a:=wl xt) (b:=wl xt) (nxsgf U U U U U U) ae36 Tryz.underlying34 (by kernel_rfl) U U U U U (op_pickF (bB U U U) U U U (aR (bB U U U) U U (At.partP (d:=178) U (fun g178=>?_) (fun g178=>?_)))))
    ·exact absurd U g178
    refine aR (nxsgf U U U U U U) U U (aK (ds:=u8s m.1.a) (nxsgf U U U U U U) ag33 U B16 (by exact bJ hkl) (by exact hkl) cO U ?_)
    refine aK (ds:=u64s (wl m.1.k)) (nxsgf U U U U U U) ag36 U B17 (by exact bJ (bQ _)) (by exact bQ _) dG U ?_
    refine aR (nxsgf U U U U U U) U U (aK (ds:=u8s m.1.a) (nxsgf U U U U U U) ag33 U B16 (by exact bJ hkl) (by exact hkl) cO U ?_)
    refine aK (ds:=u64s (wl m.1.k)) (nxsgf U U U U U U) ag36 U B17 (by exact bJ (bQ _)) (by exact bQ _) dG U ?_
    refine bG (Nx.agree (nxsgm U U U U U U)) (.cons U (.cons U (.cons U .nil))) (((QOriginal hP hO1 hpl).mono (fun v L h=>(by rw [←hxo];exact h:v=.agg (u64s (wl xo)).toArray∧L= [])))) Tryz.func24 U U (by simp) U ?_
    rintro _ _ ⟨rfl,rfl⟩
    show At _ _ _ [Np,Nq,R,N16,N17] _
    refine At.moreS (Lst:= [N16,N17]) (Lst':= [N16,N17]) (.refl _) (.cons _ (.cons _ (.cons _ (.refl _)))) ?_
    refine bG (Nx.agree (nxsgs U U U U U U U)) (.cons U (.cons U (.cons U .nil))) (((QOriginal hQ hO2 hpl).mono (fun v L h=>(by rw [←hxo];exact h:v=.agg (u64s (wl xo)).toArray∧L= [])))) Tryz.func24 U U (by simp) U ?_
    rintro _ _ ⟨rfl,rfl⟩
    show At _ _ _ [Np,Nq,R,N16,N17] _
    refine At.anyS (Lst:= [N16,N17]) (.cons _ (.cons _ (.cons _ (.cons_cons _ (.cons_cons _ (.slnil)))))) (op_neW (a:=wl xo) (b:=wl xo) (nxsgf U U U U U U) ae36 Tryz.underlying34 (by kernel_rfl) U U U U U (op_pickF (bB U U U) U U U (aR (bB U U U) U U (At.partP (d:=189) U (fun g189=>?_) (fun g189=>?_)))))
    ·exact absurd U g189
    refine aR (nxsgf U U U U U U) U U (aK (ds:=u8s m.1.a) (nxsgf U U U U U U) ag33 U B16 (by exact bJ hkl) (by exact hkl) cO U ?_)
    refine aR (nxsgf U U U U U U) U U (aK (ds:=u8s m.1.a) (nxsgf U U U U U U) ag33 U B16 (by exact bJ hkl) (by exact hkl) cO U ?_)
    refine bG (Nx.agree (nxsgm U U U U U U)) (.cons U (.cons U .nil)) (QDestroyed hP hkA) Tryz.func25 U U (by simp) U ?_
    rintro _ _ ⟨rfl,rfl⟩
    show At _ _ _ [Np,Nq,R,N16,N17] _
    refine At.moreS (Lst:= [N16,N17]) (Lst':= [N16,N17]) (.refl _) (.cons _ (.cons _ (.cons _ (.refl _)))) (bG (Nx.agree (nxsgs U U U U U U U)) (.cons U (.cons U .nil)) (QDestroyed hQ hkA) Tryz.func25 U U (by simp) U ?_)
    rintro _ _ ⟨rfl,rfl⟩
    show At _ _ _ [Np,Nq,R,N16,N17] _
    refine At.anyS (Lst:= [N16,N17]) (.cons _ (.cons _ (.cons _ (.cons_cons _ (.cons_cons _ (.slnil)))))) (op_neB (nxsgf U U U U U U) Tryz.underlying4 U U U (op_pickF (bB U U U) U U U (aR (bB U U U) U U (At.part (d:=198) U (fun g198=>?_) (fun g198=>?_)))))
    ·exact absurd g198 (by simp)
    refine aR (nxsgf U U U U U U) U U (aK (ds:=u8s m.1.a) (nxsgf U U U U U U) ag33 U B16 (by exact bJ hkl) (by exact hkl) cO U ?_)
    refine aR (nxsgf U U U U U U) U U (aK (ds:=u8s m.1.a) (nxsgf U U U U U U) ag33 U B16 (by exact bJ hkl) (by exact hkl) cO U ?_)
    refine bG (Nx.agree (nxsgm U U U U U U)) (.cons U (.cons U .nil)) (QMade hP hkA) Tryz.func26 U U (by simp) U ?_
    rintro _ _ ⟨rfl,rfl⟩
    show At _ _ _ [Np,Nq,R,N16,N17] _
    refine At.moreS (Lst:= [N16,N17]) (Lst':= [N16,N17]) (.refl _) (.cons _ (.cons _ (.cons _ (.refl _)))) (bG (Nx.agree (nxsgs U U U U U U U)) (.cons U (.cons U .nil)) (QMade hQ hkA) Tryz.func26 U U (by simp) U ?_)
    rintro _ _ ⟨rfl,rfl⟩
    show At _ _ _ [Np,Nq,R,N16,N17] _
    refine At.anyS (Lst:= [N16,N17]) (.cons _ (.cons _ (.cons _ (.cons_cons _ (.cons_cons _ (.slnil)))))) (op_neB (nxsgf U U U U U U) Tryz.underlying4 U U U (op_pickF (bB U U U) U U U (aR (bB U U U) U U (At.part (d:=207) U (fun g207=>?_) (fun g207=>?_)))))
    ·exact absurd g207 (by simp)
    refine aR (nxsgf U U U U U U) U U (aK (ds:=u8s m.1.a) (nxsgf U U U U U U) ag33 U B16 (by exact bJ hkl) (by exact hkl) cO U ?_)
    refine aK (ds:=u64s (wl m.1.k)) (nxsgf U U U U U U) ag36 U B17 (by exact bJ (bQ _)) (by exact bQ _) dG U ?_
    refine aR (nxsgf U U U U U U) U U (aK (ds:=u8s m.1.a) (nxsgf U U U U U U) ag33 U B16 (by exact bJ hkl) (by exact hkl) cO U ?_)
    refine aK (ds:=u64s (wl m.1.k)) (nxsgf U U U U U U) ag36 U B17 (by exact bJ (bQ _)) (by exact bQ _) dG U ?_
    refine cR (nxsgm U U U U U U) (.cons U (.cons U (.cons U .nil))) (QHSlot hP hpl (by omega)) (F:= [Nq,R,N16,N17]) Tryz.func27 U U aZ (by simp) U ?_
    rintro _ _ ⟨rfl,Np5,rfl,hP5⟩
    show At _ _ _ [Np5,Nq,R,N16,N17] _
    refine bA (bA (bF (bA (bA (At.moreS (Lst:= [N16,N17]) (Lst':= [Np5,N16,N17]) (.cons _ (.refl _)) (.cons _ (.cons _ (.refl _))) (cR (nxsgs U U U U U U U) (.cons U (.cons U (.cons U .nil))) (QHSlot hQ hpl (by omega)) (F:= [R,Np5,N16,N17]) Tryz.func27 U U (.refl _) (by simp) U ?_))))))
    rintro _ _ ⟨rfl,Nq5,rfl,hQ5⟩
    show At _ _ _ [Nq5,R,Np5,N16,N17] _
    refine At.anyS (Lst:= [N16,N17]) (.cons _ (.cons _ (.cons _ (.cons_cons _ (.cons_cons _ (.slnil)))))) (op_neB (nxsgf U U U U U U) Tryz.underlying4 U U U (op_pickF (bB U U U) U U U (dH (aS (s_40 (At.condB U (fun c217=>?_) (fun c217=>?_)))))))
    ·exact absurd c217 (by simp)
    refine cG (cJ (aS (s_37 (aB (bC U U (dD aN U U (by omega) (by omega) U (bV U U (aI (dropAt4 (dropAt3 (cH (cH (bF (At.back ?_ aZ ⟨i+1,_,_,_,_,_,_,Np5,Nq5,_,rfl,rfl,rfl,by omega,by omega,hP5,hQ5,hO1,hO2,by omega,by omega,by omega,by omega⟩ ?_))))))))))))))
    ·repeat first|apply cW|exact .nil|exact lkI rfl (by omega)|rfl
    ·omega
   refine At.exit (bD (bD (dE (aS (jk_33 ?_ aZ ⟨_,_,_,_,_,_,Np,Nq,_,rfl,rfl,hP,hQ,by omega,by omega⟩)))))
   repeat first|apply cW|exact .nil|exact lkI rfl (by omega)|rfl
  refine dF U U U U U U U (dF U U U U U U U (op_pickF aN U U U (aI (s_36 (At.condF U (At.exit (bD (bD (dE (aS (jk_33 ?_ aZ ⟨_,_,_,_,_,_,Np,Nq,_,rfl,rfl,hP,hQ,by omega,by omega⟩)))))))))))
  repeat first|apply cW|exact .nil|exact lkI rfl (by omega)|rfl
 rintro _ _ ⟨n3,c3,o3,n4,c4,o4,Np,Nq,V3,rfl,rfl,hP,hQ,hc3,hc4⟩
 refine s_33 (aH fun _ s_41=>aB (bC U U (cR nxQ (.cons U (.cons U .nil)) (QEnd hP) (F:= [Nq,R]) Tryz.func28 U U aZ (by simp) U ?_)))
 rintro _ _ ⟨Np6,rfl,rfl,hE1⟩
 show At _ _ _ [Np6,Nq,R] _
 refine aI (s_41 (aH fun _ s_42=>aB (bC U U (bF (cH (bF (cR nxQ (.cons U (.cons U .nil)) (QEnd hQ) (F:= [Np6,R]) Tryz.func28 U U aZ (by simp) U ?_)))))))
 rintro _ _ ⟨Nq6,rfl,rfl,hE2⟩
 show At _ _ _ [Nq6,Np6,R] _
 obtain⟨b2,y2,hy2,hB1,hB2,hS1,hS2⟩:=hE1.two hE2 (by omega) (by omega)
 refine aI (s_42 (aH fun _ s_43=>aB (bC U U (bG bT (.cons U .nil) (hB1) Tryz.func9 U U (by simp) U ?_))))
 rintro _ _ ⟨NA1,NA2,aA,nA,cA,rfl,rfl,w1,p1,p2,p3,p4⟩
 show At _ _ _ [NA1,NA2,Nq6,Np6,R] _
 refine bC U U (bG bT (.cons U .nil) (hB2) Tryz.func9 U U (by simp) U ?_)
 rintro _ _ ⟨NC1,NC2,aC,nC,cC,rfl,rfl,w2,q1,q2,q3,q4⟩
 show At _ _ _ [NC1,NC2,NA1,NA2,Nq6,Np6,R] _
 have e21:nC=nA:=(by rw [←q2, ←p2];have e:=congrArg List.length q3;have e':=congrArg List.length p3;rw [List.length_map]at e e';rw [e,e']);subst e21
 refine bG bT (.cons U (.cons U .nil)) (FSame p1.rsl q1.rsl p2 (by rw [q3,p3]) (fun p hp=>(p4 p hp).inn) (fun p hp=>(q4 p hp).inn)) Tryz.func11 U U (by simp) U ?_
 rintro _ _ ⟨rfl,rfl⟩
 show At _ _ _ [NC1,NC2,NA1,NA2,Nq6,Np6,R] _
 refine bC U U (aR (nxgf U U U U) U U (bG (nxga U U U U) (.cons U .nil) (hS1) Tryz.func10 U U (by simp) U ?_))
 rintro _ _ ⟨rfl,rfl⟩
 show At _ _ _ [NC1,NC2,NA1,NA2,Nq6,Np6,R] _
 refine aR (nxgf U U U U) U U (bG (nxga U U U U) (.cons U .nil) (hS2) Tryz.func10 U U (by simp) U ?_)
 rintro _ _ ⟨rfl,rfl⟩
 show At _ _ _ [NC1,NC2,NA1,NA2,Nq6,Np6,R] _
 refine op_eqW8 (a:=y2) (b:=y2) (nxgf U U U U) ae45 Tryz.underlying5 (by kernel_rfl) U U hy2 hy2 U (op_pickT aN U U U (bV U U (aI (s_43 (cK ((dropAt5 (dropAt4 (dropAt3 (dropAt2 (cT (dropAt0 (cF (L1:= []) U (.tmp U .nil) (.refl _) aZ ?_)))))))))))))
 exact⟨by simp,rfl⟩
end Go.Proofs.YtalmjkcapecpiaaGreat
