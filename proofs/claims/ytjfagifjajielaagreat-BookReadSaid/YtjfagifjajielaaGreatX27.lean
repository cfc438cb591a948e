/- Several texts in one: see the remarks ahead of each part. No condition but those told there. -/
import Derived.Test.YtjfagifjajielaaGreatX1
import Derived.Test.YtjfagifjajielaaGreatX26
import Derived.Test.YtjfagifjajielaaGreatX24
set_option linter.unusedSimpArgs false
set_option linter.unusedVariables false
namespace Go.Proofs.YtjfagifjajielaaGreat
open Go Go.RowKit
set_option maxRecDepth 100000
section
variable {N : Heaplet} {ao : Option Addr} {n cap : Nat} {b p : List UInt8}
set_option maxHeartbeats 16000000 in
theorem RTx_2 (h:RSl N 1 ao n cap (u8s b)) (hn:n≤1099511627776) (he:envF b=some (2,p)) (hf:0<2∨0<(b.getD 0 0).toNat):Fn Tryz.prog 8 #[.slice ao n cap] [] [N] (RReadTxP b):=by
 have hbl:=h.len8
 obtain⟨hb0,hpb⟩:=envF_len he
 have hz:zero20.length=20:=List.length_replicate ..
 have hk3:2≤3∧(0<2∨0<(b.getD 0 0).toNat):=⟨by decide,hf⟩
 have henv:=(rEnvelope_g h).mono (fun v L hp=>env_some he hp)
 rw [show((2:Nat):Int)=2 from rfl]at henv
 have hcnt:=RCounts 2 (by decide)
 rw [show((2:Nat):Int)=2 from rfl,show(([9,11,12,14].getD 2 0:Nat):Int)=12 from rfl]at hcnt
 refine Fn.enter (vs:= [.slice ao n cap]) Tryz.func8 U U U ?_
 intro E R hR
 have hNR:=hR N (by simp)
 have hbR:=h.le hNR
 change At _ _ E [R] _
 refine aC fun _ s_1=>aA (bK bU ze32 U (fun N2 b2 B2=>?_))
 change Blk N2 b2 _ z32 at B2
 refine aR U U (aB (s_1 (aC fun _ s_2=>aA (aH U U (bD bU (.cons U .nil) (henv.liftB hNR) Tryz.func35 U U (by simp) U ?_)))))
 rintro _ _ ⟨pa,pc,rfl,rfl,sp⟩
 show At _ _ _ [N2,R] _
 refine aH U U (aO aE U U U (aO aE U U U (aO aE U U U (aR U U (aR U U (aR U U (aB (s_2 (aC fun _ s_3=>aC fun _ s_4=>aA (aH U U (dG aE U U U (aB (s_4 (aQ U (fun c17=>?_) (fun c17=>?_)))))))))))))))
 ·exact absurd U c17
 refine cT (d:=17) U c17 (aT (aI (s_3 (aC fun _ s_5=>aC fun _ s_6=>aA (aH U U (op_gtr aE U U U (aH U U (cB (d:=22) U (fun g22=>?_) (fun g22=>?_)))))))))
 ·exfalso;omega
 refine aP (bF U U U U) U U (dF (bF U U U U) U U U (aP (bF U U U U) U U (cB (d:=25) U (fun g25=>?_) (fun g25=>?_))))
 ·exfalso;omega
 refine aU U U U U U U U (aU U U U U U U U (aU U U U U U U U (aU U U U U U U U (cE (bF U U U U) U U U (cE aE U U U (aB (s_6 (dA U (aT (aI (s_5 (aC fun _ s_7=>aA (aH U U (bD bU (.cons U .nil) ((rDecode_f sp (by omega)).liftB hNR) Tryz.func36 U U (by simp) U ?_))))))))))))))
 rintro _ _ (⟨t,M35,x,hd,rfl,rfl,hi⟩|⟨e,hd,rfl,rfl,hne⟩)
 ·show At _ _ _ [M35,N2,R] _
  obtain⟨l,bs,its,et,o1,o2,xs,hI,hX⟩:=it_openQ hi;obtain⟨xl,ab,nb,cb,ai,ni,ci⟩:=x;have o1:xl=l:=o1;have hI:RSl M35 3 ai ni ci (cellsI xs):=hI;have hxl:=hX.length;have hni:xs.length=ni:=(by have:=hI.1;rw [length_cellsI]at this;omega);have hcap:=hI.cap63
  refine aH U U (aO aE U U U (aO aE U U U (bK bU ze91 U (fun N7 b7 B7=>?_))))
  change Blk N7 b7 _ [.bool false,.slice none 0 0,.slice none 0 0]at B7
  refine aF cL sz91 U U U U U B7 (by simp) dB (fun N7 B7=>?_)
  simp only [setL,List.set]at B7
  refine aR U U (aB (s_7 (aC fun _ s_8=>aC fun _ s_9=>aA (aH U U (dG aE U U U (aB (s_9 (aQ U (fun c39=>?_) (fun c39=>?_)))))))))
  ·exact absurd U c39
  refine cT (d:=39) U c39 (aT (aI (s_8 (aC fun _ s_10=>aC fun _ s_11=>aN (bO (aN (aN (At.drawnS [N7,R] [] [] [0,1,2,3,4,5,6,7,8,9,10] (by kernel_rfl) (by kernel_rfl) (.cons _ (.cons _ (.refl _))) (aD (cD U U U) fl91_0 U U (aK (cD U U U) sc4 U B7 U bI U ?_))))))))))
  refine op_not (cD U U U) U U (aP (cD U U U) U U (At.part (d:=45) U (fun g45=>?_) (fun g45=>?_)))
  ·refine bS U U U U U U U U (bS U U U U U U U U (bS U U U U U U U U (bS U U U U U U U U (bS U U U U U U U U (bS U U U U U U U U (cH (cD U U U) U U U (At.sNil (aI (s_11 (At.condT U (aC fun _ s_12=>aA (cM (out:=z32) aE ze32 pl32 .nil U U (aF cL sz32 U U U cQ (by decide) B2 (by exact Nat.le_refl _) sel1 (fun N2 B2=>?_))))))))))))))
   rw [bG rfl]at B2
   refine aR U U (aB (s_12 (a0 (aS ((cV (bW (bJ (aM (bO (aM (bE (L1:= [nilH]) U (.cell U (bQ (ds:=_) ag32 B2 (by first|exact bY cQ|exact bY (aX l_to)) (by first|exact cQ|exact aX l_to) bI) (.tmp U .nil)) U (.cons _ (.refl _)) aJ ?_))))))))))))
   have hl:l=false:=by rw [←o1];simpa using g45
   exact .inr ⟨2,readTx_4 he hk3 hd (by rw [et,hl];rfl),rfl,by decide,rfl⟩
  refine aD (cR U U U U U U) fl91_2 U U (aK (cR U U U U U U) sc89 U B7 U bI U ?_)
  refine cF (cR U U U U U U) se89 U U (aP (cR U U U U U U) U U (bD (Nx.agree (nxsgm U U U U U U)) (.cons U .nil) (hcnt) Tryz.func37 U U (by simp) U ?_))
  rintro _ _ ⟨rfl,rfl⟩
  show At _ _ _ [M35,N2,N7,R] _
  refine At.moreS (Lst:= [N7,R]) (Lst':= [N7,R]) (.refl _) (.cons _ (.cons _ (.refl _))) (dG (cR U U U U U U) U U U (cE (cD U U U) U U U (At.sNil (aI (s_11 (aQ U (fun c52=>?_) (fun c52=>?_)))))))
  ·refine c4 (d:=52) U c52 (aC fun _ s_13=>aA (cM (out:=z32) aE ze32 pl32 .nil U U (aF cL sz32 U U U cQ (by decide) B2 (by exact Nat.le_refl _) sel1 (fun N2 B2=>?_))))
   rw [bG rfl]at B2
   refine aR U U (aB (s_13 (a0 (aS ((cV (bW (bJ (aM (bO (aM (bE (L1:= [nilH]) U (.cell U (bQ (ds:=_) ag32 B2 (by first|exact bY cQ|exact bY (aX l_to)) (by first|exact cQ|exact aX l_to) bI) (.tmp U .nil)) U (.cons _ (.refl _)) aJ ?_))))))))))))
   have hl:l=true:=by rw [←o1];simpa using g45
   exact .inr ⟨2,(readTx_5 (its:=its) he hk3 hd (by rw [et,hl];rfl)).trans (show txE 2 its=_ from tx2_ne fun hm=>by have:=List.mem_singleton.1 hm;omega),rfl,by decide,rfl⟩
  refine cT (d:=52) U c52 ?_
  have hl:l=true:=by rw [←o1];first|simpa using g45|simpa using g44
  obtain⟨t0,t1,t2,t3,t4,t5,t6,t7,t8,t9,t10,t11,rfl⟩:=of12 (l:=its) (by omega)
  have hpl:=deco_plainQ (by omega) hd
  have hfl:=deco_le (by omega) hd
  obtain⟨_,hpi⟩:=plain_items hpl hfl
  rw [et]at hpi
  have hT:readTxE b=tx2 [t0,t1,t2,t3,t4,t5,t6,t7,t8,t9,t10,t11]:=(readTx_5 (its:= [t0,t1,t2,t3,t4,t5,t6,t7,t8,t9,t10,t11]) he hk3 hd (by rw [et,hl];rfl)).trans rfl
  have inv:Inv 0 (readTxE b) (tx2 [t0,t1,t2,t3,t4,t5,t6,t7,t8,t9,t10,t11]):=.inl ⟨rfl,hT⟩
  have hni2:ni=12:=by omega
  subst hni2
  refine aT (aI (s_10 (aC fun _ s_14=>aA (aD aE fl91_2 U U (aK aE sc89 U B7 U mem2 U ?_)))))
  refine cM (out:= [.slice ai 12 ci,.int .i64 0,.int .i64 0]) aE ze105 pl105 (.cons U .nil) U U (op_box bU U U U (fun N57 b57 B57=>aR U U (aB (s_14 (aC fun _ s_15=>aA (aH U U (cM (out:=(txP (2:Int) 0 0 0 0 0 false zero20 0 (.slice none 0 0) (.slice none 0 0) 0 (.slice none 0 0) false 0 0).flatten) aE ze32 pl32 (.cons U .nil) (fill_tx 2) U (bK bU ze32 U (fun N9 b9 B9=>?_)))))))))
  change Blk N9 b9 _ z32 at B9
  refine aF cL sz32 U U U (aX hz) (TxM.one (m:=⟨2,0,0,0,0,0,false,zero20,0,[],[],0,[],false,0,0⟩) U U U) B9 (by rw [aX hz,cQ];exact Nat.le_refl _) dB (fun N9 B9=>?_)
  rw [bG (by rw [aX hz,cQ])]at B9;have hQ:PartsQ N57 M35 b57 [t0,t1,t2,t3,t4,t5,t6,t7,t8,t9,t10,t11] 0 0:=⟨ai,12,ci,xs,B57,hI,hX⟩
  refine aB (s_15 (aC fun _ s_16=>aC fun _ s_17=>aA (aH U U (op_gtr aE U U U (aB (s_17 (aQ U (fun c61=>?_) (fun c61=>?_))))))))
  rotate_left
  ·exfalso;omega
  refine c4 (d:=61) U c61 (aA (aH U U (aG (aG (aG (aG (aL (aG (cA cL (.cons U .nil) (RSmall hQ (by omega)) (F:= [N9,M35,N2,N7,R]) Tryz.func38 U U aJ (by simp) U ?_)))))))))
  rintro _ _ ⟨Nq,E_ch,x_ch,rfl,l_ch,rfl,hQ,st_ch⟩
  show At _ _ _ [Nq,N9,M35,N2,N7,R] _
  have inv:=inv.step st_ch
  refine aD aE fl32_1 U U ?_
  refine aF cL sz24 U U U U U B9 (by rw [aX hz];exact show 0+1+1≤53 by decide) sel1 (fun N9 B9=>?_)
  erw [tx_ch hz]at B9
  refine aB (s_16 (aC fun _ s_18=>aA (aH U U (aG (aG (aG (aG (aL (aG (cA cL (.cons U .nil) (RSmall hQ (by omega)) (F:= [N9,M35,N2,N7,R]) Tryz.func38 U U aJ (by simp) U ?_))))))))))
  rintro _ _ ⟨Nq,E_nn,x_nn,rfl,l_nn,rfl,hQ,st_nn⟩
  show At _ _ _ [Nq,N9,M35,N2,N7,R] _
  have inv:=inv.step st_nn
  refine aD aE fl32_2 U U ?_
  refine aF cL sz24 U U U U U B9 (by rw [aX hz];exact show 0+2+1≤53 by decide) sel1 (fun N9 B9=>?_)
  erw [tx_nn hz]at B9
  refine aB (s_18 (aC fun _ s_19=>aC fun _ s_20=>aA (aH U U (op_geq aE U U U (aB (s_20 (aQ U (fun c69=>?_) (fun c69=>?_))))))))
  rotate_left
  ·exfalso;omega
  refine c4 (d:=69) U c69 (aA (aH U U (aG (aG (aG (aG (aL (aG (cA cL (.cons U .nil) (RWord hQ (by omega)) (F:= [N9,M35,N2,N7,R]) Tryz.func39 U U aJ (by simp) U ?_)))))))))
  rintro _ _ ⟨Nq,E_tp,x_tp,rfl,l_tp,rfl,hQ,st_tp⟩
  show At _ _ _ [Nq,N9,M35,N2,N7,R] _
  have inv:=inv.step st_tp
  refine aD aE fl32_4 U U ?_
  refine aF cL sz26 U U U U U B9 (by rw [aX hz];exact show 0+7+4≤53 by decide) sel1 (fun N9 B9=>?_)
  erw [tx_tp hz]at B9
  refine aB (s_19 (aC fun _ s_21=>aA (aH U U (aG (aG (aG (aG (aL (aG (cA cL (.cons U .nil) (RWord hQ (by omega)) (F:= [N9,M35,N2,N7,R]) Tryz.func39 U U aJ (by simp) U ?_))))))))))
  rintro _ _ ⟨Nq,E_pr,x_pr,rfl,l_pr,rfl,hQ,st_pr⟩
  show At _ _ _ [Nq,N9,M35,N2,N7,R] _
  have inv:=inv.step st_pr
  refine aD aE fl32_3 U U ?_
  refine aF cL sz26 U U U U U B9 (by rw [aX hz];exact show 0+3+4≤53 by decide) sel1 (fun N9 B9=>?_)
  erw [tx_pr hz]at B9
  refine aB (s_21 (aC fun _ s_22=>aA (aH U U (aG (aG (aG (aG (aL (aG (cA cL (.cons U .nil) (RSmall hQ (by omega)) (F:= [N9,M35,N2,N7,R]) Tryz.func38 U U aJ (by simp) U ?_))))))))))
  rintro _ _ ⟨Nq,E_ga,x_ga,rfl,l_ga,rfl,hQ,st_ga⟩
  show At _ _ _ [Nq,N9,M35,N2,N7,R] _
  have inv:=inv.step st_ga
  refine aD aE fl32_5 U U ?_
  refine aF cL sz24 U U U U U B9 (by rw [aX hz];exact show 0+11+1≤53 by decide) sel1 (fun N9 B9=>?_)
  erw [tx_ga hz]at B9
  refine aB (s_22 (aC fun _ s_23=>At.meet (fun fr_ hp_=> ∃(E_to:Nat) (x_mk:Bool) (x_to:List UInt8) (Nq N9:Heaplet),fr_= [(2,.pointer (some ⟨b2,0,none⟩)),(4,.int .i64 2),(8,.pointer (some ⟨b57,0,none⟩)),(9,.pointer (some ⟨b9,0,none⟩))]∧hp_= [Nq,N9,N2,M35,R]∧(Blk N9 b9 32 (txP (2:Int) x_ch x_nn x_pr x_tp x_ga x_mk x_to 0 (.slice none 0 0) (.slice none 0 0) 0 (.slice none 0 0) false 0 0).flatten)∧(PartsQ Nq M35 b57 [t0,t1,t2,t3,t4,t5,t6,t7,t8,t9,t10,t11] 6 E_to)∧(x_to.length=20)∧(Stp E_ga (toE 2 t5) (x_mk,x_to) E_to)) ?_ (fun K23_ jk_23=>?_)))
  rotate_left
  ·skip
   refine aC fun _ s_24=>?_
   obtain⟨aq,nq,cq,xq,Bq,sq,Xq⟩:=id hQ
   have hxq:=Xq.length
   have hnq:xq.length=nq:=by have:=sq.1;rw [length_cellsI]at this;omega
   have hcq:=sq.cap63
   simp only [List.length_cons,List.length_nil]at hxq
   obtain⟨zq,hzq,hziq⟩:=Xq.get (k:=5) (t:=t5) rfl
   obtain⟨lq,bsq,itq,etq,oq1,oq2,_⟩:=it_openQ hziq
   have oq3:=oq2.len8
   have hsq:=sq.isSome (by omega)
   refine aG (aN (aN (aG (aG (aG (At.drawnS [Nq,M35,R] [] [] [0,1,2,3,4,5,6,7,8,9,10,11,12,13,14,15,16,17,18,19,20,21,22,23,24,25,26,27,28,29,30,31,32,33,34,35,36,37,38,39,40,41,42] (by kernel_rfl) (by kernel_rfl) (.cons _ (.cons _ (.cons _ (.refl _)))) (aP (cD U U U) U U (op_lss (cD U U U) U U U (aP (cD U U U) U U (cB (d:=81) U (fun g81=>?_) (fun g81=>?_)))))))))))
   rotate_left
   ·exfalso;omega
   refine aP (cR U U U U U U) U U (aW (cR U U U U U U) U U (aD (cR U U U U U U) fl105_1 U U (aK (cR U U U U U U) sc3 U Bq U bI U ?_)))
   refine aP (cR U U U U U U) U U (aW (cR U U U U U U) U U (aD (cR U U U U U U) fl105_0 U U (aK (cR U U U U U U) sc89 U Bq U bI U ?_)))
   refine cF (cR U U U U U U) se89 U U (op_lss (cR U U U U U U) U U U (cH (cD U U U) U U U (aP (cD U U U) U U (cB (d:=93) U (fun g93=>?_) (fun g93=>?_)))))
   rotate_left
   ·exfalso;omega
   refine aP (cR U U U U U U) U U (aW (cR U U U U U U) U U (aD (cR U U U U U U) fl105_0 U U (aK (cR U U U U U U) sc89 U Bq U bI U ?_)))
   refine aP (cR U U U U U U) U U (aW (cR U U U U U U) U U (aD (cR U U U U U U) fl105_1 U U (aK (cR U U U U U U) sc3 U Bq U bI U ?_)))
   refine op_idxE (cR U U U U U U) se89 U U sq (show _=(((5:Nat)):Int)from by omega) (by omega) U ?_
   refine op_fieldAddrE (cR U U U U U U) fl91_0 U (by first|rfl|assumption) U ?_
   refine cO (cR U U U U U U) sc4 U sq (by first|exact get8 (by omega)|exact get64 (by omega)|exact get32 (by omega)|exact cells_jq hzq (j:=0) (by decide)) (by simp) U ?_
   refine op_not (cR U U U U U U) U U (cH (cD U U U) U U U (aP (cD U U U) U U (At.part (d:=107) U (fun g107=>?_) (fun g107=>?_))))
   ·refine aP (cR U U U U U U) U U (aW (cR U U U U U U) U U (aD (cR U U U U U U) fl105_0 U U (aK (cR U U U U U U) sc89 U Bq U bI U ?_)))
    refine aP (cR U U U U U U) U U (aW (cR U U U U U U) U U (aD (cR U U U U U U) fl105_1 U U (aK (cR U U U U U U) sc3 U Bq U bI U ?_)))
    refine op_idxE (cR U U U U U U) se89 U U sq (show _=(((5:Nat)):Int)from by omega) (by omega) U ?_
    refine op_fieldAddrE (cR U U U U U U) fl91_1 U (by first|rfl|assumption) U ?_
    refine cO (cR U U U U U U) sc22 U sq (by first|exact get8 (by omega)|exact get64 (by omega)|exact get32 (by omega)|exact cells_jq hzq (j:=1) (by decide)) (by simp) U ?_
    refine cF (cR U U U U U U) se22 U U (dF (cR U U U U U U) U U U (cH (cD U U U) U U U (At.sNil (aI (s_24 (aQ U (fun c121=>?_) (fun c121=>?_)))))))
    ·refine c4 (d:=121) U c121 (aC fun _ s_25=>aA (aD aE fl32_6 U U ?_))
     refine aF cL sz4 U U U U U B9 (by rw [aX hz];exact show 0+12+1≤53 by decide) dB (fun N9 B9=>?_)
     erw [tx_mk hz]at B9
     refine aB (s_25 (aA (aH U U (aG (aG (aL (aL (aL (aG (cA cL (.cons U .nil) (RNext hQ (by omega)) (F:= [N9,N2,N7,M35,R]) Tryz.func40 U U aJ (by simp) U ?_))))))))))
     rintro _ _ ⟨Nq,zz,rfl,rfl,hQ,_⟩
     show At _ _ _ [Nq,N9,N2,N7,M35,R] _
     refine cX (bW ?_)
     refine aI (jk_23 ?_ aJ ⟨E_ga,true,zero20,Nq,N9,rfl,rfl,B9,hQ,hz,stp_mk (t:=t5) (l:=bsq) (by rw [etq,show lq=false by rw [←oq1];simpa using g107];rfl) (by omega) (by decide)⟩)
     repeat first|apply cW|exact .nil|exact lkI rfl (by omega)|rfl
    refine cT (d:=121) U c121 (aA (aH U U (aG (aG (aL (aL (aL (aG (cA cL (.cons U .nil) (RAddr hQ (by omega)) (F:= [N9,N2,N7,M35,R]) Tryz.func41 U U aJ (by simp) U ?_)))))))))
    rintro _ _ ⟨Nq,x_to,E_to,rfl,l_to,rfl,hQ,st_to⟩
    show At _ _ _ [Nq,N9,N2,N7,M35,R] _
    refine aD aE fl32_7 U U ?_
    refine aF cL sz28 U U U (by rw [bL];exact l_to) (all8x2 _) B9 (by rw [aX hz,bL,l_to];exact show 0+13+20≤53 by decide) sel1 (fun N9 B9=>?_)
    erw [tx_to hz l_to]at B9
    refine cX (bW (aL (aL (aL (aN (aL ?_))))))
    refine aI (jk_23 ?_ aJ ⟨E_to,false,x_to,Nq,N9,rfl,rfl,B9,hQ,l_to,stp_to st_to (fun l hl k0=>by rw [etq,show lq=false by rw [←oq1];simpa using g107]at hl;cases hl;exact absurd k0.1 (by omega))⟩)
    repeat first|apply cW|exact .nil|exact lkI rfl (by omega)|rfl
   refine bS U U U U U U U U (bS U U U U U U U U (bS U U U U U U U U (bS U U U U U U U U (bS U U U U U U U U (bS U U U U U U U U (bS U U U U U U U U (bS U U U U U U U U (bS U U U U U U U U (bS U U U U U U U U (bS U U U U U U U U (bS U U U U U U U U (bS U U U U U U U U (cE (cD U U U) U U U (At.sNil (aI (s_24 (dA U (aA (aH U U (aG (aG (aL (aL (aL (aG (cA cL (.cons U .nil) (RAddr hQ (by omega)) (F:= [N9,N2,N7,M35,R]) Tryz.func41 U U aJ (by simp) U ?_))))))))))))))))))))))))))
   rintro _ _ ⟨Nq,x_to,E_to,rfl,l_to,rfl,hQ,st_to⟩
   show At _ _ _ [Nq,N9,N2,N7,M35,R] _
   refine aD aE fl32_7 U U ?_
   refine aF cL sz28 U U U (by rw [bL];exact l_to) (all8x2 _) B9 (by rw [aX hz,bL,l_to];exact show 0+13+20≤53 by decide) sel1 (fun N9 B9=>?_)
   erw [tx_to hz l_to]at B9
   refine cX (bW (aL (aL (aL (aN (aL ?_))))))
   refine aI (jk_23 ?_ aJ ⟨E_to,false,x_to,Nq,N9,rfl,rfl,B9,hQ,l_to,stp_to st_to (fun l hl _=>by rw [etq,show lq=true by rw [←oq1];simpa using g107]at hl;cases hl)⟩)
   repeat first|apply cW|exact .nil|exact lkI rfl (by omega)|rfl
  rintro _ _ ⟨E_to,x_mk,x_to,Nq,N9,rfl,rfl,B9,hQ,l_to,st_to⟩
  have inv:=inv.step st_to
  refine s_23 (aC fun _ s_26=>aA (aH U U (cA cL (.cons U .nil) (RWord hQ (by omega)) (F:= [N9,N2,M35,R]) Tryz.func39 U U aJ (by simp) U ?_)))
  rintro _ _ ⟨Nq,E_va,x_va,rfl,l_va,rfl,hQ,st_va⟩
  show At _ _ _ [Nq,N9,N2,M35,R] _
  have inv:=inv.step st_va
  refine aD aE fl32_8 U U ?_
  refine aF cL sz26 U U U U U B9 (by rw [aX l_to];exact show 0+33+4≤53 by decide) sel1 (fun N9 B9=>?_)
  erw [tx_va l_to]at B9
  refine aB (s_26 (aC fun _ s_27=>aA (aH U U (aL (aL (aL (aN (aL (cA cL (.cons U (.cons U .nil)) (RRawAny hQ (by omega)) (F:= [N9,N2,M35,R]) Tryz.func42 U U aJ (by simp) U ?_)))))))))
  rintro _ _ ⟨Nq,M_d,da,x_d,dc,E_d,rfl,rfl,hQ,rb_d,st_d,_⟩
  show At _ _ _ [Nq,M_d,N9,N2,M35,R] _
  have inv:=inv.step st_d
  refine aD aE fl32_9 U U ?_
  refine aF cL sz22 U U U U U B9 (by rw [aX l_to];exact show 0+37+1≤53 by decide) sel2 (fun N9 B9=>?_)
  erw [tx_d l_to]at B9
  refine aB (s_27 (aC fun _ s_28=>aC fun _ s_29=>aA (aH U U (op_gtr aE U U U (aB (s_29 (aQ U (fun c135=>?_) (fun c135=>?_))))))))
  rotate_left
  ·exfalso;omega
  refine c4 (d:=135) U c135 (aA (aH U U (aG (aG (aG (aG (aL (aG (cA cL (.cons U .nil) (RAccess hQ (by omega) (plain_deep (hpi t8 (by simp [It.items])).1 (hpi t8 (by simp [It.items])).2)) (F:= [N9,M_d,N2,M35,R]) Tryz.func43 U U aJ (by simp) U ?_)))))))))
  rintro _ _ ⟨Nq,Na,Nk,aa,cc,x_a,axs,E_a,rfl,rfl,hQ,r_a,k_a,st_a⟩
  show At _ _ _ [Nq,Na,Nk,N9,M_d,N2,M35,R] _
  have inv:=inv.step st_a
  refine aD aE fl32_10 U U ?_
  refine aF cL sz29 U U U U U B9 (by rw [aX l_to];exact show 0+38+1≤53 by decide) sel3 (fun N9 B9=>?_)
  erw [tx_a l_to]at B9
  refine aB (s_28 (aC fun _ s_30=>aC fun _ s_31=>aA (aH U U (dF aE U U U (aB (s_31 (aQ U (fun c140=>?_) (fun c140=>?_))))))))
  ·exfalso;omega
  refine cT (d:=140) U c140 (aT (aI (s_30 (aC fun _ s_32=>aA (aH U U (aH U U (aD aE fl32_1 U U (aK aE sc24 U B9 (tx_gch l_to) bI U (aZ (aZ (aZ (aZ (aZ (aZ (bC (aZ (cA cL (.cons U (.cons U (.cons U .nil))) (RV hQ (by omega) (by decide) l_ch (fun h0=>absurd h0 (by decide))) (F:= [N9,Na,Nk,M_d,N2,M35,R]) Tryz.func45 U U aJ (by simp) U ?_)))))))))))))))))
  rintro _ _ ⟨Nq,x_v,E_v,rfl,l_v,rfl,hQ,st_v⟩
  show At _ _ _ [Nq,N9,Na,Nk,M_d,N2,M35,R] _
  have inv:=inv.step st_v;obtain⟨x_c,x_o⟩:=x_v
  refine aH U U (aO aE U U U (aO aE U U U (aD aE fl32_1 U U ?_)))
  refine aF cL sz24 U U U U U B9 (by rw [aX l_to];exact show 0+1+1≤53 by decide) sel1 (fun N9 B9=>?_)
  erw [tx_ch l_to]at B9
  refine aD aE fl32_13 U U ?_
  refine aF cL sz4 U U U U U B9 (by rw [aX l_to];exact show 0+44+1≤53 by decide) dB (fun N9 B9=>?_)
  erw [tx_od l_to]at B9
  refine aB (s_32 (aC fun _ s_33=>aA (aH U U (aZ (aZ (aZ (aZ (aZ (aZ (bC (aZ (cA cL (.cons U .nil) (RWord hQ (by omega)) (F:= [N9,Na,Nk,M_d,N2,M35,R]) Tryz.func39 U U aJ (by simp) U ?_))))))))))))
  rintro _ _ ⟨Nq,E_r,x_r,rfl,l_r,rfl,hQ,st_r⟩
  show At _ _ _ [Nq,N9,Na,Nk,M_d,N2,M35,R] _
  have inv:=inv.step st_r
  refine aD aE fl32_14 U U ?_
  refine aF cL sz26 U U U U U B9 (by rw [aX l_to];exact show 0+45+4≤53 by decide) sel1 (fun N9 B9=>?_)
  erw [tx_r l_to]at B9
  refine aB (s_33 (aC fun _ s_34=>aA (aH U U (aZ (aZ (aZ (aZ (aZ (aZ (bC (aZ (cA cL (.cons U .nil) (RWord hQ (by omega)) (F:= [N9,Na,Nk,M_d,N2,M35,R]) Tryz.func39 U U aJ (by simp) U ?_))))))))))))
  rintro _ _ ⟨Nq,E_s,x_s,rfl,l_s,rfl,hQ,st_s⟩
  show At _ _ _ [Nq,N9,Na,Nk,M_d,N2,M35,R] _
  have inv:=inv.step st_s
  refine aD aE fl32_15 U U ?_
  refine aF cL sz26 U U U U U B9 (by rw [aX l_to];exact show 0+49+4≤53 by decide) sel1 (fun N9 B9=>?_)
  erw [tx_s l_to]at B9
  refine aB (s_34 (aC fun _ s_35=>aC fun _ s_36=>?_))
  obtain⟨ay,ny,cy,xy,Bq,_,_⟩:=id hQ
  refine aA (aH U U (aW aE U U (aD aE fl105_2 U U (aK aE sc3 U Bq U mem1 U ?_))))
  refine dG aE U U U (aB (s_36 (aQ U (fun c167=>?_) (fun c167=>?_))))
  ·refine c4 (d:=167) U c167 (aC fun _ s_37=>aZ (aM (aZ (aZ (aZ (aZ (aZ (aZ (At.drawnS [Nq,R] [] [1] [0,1,2,3,4,5,6] (by kernel_rfl) (by kernel_rfl) (.cons _ (.cons _ (.cons _ (.cons _ (.cons _ (.cons _ (.refl _))))))) (cM (out:=z32) (cD U U U) ze32 pl32 .nil U U (aP (cD U U U) U U (aW (cD U U U) U U (aD (cD U U U) fl105_2 U U (aK (cD U U U) sc3 U Bq U bI U ?_))))))))))))))
   refine aF (nxsm U U U) sz32 U U U cQ (by decide) B2 (by exact Nat.le_refl _) sel4 (fun N2 B2=>?_)
   rw [bG rfl]at B2
   refine At.moreS (Lst:= [Nq,R]) (Lst':= [Nq,R]) (.refl _) (.cons _ (.cons _ (.cons _ (.cons _ (.cons _ (.cons _ (.refl _))))))) (cJ (cD U U U) U U (At.sNil (aI (s_37 (a0 (aS ((cV (dropAt7 (dropAt6 (dropAt5 (dH (bW (bJ (aM (bO (aM (bE (L1:= [nilH]) U (.cell U (bQ (ds:=_) ag32 B2 (by first|exact bY cQ|exact bY (aX l_to)) (by first|exact cQ|exact aX l_to) bI) (.tmp U .nil)) U (.cons _ (.refl _)) (.refl _) ?_))))))))))))))))))
   have h0:E_s≠0:=by omega
   exact .inr ⟨E_s,inv.err h0,rfl,h0,rfl⟩
  refine cT (d:=167) U c167 (aT (aI (s_35 (aC fun _ s_38=>aA (aV (ds:=_) aE ag32 U B9 (by exact bY (aX l_to)) (by exact aX l_to) bI U ?_)))))
  refine aF cL sz32 U U U (aX l_to) (TxM.one (m:=(⟨2,x_c,x_nn,x_pr,x_tp,x_ga,x_mk,x_to,x_va,x_d,x_a,0,[],x_o,x_r,x_s⟩:TxM)) U U U) B2 (by rw [aX l_to,cQ];exact Nat.le_refl _) sel5 (fun N2 B2=>?_)
  rw [bG (by rw [aX l_to,cQ])]at B2
  refine aR U U (aB (s_38 (a0 ((aZ (aG (aG (aG (aG (aG (bC (aZ (dI (fun Q Q1 Q2=>bC (bC (aG (aG (aG (bC (bC (dI (fun S S1 S2=>aG (aL (aL (aL (aG (aG (dI (fun T T1 T2=>bW (bJ (aM (bO (aM (bE (L1:= [T]) U (.cell U (bQ (ds:=_) ag32 B2 (by first|exact bY cQ|exact bY (aX l_to)) (by first|exact cQ|exact aX l_to) bI) (.tmp U .nil)) U (.cons _ (.refl _)) aJ ?_))))))))))))))))))))))))))))))))))
  have h0:E_s=0:=by omega
  exact .inl ⟨T,(⟨2,x_c,x_nn,x_pr,x_tp,x_ga,x_mk,x_to,x_va,x_d,x_a,0,[],x_o,x_r,x_s⟩:TxM),_,_,_,(inv.ok h0).trans rfl,rfl,rfl,⟨l_v,l_nn,l_pr,l_tp,l_ga,l_to,l_va,(show 0<WW by decide),fun _ h_=>absurd h_ List.not_mem_nil,l_r,l_s⟩,da,dc,aa,cc,none,0,axs,rfl,rb_d _ (Heaplet.le_trans Q2 (Heaplet.le_trans S1 T1)) (Heaplet.le_trans Q1 (Heaplet.le_trans S1 T1)),rfl,r_a.rsl.le (Heaplet.le_trans S2 T1),k_a.le T2,rfl,RSl.nil _ _⟩
 show At _ _ _ [N2,R] _
 refine aH U U (aO aE U U U (aO aE U U U (bK bU ze91 U (fun N7 b7 B7=>?_))))
 change Blk N7 b7 _ [.bool false,.slice none 0 0,.slice none 0 0]at B7
 refine aF cL sz91 U U U U U B7 (by simp) dB (fun N7 B7=>?_)
 simp only [setL,List.set]at B7
 refine aR U U (aB (s_7 (aC fun _ s_39=>aC fun _ s_40=>aA (aH U U (dG aE U U U (aB (s_40 (aQ U (fun c39=>?_) (fun c39=>?_)))))))))
 rotate_left
 ·exfalso;omega
 refine c4 (d:=39) U c39 (aC fun _ s_41=>aA (cM (out:=z32) aE ze32 pl32 .nil U U (aH U U (aF cL sz32 U U U cQ (by decide) B2 (by exact Nat.le_refl _) sel1 (fun N2 B2=>?_)))))
 rw [bG rfl]at B2
 refine aR U U (aB (s_41 (a0 (aS ((cV (bJ (aM (bO (aM (bE (L1:= [nilH]) U (.cell U (bQ (ds:=_) ag32 B2 (by first|exact bY cQ|exact bY (aX l_to)) (by first|exact cQ|exact aX l_to) bI) (.tmp U .nil)) U (.cons _ (.refl _)) aJ ?_)))))))))))
 exact .inr ⟨e,readTx_3 he hk3 hd,rfl,hne,rfl⟩
end
section
variable {N : Heaplet} {ao : Option Addr} {n cap : Nat} {b p : List UInt8}
set_option maxHeartbeats 16000000 in
theorem RTx_3 (h:RSl N 1 ao n cap (u8s b)) (hn:n≤1099511627776) (he:envF b=some (3,p)) (hf:0<3∨0<(b.getD 0 0).toNat):Fn Tryz.prog 8 #[.slice ao n cap] [] [N] (RReadTxP b):=by
 have hbl:=h.len8
 obtain⟨hb0,hpb⟩:=envF_len he
 have hz:zero20.length=20:=List.length_replicate ..
 have hk3:3≤3∧(0<3∨0<(b.getD 0 0).toNat):=⟨by decide,hf⟩
 have henv:=(rEnvelope_g h).mono (fun v L hp=>env_some he hp)
 rw [show((3:Nat):Int)=3 from rfl]at henv
 have hcnt:=RCounts 3 (by decide)
 rw [show((3:Nat):Int)=3 from rfl,show(([9,11,12,14].getD 3 0:Nat):Int)=14 from rfl]at hcnt
 refine Fn.enter (vs:= [.slice ao n cap]) Tryz.func8 U U U ?_
 intro E R hR
 have hNR:=hR N (by simp)
 have hbR:=h.le hNR
 change At _ _ E [R] _
 refine aC fun _ s_1=>aA (bK bU ze32 U (fun N2 b2 B2=>?_))
 change Blk N2 b2 _ z32 at B2
 refine aR U U (aB (s_1 (aC fun _ s_2=>aA (aH U U (bD bU (.cons U .nil) (henv.liftB hNR) Tryz.func35 U U (by simp) U ?_)))))
 rintro _ _ ⟨pa,pc,rfl,rfl,sp⟩
 show At _ _ _ [N2,R] _
 refine aH U U (aO aE U U U (aO aE U U U (aO aE U U U (aR U U (aR U U (aR U U (aB (s_2 (aC fun _ s_3=>aC fun _ s_4=>aA (aH U U (dG aE U U U (aB (s_4 (aQ U (fun c17=>?_) (fun c17=>?_)))))))))))))))
 ·exact absurd U c17
 refine cT (d:=17) U c17 (aT (aI (s_3 (aC fun _ s_5=>aC fun _ s_6=>aA (aH U U (op_gtr aE U U U (aH U U (cB (d:=22) U (fun g22=>?_) (fun g22=>?_)))))))))
 ·exfalso;omega
 refine aP (bF U U U U) U U (dF (bF U U U U) U U U (aP (bF U U U U) U U (cB (d:=25) U (fun g25=>?_) (fun g25=>?_))))
 ·exfalso;omega
 refine aU U U U U U U U (aU U U U U U U U (aU U U U U U U U (aU U U U U U U U (cE (bF U U U U) U U U (cE aE U U U (aB (s_6 (dA U (aT (aI (s_5 (aC fun _ s_7=>aA (aH U U (bD bU (.cons U .nil) ((rDecode_f sp (by omega)).liftB hNR) Tryz.func36 U U (by simp) U ?_))))))))))))))
 rintro _ _ (⟨t,M35,x,hd,rfl,rfl,hi⟩|⟨e,hd,rfl,rfl,hne⟩)
 ·show At _ _ _ [M35,N2,R] _
  obtain⟨l,bs,its,et,o1,o2,xs,hI,hX⟩:=it_openQ hi;obtain⟨xl,ab,nb,cb,ai,ni,ci⟩:=x;have o1:xl=l:=o1;have hI:RSl M35 3 ai ni ci (cellsI xs):=hI;have hxl:=hX.length;have hni:xs.length=ni:=(by have:=hI.1;rw [length_cellsI]at this;omega);have hcap:=hI.cap63
  refine aH U U (aO aE U U U (aO aE U U U (bK bU ze91 U (fun N7 b7 B7=>?_))))
  change Blk N7 b7 _ [.bool false,.slice none 0 0,.slice none 0 0]at B7
  refine aF cL sz91 U U U U U B7 (by simp) dB (fun N7 B7=>?_)
  simp only [setL,List.set]at B7
  refine aR U U (aB (s_7 (aC fun _ s_8=>aC fun _ s_9=>aA (aH U U (dG aE U U U (aB (s_9 (aQ U (fun c39=>?_) (fun c39=>?_)))))))))
  ·exact absurd U c39
  refine cT (d:=39) U c39 (aT (aI (s_8 (aC fun _ s_10=>aC fun _ s_11=>aN (bO (aN (aN (At.drawnS [N7,R] [] [] [0,1,2,3,4,5,6,7,8,9,10] (by kernel_rfl) (by kernel_rfl) (.cons _ (.cons _ (.refl _))) (aD (cD U U U) fl91_0 U U (aK (cD U U U) sc4 U B7 U bI U ?_))))))))))
  refine op_not (cD U U U) U U (aP (cD U U U) U U (At.part (d:=45) U (fun g45=>?_) (fun g45=>?_)))
  ·refine bS U U U U U U U U (bS U U U U U U U U (bS U U U U U U U U (bS U U U U U U U U (bS U U U U U U U U (bS U U U U U U U U (cH (cD U U U) U U U (At.sNil (aI (s_11 (At.condT U (aC fun _ s_12=>aA (cM (out:=z32) aE ze32 pl32 .nil U U (aF cL sz32 U U U cQ (by decide) B2 (by exact Nat.le_refl _) sel1 (fun N2 B2=>?_))))))))))))))
   rw [bG rfl]at B2
   refine aR U U (aB (s_12 (a0 (aS ((cV (bW (bJ (aM (bO (aM (bE (L1:= [nilH]) U (.cell U (bQ (ds:=_) ag32 B2 (by first|exact bY cQ|exact bY (aX l_to)) (by first|exact cQ|exact aX l_to) bI) (.tmp U .nil)) U (.cons _ (.refl _)) aJ ?_))))))))))))
   have hl:l=false:=by rw [←o1];simpa using g45
   exact .inr ⟨2,readTx_4 he hk3 hd (by rw [et,hl];rfl),rfl,by decide,rfl⟩
  refine aD (cR U U U U U U) fl91_2 U U (aK (cR U U U U U U) sc89 U B7 U bI U ?_)
  refine cF (cR U U U U U U) se89 U U (aP (cR U U U U U U) U U (bD (Nx.agree (nxsgm U U U U U U)) (.cons U .nil) (hcnt) Tryz.func37 U U (by simp) U ?_))
  rintro _ _ ⟨rfl,rfl⟩
  show At _ _ _ [M35,N2,N7,R] _
  refine At.moreS (Lst:= [N7,R]) (Lst':= [N7,R]) (.refl _) (.cons _ (.cons _ (.refl _))) (dG (cR U U U U U U) U U U (cE (cD U U U) U U U (At.sNil (aI (s_11 (aQ U (fun c52=>?_) (fun c52=>?_)))))))
  ·refine c4 (d:=52) U c52 (aC fun _ s_13=>aA (cM (out:=z32) aE ze32 pl32 .nil U U (aF cL sz32 U U U cQ (by decide) B2 (by exact Nat.le_refl _) sel1 (fun N2 B2=>?_))))
   rw [bG rfl]at B2
   refine aR U U (aB (s_13 (a0 (aS ((cV (bW (bJ (aM (bO (aM (bE (L1:= [nilH]) U (.cell U (bQ (ds:=_) ag32 B2 (by first|exact bY cQ|exact bY (aX l_to)) (by first|exact cQ|exact aX l_to) bI) (.tmp U .nil)) U (.cons _ (.refl _)) aJ ?_))))))))))))
   have hl:l=true:=by rw [←o1];simpa using g45
   exact .inr ⟨2,(readTx_5 (its:=its) he hk3 hd (by rw [et,hl];rfl)).trans (show txE 3 its=_ from tx3_ne fun hm=>by have:=List.mem_singleton.1 hm;omega),rfl,by decide,rfl⟩
  refine cT (d:=52) U c52 ?_
  have hl:l=true:=by rw [←o1];first|simpa using g45|simpa using g44
  obtain⟨t0,t1,t2,t3,t4,t5,t6,t7,t8,t9,t10,t11,t12,t13,rfl⟩:=of14 (l:=its) (by omega)
  have hpl:=deco_plainQ (by omega) hd
  have hfl:=deco_le (by omega) hd
  obtain⟨_,hpi⟩:=plain_items hpl hfl
  rw [et]at hpi
  have hT:readTxE b=tx3 [t0,t1,t2,t3,t4,t5,t6,t7,t8,t9,t10,t11,t12,t13]:=(readTx_5 (its:= [t0,t1,t2,t3,t4,t5,t6,t7,t8,t9,t10,t11,t12,t13]) he hk3 hd (by rw [et,hl];rfl)).trans rfl
  have inv:Inv 0 (readTxE b) (tx3 [t0,t1,t2,t3,t4,t5,t6,t7,t8,t9,t10,t11,t12,t13]):=.inl ⟨rfl,hT⟩
  have hni2:ni=14:=by omega
  subst hni2
  refine aT (aI (s_10 (aC fun _ s_14=>aA (aD aE fl91_2 U U (aK aE sc89 U B7 U mem2 U ?_)))))
  refine cM (out:= [.slice ai 14 ci,.int .i64 0,.int .i64 0]) aE ze105 pl105 (.cons U .nil) U U (op_box bU U U U (fun N57 b57 B57=>aR U U (aB (s_14 (aC fun _ s_15=>aA (aH U U (cM (out:=(txP (3:Int) 0 0 0 0 0 false zero20 0 (.slice none 0 0) (.slice none 0 0) 0 (.slice none 0 0) false 0 0).flatten) aE ze32 pl32 (.cons U .nil) (fill_tx 3) U (bK bU ze32 U (fun N9 b9 B9=>?_)))))))))
  change Blk N9 b9 _ z32 at B9
  refine aF cL sz32 U U U (aX hz) (TxM.one (m:=⟨3,0,0,0,0,0,false,zero20,0,[],[],0,[],false,0,0⟩) U U U) B9 (by rw [aX hz,cQ];exact Nat.le_refl _) dB (fun N9 B9=>?_)
  rw [bG (by rw [aX hz,cQ])]at B9;have hQ:PartsQ N57 M35 b57 [t0,t1,t2,t3,t4,t5,t6,t7,t8,t9,t10,t11,t12,t13] 0 0:=⟨ai,14,ci,xs,B57,hI,hX⟩
  refine aB (s_15 (aC fun _ s_16=>aC fun _ s_17=>aA (aH U U (op_gtr aE U U U (aB (s_17 (aQ U (fun c61=>?_) (fun c61=>?_))))))))
  rotate_left
  ·exfalso;omega
  refine c4 (d:=61) U c61 (aA (aH U U (aG (aG (aG (aG (aL (aG (cA cL (.cons U .nil) (RSmall hQ (by omega)) (F:= [N9,M35,N2,N7,R]) Tryz.func38 U U aJ (by simp) U ?_)))))))))
  rintro _ _ ⟨Nq,E_ch,x_ch,rfl,l_ch,rfl,hQ,st_ch⟩
  show At _ _ _ [Nq,N9,M35,N2,N7,R] _
  have inv:=inv.step st_ch
  refine aD aE fl32_1 U U ?_
  refine aF cL sz24 U U U U U B9 (by rw [aX hz];exact show 0+1+1≤53 by decide) sel1 (fun N9 B9=>?_)
  erw [tx_ch hz]at B9
  refine aB (s_16 (aC fun _ s_18=>aA (aH U U (aG (aG (aG (aG (aL (aG (cA cL (.cons U .nil) (RSmall hQ (by omega)) (F:= [N9,M35,N2,N7,R]) Tryz.func38 U U aJ (by simp) U ?_))))))))))
  rintro _ _ ⟨Nq,E_nn,x_nn,rfl,l_nn,rfl,hQ,st_nn⟩
  show At _ _ _ [Nq,N9,M35,N2,N7,R] _
  have inv:=inv.step st_nn
  refine aD aE fl32_2 U U ?_
  refine aF cL sz24 U U U U U B9 (by rw [aX hz];exact show 0+2+1≤53 by decide) sel1 (fun N9 B9=>?_)
  erw [tx_nn hz]at B9
  refine aB (s_18 (aC fun _ s_19=>aC fun _ s_20=>aA (aH U U (op_geq aE U U U (aB (s_20 (aQ U (fun c69=>?_) (fun c69=>?_))))))))
  rotate_left
  ·exfalso;omega
  refine c4 (d:=69) U c69 (aA (aH U U (aG (aG (aG (aG (aL (aG (cA cL (.cons U .nil) (RWord hQ (by omega)) (F:= [N9,M35,N2,N7,R]) Tryz.func39 U U aJ (by simp) U ?_)))))))))
  rintro _ _ ⟨Nq,E_tp,x_tp,rfl,l_tp,rfl,hQ,st_tp⟩
  show At _ _ _ [Nq,N9,M35,N2,N7,R] _
  have inv:=inv.step st_tp
  refine aD aE fl32_4 U U ?_
  refine aF cL sz26 U U U U U B9 (by rw [aX hz];exact show 0+7+4≤53 by decide) sel1 (fun N9 B9=>?_)
  erw [tx_tp hz]at B9
  refine aB (s_19 (aC fun _ s_21=>aA (aH U U (aG (aG (aG (aG (aL (aG (cA cL (.cons U .nil) (RWord hQ (by omega)) (F:= [N9,M35,N2,N7,R]) Tryz.func39 U U aJ (by simp) U ?_))))))))))
  rintro _ _ ⟨Nq,E_pr,x_pr,rfl,l_pr,rfl,hQ,st_pr⟩
  show At _ _ _ [Nq,N9,M35,N2,N7,R] _
  have inv:=inv.step st_pr
  refine aD aE fl32_3 U U ?_
  refine aF cL sz26 U U U U U B9 (by rw [aX hz];exact show 0+3+4≤53 by decide) sel1 (fun N9 B9=>?_)
  erw [tx_pr hz]at B9
  refine aB (s_21 (aC fun _ s_22=>aA (aH U U (aG (aG (aG (aG (aL (aG (cA cL (.cons U .nil) (RSmall hQ (by omega)) (F:= [N9,M35,N2,N7,R]) Tryz.func38 U U aJ (by simp) U ?_))))))))))
  rintro _ _ ⟨Nq,E_ga,x_ga,rfl,l_ga,rfl,hQ,st_ga⟩
  show At _ _ _ [Nq,N9,M35,N2,N7,R] _
  have inv:=inv.step st_ga
  refine aD aE fl32_5 U U ?_
  refine aF cL sz24 U U U U U B9 (by rw [aX hz];exact show 0+11+1≤53 by decide) sel1 (fun N9 B9=>?_)
  erw [tx_ga hz]at B9
  refine aB (s_22 (aC fun _ s_23=>At.meet (fun fr_ hp_=> ∃(E_to:Nat) (x_mk:Bool) (x_to:List UInt8) (Nq N9:Heaplet),fr_= [(2,.pointer (some ⟨b2,0,none⟩)),(4,.int .i64 3),(8,.pointer (some ⟨b57,0,none⟩)),(9,.pointer (some ⟨b9,0,none⟩))]∧hp_= [Nq,N9,N2,M35,R]∧(Blk N9 b9 32 (txP (3:Int) x_ch x_nn x_pr x_tp x_ga x_mk x_to 0 (.slice none 0 0) (.slice none 0 0) 0 (.slice none 0 0) false 0 0).flatten)∧(PartsQ Nq M35 b57 [t0,t1,t2,t3,t4,t5,t6,t7,t8,t9,t10,t11,t12,t13] 6 E_to)∧(x_to.length=20)∧(Stp E_ga (toE 3 t5) (x_mk,x_to) E_to)) ?_ (fun K23_ jk_23=>?_)))
  rotate_left
  ·skip
   refine aC fun _ s_24=>aG (aN (aN (aG (aG (aG (At.drawnS [Nq,M35,R] [] [] [0,1,2,3,4,5,6,7,8,9,10,11,12,13,14,15,16,17,18,19,20,21,22,23,24,25,26,27,28,29,30,31,32,33,34,35,36,37,38,39,40,41,42] (by kernel_rfl) (by kernel_rfl) (.cons _ (.cons _ (.cons _ (.refl _)))) (aP (cD U U U) U U (op_lss (cD U U U) U U U (aP (cD U U U) U U (cB (d:=81) U (fun g81=>?_) (fun g81=>?_)))))))))))
   ·exfalso;omega
   refine bS U U U U U U U U (bS U U U U U U U U (bS U U U U U U U U (bS U U U U U U U U (bS U U U U U U U U (bS U U U U U U U U (bS U U U U U U U U (bS U U U U U U U U (bS U U U U U U U U (bS U U U U U U U U (cE (cD U U U) U U U (aP (cD U U U) U U (bS U U U U U U U U (bS U U U U U U U U (bS U U U U U U U U (bS U U U U U U U U (bS U U U U U U U U (bS U U U U U U U U (bS U U U U U U U U (bS U U U U U U U U (bS U U U U U U U U (bS U U U U U U U U (bS U U U U U U U U (bS U U U U U U U U (cE (cD U U U) U U U (aP (cD U U U) U U (bS U U U U U U U U (bS U U U U U U U U (bS U U U U U U U U (bS U U U U U U U U (bS U U U U U U U U (bS U U U U U U U U (bS U U U U U U U U (bS U U U U U U U U (bS U U U U U U U U (bS U U U U U U U U (bS U U U U U U U U (bS U U U U U U U U (bS U U U U U U U U (cE (cD U U U) U U U (At.sNil ?_))))))))))))))))))))))))))))))))))))))))
   refine aI (s_24 (dA U (aA (aH U U (aG (aG (aL (aL (aL (aG (cA cL (.cons U .nil) (RAddr hQ (by omega)) (F:= [N9,N2,N7,M35,R]) Tryz.func41 U U aJ (by simp) U ?_)))))))))))
   rintro _ _ ⟨Nq,x_to,E_to,rfl,l_to,rfl,hQ,st_to⟩
   show At _ _ _ [Nq,N9,N2,N7,M35,R] _
   refine aD aE fl32_7 U U ?_
   refine aF cL sz28 U U U (by rw [bL];exact l_to) (all8x2 _) B9 (by rw [aX hz,bL,l_to];exact show 0+13+20≤53 by decide) sel1 (fun N9 B9=>?_)
   erw [tx_to hz l_to]at B9
   refine cX (bW (aL (aL (aL (aN (aL (aI (jk_23 ?_ aJ ⟨E_to,false,x_to,Nq,N9,rfl,rfl,B9,hQ,l_to,stp_to st_to (fun l hl k0=>absurd U k0.2)⟩))))))))
   repeat first|apply cW|exact .nil|exact lkI rfl (by omega)|rfl
  rintro _ _ ⟨E_to,x_mk,x_to,Nq,N9,rfl,rfl,B9,hQ,l_to,st_to⟩
  have inv:=inv.step st_to
  refine s_23 (aC fun _ s_25=>aA (aH U U (cA cL (.cons U .nil) (RWord hQ (by omega)) (F:= [N9,N2,M35,R]) Tryz.func39 U U aJ (by simp) U ?_)))
  rintro _ _ ⟨Nq,E_va,x_va,rfl,l_va,rfl,hQ,st_va⟩
  show At _ _ _ [Nq,N9,N2,M35,R] _
  have inv:=inv.step st_va
  refine aD aE fl32_8 U U ?_
  refine aF cL sz26 U U U U U B9 (by rw [aX l_to];exact show 0+33+4≤53 by decide) sel1 (fun N9 B9=>?_)
  erw [tx_va l_to]at B9
  refine aB (s_25 (aC fun _ s_26=>aA (aH U U (aL (aL (aL (aN (aL (cA cL (.cons U (.cons U .nil)) (RRawAny hQ (by omega)) (F:= [N9,N2,M35,R]) Tryz.func42 U U aJ (by simp) U ?_)))))))))
  rintro _ _ ⟨Nq,M_d,da,x_d,dc,E_d,rfl,rfl,hQ,rb_d,st_d,_⟩
  show At _ _ _ [Nq,M_d,N9,N2,M35,R] _
  have inv:=inv.step st_d
  refine aD aE fl32_9 U U ?_
  refine aF cL sz22 U U U U U B9 (by rw [aX l_to];exact show 0+37+1≤53 by decide) sel2 (fun N9 B9=>?_)
  erw [tx_d l_to]at B9
  refine aB (s_26 (aC fun _ s_27=>aC fun _ s_28=>aA (aH U U (op_gtr aE U U U (aB (s_28 (aQ U (fun c135=>?_) (fun c135=>?_))))))))
  rotate_left
  ·exfalso;omega
  refine c4 (d:=135) U c135 (aA (aH U U (aG (aG (aG (aG (aL (aG (cA cL (.cons U .nil) (RAccess hQ (by omega) (plain_deep (hpi t8 (by simp [It.items])).1 (hpi t8 (by simp [It.items])).2)) (F:= [N9,M_d,N2,M35,R]) Tryz.func43 U U aJ (by simp) U ?_)))))))))
  rintro _ _ ⟨Nq,Na,Nk,aa,cc,x_a,axs,E_a,rfl,rfl,hQ,r_a,k_a,st_a⟩
  show At _ _ _ [Nq,Na,Nk,N9,M_d,N2,M35,R] _
  have inv:=inv.step st_a
  refine aD aE fl32_10 U U ?_
  refine aF cL sz29 U U U U U B9 (by rw [aX l_to];exact show 0+38+1≤53 by decide) sel3 (fun N9 B9=>?_)
  erw [tx_a l_to]at B9
  refine aB (s_27 (aC fun _ s_29=>aC fun _ s_30=>aA (aH U U (dF aE U U U (aB (s_30 (aQ U (fun c140=>?_) (fun c140=>?_))))))))
  rotate_left
  ·exfalso;omega
  refine c4 (d:=140) U c140 (aC fun _ s_31=>aA (aH U U (aZ (aZ (aZ (aZ (aZ (aZ (bC (aZ (cA cL (.cons U .nil) (RWord hQ (by omega)) (F:= [N9,Na,Nk,M_d,N2,M35,R]) Tryz.func39 U U aJ (by simp) U ?_)))))))))))
  rintro _ _ ⟨Nq,E_bf,x_bf,rfl,l_bf,rfl,hQ,st_bf⟩
  show At _ _ _ [Nq,N9,Na,Nk,M_d,N2,M35,R] _
  have inv:=inv.step st_bf
  refine aD aE fl32_11 U U ?_
  refine aF cL sz26 U U U U U B9 (by rw [aX l_to];exact show 0+39+4≤53 by decide) sel1 (fun N9 B9=>?_)
  erw [tx_bf l_to]at B9
  refine aB (s_31 (aA (aH U U (aZ (aZ (aZ (aZ (aZ (aZ (bC (aZ (cA cL (.cons U .nil) (RHashes hQ (by omega) (plain_items (hpi t10 (by simp [It.items])).1 (hpi t10 (by simp [It.items])).2).1) (F:= [N9,Na,Nk,M_d,N2,M35,R]) Tryz.func44 U U aJ (by simp) U ?_))))))))))))
  rintro _ _ ⟨Nq,Nb,ba,bc,x_b,E_b,rfl,rfl,hQ,r_b,k_b,st_b⟩
  show At _ _ _ [Nq,Nb,N9,Na,Nk,M_d,N2,M35,R] _
  have inv:=inv.step st_b
  refine aD aE fl32_12 U U ?_
  refine aF cL sz30 U U U U U B9 (by rw [aX l_to];exact show 0+43+1≤53 by decide) sel2 (fun N9 B9=>?_)
  erw [tx_b l_to]at B9
  refine aB (s_29 (aC fun _ s_32=>aA (aH U U (aH U U (aD aE fl32_1 U U (aK aE sc24 U B9 (tx_gch l_to) bI U (bN (bN (bN (bN (bN (bN (bN (aZ (bN (cA cL (.cons U (.cons U (.cons U .nil))) (RV hQ (by omega) (by decide) l_ch (fun h0=>absurd h0 (by decide))) (F:= [N9,Nb,Na,Nk,M_d,N2,M35,R]) Tryz.func45 U U aJ (by simp) U ?_))))))))))))))))
  rintro _ _ ⟨Nq,x_v,E_v,rfl,l_v,rfl,hQ,st_v⟩
  show At _ _ _ [Nq,N9,Nb,Na,Nk,M_d,N2,M35,R] _
  have inv:=inv.step st_v;obtain⟨x_c,x_o⟩:=x_v
  refine aH U U (aO aE U U U (aO aE U U U (aD aE fl32_1 U U ?_)))
  refine aF cL sz24 U U U U U B9 (by rw [aX l_to];exact show 0+1+1≤53 by decide) sel1 (fun N9 B9=>?_)
  erw [tx_ch l_to]at B9
  refine aD aE fl32_13 U U ?_
  refine aF cL sz4 U U U U U B9 (by rw [aX l_to];exact show 0+44+1≤53 by decide) dB (fun N9 B9=>?_)
  erw [tx_od l_to]at B9
  refine aB (s_32 (aC fun _ s_33=>aA (aH U U (bN (bN (bN (bN (bN (bN (bN (aZ (bN (cA cL (.cons U .nil) (RWord hQ (by omega)) (F:= [N9,Nb,Na,Nk,M_d,N2,M35,R]) Tryz.func39 U U aJ (by simp) U ?_)))))))))))))
  rintro _ _ ⟨Nq,E_r,x_r,rfl,l_r,rfl,hQ,st_r⟩
  show At _ _ _ [Nq,N9,Nb,Na,Nk,M_d,N2,M35,R] _
  have inv:=inv.step st_r
  refine aD aE fl32_14 U U ?_
  refine aF cL sz26 U U U U U B9 (by rw [aX l_to];exact show 0+45+4≤53 by decide) sel1 (fun N9 B9=>?_)
  erw [tx_r l_to]at B9
  refine aB (s_33 (aC fun _ s_34=>aA (aH U U (bN (bN (bN (bN (bN (bN (bN (aZ (bN (cA cL (.cons U .nil) (RWord hQ (by omega)) (F:= [N9,Nb,Na,Nk,M_d,N2,M35,R]) Tryz.func39 U U aJ (by simp) U ?_)))))))))))))
  rintro _ _ ⟨Nq,E_s,x_s,rfl,l_s,rfl,hQ,st_s⟩
  show At _ _ _ [Nq,N9,Nb,Na,Nk,M_d,N2,M35,R] _
  have inv:=inv.step st_s
  refine aD aE fl32_15 U U ?_
  refine aF cL sz26 U U U U U B9 (by rw [aX l_to];exact show 0+49+4≤53 by decide) sel1 (fun N9 B9=>?_)
  erw [tx_s l_to]at B9
  refine aB (s_34 (aC fun _ s_35=>aC fun _ s_36=>?_))
  obtain⟨ay,ny,cy,xy,Bq,_,_⟩:=id hQ
  refine aA (aH U U (aW aE U U (aD aE fl105_2 U U (aK aE sc3 U Bq U mem1 U ?_))))
  refine dG aE U U U (aB (s_36 (aQ U (fun c167=>?_) (fun c167=>?_))))
  ·refine c4 (d:=167) U c167 (aC fun _ s_37=>bN (aM (bN (bN (bN (bN (bN (bN (bN (At.drawnS [Nq,R] [] [1] [0,1,2,3,4,5,6] (by kernel_rfl) (by kernel_rfl) (.cons _ (.cons _ (.cons _ (.cons _ (.cons _ (.cons _ (.cons _ (.refl _)))))))) (cM (out:=z32) (cD U U U) ze32 pl32 .nil U U (aP (cD U U U) U U (aW (cD U U U) U U (aD (cD U U U) fl105_2 U U (aK (cD U U U) sc3 U Bq U bI U ?_)))))))))))))))
   refine aF (nxsm U U U) sz32 U U U cQ (by decide) B2 (by exact Nat.le_refl _) sel5 (fun N2 B2=>?_)
   rw [bG rfl]at B2
   refine At.moreS (Lst:= [Nq,R]) (Lst':= [Nq,R]) (.refl _) (.cons _ (.cons _ (.cons _ (.cons _ (.cons _ (.cons _ (.cons _ (.refl _)))))))) (cJ (cD U U U) U U (At.sNil (aI (s_37 (a0 (aS ((cV (dropAt8 (dropAt7 (dropAt6 (dropAt5 (dH (bW (bJ (aM (bO (aM (bE (L1:= [nilH]) U (.cell U (bQ (ds:=_) ag32 B2 (by first|exact bY cQ|exact bY (aX l_to)) (by first|exact cQ|exact aX l_to) bI) (.tmp U .nil)) U (.cons _ (.refl _)) (.refl _) ?_)))))))))))))))))))
   have h0:E_s≠0:=by omega
   exact .inr ⟨E_s,inv.err h0,rfl,h0,rfl⟩
  refine cT (d:=167) U c167 (aT (aI (s_35 (aC fun _ s_38=>aA (aV (ds:=_) aE ag32 U B9 (by exact bY (aX l_to)) (by exact aX l_to) bI U ?_)))))
  refine aF cL sz32 U U U (aX l_to) (TxM.one (m:=(⟨3,x_c,x_nn,x_pr,x_tp,x_ga,x_mk,x_to,x_va,x_d,x_a,x_bf,x_b,x_o,x_r,x_s⟩:TxM)) U U U) B2 (by rw [aX l_to,cQ];exact Nat.le_refl _) sel6 (fun N2 B2=>?_)
  rw [bG (by rw [aX l_to,cQ])]at B2
  refine aR U U (aB (s_38 (a0 ((bN (bC (bC (bC (bC (bC (bC (aZ (bN (dI (fun Q Q1 Q2=>aZ (aZ (bC (bC (bC (bC (aZ (aZ (dI (fun S S1 S2=>bC (aG (aG (aG (aG (bC (bC (dI (fun T T1 T2=>aG (aL (aL (aL (aG (aG (dI (fun Uq U1 U2=>bW (bJ (aM (bO ?_))))))))))))))))))))))))))))))))))))))))))
  refine aM (bE (L1:= [Uq]) U (.cell U (bQ (ds:=_) ag32 B2 (by first|exact bY cQ|exact bY (aX l_to)) (by first|exact cQ|exact aX l_to) bI) (.tmp U .nil)) U (.cons _ (.refl _)) aJ ?_)
  have h0:E_s=0:=by omega
  exact .inl ⟨Uq,(⟨3,x_c,x_nn,x_pr,x_tp,x_ga,x_mk,x_to,x_va,x_d,x_a,x_bf,x_b,x_o,x_r,x_s⟩:TxM),_,_,_,(inv.ok h0).trans rfl,rfl,rfl,⟨l_v,l_nn,l_pr,l_tp,l_ga,l_to,l_va,l_bf,k_b,l_r,l_s⟩,da,dc,aa,cc,ba,bc,axs,rfl,rb_d _ (Heaplet.le_trans Q2 (Heaplet.le_trans S1 (Heaplet.le_trans T1 U1))) (Heaplet.le_trans Q1 (Heaplet.le_trans S1 (Heaplet.le_trans T1 U1))),rfl,r_a.rsl.le (Heaplet.le_trans S2 (Heaplet.le_trans T1 U1)),k_a.le (Heaplet.le_trans T2 U1),rfl,r_b.rsl.le U2⟩
 show At _ _ _ [N2,R] _
 refine aH U U (aO aE U U U (aO aE U U U (bK bU ze91 U (fun N7 b7 B7=>?_))))
 change Blk N7 b7 _ [.bool false,.slice none 0 0,.slice none 0 0]at B7
 refine aF cL sz91 U U U U U B7 (by simp) dB (fun N7 B7=>?_)
 simp only [setL,List.set]at B7
 refine aR U U (aB (s_7 (aC fun _ s_39=>aC fun _ s_40=>aA (aH U U (dG aE U U U (aB (s_40 (aQ U (fun c39=>?_) (fun c39=>?_)))))))))
 rotate_left
 ·exfalso;omega
 refine c4 (d:=39) U c39 (aC fun _ s_41=>aA (cM (out:=z32) aE ze32 pl32 .nil U U (aH U U (aF cL sz32 U U U cQ (by decide) B2 (by exact Nat.le_refl _) sel1 (fun N2 B2=>?_)))))
 rw [bG rfl]at B2
 refine aR U U (aB (s_41 (a0 (aS ((cV (bJ (aM (bO (aM (bE (L1:= [nilH]) U (.cell U (bQ (ds:=_) ag32 B2 (by first|exact bY cQ|exact bY (aX l_to)) (by first|exact cQ|exact aX l_to) bI) (.tmp U .nil)) U (.cons _ (.refl _)) aJ ?_)))))))))))
 exact .inr ⟨e,readTx_3 he hk3 hd,rfl,hne,rfl⟩
end
section
variable {N : Heaplet} {ao : Option Addr} {n cap : Nat} {b p : List UInt8}
set_option maxHeartbeats 4000000 in
theorem RTx_none (h:RSl N 1 ao n cap (u8s b)) (he:envF b=none):Fn Tryz.prog 8 #[.slice ao n cap] [] [N] (RReadTxP b):=by
 have henv:Fn Tryz.prog 35 #[.slice ao n cap] [] [N] (fun v L=>v=.tuple #[.int .i64 0,.slice none 0 0,.int .i64 2]∧L= []):=(rEnvelope_g h).mono (fun v L hp=>by
  rcases hp with ⟨h1,_,h3⟩|⟨k,p,a,c,_,h2,_⟩
  ·exact⟨h3,h1⟩
  ·rw [he]at h2;cases h2)
 refine Fn.enter (vs:= [.slice ao n cap]) Tryz.func8 U U U ?_
 intro E R hR
 have hNR:=hR N (by simp)
 change At _ _ E [R] _
 refine aC fun _ s_1=>aA (bK bU ze32 U (fun N2 b2 B2=>?_))
 change Blk N2 b2 _ z32 at B2
 refine aR U U (aB (s_1 (aC fun _ s_2=>aA (aH U U (bD bU (.cons U .nil) (henv.liftB hNR) Tryz.func35 U U (by simp) U ?_)))))
 rintro _ _ ⟨rfl,rfl⟩
 show At _ _ _ [N2,R] _
 refine aH U U (aO aE U U U (aO aE U U U (aO aE U U U (aR U U (aR U U (aR U U (aB (s_2 (aC fun _ s_3=>aC fun _ s_4=>aA (aH U U (dG aE U U U (aB (s_4 (aQ U (fun c17=>?_) (fun c17=>?_)))))))))))))))
 rotate_left
 ·exact absurd (show(2:Int)≠0 by decide) c17
 refine c4 (d:=17) U c17 (aC fun _ s_5=>aA (cM (out:=z32) aE ze32 pl32 .nil U U (aH U U (aF cL sz32 U U U cQ (by decide) B2 (by exact Nat.le_refl _) dB (fun N2 B2=>?_)))))
 rw [bG rfl]at B2
 refine aR U U (aB (s_5 (a0 (aS ((cV (aM (bO (aM (bE (L1:= [nilH]) U (.cell U (bQ (ds:=_) ag32 B2 (bY cQ) cQ bI) (.tmp U .nil)) U (.cons _ (.refl _)) aJ ?_))))))))))
 exact .inr ⟨2,readTx_1 he,rfl,by decide,rfl⟩
set_option maxHeartbeats 4000000 in
theorem RTx_bad {k:Nat} (h:RSl N 1 ao n cap (u8s b)) (he:envF b=some (k,p)) (hb: ¬(k≤3∧(0<k∨0<(b.getD 0 0).toNat))):Fn Tryz.prog 8 #[.slice ao n cap] [] [N] (RReadTxP b):=by
 have hbl:=h.len8
 obtain⟨hb0,hpb⟩:=envF_len he
 have henv:=(rEnvelope_g h).mono (fun v L hp=>env_some he hp)
 refine Fn.enter (vs:= [.slice ao n cap]) Tryz.func8 U U U ?_
 intro E R hR
 have hNR:=hR N (by simp)
 have hbR:=h.le hNR
 change At _ _ E [R] _
 refine aC fun _ s_1=>aA (bK bU ze32 U (fun N2 b2 B2=>?_))
 change Blk N2 b2 _ z32 at B2
 refine aR U U (aB (s_1 (aC fun _ s_2=>aA (aH U U (bD bU (.cons U .nil) (henv.liftB hNR) Tryz.func35 U U (by simp) U ?_)))))
 rintro _ _ ⟨pa,pc,rfl,rfl,sp⟩
 show At _ _ _ [N2,R] _
 refine aH U U (aO aE U U U (aO aE U U U (aO aE U U U (aR U U (aR U U (aR U U (aB (s_2 (aC fun _ s_3=>aC fun _ s_4=>aA (aH U U (dG aE U U U (aB (s_4 (aQ U (fun c17=>?_) (fun c17=>?_)))))))))))))))
 ·exact absurd U c17
 refine cT (d:=17) U c17 (aT (aI (s_3 (aC fun _ s_5=>aC fun _ s_6=>aA (aH U U (op_gtr aE U U U (aH U U (cB (d:=22) U (fun g22=>?_) (fun g22=>?_)))))))))
 ·refine aU U U U U U U U (aU U U U U U U U (aU U U U U U U U (op_skipU U U U U U U (op_skipU U U U U U U (op_skipU U U U U U U (op_skipU U U U U U U (aU U U U U U U U (cH aE U U U (aB (s_6 (At.condT U (aC fun _ s_7=>aA (cM (out:=z32) aE ze32 pl32 .nil U U (aF cL sz32 U U U cQ (by decide) B2 (by exact Nat.le_refl _) dB (fun N2 B2=>?_)))))))))))))))
  rw [bG rfl]at B2
  refine aR U U (aB (s_7 (a0 (aS ((cV (aM (bO (aM (bE (L1:= [nilH]) U (.cell U (bQ (ds:=_) ag32 B2 (bY cQ) cQ bI) (.tmp U .nil)) U (.cons _ (.refl _)) aJ ?_))))))))))
  exact .inr ⟨2,readTx_2 he hb,rfl,by decide,rfl⟩
 refine aP (bF U U U U) U U (dF (bF U U U U) U U U (aP (bF U U U U) U U (cB (d:=25) U (fun g25=>?_) (fun g25=>?_))))
 rotate_left
 ·exfalso;omega
 refine aP (bF U U U U) U U (cZ (bF U U U U) se22 U U hbR (show _=(((0:Nat)):Int)from by omega) (by omega) U ?_)
 refine cO (bF U U U U) sc5 U hbR (by first|exact get8 (by omega)|exact get64 (by omega)|exact get32 (by omega)) (by simp) U ?_
 refine dF (bF U U U U) U U U (cH (bF U U U U) U U U (cE aE U U U (aB (s_6 (aQ U (fun c31=>?_) (fun c31=>?_))))))
 rotate_left
 ·exfalso;omega
 refine c4 (d:=31) U c31 (aC fun _ s_8=>aA (cM (out:=z32) aE ze32 pl32 .nil U U (aF cL sz32 U U U cQ (by decide) B2 (by exact Nat.le_refl _) dB (fun N2 B2=>?_))))
 rw [bG rfl]at B2
 refine aR U U (aB (s_8 (a0 (aS ((cV (aM (bO (aM (bE (L1:= [nilH]) U (.cell U (bQ (ds:=_) ag32 B2 (bY cQ) cQ bI) (.tmp U .nil)) U (.cons _ (.refl _)) aJ ?_))))))))))
 exact .inr ⟨2,readTx_2 he hb,rfl,by decide,rfl⟩
theorem RReadTx (h:RSl N 1 ao n cap (u8s b)) (hn:n≤1099511627776):Fn Tryz.prog 8 #[.slice ao n cap] [] [N] (RReadTxP b):=by
 cases he:envF b with
 |none=>exact RTx_none h he
 |some kp=>
  obtain⟨k,p⟩:=kp
  by_cases hk:k≤3∧(0<k∨0<(b.getD 0 0).toNat)
  ·obtain⟨h3,hf⟩:=hk
   match k,h3,hf,he with
   |0,_,hf,he=>exact RTx_0 h hn he hf
   |1,_,hf,he=>exact RTx_1 h hn he hf
   |2,_,hf,he=>exact RTx_2 h hn he hf
   |3,_,hf,he=>exact RTx_3 h hn he hf
  ·exact RTx_bad h he hk
end
def AcOk (m:TxM):Prop:= ∀g∈m.ac,g.addr.length=20∧ ∀k∈g.keys,k.length=32
end Go.Proofs.YtjfagifjajielaaGreat
