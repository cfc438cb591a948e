/- Layer 14, the reference: a block is read out of bytes, or what is wrong first. No condition but that bytes are not longer than a machine holds. -/
import Derived.Test.YtjfagifjajielaaGreatX1
import Derived.Test.YtjfagifjajielaaGreatX24
import Derived.Test.YtjfagifjajielaaGreatX25
import Derived.Test.YtjfagifjajielaaGreatX14
set_option linter.unusedSimpArgs false
set_option linter.unusedVariables false
namespace Go.Proofs.YtjfagifjajielaaGreat
open Go Go.RowKit
set_option maxRecDepth 100000
section
variable {N : Heaplet} {ao : Option Addr} {n cap : Nat} {b : List UInt8}
set_option maxHeartbeats 16000000 in
theorem RReadBlock (h:RSl N 1 ao n cap (u8s b)) (hn:n≤4294967295):Fn Tryz.prog 14 #[.slice ao n cap] [] [N] (RBlkP b):=by
 have hl0:=z54_len
 have hlen:=h.len8
 have zON:z54.all (·.oneCell')=true:=by decide+kernel
 refine Fn.enter (vs:= [.slice ao n cap]) Tryz.func14 U U U ?_
 intro E R hR
 have hNR:=hR N (by simp)
 change At _ _ E [R] _
 refine aC fun _ s_1=>aA (bK bU ze54 U (fun N2 b2 B2=>?_))
 change Blk N2 b2 _ z54 at B2
 refine aR U U (aB (s_1 (aC fun _ s_2=>aA (aH U U (bD bU (.cons U .nil) ((rDecode_f h (by omega)).liftB hNR) Tryz.func36 U U (by simp) U ?_)))))
 rintro _ _ (⟨t,N18,x,he,rfl,rfl,hi⟩|⟨e,he,rfl,rfl,hne⟩)
 ·show At _ _ _ [N18,N2,R] _
  obtain⟨l,bs,its,et,o1,o2,xs,hI,hX⟩:=it_openQ hi;have hxl:=hX.length;have hxn:xs.length=x.ni:=(by have:=hI.1;rw [length_cellsI]at this;omega);have hcap:=hI.cap63
  refine aH U U (aO aE U U U (aO aE U U U (bK bU ze91 U (fun N4 b4 B4=>?_))))
  change Blk N4 b4 _ [.bool false,.slice none 0 0,.slice none 0 0]at B4
  refine aF cL sz91 U U U U U B4 (by simp) dB (fun N4 B4=>?_)
  simp only [setL,List.set]at B4
  refine aR U U (aB (s_2 (aC fun _ s_3=>aC fun _ s_4=>aA (aH U U (dG aE U U U (aB (s_4 (aQ U (fun c22=>?_) (fun c22=>?_)))))))))
  ·exact absurd U c22
  refine cT (d:=22) U c22 (aT (aI (s_3 (aC fun _ s_5=>At.meet (fun fr_ hp_=>fr_= [(2,.pointer (some ⟨b2,0,none⟩)),(4,.pointer (some ⟨b4,0,none⟩))]∧hp_= [N4,N18,N2,R]∧(l=true∧its.length∈ [3,4])) ?_ (fun K5_ jk_5=>?_)))))
  rotate_left
  ·skip
   refine aC fun _ s_6=>aA (aD aE fl91_0 U U (aK aE sc4 U B4 U bI U ?_))
   refine op_not aE U U (aH U U (At.part (d:=28) U (fun g28=>?_) (fun g28=>?_)))
   ·refine aU U U U U U U U (aU U U U U U U U (aU U U U U U U U (aU U U U U U U U (aU U U U U U U U (op_skipU U U U U U U (op_skipU U U U U U U (op_skipU U U U U U U (op_skipU U U U U U U (aU U U U U U U U (cH aE U U U (aB (s_6 (At.condT U (aC fun _ s_7=>aA (cM (out:=z54) aE ze54 pl54 .nil U U (aF cL sz54 U U U z54_len zON B2 (by exact Nat.le_refl _) sel2 (fun N2 B2=>?_)))))))))))))))))
    rw [bG rfl]at B2
    refine aR U U (aB (s_7 (a0 (aS ((cV (bW (bJ (aM (bO (aM (bE (L1:= [nilH]) U (.cell U (bQ (ds:=_) ag54 B2 (bY (by first|exact hl0|exact cG hH)) (by first|exact hl0|exact cG hH) bI) (.tmp U .nil)) U (.cons _ (.refl _)) aJ ?_))))))))))))
    have hl:l=false:=by rw [←o1];simpa using g28
    exact .inr ⟨2,(readB_2 he).trans (blockE_er (by rw [et,hl];rfl)),rfl,by decide,rfl⟩
   refine aD (bF U U U U) fl91_2 U U (aK (bF U U U U) sc89 U B4 U bI U ?_)
   refine cF (bF U U U U) se89 U U (dG (bF U U U U) U U U (aP (bF U U U U) U U (cB (d:=33) U (fun g33=>?_) (fun g33=>?_))))
   ·refine aD (bF U U U U) fl91_2 U U (aK (bF U U U U) sc89 U B4 U bI U ?_)
    refine cF (bF U U U U) se89 U U (dG (bF U U U U) U U U (cH (bF U U U U) U U U (cE aE U U U (aB (s_6 (aQ U (fun c39=>?_) (fun c39=>?_)))))))
    ·refine c4 (d:=39) U c39 (aC fun _ s_8=>aA (cM (out:=z54) aE ze54 pl54 .nil U U (aF cL sz54 U U U z54_len zON B2 (by exact Nat.le_refl _) sel2 (fun N2 B2=>?_))))
     rw [bG rfl]at B2
     refine aR U U (aB (s_8 (a0 (aS ((cV (bW (bJ (aM (bO (aM (bE (L1:= [nilH]) U (.cell U (bQ (ds:=_) ag54 B2 (bY (by first|exact hl0|exact cG hH)) (by first|exact hl0|exact cG hH) bI) (.tmp U .nil)) U (.cons _ (.refl _)) aJ ?_))))))))))))
     have hl:l=true:=by rw [←o1];simpa using g28
     exact .inr ⟨2,(readB_2 he).trans (blockE_ne (its:=its) (by rw [et,hl];rfl) (fun hm=>by simp only [List.mem_cons,List.not_mem_nil,or_false]at hm;omega)),rfl,by decide,rfl⟩
    refine cT (d:=39) U c39 (aT ?_)
    refine aI (jk_5 ?_ aJ ⟨rfl,rfl,⟨by rw [←o1];simpa using g28,by simp only [List.mem_cons,List.not_mem_nil,or_false];omega⟩⟩)
    repeat first|apply cW|exact .nil|exact lkI rfl (by omega)|rfl
   refine aU U U U U U U U (aU U U U U U U U (aU U U U U U U U (aU U U U U U U U (cE (bF U U U U) U U U (cE aE U U U (aB (s_6 (dA U (aT ?_)))))))))
   refine aI (jk_5 ?_ aJ ⟨rfl,rfl,⟨by rw [←o1];simpa using g28,by simp only [List.mem_cons,List.not_mem_nil,or_false];omega⟩⟩)
   repeat first|apply cW|exact .nil|exact lkI rfl (by omega)|rfl
  rintro _ _ ⟨rfl,rfl,hin⟩
  refine s_5 (aC fun _ s_9=>?_)
  obtain⟨rfl,hjm⟩:=hin
  have hls:listE t=.ok its:=by rw [et];rfl
  have hT:=(readB_2 he).trans (blockE_in hls hjm)
  have hF: ∀y∈its,y.form.length≤4294967295:=fun y hy=>el_le (by rw [(decodeF_back (by omega) he).1];omega) hls hy
  have hdp: ∀u∈its,u.depth≤1024:=fun u hu=>Nat.le_trans (depth_item hls hu) (decodeF_back (by omega) he).2
  obtain⟨t0,t1,t2,r,rfl,hrl⟩:=three_or hjm
  simp only [ItsN]at hX
  obtain⟨z0,_,rfl,h0,z1,_,rfl,h1,z2,zr,rfl,h2,hXr⟩:=hX
  have hzl:=hXr.length
  simp only [List.length_cons]at hxn
  have hais:=hI.isSome (by omega)
  obtain⟨l1,bs1,its1,et1,p1,_,ys1,hI1,hX1⟩:=it_openQ h1
  obtain⟨l2,bs2,its2,et2,p2,_,ys2,hI2,hX2⟩:=it_openQ h2
  have hyl1:=hX1.length
  have hyn1:ys1.length=z1.ni:=by have:=hI1.1;rw [length_cellsI]at this;omega
  have hyl2:=hX2.length
  have hyn2:ys2.length=z2.ni:=by have:=hI2.1;rw [length_cellsI]at this;omega
  have hc1:=hI1.cap63
  have hc2:=hI2.cap63
  refine aA (bK bU ze54 U (fun N6 b6 B6=>?_))
  change Blk N6 b6 _ z54 at B6
  refine aB (s_9 (aC fun _ s_10=>aA (aD aE fl91_2 U U (aK aE sc89 U B4 U mem1 U ?_))))
  refine op_idxE aE se89 U U hI (show _=(((0:Nat)):Int)from by omega) (by omega) U ?_
  refine op_loadAggE (ds:= [.bool z0.l,.slice z0.ab z0.nb z0.cb,.slice z0.ai z0.ni z0.ci]) aE ag91 U hI (by exact cells_at (k:=0) U) (by rfl) (by omega) (by simp) U ?_
  refine bD bU (.cons U .nil) (RToHeader h0) Tryz.func49 U U (by simp) U ?_
  rintro _ _ (⟨M46,hd,v1,e_h,rfl,rfl,hok,hfi,ea,ec,rfl,hex⟩|⟨e2,e_h,rfl,hne2,rfl⟩)
  ·show At _ _ _ [M46,N6,N4,N18,N2,R] _
   have hH:=HdM.len hok (.slice ea hd.ex.length ec);have hone:=HdM.one (h:=hd) (v:=.slice ea hd.ex.length ec) rfl;rw [z_blk]at B6
   refine aH U U (aO aE U U U (aO aE U U U (aD aE fl54_0 U U ?_)))
   refine aF cL sz44 U U U (by first|exact hH|exact cY) (by first|exact hone|decide) B6 (by first|(rw [cG hd0_len,hH];exact show 0+0+556≤560 by decide)|(rw [cG hd0_len,cY];exact show 0+0+556≤560 by decide)) sel1 (fun N6 B6=>?_)
   first|rw [bk_h hd0_len hH]at B6|skip
   refine aR U U (aB (s_10 (aC fun _ s_11=>aC fun _ s_12=>aA (aH U U (dG aE U U U (aB (s_12 (aQ U (fun c51=>?_) (fun c51=>?_)))))))))
   ·exact absurd U c51
   refine cT (d:=51) U c51 (aT (aI (s_11 (aC fun _ s_13=>aC fun _ s_14=>aA (aD aE fl91_2 U U (aK aE sc89 U B4 U mem2 U ?_))))))
   refine op_idxE aE se89 U U hI (show _=(((1:Nat)):Int)from by omega) (by omega) U ?_
   refine op_fieldAddrE aE fl91_0 U (by first|rfl|assumption) U ?_
   refine cO aE sc4 U hI (by first|exact get8 (by omega)|exact get64 (by omega)|exact get32 (by omega)|rfl) (by simp) U ?_
   refine op_not aE U U (aB (s_14 (At.condB U (fun c59=>?_) (fun c59=>?_))))
   ·refine At.knowBT (d:=59) U c59 (aC fun _ s_15=>aA (cM (out:=z54) aE ze54 pl54 .nil U U (aF cL sz54 U U U z54_len zON B2 (by exact Nat.le_refl _) sel4 (fun N2 B2=>?_))))
    rw [bG rfl]at B2
    refine aR U U (aB (s_15 (a0 (aS ((cV (dropAt5 (dH (bW (bJ (aM (bO (aM (bE (L1:= [nilH]) U (.cell U (bQ (ds:=_) ag54 B2 (bY (by first|exact hl0|exact cG hH)) (by first|exact hl0|exact cG hH) bI) (.tmp U .nil)) U (.cons _ (.refl _)) aJ ?_))))))))))))))
    have hl:l1=false:=by rw [←p1];simpa using c59
    have hE1:eachE rawE t1=.error 2:=by simp only [eachE,show listE t1=.error 2 by rw [et1,hl];rfl]
    exact .inr ⟨2,hT.trans (by simp only [blockA,eb,e_h,hE1]),rfl,by decide,rfl⟩
   refine At.knowBF (d:=59) U c59 ?_
   have hl1:l1=true:=by rw [←p1];simpa using c59
   have hls1:listE t1=.ok its1:=by rw [et1,hl1];rfl
   have hn1:=len_le (hF t1 (by simp)) hls1
   refine aT (aI (s_13 (aC fun _ s_16=>aC fun _ s_17=>aA (aR U U (aB (s_17 (bZ (cV (cV (aZ (aZ (aZ (aZ (aZ (aG (bC (aZ (At.loop (fun fr_ hp_ ms_=> ∃(i:Nat) (gs:List (List UInt8)) (vs:List Value) (a:Option Addr) (c:Nat) (N6 Na NJ:Heaplet),fr_= [(2,.pointer (some ⟨b2,0,none⟩)),(4,.pointer (some ⟨b4,0,none⟩)),(6,.pointer (some ⟨b6,0,none⟩)),(7,.int .i64 (i:Int))]∧hp_= [N6,Na,NJ,M46,N4,N18,N2,R]∧its1.length- i=ms_∧(gs.length=i∧i≤its1.length)∧(Blk N6 b6 54 (blkP (hd.cells (.slice ea hd.ex.length ec)) (.slice a i c) (.slice none 0 0) false (.slice none 0 0)).flatten)∧(Row Na 22 1 a i c vs)∧(∀u∈vs,u.oneCell'=true)∧(∀K:Heaplet,NJ.le K→N18.le K→Bags K vs gs)∧(mapE rawE (its1.take i)=.ok gs)) ?_ aJ ⟨0,[],[],none,0,N6,nilH,nilH,rfl,rfl,rfl,⟨rfl,Nat.zero_le _⟩,B6,Row.nil _ _ _,fun u hu=>absurd hu List.not_mem_nil,fun K _ _=>Bags.nil K,rfl⟩ ?_))))))))))))))))))
   ·repeat first|apply cW|exact .nil|exact lkI rfl (by omega)|rfl
   rintro _ _ _ ⟨i,gs,vs,a,c,N6,Na,NJ,rfl,rfl,rfl,hj,B6,ra,hov,hB,hm⟩
   refine aC fun _ s_18=>aC fun _ s_19=>aA (aH U U (aD aE fl91_2 U U (aK aE sc89 U B4 U mem4 U ?_)))
   refine op_idxE aE se89 U U hI (show _=(((1:Nat)):Int)from by omega) (by omega) U ?_
   refine op_fieldAddrE aE fl91_2 U (by first|rfl|assumption) U ?_
   refine cO aE sc89 U hI (by first|exact get8 (by omega)|exact get64 (by omega)|exact get32 (by omega)|rfl) (by simp) U ?_
   refine cF aE se89 U U (op_lss aE U U U (aB (s_19 (aQ U (fun c68=>?_) (fun c68=>?_)))))
   ·refine c4 (d:=68) U c68 ?_
    obtain⟨t3,ht3⟩: ∃u,its1[i]? =some u:=⟨_,List.getElem?_eq_getElem (by omega)⟩
    obtain⟨y3,hy3,hi3⟩:=hX1.get ht3
    obtain⟨l3,bs3,its3,et3,q1,q2,_⟩:=it_openQ hi3
    have q3:=q2.len8
    have hmem:=List.mem_of_getElem? ht3
    have hF3:t3.form.length≤1099511627776:=Nat.le_trans (el_le (hF t1 (by simp)) hls1 hmem) (by decide)
    have hD3:t3.depth≤1024:=Nat.le_trans (depth_item hls1 hmem) (hdp t1 (by simp))
    refine aT (aI (s_18 (aC fun _ s_20=>bZ (aC fun _ s_21=>aA (aD aE fl91_2 U U (aK aE sc89 U B4 U mem4 U ?_))))))
    refine op_idxE aE se89 U U hI (show _=(((1:Nat)):Int)from by omega) (by omega) U ?_
    refine op_fieldAddrE aE fl91_2 U (by first|rfl|assumption) U ?_
    refine cO aE sc89 U hI (by first|exact get8 (by omega)|exact get64 (by omega)|exact get32 (by omega)|rfl) (by simp) U ?_
    refine aH U U (op_idxE aE se89 U U hI1 (show _=(((i:Nat)):Int)from by omega) (by omega) U ?_)
    refine op_loadAggE (ds:= [.bool y3.l,.slice y3.ab y3.nb y3.cb,.slice y3.ai y3.ni y3.ci]) aE ag91 U hI1 (by exact cells_at hy3) (by rfl) (by omega) (by simp) U ?_
    refine bK bU ze91 U (fun N8 b8 B8=>?_)
    change Blk N8 b8 _ [.bool false,.slice none 0 0,.slice none 0 0]at B8
    refine aF cL sz91 U U U U U B8 (by simp) dB (fun N8 B8=>?_)
    simp only [setL,List.set]at B8
    refine aB (s_21 (aC fun _ s_22=>aA (aD aE fl91_0 U U (aK aE sc4 U B8 U bI U ?_))))
    refine aB (s_22 (At.condB U (fun c80=>?_) (fun c80=>?_)))
    ·refine At.knowBT (d:=80) U c80 (bN (bO (aM (bN (bN (bN (bN (bN (bN (At.drawnS [N6,N8,R] [5,7] [] [0,1,2,3,4,5,6,7] (by kernel_rfl) (by kernel_rfl) (.cons _ (.cons _ (.cons _ (.cons _ (.cons _ (.cons _ (.refl _))))))) (aD (cD U U U) fl54_1 U U (aK (cD U U U) sc50 U B6 (gk_t hH) bI U (aV (ds:= [_,_,_]) (cD U U U) ag91 U B8 U U mem1 U (bD (Nx.agree (nxsm U U U)) (.cons U .nil) (rForm_b hi3 hF3) Tryz.func60 U U (by simp) U ?_))))))))))))))
     rintro _ _ ⟨N84,p84,k84,rfl,rfl,r84⟩
     show At _ _ _ [N84,Na,NJ,M46,N4,N18,N2,N6,N8,R] _
     refine bX (bX (bX (aN (bX (bX (bX (bX (bX (bX (At.moreS (Lst:= [N6,N8,R]) (Lst':= [N84,N6,N8,R]) (.cons _ (.refl _)) (.cons _ (.cons _ (.cons _ (.cons _ (.cons _ (.cons _ (.refl _))))))) (op_lit (Nx.agree (nxsm U U U)) Tryz.underlying50 ze22 sz22 (.cons U .nil) U U (by simp [Value.cells]) U U U (fun N85 a85 r85=>?_))))))))))))
     simp only [flatV,List.flatMap_cons,List.flatMap_nil,Value.cells,List.append_nil,List.cons_append,List.nil_append]at r85
     have s85:=r85.rsl
     refine cC (cC (cC (cC (aL (cC (cC (cC (cC (cC (cC (At.moreS (Lst:= [N84,N6,N8,R]) (Lst':= [N85,N84,N6,N8,R]) (.cons _ (.refl _)) (.cons _ (.cons _ (.cons _ (.cons _ (.cons _ (.cons _ (.refl _))))))) ?_)))))))))))
     refine op_append (nxss U U U U) Tryz.underlying50 Tryz.underlying50 te22 U U ra (by assumption) (by simp) (fun u hu=>by rw [List.mem_singleton.1 hu];rfl) (by omega) (by omega) dB U (fun N86 a86 p86 r86=>?_)
     have s86:=r86.rsl
     refine At.anyS (.refl _) (aD (cD U U U) fl54_1 U U ?_)
     refine aF (nxsl U U U U) sz50 U U U U U B6 (by rw [cG hH];exact show 0+556+1≤560 by decide) sel8 (fun N6 B6=>?_)
     rw [bk_t hH]at B6;have hraw:rawE t3=.ok t3.form:=(by have hl3:l3=true:=(by rw [←q1];simpa using c80);rw [et3,hl3]at hD3⊢;exact rawE_lst hD3)
     refine At.sNil (cS (aI (s_20 (aA (aH U U (cU aE U U (by omega) (by omega) U (aR U U (aB (cC (cC (bX (bX (bX (bX (bX (bN (bN (cC (cC (dI (fun J J1 J2=>dropAt8 (dropAt7 (aZ (aZ (aZ (aZ (aZ (aG (aZ (aZ ?_))))))))))))))))))))))))))))))
     refine At.back ?_ aJ ⟨i+1,gs++ [t3.form],vs++ [.slice p84 t3.form.length k84],a86,p86,N6,N86,J,rfl,rfl,rfl,⟨by rw [List.length_append,hj.1];rfl,by omega⟩,B6,r86,one_snoc hov,bags_up hB (fun K k1 _=>r84.rsl.le k1) J1 J2,mapE_next ht3 hm hraw⟩ ?_
     ·repeat first|apply cW|exact .nil|exact lkI rfl (by omega)|rfl
     ·omega
    refine At.knowBF (d:=80) U c80 (aC fun _ s_23=>aA (aD aE fl91_1 U U (aK aE sc22 U B8 U bI U ?_)))
    refine cF aE se22 U U (op_gtr aE U U U (aH U U (cB (d:=92) U (fun g92=>?_) (fun g92=>?_))))
    ·refine aD (bF U U U U) fl91_1 U U (aK (bF U U U U) sc22 U B8 U bI U ?_)
     refine cZ (bF U U U U) se22 U U q2 (show _=(((0:Nat)):Int)from by omega) (by omega) U ?_
     refine cO (bF U U U U) sc5 U q2 (by first|exact get8 (by omega)|exact get64 (by omega)|exact get32 (by omega)) (by simp) U ?_
     refine op_geq (bF U U U U) U U U (cH aE U U U (aH U U (cB (d:=99) U (fun g99=>?_) (fun g99=>?_))))
     ·refine aD (bF U U U U) fl91_1 U U (aK (bF U U U U) sc22 U B8 U bI U ?_)
      refine cZ (bF U U U U) se22 U U q2 (show _=(((0:Nat)):Int)from by omega) (by omega) U ?_
      refine cO (bF U U U U) sc5 U q2 (by first|exact get8 (by omega)|exact get64 (by omega)|exact get32 (by omega)) (by simp) U ?_
      refine op_leq (bF U U U U) U U U (cH aE U U U (aB (s_23 (aQ U (fun c105=>?_) (fun c105=>?_)))))
      ·refine c4 (d:=105) U c105 (aA (aD aE fl54_1 U U (aK aE sc50 U B6 (gk_t hH) mem1 U (aD aE fl91_1 U U (aK aE sc22 U B8 U bI U ?_)))))
       refine op_lit bU Tryz.underlying50 ze22 sz22 (.cons U .nil) U U (by simp [Value.cells]) U U U (fun N110 a110 r110=>?_)
       simp only [flatV,List.flatMap_cons,List.flatMap_nil,Value.cells,List.append_nil,List.cons_append,List.nil_append]at r110
       have s110:=r110.rsl
       refine op_append cL Tryz.underlying50 Tryz.underlying50 te22 U U ra (by assumption) (by simp) (fun u hu=>by rw [List.mem_singleton.1 hu];rfl) (by omega) (by omega) sel3 U (fun N111 a111 p111 r111=>?_)
       have s111:=r111.rsl
       refine aD aE fl54_1 U U ?_
       refine aF cL sz50 U U U U U B6 (by rw [cG hH];exact show 0+556+1≤560 by decide) sel3 (fun N6 B6=>?_)
       rw [bk_t hH]at B6;have hraw:rawE t3=.ok bs3:=(by have hl3:l3=false:=(by rw [←q1];simpa using c80);rw [et3,hl3];exact rawE_txt (by omega) (by omega) (by omega))
       refine cX (cS (aI (s_20 (aA (aH U U (cU aE U U (by omega) (by omega) U (aR U U (aB (bW (bJ ?_))))))))))
       refine At.back ?_ aJ ⟨i+1,gs++ [bs3],vs++ [.slice y3.ab y3.nb y3.cb],a111,p111,N6,N111,NJ,rfl,rfl,rfl,⟨by rw [List.length_append,hj.1];rfl,by omega⟩,B6,r111,one_snoc hov,by rw [←q3]at q2⊢;exact bags_up hB (fun K _ k2=>q2.le k2) (Heaplet.le_refl _) (Heaplet.le_refl _),mapE_next ht3 hm hraw⟩ ?_
       ·repeat first|apply cW|exact .nil|exact lkI rfl (by omega)|rfl
       ·omega
      refine cT (d:=105) U c105 (aC fun _ s_24=>aA (cM (out:=z54) aE ze54 pl54 .nil U U (aF cL sz54 U U U z54_len zON B2 (by exact Nat.le_refl _) sel7 (fun N2 B2=>?_))))
      rw [bG rfl]at B2
      refine aR U U (aB (s_24 (a0 (At.inRet (aS (aS (At.inRet (aS ((cV (dropAt8 (dropAt7 (dropAt6 (dropAt5 (dH (bW (bJ (aM (bO (aM (bE (L1:= [nilH]) U (.cell U (bQ (ds:=_) ag54 B2 (bY (by first|exact hl0|exact cG hH)) (by first|exact hl0|exact cG hH) bI) (.tmp U .nil)) U (.cons _ (.refl _)) aJ ?_)))))))))))))))))))))
      have hl:l3=false:=by rw [←q1];simpa using c80
      have hE1:eachE rawE t1=.error 2:=by simp only [eachE,hls1];exact mapE_fault ht3 hm (by rw [et3,hl];exact rawE_not (by omega))
      exact .inr ⟨2,hT.trans (by simp only [blockA,eb,e_h,hE1]),rfl,by decide,rfl⟩
     refine aU U U U U U U U (aU U U U U U U U (aU U U U U U U U (aU U U U U U U U (aU U U U U U U U (cE aE U U U (aB (s_23 (dA U (aC fun _ s_25=>aA (cM (out:=z54) aE ze54 pl54 .nil U U (aF cL sz54 U U U z54_len zON B2 (by exact Nat.le_refl _) sel7 (fun N2 B2=>?_))))))))))))
     rw [bG rfl]at B2
     refine aR U U (aB (s_25 (a0 (At.inRet (aS (aS (At.inRet (aS ((cV (dropAt8 (dropAt7 (dropAt6 (dropAt5 (dH (bW (bJ (aM (bO (aM (bE (L1:= [nilH]) U (.cell U (bQ (ds:=_) ag54 B2 (bY (by first|exact hl0|exact cG hH)) (by first|exact hl0|exact cG hH) bI) (.tmp U .nil)) U (.cons _ (.refl _)) aJ ?_)))))))))))))))))))))
     have hl:l3=false:=by rw [←q1];simpa using c80
     have hE1:eachE rawE t1=.error 2:=by simp only [eachE,hls1];exact mapE_fault ht3 hm (by rw [et3,hl];exact rawE_not (by omega))
     exact .inr ⟨2,hT.trans (by simp only [blockA,eb,e_h,hE1]),rfl,by decide,rfl⟩
    refine aU U U U U U U U (aU U U U U U U U (aU U U U U U U U (aU U U U U U U U (aU U U U U U U U (cE aE U U U (aH U U (aU U U U U U U U (aU U U U U U U U (aU U U U U U U U (aU U U U U U U U (aU U U U U U U U (cE aE U U U (aB (s_23 (dA U (aC fun _ s_26=>aA (cM (out:=z54) aE ze54 pl54 .nil U U (aF cL sz54 U U U z54_len zON B2 (by exact Nat.le_refl _) sel7 (fun N2 B2=>?_)))))))))))))))))))
    rw [bG rfl]at B2
    refine aR U U (aB (s_26 (a0 (At.inRet (aS (aS (At.inRet (aS ((cV (dropAt8 (dropAt7 (dropAt6 (dropAt5 (dH (bW (bJ (aM (bO (aM (bE (L1:= [nilH]) U (.cell U (bQ (ds:=_) ag54 B2 (bY (by first|exact hl0|exact cG hH)) (by first|exact hl0|exact cG hH) bI) (.tmp U .nil)) U (.cons _ (.refl _)) aJ ?_)))))))))))))))))))))
    have hl:l3=false:=by rw [←q1];simpa using c80
    have hE1:eachE rawE t1=.error 2:=by simp only [eachE,hls1];exact mapE_fault ht3 hm (by rw [et3,hl];exact rawE_not (by omega))
    exact .inr ⟨2,hT.trans (by simp only [blockA,eb,e_h,hE1]),rfl,by decide,rfl⟩
   refine cT (d:=68) U c68 ?_
   have hE1:eachE rawE t1=.ok gs:=by simp only [eachE,hls1];rw [List.take_of_length_le (by omega)]at hm;exact hm
   obtain⟨rfl,_⟩:=hj
   refine At.exit (bB (bB (dE (aI (s_16 (aC fun _ s_27=>aC fun _ s_28=>aA (aD aE fl91_2 U U (aK aE sc89 U B4 U mem4 U ?_))))))))
   refine op_idxE aE se89 U U hI (show _=(((2:Nat)):Int)from by omega) (by omega) U ?_
   refine op_fieldAddrE aE fl91_0 U (by first|rfl|assumption) U ?_
   refine cO aE sc4 U hI (by first|exact get8 (by omega)|exact get64 (by omega)|exact get32 (by omega)|rfl) (by simp) U ?_
   refine op_not aE U U (aB (s_28 (At.condB U (fun c119=>?_) (fun c119=>?_))))
   ·refine At.knowBT (d:=119) U c119 (aC fun _ s_29=>aA (cM (out:=z54) aE ze54 pl54 .nil U U (aF cL sz54 U U U z54_len zON B2 (by exact Nat.le_refl _) sel6 (fun N2 B2=>?_))))
    rw [bG rfl]at B2
    refine aR U U (aB (s_29 (a0 (aS ((cV (dropAt7 (dropAt6 (dropAt5 (dH (bW (bJ (aM (bO (aM (bE (L1:= [nilH]) U (.cell U (bQ (ds:=_) ag54 B2 (bY (by first|exact hl0|exact cG hH)) (by first|exact hl0|exact cG hH) bI) (.tmp U .nil)) U (.cons _ (.refl _)) aJ ?_))))))))))))))))
    have hl:l2=false:=by rw [←p2];simpa using c119
    have hE2:eachE hdE t2=.error 2:=by simp only [eachE,show listE t2=.error 2 by rw [et2,hl];rfl]
    exact .inr ⟨2,hT.trans (by simp only [blockA,eb,e_h,hE1,hE2]),rfl,by decide,rfl⟩
   refine At.knowBF (d:=119) U c119 ?_
   have hl2:l2=true:=by rw [←p2];simpa using c119
   have hls2:listE t2=.ok its2:=by rw [et2,hl2];rfl
   have hn2:=len_le (hF t2 (by simp)) hls2
   refine aT (aI (s_27 (aC fun _ s_30=>aC fun _ s_31=>aA (aR U U (aB (s_31 (bZ (cV (cV (bX (bX (bX (bX (bX (bX (bX (aZ (bN (bX (At.loop (fun fr_ hp_ ms_=> ∃(j:Nat) (hs:List (HdM×Value)) (oa:Option Addr) (oc:Nat) (N6 No NK:Heaplet),fr_= [(2,.pointer (some ⟨b2,0,none⟩)),(4,.pointer (some ⟨b4,0,none⟩)),(6,.pointer (some ⟨b6,0,none⟩)),(9,.int .i64 (j:Int))]∧hp_= [N6,No,NK,Na,NJ,M46,N4,N18,N2,R]∧its2.length- j=ms_∧(hs.length=j∧j≤its2.length)∧(Blk N6 b6 54 (blkP (hd.cells (.slice ea hd.ex.length ec)) (.slice a gs.length c) (.slice oa j oc) false (.slice none 0 0)).flatten)∧(Row No 44 556 oa j oc (omC hs))∧(∀x∈hs,HdK NK N18 x)∧(mapE hdE (its2.take j)=.ok (hs.map Prod.fst))) ?_ aJ ⟨0,[],none,0,N6,nilH,nilH,rfl,rfl,rfl,⟨rfl,Nat.zero_le _⟩,B6,Row.nil _ _ _,fun u hu=>absurd hu List.not_mem_nil,rfl⟩ ?_))))))))))))))))))))
   ·repeat first|apply cW|exact .nil|exact lkI rfl (by omega)|rfl
   rintro _ _ _ ⟨j,hs,oa,oc,N6,No,NK,rfl,rfl,rfl,hk,B6,ro,hhs,hm2⟩
   refine aC fun _ s_32=>aC fun _ s_33=>aA (aH U U (aD aE fl91_2 U U (aK aE sc89 U B4 U mem6 U ?_)))
   refine op_idxE aE se89 U U hI (show _=(((2:Nat)):Int)from by omega) (by omega) U ?_
   refine op_fieldAddrE aE fl91_2 U (by first|rfl|assumption) U ?_
   refine cO aE sc89 U hI (by first|exact get8 (by omega)|exact get64 (by omega)|exact get32 (by omega)|rfl) (by simp) U ?_
   refine cF aE se89 U U (op_lss aE U U U (aB (s_33 (aQ U (fun c128=>?_) (fun c128=>?_)))))
   ·refine c4 (d:=128) U c128 ?_
    obtain⟨t4,ht4⟩: ∃u,its2[j]? =some u:=⟨_,List.getElem?_eq_getElem (by omega)⟩
    obtain⟨y4,hy4,hi4⟩:=hX2.get ht4
    refine aT (aI (s_32 (aC fun _ s_34=>bZ (aC fun _ s_35=>aA (aD aE fl91_2 U U (aK aE sc89 U B4 U mem6 U ?_))))))
    refine op_idxE aE se89 U U hI (show _=(((2:Nat)):Int)from by omega) (by omega) U ?_
    refine op_fieldAddrE aE fl91_2 U (by first|rfl|assumption) U ?_
    refine cO aE sc89 U hI (by first|exact get8 (by omega)|exact get64 (by omega)|exact get32 (by omega)|rfl) (by simp) U ?_
    refine aH U U (op_idxE aE se89 U U hI2 (show _=(((j:Nat)):Int)from by omega) (by omega) U ?_)
    refine op_loadAggE (ds:= [.bool y4.l,.slice y4.ab y4.nb y4.cb,.slice y4.ai y4.ni y4.ci]) aE ag91 U hI2 (by exact cells_at hy4) (by rfl) (by omega) (by simp) U ?_
    refine bD bU (.cons U .nil) (RToHeader hi4) Tryz.func49 U U (by simp) U ?_
    rintro _ _ (⟨M140,h4,v4,e4,rfl,rfl,hok4,hfi4,ea4,ec4,rfl,hex4⟩|⟨e2,e4,rfl,hne4,rfl⟩)
    ·show At _ _ _ [M140,N6,No,NK,Na,NJ,M46,N4,N18,N2,R] _
     have hH4:=HdM.len hok4 (.slice ea4 h4.ex.length ec4);have hone4:=HdM.one (h:=h4) (v:=.slice ea4 h4.ex.length ec4) rfl
     refine aH U U (aO aE U U U (aO aE U U U (bK bU ze44 U (fun N10 b10 B10=>?_))))
     change Blk N10 b10 _ z44 at B10
     refine aF cL sz44 U U U (by first|exact hH4|exact cY) (by first|exact hone4|decide) B10 (by first|(rw [hH4,cY];exact Nat.le_refl _)|exact Nat.le_refl _) dB (fun N10 B10=>?_)
     first|rw [bG (by rw [hH4,cY])]at B10|rw [bG rfl]at B10
     refine aR U U (aB (s_35 (aC fun _ s_36=>aC fun _ s_37=>aA (aH U U (dG aE U U U (aB (s_37 (aQ U (fun c144=>?_) (fun c144=>?_)))))))))
     ·exact absurd U c144
     refine cT (d:=144) U c144 (aT (aI (s_36 (aA (aD aE fl54_2 U U (aK aE sc51 U B6 (gk_o hH) mem2 U (aV (ds:=h4.cells (.slice ea4 h4.ex.length ec4)) aE ag44 U B10 (by exact bY hH4) (by exact hH4) bI U ?_)))))))
     refine op_lit bU Tryz.underlying51 ze44 sz44 (.cons rfl .nil) rfl rfl (by(intro p hp;rw [List.mem_singleton.1 hp];exact hH4)) rfl rfl rfl (fun N150 a150 r150=>?_)
     simp only [flatV,List.flatMap_cons,List.flatMap_nil,Value.cells,List.append_nil,List.cons_append,List.nil_append]at r150
     have s150:=r150.rsl
     have s150:RSl N150 556 a150 1 1 (omC [(h4,.slice ea4 h4.ex.length ec4)]):=by
      have:=r150.rsl
      simp only [omC,List.flatMap_cons,List.flatMap_nil,List.append_nil]
      exact this
     refine op_append cL Tryz.underlying51 Tryz.underlying51 te44 U U ro s150 (by simp) (omC_oneK (NK:=M140) (NI:=N18) (xs:= [(h4,.slice ea4 h4.ex.length ec4)]) fun y hy=>by rw [List.mem_singleton.1 hy];exact⟨hok4,hfi4,ea4,ec4,rfl,hex4⟩) (by omega) (by omega) sel4 U (fun N151 a151 p151 r151=>?_)
     have s151:=r151.rsl
     rw [omC,omC, ←List.flatMap_append]at r151
     change Row N151 _ 556 a151 (j+1) p151 (omC (hs++ [(h4,.slice ea4 h4.ex.length ec4)]))at r151
     refine aD aE fl54_2 U U ?_
     refine aF cL sz51 U U U U U B6 (by rw [cG hH];exact show 0+557+1≤560 by decide) sel4 (fun N6 B6=>?_)
     rw [bk_o hH]at B6
     refine cX (cS (aI (s_34 (aA (aH U U (cU aE U U (by omega) (by omega) U (aR U U (aB (permSel12 (permSel12 (permSel12 (permSel12 (permSel12 (permSel12 (permSel12 (cC (cC (cC (cC (bV (permSel12 (dI (fun J J1 J2=>dH (bW (bX (bX (bX (bX (bX (bX (bX (aZ (bX (bX ?_))))))))))))))))))))))))))))))))))
     refine At.back ?_ aJ ⟨j+1,hs++ [(h4,.slice ea4 h4.ex.length ec4)],a151,p151,N6,N151,J,rfl,rfl,rfl,⟨by rw [List.length_append,hk.1];rfl,by omega⟩,B6,r151,HdK.snoc hhs ⟨hok4,hfi4,ea4,ec4,rfl,hex4⟩ J1 J2,by rw [List.map_append];exact mapE_next ht4 hm2 e4⟩ ?_
     ·repeat first|apply cW|exact .nil|exact lkI rfl (by omega)|rfl
     ·omega
    show At _ _ _ [nilH,N6,No,NK,Na,NJ,M46,N4,N18,N2,R] _
    refine aH U U (aO aE U U U (aO aE U U U (bK bU ze44 U (fun N10 b10 B10=>?_))))
    change Blk N10 b10 _ z44 at B10
    refine aF cL sz44 U U U (by first|exact hH4|exact cY) (by first|exact hone4|decide) B10 (by first|(rw [hH4,cY];exact Nat.le_refl _)|exact Nat.le_refl _) dB (fun N10 B10=>?_)
    first|rw [bG (by rw [hH4,cY])]at B10|rw [bG rfl]at B10
    refine aR U U (aB (s_35 (aC fun _ s_38=>aC fun _ s_39=>aA (aH U U (dG aE U U U (aB (s_39 (aQ U (fun c144=>?_) (fun c144=>?_)))))))))
    rotate_left
    ·exfalso;omega
    refine c4 (d:=144) U c144 (aC fun _ s_40=>aA (cM (out:=z54) aE ze54 pl54 .nil U U (aH U U (aF cL sz54 U U U z54_len zON B2 (by exact Nat.le_refl _) sel10 (fun N2 B2=>?_)))))
    rw [bG rfl]at B2
    refine aR U U (aB (s_40 (a0 (aS (At.inRet (aS (aS (At.inRet (aS ((dropAt10 (dropAt9 (dropAt8 (dropAt7 (dropAt6 (dropAt5 (dH (bW (bH (bE (L1:= [nilH]) U (.cell U (bQ (ds:=_) ag54 B2 (bY (by first|exact hl0|exact cG hH)) (by first|exact hl0|exact cG hH) bI) (.tmp U .nil)) U (.cons _ (.refl _)) aJ ?_))))))))))))))))))))
    have hE2:eachE hdE t2=.error e2:=by simp only [eachE,hls2];exact mapE_fault ht4 hm2 e4
    exact .inr ⟨e2,hT.trans (by simp only [blockA,eb,e_h,hE1,hE2]),rfl,hne4,rfl⟩
   refine cT (d:=128) U c128 ?_
   have hE2:eachE hdE t2=.ok (hs.map Prod.fst):=by simp only [eachE,hls2];rw [List.take_of_length_le (by omega)]at hm2;exact hm2
   have hol:(hs.map Prod.fst).length=j:=by rw [List.length_map];exact hk.1
   obtain⟨om,hom⟩: ∃l,hs.map Prod.fst=l:=⟨_,rfl⟩
   rw [hom]at hol hE2
   clear hk hm2
   subst hol
   refine At.exit (bB (bB (dE (aI (s_30 (aC fun _ s_41=>aC fun _ s_42=>aA (aD aE fl91_2 U U (aK aE sc89 U B4 U mem6 U ?_))))))))
   refine cF aE se89 U U (dF aE U U U (aB (s_42 (aQ U (fun c156=>?_) (fun c156=>?_)))))
   ·refine c4 (d:=156) U c156 ?_
    obtain rfl:r= []:=List.length_eq_zero_iff.1 (by simp only [List.length_cons]at hxl;omega)
    refine aC fun _ s_43=>aA (aV (ds:=_) aE ag54 U B6 (by exact bY (cG hH)) (by exact cG hH) bI U ?_)
    refine aF cL sz54 U U U (cG hH) (blk_one hone U U U) B2 (by rw [cG hH];exact Nat.le_refl _) sel8 (fun N2 B2=>?_)
    rw [bG (by rw [cG hH];exact hl0)]at B2
    refine aR U U (aB (s_43 (a0 (aS ((bX (bN (aZ (aZ (aZ (aZ (aZ (aZ (bN (bX (dI (fun Q Q1 Q2=>bN (bN (bN (aZ (aZ (aZ (aZ (bN (bN (dI (fun S S1 S2=>aZ (aZ (bC (bC (bC (bC (aZ (aZ (dI (fun T T1 T2=>bC (bC (bC (aG (aG (bC (bC ?_))))))))))))))))))))))))))))))))))))))))))
    refine dI (fun Uq U1 U2=>aG (aG (aL (aL (aG (aG (dI (fun V V1 V2=>bW (bJ (aM (bO (aM (bE (L1:= [V]) U (.cell U (bQ (ds:=_) ag54 B2 (bY (by first|exact hl0|exact cG hH)) (by first|exact hl0|exact cG hH) bI) (.tmp U .nil)) U (.cons _ (.refl _)) aJ ?_)))))))))))))
    have lS:=Heaplet.le_trans T1 (Heaplet.le_trans U1 V1)
    have l18:=Heaplet.le_trans Q1 (Heaplet.le_trans S1 lS)
    exact .inl ⟨V,⟨hd,gs,om,false,[]⟩,_,hT.trans (by simp only [blockA,blockR,eb,e_h,hE1,hE2]),rfl,rfl,⟨_,a,c,vs,oa,oc,hs,none,0,rfl,⟨hok,ea,ec,rfl,hex V (Heaplet.le_trans Q2 (Heaplet.le_trans S1 lS)) l18⟩,ra.rsl.le (Heaplet.le_trans S2 lS),hB V (Heaplet.le_trans T2 (Heaplet.le_trans U1 V1)) l18,ro.rsl.le (Heaplet.le_trans U2 V1),fun x hx=>hdk_in (hhs x hx) V2 l18,hom,RSl.nil _ _,fun x hx=>absurd hx List.not_mem_nil⟩,cG hH,blk_one hone U U rfl⟩
   refine cT (d:=156) U c156 ?_
   obtain⟨t5,rfl⟩:=one_of (l:=r) (by simp only [List.length_cons]at hxl;omega)
   have hn5:t5.items.length≤4294967295:=(plain_items (plains_mem (l:= [t0,t1,t2,t5]) (by have:=deco_plainQ (by omega) he;rw [et,It.plain]at this;exact(It.mk.inj this).2.2) t5 (by simp)) (hF t5 (by simp))).1
   obtain⟨z5,rfl⟩:=one_of (l:=zr) (by simp only [List.length_cons,List.length_nil]at hzl;omega)
   refine aT (aI (s_41 (aC fun _ s_44=>aA (aD aE fl54_3 U U ?_))))
   refine aF cL sz4 U U U U U B6 (by rw [cG hH];exact show 0+558+1≤560 by decide) dB (fun N6 B6=>?_)
   rw [bk_p hH]at B6
   refine aB (s_44 (aC fun _ s_45=>aA (aD aE fl91_2 U U (aK aE sc89 U B4 U mem6 U ?_))))
   refine op_slice aE se89 U (.some U (show _=(((3:Nat)):Int)from by omega)) .none .none (by omega) (by omega) (by omega) (by simp) U ?_
   refine cM (out:= [_,.int .i64 0,.int .i64 0]) aE ze105 pl105 (.cons U .nil) U U (op_box bU U U U (fun N163 b163 B163=>aR U U (aB (s_45 (aC fun _ s_46=>aA (aH U U ?_))))))
   have hP:PartsQ N163 N18 b163 [t5] 0 0:=⟨_,_,_,[z5],B163,hI.drop (lo:=3) (by omega),hXr⟩
   refine cA cL (.cons U .nil) (RListI hP (by omega)) (F:= [N6,No,NK,Na,NJ,M46,N4,N18,N2,R]) Tryz.func61 U U aJ (by simp) U ?_
   rintro _ _ ⟨Np,E1,its6,a6,n6,c6,xs6,rfl,rfl,hP,hs6,hX6,hst6,hil6⟩
   show At _ _ _ [Np,N6,No,NK,Na,NJ,M46,N4,N18,N2,R] _
   have hxl6:=hX6.length;have hnx6:xs6.length=n6:=(by have:=hs6.1;rw [length_cellsI]at this;omega);have hcap6:=hs6.cap63;have hn6:its6.length≤4294967295:=(by rw [hil6];exact hn5)
   refine cM (out:= [_,.int .i64 0,.int .i64 0]) aE ze105 pl105 (.cons U .nil) U U (op_box bU U U U (fun N167 b167 B167=>aR U U (aB (s_46 (aC fun _ s_47=>bZ (cV (dropAt9 (bV (bV (bV (bV (bV (bV (bV (bV (cC (bX (bV (bV (At.loop (fun fr_ hp_ ms_=> ∃(k E2:Nat) (ws:List WdM) (wa:Option Addr) (wc:Nat) (N6 Nw Nq:Heaplet),fr_= [(2,.pointer (some ⟨b2,0,none⟩)),(6,.pointer (some ⟨b6,0,none⟩)),(12,.pointer (some ⟨b163,0,none⟩)),(13,.pointer (some ⟨b167,0,none⟩))]∧hp_= [Nq,N6,Nw,Np,No,NK,Na,NJ,M46,N18,N2,R]∧its6.length- k=ms_∧(ws.length=k∧k≤its6.length)∧(PartsQ Nq N18 b167 its6 k E2)∧(Blk N6 b6 54 (blkP (hd.cells (.slice ea hd.ex.length ec)) (.slice a gs.length c) (.slice oa om.length oc) true (.slice wa k wc)).flatten)∧(Row Nw 125 23 wa k wc (wdsC ws))∧(∀x∈ws,x.ad.length=20)∧(Dne (mapE wdE (its6.take k)) ws E2)) ?_ aJ ⟨0,0,[],none,0,N6,nilH,N167,rfl,rfl,rfl,⟨rfl,Nat.zero_le _⟩,⟨a6,n6,c6,xs6,B167,hs6,hX6⟩,B6,Row.nil _ _ _,fun u hu=>absurd hu List.not_mem_nil,.inl ⟨rfl,rfl⟩⟩ ?_))))))))))))))))))))
   ·repeat first|apply cW|exact .nil|exact lkI rfl (by omega)|rfl
   rintro _ _ _ ⟨k,E2,ws,wa,wc,N6,Nw,Nq,rfl,rfl,rfl,hw,hQ,B6,rw,h20,hdn⟩
   obtain⟨aq,nq,cq,xq,Bq,hsq,hXq⟩:=id hQ
   have hxq:=hXq.length
   have hnq:xq.length=nq:=by have:=hsq.1;rw [length_cellsI]at this;omega
   obtain⟨ap,np,cp,xp,Bp,_,_⟩:=id hP
   refine aC fun _ s_48=>aC fun _ s_49=>bV (bO (aL (bV (bV (bV (bV (bV (bV (bV (bV (bV (At.drawnS [Np,Nq,R] [] [] [0,1,2,3,4,5,6,7,8,9,10,11,12,13,14,15,16,17,18,19,20,21,22,23] (by kernel_rfl) (by kernel_rfl) (.cons _ (.cons _ (.cons _ (.cons _ (.cons _ (.cons _ (.cons _ (.cons _ (.cons _ (.refl _)))))))))) (aP (cD U U U) U U (aW (cD U U U) U U (aD (cD U U U) fl105_1 U U (aK (cD U U U) sc3 U Bq U mem1 U ?_))))))))))))))))
   refine aP (cD U U U) U U (aW (cD U U U) U U (aD (cD U U U) fl105_0 U U (aK (cD U U U) sc89 U Bq U mem1 U ?_)))
   refine cF (cD U U U) se89 U U (op_lss (cD U U U) U U U (aP (cD U U U) U U (cB (d:=178) U (fun g178=>?_) (fun g178=>?_))))
   ·refine aP (cR U U U U U U) U U (aW (cR U U U U U U) U U (aD (cR U U U U U U) fl105_2 U U (aK (cR U U U U U U) sc3 U Bp U bI U ?_)))
    refine dF (cR U U U U U U) U U U (cH (cD U U U) U U U (aP (cD U U U) U U (cB (d:=185) U (fun g185=>?_) (fun g185=>?_))))
    ·refine aP (cR U U U U U U) U U (aW (cR U U U U U U) U U (aD (cR U U U U U U) fl105_2 U U (aK (cR U U U U U U) sc3 U Bq U mem1 U ?_)))
     refine dF (cR U U U U U U) U U U (cH (cD U U U) U U U (At.sNil (aI (s_49 (aQ U (fun c191=>?_) (fun c191=>?_))))))
     ·refine c4 (d:=191) U c191 ?_
      obtain⟨t6,ht6⟩: ∃u,its6[k]? =some u:=⟨_,List.getElem?_eq_getElem (by omega)⟩
      refine aT (aI (s_48 (bZ (aC fun _ s_50=>aA (aH U U (bV (cC (cC (cC (cC (cC (cC (cC (cC (cC (cC (bV (cA cL (.cons U .nil) (RListI hQ (by omega)) (F:= [N6,Nw,No,NK,Na,NJ,M46,N18,N2,Np,R]) Tryz.func61 U U aJ (by simp) U ?_))))))))))))))))))
      rintro _ _ ⟨Nq,E3,its7,a7,n7,c7,xs7,rfl,rfl,hQ,hs7,hX7,hst7,hil7⟩
      show At _ _ _ [Nq,N6,Nw,No,NK,Na,NJ,M46,N18,N2,Np,R] _
      have hxl7:=hX7.length;have hnx7:xs7.length=n7:=(by have:=hs7.1;rw [length_cellsI]at this;omega);have hcap7:=hs7.cap63
      refine cM (out:= [_,.int .i64 0,.int .i64 0]) aE ze105 pl105 (.cons U .nil) U U (op_box bU U U U (fun N195 b195 B195=>aR U U (aB (s_50 (aC fun _ s_51=>At.meet (fun fr_ hp_=> ∃(E4:Nat) (Nq:Heaplet),fr_= [(2,.pointer (some ⟨b2,0,none⟩)),(6,.pointer (some ⟨b6,0,none⟩)),(12,.pointer (some ⟨b163,0,none⟩)),(13,.pointer (some ⟨b167,0,none⟩)),(14,.pointer (some ⟨b195,0,none⟩))]∧hp_= [N195,Nq,N6,Nw,Np,No,NK,Na,NJ,M46,N18,N2,R]∧(PartsQ Nq N18 b167 its6 (k+1) E4)∧(E4=if its7.length≠4 then (if E3=0 then 2 else E3)else E3)) ?_ (fun K51_ jk_51=>?_))))))
      rotate_left
      ·skip
       refine aC fun _ s_52=>aA (aH U U (aW aE U U (aD aE fl105_0 U U (aK aE sc89 U B195 U bI U ?_))))
       refine cF aE se89 U U (dG aE U U U (aB (s_52 (aQ U (fun c201=>?_) (fun c201=>?_)))))
       ·refine c4 (d:=201) U c201 (aA (aH U U (permSel12 (permSel12 (permSel12 (permSel12 (permSel12 (permSel12 (permSel12 (permSel12 (permSel12 (permSel12 (permSel12 (bV (permSel12 (cA cL (.cons U (.cons U .nil)) (RWrong hQ 2) (F:= [N195,N6,Nw,No,NK,Na,NJ,M46,N18,N2,Np,R]) Tryz.func62 U U aJ (by simp) U ?_))))))))))))))))
        rintro _ _ ⟨Nq,rfl,rfl,hQ⟩
        show At _ _ _ [Nq,N195,N6,Nw,No,NK,Na,NJ,M46,N18,N2,Np,R] _
        refine cX (permSel12 (bV (bV (bV (bV (bV (bV (bV (permSel12 (permSel12 (permSel12 (bV (permSel12 (aI (jk_51 ?_ aJ ⟨_,Nq,rfl,rfl,hQ,(if_pos (show its7.length≠4 by omega)).symm⟩)))))))))))))))
        repeat first|apply cW|exact .nil|exact lkI rfl (by omega)|rfl
       refine cT (d:=201) U c201 (aT (permSel12 (bV (bV (bV (bV (bV (bV (bV (permSel12 (permSel12 (permSel12 (permSel12 (permSel12 (aI (jk_51 ?_ aJ ⟨_,Nq,rfl,rfl,hQ,(if_neg (show ¬its7.length≠4 by omega)).symm⟩))))))))))))))))
       repeat first|apply cW|exact .nil|exact lkI rfl (by omega)|rfl
      rintro _ _ ⟨E4,Nq,rfl,rfl,hQ,hE4⟩
      refine s_51 (aC fun _ s_53=>?_)
      have inv:Inv 0 (wdN its7) (wdN its7):=.inl ⟨rfl,rfl⟩
      refine aA (aH U U (cA cL (.cons U .nil) (RSmall (Np:=N195) (NI:=N18) (bp:=b195) (all:=its7) (i:=0) (E:=0) ⟨a7,n7,c7,xs7,B195,hs7,hX7⟩ (by omega)) (F:= [Nq,N6,Nw,Np,No,NK,Na,NJ,M46,N18,N2,R]) Tryz.func38 U U aJ (by simp) U ?_))
      rintro _ _ ⟨Mr,F1,n1,rfl,l1,rfl,hQr,st1⟩
      show At _ _ _ [Mr,Nq,N6,Nw,Np,No,NK,Na,NJ,M46,N18,N2,R] _
      have inv:=inv.step (stp64 st1);obtain⟨u1,hu1⟩: ∃u,UInt64.ofNat n1=u:=⟨_,rfl⟩;rw [hu1]at inv;rw [show(n1:Int)=(u1.toNat:Int) by rw [←hu1,UInt64.toNat_ofNat',Nat.mod_eq_of_lt l1]]
      refine aH U U (cA cL (.cons U .nil) (RSmall hQr (by omega)) (F:= [Nq,N6,Nw,Np,No,NK,Na,NJ,M46,N18,N2,R]) Tryz.func38 U U aJ (by simp) U ?_)
      rintro _ _ ⟨Mr,F2,n2,rfl,l2,rfl,hQr,st2⟩
      show At _ _ _ [Mr,Nq,N6,Nw,Np,No,NK,Na,NJ,M46,N18,N2,R] _
      have inv:=inv.step (stp64 st2);obtain⟨u2,hu2⟩: ∃u,UInt64.ofNat n2=u:=⟨_,rfl⟩;rw [hu2]at inv;rw [show(n2:Int)=(u2.toNat:Int) by rw [←hu2,UInt64.toNat_ofNat',Nat.mod_eq_of_lt l2]]
      refine cM (out:=wdC u1 u2 zero20 0) aE ze125 pl125 (.cons U (.cons U .nil)) (fill_wd2 u1 u2) U (bK bU ze125 U (fun N15 b15 B15=>?_))
      change Blk N15 b15 _ [.int .u64 0,.int .u64 0,.int .u8 0,.int .u8 0,.int .u8 0,.int .u8 0,.int .u8 0,.int .u8 0,.int .u8 0,.int .u8 0,.int .u8 0,.int .u8 0,.int .u8 0,.int .u8 0,.int .u8 0,.int .u8 0,.int .u8 0,.int .u8 0,.int .u8 0,.int .u8 0,.int .u8 0,.int .u8 0,.int .u64 0]at B15
      refine aF cL sz125 U U U (wdC_len zero20_len) wdC_one B15 (by rw [wdC_len zero20_len];exact Nat.le_refl _) dB (fun N15 B15=>?_)
      rw [bG (by rw [wdC_len zero20_len];rfl)]at B15
      refine aB (s_53 (aC fun _ s_54=>aA (aH U U (permSel13 (permSel13 (permSel13 (permSel13 (permSel13 (permSel13 (permSel13 (permSel13 (permSel13 (permSel13 (permSel13 (permSel13 (permSel12 (permSel13 (cA cL (.cons U .nil) (RAddr hQr (by omega)) (F:= [N15,Nq,N6,Nw,Np,No,NK,Na,NJ,M46,N18,N2,R]) Tryz.func41 U U aJ (by simp) U ?_))))))))))))))))))
      rintro _ _ ⟨Mr,ad,F3,rfl,l_ad,rfl,hQr,st3⟩
      show At _ _ _ [Mr,N15,Nq,N6,Nw,Np,No,NK,Na,NJ,M46,N18,N2,R] _
      have inv:=inv.step st3
      refine aD aE fl125_2 U U ?_
      refine aF cL sz28 U U U (by rw [bL];exact l_ad) (all8x2 _) B15 (by rw [wdC_len zero20_len,bL,l_ad];exact show 0+2+20≤23 by decide) sel1 (fun N15 B15=>?_)
      erw [wd_ad zero20_len l_ad]at B15
      refine aB (s_54 (aC fun _ s_55=>aA (aH U U (permSel13 (permSel13 (permSel13 (permSel13 (permSel13 (permSel13 (permSel13 (permSel13 (permSel13 (permSel13 (permSel13 (permSel13 (permSel12 (permSel13 (cA cL (.cons U .nil) (RSmall hQr (by omega)) (F:= [N15,Nq,N6,Nw,Np,No,NK,Na,NJ,M46,N18,N2,R]) Tryz.func38 U U aJ (by simp) U ?_))))))))))))))))))
      rintro _ _ ⟨Mr,F4,n4,rfl,l4,rfl,hQr,st4⟩
      show At _ _ _ [Mr,N15,Nq,N6,Nw,Np,No,NK,Na,NJ,M46,N18,N2,R] _
      have inv:=inv.step (stp64 st4);obtain⟨u4,hu4⟩: ∃u,UInt64.ofNat n4=u:=⟨_,rfl⟩;rw [hu4]at inv;rw [show(n4:Int)=(u4.toNat:Int) by rw [←hu4,UInt64.toNat_ofNat',Nat.mod_eq_of_lt l4]]
      refine aD aE fl125_3 U U ?_
      refine aF cL sz24 U U U U U B15 (by rw [wdC_len l_ad];exact show 0+22+1≤23 by decide) sel1 (fun N15 B15=>?_)
      erw [wd_am l_ad]at B15
      refine aB (s_55 (aC fun _ s_56=>aA (aH U U (aH U U (permSel13 (permSel13 (permSel13 (permSel13 (permSel13 (permSel13 (permSel13 (permSel13 (permSel13 (permSel13 (permSel13 (permSel12 (permSel12 (permSel13 (cA cL (.cons U (.cons U .nil)) (RWrong0 hQ hQr) (F:= [N15,Mr,N6,Nw,Np,No,NK,Na,NJ,M46,N18,N2,R]) Tryz.func63 U U aJ (by simp) U ?_)))))))))))))))))))
      rintro _ _ ⟨Nq,rfl,rfl,hQ⟩
      show At _ _ _ [Nq,N15,Mr,N6,Nw,Np,No,NK,Na,NJ,M46,N18,N2,R] _
      refine aB (s_56 (aA (aD aE fl54_4 U U (aK aE sc52 U B6 (gk_w hH) mem3 U (aV (ds:=wdC u1 u2 ad u4) aE ag125 U B15 (by exact bY (wdC_len l_ad)) (by exact wdC_len l_ad) mem1 U ?_)))))
      refine op_lit bU Tryz.underlying52 ze125 sz125 (.cons rfl .nil) rfl rfl (by(intro p hp;rw [List.mem_singleton.1 hp];exact wdC_len l_ad)) rfl rfl rfl (fun N221 a221 r221=>?_)
      simp only [flatV,List.flatMap_cons,List.flatMap_nil,Value.cells,List.append_nil,List.cons_append,List.nil_append]at r221
      have s221:=r221.rsl
      have hst8:Stp E2 (listE t6) its7 E3:=by rw [nxt_at ht6]at hst7;exact hst7
      have hdn2:Dne (mapE wdE (its6.take (k+1))) (ws++ [⟨u1,u2,ad,u4⟩]) (if E4=0 then F4 else E4):=by
       rw [take_nx ht6]
       exact hdn.step (stp_wd hst8 hE4 inv)
      have s221:RSl N221 23 a221 1 1 (wdsC [⟨u1,u2,ad,u4⟩]):=by
       have:=r221.rsl
       simp only [wdsC,List.flatMap_cons,List.flatMap_nil,List.append_nil]
       exact this
      refine op_append cL Tryz.underlying52 Tryz.underlying52 te125 U U rw s221 (by simp) (wdsC_one _) (by omega) (by omega) sel5 U (fun N222 a222 p222 r222=>?_)
      have s222:=r222.rsl
      rw [wdsC,wdsC, ←List.flatMap_append]at r222
      change Row N222 _ 23 a222 (k+1) p222 (wdsC (ws++ [⟨u1,u2,ad,u4⟩]))at r222
      refine aD aE fl54_4 U U ?_
      refine aF cL sz52 U U U U U B6 (by rw [cG hH];exact show 0+559+1≤560 by decide) sel5 (fun N6 B6=>?_)
      rw [bk_w hH]at B6
      refine cX (cS (aI (dropAt5 (dH (bJ (bV (bV (bV (bV (bV (bV (bV (bV (bV (cC (cC (bV ?_)))))))))))))))))
      refine At.back ?_ aJ ⟨k+1,(if E4=0 then F4 else E4),ws++ [⟨u1,u2,ad,u4⟩],a222,p222,N6,N222,Nq,rfl,rfl,rfl,⟨by rw [List.length_append,hw.1];rfl,by omega⟩,hQ,B6,r222,ad20 h20 l_ad,hdn2⟩ ?_
      ·repeat first|apply cW|exact .nil|exact lkI rfl (by omega)|rfl
      ·omega
     refine cT (d:=191) U c191 (At.exit (bB (bB (dE (aI (s_47 (aC fun _ s_57=>aA (aH U U (aH U U ?_)))))))))
     have hend:E1≠0∨E2≠0∨its6.length≤k:=by omega
     refine bV (bV (cC (cC (cC (cC (cC (cC (cC (cC (cC (bV (cA cL (.cons U (.cons U .nil)) (RWrong0 hP hQ) (F:= [N6,Nw,No,NK,Na,NJ,M46,N18,N2,Nq,R]) Tryz.func63 U U aJ (by simp) U ?_))))))))))))
     rintro _ _ ⟨Np,rfl,rfl,hP⟩
     show At _ _ _ [Np,N6,Nw,No,NK,Na,NJ,M46,N18,N2,Nq,R] _
     refine aB (s_57 (aC fun _ s_58=>aC fun _ s_59=>?_))
     obtain⟨ap,np,cp,xp,Bp,_,_⟩:=id hP
     have hfin:=dne_end (t:=t5) hst6 hdn hend
     obtain⟨EE,hEE⟩: ∃e,(if E1=0 then E2 else E1)=e:=⟨_,rfl⟩
     rw [hEE]at hfin Bp
     refine aA (aH U U (aW aE U U (aD aE fl105_2 U U (aK aE sc3 U Bp U bI U ?_))))
     refine dG aE U U U (aB (s_59 (aQ U (fun c231=>?_) (fun c231=>?_))))
     ·refine c4 (d:=231) U c231 (aC fun _ s_60=>bV (bO (bV (bV (bV (bV (bV (bV (bV (bV (bV (bV (At.drawnS [Np,R] [] [1] [0,1,2,3,4,5,6] (by kernel_rfl) (by kernel_rfl) (.cons _ (.cons _ (.cons _ (.cons _ (.cons _ (.cons _ (.cons _ (.cons _ (.cons _ (.cons _ (.refl _))))))))))) (cM (out:=z54) (cD U U U) ze54 pl54 .nil U U (aP (cD U U U) U U (aW (cD U U U) U U (aD (cD U U U) fl105_2 U U (aK (cD U U U) sc3 U Bp U bI U ?_))))))))))))))))))
      refine aF (nxsm U U U) sz54 U U U z54_len zON B2 (by exact Nat.le_refl _) sel8 (fun N2 B2=>?_)
      rw [bG rfl]at B2
      refine At.moreS (Lst:= [Np,R]) (Lst':= [Np,R]) (.refl _) (.cons _ (.cons _ (.cons _ (.cons _ (.cons _ (.cons _ (.cons _ (.cons _ (.cons _ (.cons _ (.refl _))))))))))) (cJ (cD U U U) U U (At.sNil (aI (s_60 (a0 (aS ((cV (dropAt11 (dropAt10 (dropAt9 (dropAt8 (dropAt7 (dropAt6 (dropAt5 (dH (bW (bJ (aM (bO (aM (bE (L1:= [nilH]) U (.cell U (bQ (ds:=_) ag54 B2 (bY (by first|exact hl0|exact cG hH)) (by first|exact hl0|exact cG hH) bI) (.tmp U .nil)) U (.cons _ (.refl _)) (.refl _) ?_))))))))))))))))))))))
      have h0:EE≠0:=by omega
      obtain⟨_,hE3⟩:=hfin.resolve_left (fun h=>h0 h.1)
      exact .inr ⟨EE,hT.trans (by simp only [blockA,blockR,eb,e_h,hE1,hE2,hE3]),rfl,h0,rfl⟩
     refine cT (d:=231) U c231 (aT (aI (s_58 (aC fun _ s_61=>aA (aV (ds:=_) aE ag54 U B6 (by exact bY (cG hH)) (by exact cG hH) mem1 U ?_)))))
     refine aF cL sz54 U U U (cG hH) (blk_one hone U U U) B2 (by rw [cG hH];exact Nat.le_refl _) sel9 (fun N2 B2=>?_)
     rw [bG (by rw [cG hH];exact hl0)]at B2
     refine aR U U (aB (s_61 (a0 ((bV (bV (bX (bX (bX (bX (bX (bX (bX (bX (cC (bV (dI (fun Q Q1 Q2=>cC (cC (cC (bX (bX (bX (bX (bX (bX (cC (cC (dI (fun S S1 S2=>bX (bX (bN (bN (bN (bN (bN (bN (bX (bX (dI (fun T T1 T2=>bN ?_)))))))))))))))))))))))))))))))))))))))))
     refine bN (bN (aZ (aZ (aZ (aZ (bN (bN (dI (fun Uq U1 U2=>aZ (aZ (bC (bC (bC (bC (aZ (aZ (dI (fun V V1 V2=>bC (bC (aG (aG (aG (bC (bC (dI (fun W W1 W2=>dH (bW (bJ (aM (bO (aM (bE (L1:= [W]) U (.cell U (bQ (ds:=_) ag54 B2 (bY (by first|exact hl0|exact cG hH)) (by first|exact hl0|exact cG hH) bI) (.tmp U .nil)) U (.cons _ (.refl _)) aJ ?_))))))))))))))))))))))))))))))))
     have h0:EE=0:=by omega
     obtain⟨_,hE3⟩:=hfin.resolve_right (fun h=>h.1 h0)
     obtain⟨rfl,_⟩:=hw
     have lS:=Heaplet.le_trans T1 (Heaplet.le_trans U1 (Heaplet.le_trans V1 W1))
     have l18:=Heaplet.le_trans Q1 (Heaplet.le_trans S1 lS)
     exact .inl ⟨W,⟨hd,gs,om,true,ws⟩,_,hT.trans (by simp only [blockA,blockR,eb,e_h,hE1,hE2,hE3]),rfl,rfl,⟨_,a,c,vs,oa,oc,hs,wa,wc,rfl,⟨hok,ea,ec,rfl,hex W (Heaplet.le_trans Q2 (Heaplet.le_trans S1 lS)) l18⟩,ra.rsl.le (Heaplet.le_trans S2 lS),hB W (Heaplet.le_trans T2 (Heaplet.le_trans U1 (Heaplet.le_trans V1 W1))) l18,ro.rsl.le (Heaplet.le_trans U2 (Heaplet.le_trans V1 W1)),fun x hx=>hdk_in (hhs x hx) (Heaplet.le_trans V2 W1) l18,hom,rw.rsl.le W2,h20⟩,cG hH,blk_one hone U U rfl⟩
    refine bS U U U U U U U U (bS U U U U U U U U (bS U U U U U U U U (bS U U U U U U U U (bS U U U U U U U U (cE (cD U U U) U U U (At.sNil (aI (s_49 (dA U (At.exit (bB (bB (dE (aI (s_47 (aC fun _ s_62=>aA (aH U U (aH U U ?_))))))))))))))))))
    have hend:E1≠0∨E2≠0∨its6.length≤k:=by omega
    refine bV (bV (cC (cC (cC (cC (cC (cC (cC (cC (cC (bV (cA cL (.cons U (.cons U .nil)) (RWrong0 hP hQ) (F:= [N6,Nw,No,NK,Na,NJ,M46,N18,N2,Nq,R]) Tryz.func63 U U aJ (by simp) U ?_))))))))))))
    rintro _ _ ⟨Np,rfl,rfl,hP⟩
    show At _ _ _ [Np,N6,Nw,No,NK,Na,NJ,M46,N18,N2,Nq,R] _
    refine aB (s_62 (aC fun _ s_63=>aC fun _ s_64=>?_))
    obtain⟨ap,np,cp,xp,Bp,_,_⟩:=id hP
    have hfin:=dne_end (t:=t5) hst6 hdn hend
    obtain⟨EE,hEE⟩: ∃e,(if E1=0 then E2 else E1)=e:=⟨_,rfl⟩
    rw [hEE]at hfin Bp
    refine aA (aH U U (aW aE U U (aD aE fl105_2 U U (aK aE sc3 U Bp U bI U ?_))))
    refine dG aE U U U (aB (s_64 (aQ U (fun c231=>?_) (fun c231=>?_))))
    ·refine c4 (d:=231) U c231 (aC fun _ s_65=>bV (bO (bV (bV (bV (bV (bV (bV (bV (bV (bV (bV (At.drawnS [Np,R] [] [1] [0,1,2,3,4,5,6] (by kernel_rfl) (by kernel_rfl) (.cons _ (.cons _ (.cons _ (.cons _ (.cons _ (.cons _ (.cons _ (.cons _ (.cons _ (.cons _ (.refl _))))))))))) (cM (out:=z54) (cD U U U) ze54 pl54 .nil U U (aP (cD U U U) U U (aW (cD U U U) U U (aD (cD U U U) fl105_2 U U (aK (cD U U U) sc3 U Bp U bI U ?_))))))))))))))))))
     refine aF (nxsm U U U) sz54 U U U z54_len zON B2 (by exact Nat.le_refl _) sel8 (fun N2 B2=>?_)
     rw [bG rfl]at B2
     refine At.moreS (Lst:= [Np,R]) (Lst':= [Np,R]) (.refl _) (.cons _ (.cons _ (.cons _ (.cons _ (.cons _ (.cons _ (.cons _ (.cons _ (.cons _ (.cons _ (.refl _))))))))))) (cJ (cD U U U) U U (At.sNil (aI (s_65 (a0 (aS ((cV (dropAt11 (dropAt10 (dropAt9 (dropAt8 (dropAt7 (dropAt6 (dropAt5 (dH (bW (bJ (aM (bO (aM (bE (L1:= [nilH]) U (.cell U (bQ (ds:=_) ag54 B2 (bY (by first|exact hl0|exact cG hH)) (by first|exact hl0|exact cG hH) bI) (.tmp U .nil)) U (.cons _ (.refl _)) (.refl _) ?_))))))))))))))))))))))
     have h0:EE≠0:=by omega
     obtain⟨_,hE3⟩:=hfin.resolve_left (fun h=>h0 h.1)
     exact .inr ⟨EE,hT.trans (by simp only [blockA,blockR,eb,e_h,hE1,hE2,hE3]),rfl,h0,rfl⟩
    refine cT (d:=231) U c231 (aT (aI (s_63 (aC fun _ s_66=>aA (aV (ds:=_) aE ag54 U B6 (by exact bY (cG hH)) (by exact cG hH) mem1 U ?_)))))
    refine aF cL sz54 U U U (cG hH) (blk_one hone U U U) B2 (by rw [cG hH];exact Nat.le_refl _) sel9 (fun N2 B2=>?_)
    rw [bG (by rw [cG hH];exact hl0)]at B2
    refine aR U U (aB (s_66 (a0 ((bV (bV (bX (bX (bX (bX (bX (bX (bX (bX (cC (bV (dI (fun Q Q1 Q2=>cC (cC (cC (bX (bX (bX (bX (bX (bX (cC (cC (dI (fun S S1 S2=>bX (bX (bN (bN (bN (bN (bN (bN (bX (bX (dI (fun T T1 T2=>bN ?_)))))))))))))))))))))))))))))))))))))))))
    refine bN (bN (aZ (aZ (aZ (aZ (bN (bN (dI (fun Uq U1 U2=>aZ (aZ (bC (bC (bC (bC (aZ (aZ (dI (fun V V1 V2=>bC (bC (aG (aG (aG (bC (bC (dI (fun W W1 W2=>dH (bW (bJ (aM (bO (aM (bE (L1:= [W]) U (.cell U (bQ (ds:=_) ag54 B2 (bY (by first|exact hl0|exact cG hH)) (by first|exact hl0|exact cG hH) bI) (.tmp U .nil)) U (.cons _ (.refl _)) aJ ?_))))))))))))))))))))))))))))))))
    have h0:EE=0:=by omega
    obtain⟨_,hE3⟩:=hfin.resolve_right (fun h=>h.1 h0)
    obtain⟨rfl,_⟩:=hw
    have lS:=Heaplet.le_trans T1 (Heaplet.le_trans U1 (Heaplet.le_trans V1 W1))
    have l18:=Heaplet.le_trans Q1 (Heaplet.le_trans S1 lS)
    exact .inl ⟨W,⟨hd,gs,om,true,ws⟩,_,hT.trans (by simp only [blockA,blockR,eb,e_h,hE1,hE2,hE3]),rfl,rfl,⟨_,a,c,vs,oa,oc,hs,wa,wc,rfl,⟨hok,ea,ec,rfl,hex W (Heaplet.le_trans Q2 (Heaplet.le_trans S1 lS)) l18⟩,ra.rsl.le (Heaplet.le_trans S2 lS),hB W (Heaplet.le_trans T2 (Heaplet.le_trans U1 (Heaplet.le_trans V1 W1))) l18,ro.rsl.le (Heaplet.le_trans U2 (Heaplet.le_trans V1 W1)),fun x hx=>hdk_in (hhs x hx) (Heaplet.le_trans V2 W1) l18,hom,rw.rsl.le W2,h20⟩,cG hH,blk_one hone U U rfl⟩
   refine bS U U U U U U U U (bS U U U U U U U U (bS U U U U U U U U (bS U U U U U U U U (bS U U U U U U U U (cE (cD U U U) U U U (aP (cD U U U) U U (bS U U U U U U U U (bS U U U U U U U U (bS U U U U U U U U (bS U U U U U U U U (bS U U U U U U U U (cE (cD U U U) U U U (At.sNil (aI (s_49 (dA U (At.exit (bB (bB (dE (aI (s_47 (aC fun _ s_67=>aA (aH U U (aH U U ?_)))))))))))))))))))))))))
   have hend:E1≠0∨E2≠0∨its6.length≤k:=by omega
   refine bV (bV (cC (cC (cC (cC (cC (cC (cC (cC (cC (bV (cA cL (.cons U (.cons U .nil)) (RWrong0 hP hQ) (F:= [N6,Nw,No,NK,Na,NJ,M46,N18,N2,Nq,R]) Tryz.func63 U U aJ (by simp) U ?_))))))))))))
   rintro _ _ ⟨Np,rfl,rfl,hP⟩
   show At _ _ _ [Np,N6,Nw,No,NK,Na,NJ,M46,N18,N2,Nq,R] _
   refine aB (s_67 (aC fun _ s_68=>aC fun _ s_69=>?_))
   obtain⟨ap,np,cp,xp,Bp,_,_⟩:=id hP
   have hfin:=dne_end (t:=t5) hst6 hdn hend
   obtain⟨EE,hEE⟩: ∃e,(if E1=0 then E2 else E1)=e:=⟨_,rfl⟩
   rw [hEE]at hfin Bp
   refine aA (aH U U (aW aE U U (aD aE fl105_2 U U (aK aE sc3 U Bp U bI U ?_))))
   refine dG aE U U U (aB (s_69 (aQ U (fun c231=>?_) (fun c231=>?_))))
   ·refine c4 (d:=231) U c231 (aC fun _ s_70=>bV (bO (bV (bV (bV (bV (bV (bV (bV (bV (bV (bV (At.drawnS [Np,R] [] [1] [0,1,2,3,4,5,6] (by kernel_rfl) (by kernel_rfl) (.cons _ (.cons _ (.cons _ (.cons _ (.cons _ (.cons _ (.cons _ (.cons _ (.cons _ (.cons _ (.refl _))))))))))) (cM (out:=z54) (cD U U U) ze54 pl54 .nil U U (aP (cD U U U) U U (aW (cD U U U) U U (aD (cD U U U) fl105_2 U U (aK (cD U U U) sc3 U Bp U bI U ?_))))))))))))))))))
    refine aF (nxsm U U U) sz54 U U U z54_len zON B2 (by exact Nat.le_refl _) sel8 (fun N2 B2=>?_)
    rw [bG rfl]at B2
    refine At.moreS (Lst:= [Np,R]) (Lst':= [Np,R]) (.refl _) (.cons _ (.cons _ (.cons _ (.cons _ (.cons _ (.cons _ (.cons _ (.cons _ (.cons _ (.cons _ (.refl _))))))))))) (cJ (cD U U U) U U (At.sNil (aI (s_70 (a0 (aS ((cV (dropAt11 (dropAt10 (dropAt9 (dropAt8 (dropAt7 (dropAt6 (dropAt5 (dH (bW (bJ (aM (bO (aM (bE (L1:= [nilH]) U (.cell U (bQ (ds:=_) ag54 B2 (bY (by first|exact hl0|exact cG hH)) (by first|exact hl0|exact cG hH) bI) (.tmp U .nil)) U (.cons _ (.refl _)) (.refl _) ?_))))))))))))))))))))))
    have h0:EE≠0:=by omega
    obtain⟨_,hE3⟩:=hfin.resolve_left (fun h=>h0 h.1)
    exact .inr ⟨EE,hT.trans (by simp only [blockA,blockR,eb,e_h,hE1,hE2,hE3]),rfl,h0,rfl⟩
   refine cT (d:=231) U c231 (aT (aI (s_68 (aC fun _ s_71=>aA (aV (ds:=_) aE ag54 U B6 (by exact bY (cG hH)) (by exact cG hH) mem1 U ?_)))))
   refine aF cL sz54 U U U (cG hH) (blk_one hone U U U) B2 (by rw [cG hH];exact Nat.le_refl _) sel9 (fun N2 B2=>?_)
   rw [bG (by rw [cG hH];exact hl0)]at B2
   refine aR U U (aB (s_71 (a0 ((bV (bV (bX (bX (bX (bX (bX (bX (bX (bX (cC (bV (dI (fun Q Q1 Q2=>cC (cC (cC (bX (bX (bX (bX (bX (bX (cC (cC (dI (fun S S1 S2=>bX (bX (bN (bN (bN (bN (bN (bN (bX (bX (dI (fun T T1 T2=>bN ?_)))))))))))))))))))))))))))))))))))))))))
   refine bN (bN (aZ (aZ (aZ (aZ (bN (bN (dI (fun Uq U1 U2=>aZ (aZ (bC (bC (bC (bC (aZ (aZ (dI (fun V V1 V2=>bC (bC (aG (aG (aG (bC (bC (dI (fun W W1 W2=>dH (bW (bJ (aM (bO (aM (bE (L1:= [W]) U (.cell U (bQ (ds:=_) ag54 B2 (bY (by first|exact hl0|exact cG hH)) (by first|exact hl0|exact cG hH) bI) (.tmp U .nil)) U (.cons _ (.refl _)) aJ ?_))))))))))))))))))))))))))))))))
   have h0:EE=0:=by omega
   obtain⟨_,hE3⟩:=hfin.resolve_right (fun h=>h.1 h0)
   obtain⟨rfl,_⟩:=hw
   have lS:=Heaplet.le_trans T1 (Heaplet.le_trans U1 (Heaplet.le_trans V1 W1))
   have l18:=Heaplet.le_trans Q1 (Heaplet.le_trans S1 lS)
   exact .inl ⟨W,⟨hd,gs,om,true,ws⟩,_,hT.trans (by simp only [blockA,blockR,eb,e_h,hE1,hE2,hE3]),rfl,rfl,⟨_,a,c,vs,oa,oc,hs,wa,wc,rfl,⟨hok,ea,ec,rfl,hex W (Heaplet.le_trans Q2 (Heaplet.le_trans S1 lS)) l18⟩,ra.rsl.le (Heaplet.le_trans S2 lS),hB W (Heaplet.le_trans T2 (Heaplet.le_trans U1 (Heaplet.le_trans V1 W1))) l18,ro.rsl.le (Heaplet.le_trans U2 (Heaplet.le_trans V1 W1)),fun x hx=>hdk_in (hhs x hx) (Heaplet.le_trans V2 W1) l18,hom,rw.rsl.le W2,h20⟩,cG hH,blk_one hone U U rfl⟩
  show At _ _ _ [nilH,N6,N4,N18,N2,R] _
  rw [z_blk]at B6
  refine aH U U (aO aE U U U (aO aE U U U (aD aE fl54_0 U U ?_)))
  refine aF cL sz44 U U U (by first|exact hH|exact cY) (by first|exact hone|decide) B6 (by first|(rw [cG hd0_len,hH];exact show 0+0+556≤560 by decide)|(rw [cG hd0_len,cY];exact show 0+0+556≤560 by decide)) sel1 (fun N6 B6=>?_)
  first|rw [bk_h hd0_len hH]at B6|skip
  refine aR U U (aB (s_10 (aC fun _ s_72=>aC fun _ s_73=>aA (aH U U (dG aE U U U (aB (s_73 (aQ U (fun c51=>?_) (fun c51=>?_)))))))))
  rotate_left
  ·exfalso;omega
  refine c4 (d:=51) U c51 (aC fun _ s_74=>aA (cM (out:=z54) aE ze54 pl54 .nil U U (aH U U (aF cL sz54 U U U z54_len zON B2 (by exact Nat.le_refl _) sel4 (fun N2 B2=>?_)))))
  rw [bG rfl]at B2
  refine aR U U (aB (s_74 (a0 (aS ((dH (bW (bH (bE (L1:= [nilH]) U (.cell U (bQ (ds:=_) ag54 B2 (bY (by first|exact hl0|exact cG hH)) (by first|exact hl0|exact cG hH) bI) (.tmp U .nil)) U (.cons _ (.refl _)) aJ ?_)))))))))
  exact .inr ⟨e2,hT.trans (by simp only [blockA,eb,e_h]),rfl,hne2,rfl⟩
 show At _ _ _ [N2,R] _
 refine aH U U (aO aE U U U (aO aE U U U (bK bU ze91 U (fun N4 b4 B4=>?_))))
 change Blk N4 b4 _ [.bool false,.slice none 0 0,.slice none 0 0]at B4
 refine aF cL sz91 U U U U U B4 (by simp) dB (fun N4 B4=>?_)
 simp only [setL,List.set]at B4
 refine aR U U (aB (s_2 (aC fun _ s_75=>aC fun _ s_76=>aA (aH U U (dG aE U U U (aB (s_76 (aQ U (fun c22=>?_) (fun c22=>?_)))))))))
 rotate_left
 ·exfalso;omega
 refine c4 (d:=22) U c22 (aC fun _ s_77=>aA (cM (out:=z54) aE ze54 pl54 .nil U U (aH U U (aF cL sz54 U U U z54_len zON B2 (by exact Nat.le_refl _) sel1 (fun N2 B2=>?_)))))
 rw [bG rfl]at B2
 refine aR U U (aB (s_77 (a0 (aS ((cV (bJ (aM (bO (aM (bE (L1:= [nilH]) U (.cell U (bQ (ds:=_) ag54 B2 (bY (by first|exact hl0|exact cG hH)) (by first|exact hl0|exact cG hH) bI) (.tmp U .nil)) U (.cons _ (.refl _)) aJ ?_)))))))))))
 exact .inr ⟨e,readB_1 he,rfl,hne,rfl⟩
end
end Go.Proofs.YtjfagifjajielaaGreat
