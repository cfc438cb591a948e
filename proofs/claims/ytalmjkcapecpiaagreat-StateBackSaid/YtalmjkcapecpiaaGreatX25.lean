/- Several texts in one: see the remarks ahead of each part. No condition but those told there. -/
import Derived.Test.YtalmjkcapecpiaaGreatX1
import Derived.Test.YtalmjkcapecpiaaGreatX24
import Derived.Test.YtalmjkcapecpiaaGreatX19
import Derived.Test.YtalmjkcapecpiaaGreatX18
set_option linter.unusedSimpArgs false
set_option linter.unusedVariables false
namespace Go.Proofs.YtalmjkcapecpiaaGreat
open Go Go.RowKit
set_option maxRecDepth 100000
set_option maxHeartbeats 4000000 in
theorem FBeginZ {NS:Heaplet} {sp ma:Nat} {v1 v2 v3 v4 v5 v6 v7 v8 v9 v10 v11 v12:Value} (BS:Blk NS sp 85 [.map (some ma),v1,v2,v3,v4,v5,v6,v7,v8,v9,v10,v11,v12]):Fn Tryz.prog 49 #[.pointer (some ⟨sp,0,none⟩)] [NS] [] (fun v L=> ∃(t:SJ) (NS NT NM NW ND NP NQ NO NL NU NK:Heaplet),v=.tuple #[]∧L= [NS,NT,NM,NW,ND,NP,NQ,NO,NL,NU,NK]∧t.On NS NT NM NW ND NP NQ NO NL NU NK sp ma 0∧t.ab=SAb.z∧t.un=0∧t.kn=0∧t.ln=0):=by
 refine Fn.enter (vs:= [.pointer (some ⟨sp,0,none⟩)]) Tryz.func49 U U U ?_
 intro E R hR
 change At _ _ E [NS,R] _
 refine aB (bC U U (op_makeMapV 33 bT U (fun N3 b3 M3=>op_makeMapV 33 bT U (fun N4 b4 M4=>op_makeMapV 33 bT U (fun N5 b5 M5=>op_makeMapV 33 bT U (fun N6 b6 M6=>op_makeMapV 105 bT U (fun N7 b7 M7=>op_makeMapV 105 bT U (fun N8 b8 M8=>op_makeMapV 105 bT U (fun N9 b9 M9=>op_build (out:= [_,_,_,_,_,_,_,.int .u64 0,.slice none 0 0,.slice none 0 0,.slice none 0 0,.int .i64 0]) aN ze83 pl83 (.cons U (.cons U (.cons U (.cons U (.cons U (.cons U (.cons U .nil))))))) U U (bH aN U U (aJ aN fl85_1 U U (bP nxQ sz83 U U U U U BS (by exact show 0+1+12≤13 by decide) sel7 (fun NS BS=>?_)))))))))))))
 change Blk NS sp _ (stK ma b3 b4 b5 b6 b7 b8 b9 0 (.slice none 0 0) (.slice none 0 0) (.slice none 0 0) 0)at BS
 refine cE (At.empty (At.empty (At.empty (bE (cH (bF (bI (bS (aY (bM (a6 (bR (bO (bE (bE (cQ (L1:= [NS,N3,N4,N5,N6,N7,N8,N9,nilH,nilH2,nilH3]) U .nil U (.refl _) aZ ?_))))))))))))))))
 exact⟨⟨SAb.z,b3,b4,b5,b6,b7,b8,b9,none,0,0,none,0,0,none,0,0,.map [],.map [],.map [],.map [],.map [],.map [],.map [],[],[],[]⟩,NS,N3,N4,N5,N6,N7,N8,N9,nilH,nilH,nilH,rfl,rfl,⟨BS,M3,M4,M5,M6,M7,M8,M9,MapA.nil,MapA.nil,MapA.nil,MapA.nil,MapA.nil,MapA.nil,MapA.nil,Row.nil _ _ _,Row.nil _ _ _,Row.nil _ _ _,fun u hu=>absurd hu List.not_mem_nil,Nat.le_refl _,Nat.le_refl _,Nat.le_refl _⟩,rfl,rfl,rfl,rfl⟩
def NewZ (v:Value) (L:List Heaplet):Prop:= ∃sp, ∃(t:SJ) (ma:Nat) (DF:DataW Value) (l:AcR) (NS NF NA NT NM NW ND NP NQ NO NL NU NK:Heaplet),v=(.pointer (some ⟨sp,0,none⟩))∧L= [NS,NF,NA,NT,NM,NW,ND,NP,NQ,NO,NL,NU,NK]∧StO t NS NF NA NT NM NW ND NP NQ NO NL NU NK sp ma 0 DF l∧t.ab=SAb.z∧MdEq l []∧t.un=0∧t.kn=0∧t.ln=0
set_option maxHeartbeats 4000000 in
theorem FNewZ:Fn Tryz.prog 12 #[] [] [] NewZ:=by
 refine Fn.enter (vs:= []) Tryz.func12 U U U ?_
 intro E R hR
 change At _ _ E [R] _
 refine aH fun _ s_1=>aB (bV U U (aI (s_1 (aH fun _ s_2=>aB (op_makeMapV 33 bT U (fun N2 b2 M2=>op_build (out:= [_,.map none,.map none,.map none,.map none,.map none,.map none,.map none,.int .u64 0,.slice none 0 0,.slice none 0 0,.slice none 0 0,.int .i64 0]) aN ze85 pl85 (.cons U .nil) U U (cU bT U U U (fun N4 b4 B4=>bV U U (aI (s_2 (aH fun _ s_3=>aB (bC U U (cR nxQ (.cons U .nil) (FBeginZ B4) (F:= [N2,R]) Tryz.func49 U U aZ (by simp) U ?_)))))))))))))
 rintro v6 L6 ⟨t,NS,NT,NM,NW,ND,NP,NQ,NO,NL,NU,NK,rfl,rfl,h6,e6,eu6,ek6,el6⟩
 show At _ _ _ [NS,NT,NM,NW,ND,NP,NQ,NO,NL,NU,NK,N2,R] _
 skip
 refine aI (s_3 (aH fun _ s_4=>aB (bC U U (bV U U (aI (s_4 (cK ((At.empty (dI (aV (aV (aV (aV (aV (aV (aV (aV (aV (aV (bE (dI (dI (cF (L1:= [NS,N2,nilH,NT,NM,NW,ND,NP,NQ,NO,NL,NU,NK]) U (.tmp U .nil) (.refl _) aZ ?_))))))))))))))))))))))))
 exact⟨b4,t,b2,.map [],[],NS,N2,nilH,NT,NM,NW,ND,NP,NQ,NO,NL,NU,NK,rfl,rfl,⟨h6,M2,MapA.nil,trivial⟩,e6,fun a=>rfl,eu6,ek6,el6⟩
def LoadZ (b:List AcA) (c:Nat) (v:Value) (L:List Heaplet):Prop:=(¬LoadOk b∧v=.tuple #[.pointer none,.int .i64 9]∧L= [])∨(LoadOk b∧ ∃sp, ∃(t:SJ) (ma:Nat) (DF:DataW Value) (l:AcR) (NS NF NA NT NM NW ND NP NQ NO NL NU NK:Heaplet),v=(.tuple #[.pointer (some ⟨sp,0,none⟩),.int .i64 0])∧L= [NS,NF,NA,NT,NM,NW,ND,NP,NQ,NO,NL,NU,NK]∧StO t NS NF NA NT NM NW ND NP NQ NO NL NU NK sp ma c DF l∧t.ab=SAb.z∧MdEq l (ofA b)∧t.un=0∧t.kn=0∧t.ln=0)
set_option maxHeartbeats 32000000 in
theorem FLoadZ {NB NI:Heaplet} {a:Option Addr} {n cp c:Nat} {ws:List (AcA×AcI)} (hrow:RSl NB 27 a n cp (ws.flatMap accC)) (hn:ws.length=n) (hrd: ∀p∈ws,AccRd NI c p) (hnc:n≤c) (hc:c≤1000000):
 Fn Tryz.prog 5 #[.slice a n cp] [] [NB,NI] (LoadZ (ws.map Prod.fst) c):=by
 have hlen: ∀y∈ws,(accC y).length=27:=fun y hy=>accC_len (hrd y hy).ad
 have hcp:=hrow.cap63
 refine Fn.enter (vs:= [.slice a n cp]) Tryz.func5 U U U ?_
 intro E R hR
 have hrow:=hrow.le (hR NB (by simp))
 have hrd: ∀p∈ws,AccRd R c p:=fun p hp=>(hrd p hp).le (hR NI (by simp))
 change At _ _ E [R] _
 refine aH fun _ s_1=>aB (bV U U (bV U U (aI (s_1 (aH fun _ s_2=>aB (bG bT .nil (FNewZ) Tryz.func12 U U (by simp) U ?_))))))
 rintro v10 L10 ⟨sp,t,ma,DF0,l0,NS,NF,NA,NT,NM,NW,ND,NP,NQ,NO,NL,NU,NK,rfl,rfl,hO,e0,hM0,eu0,ek0,el0⟩
 show At _ _ _ [NS,NF,NA,NT,NM,NW,ND,NP,NQ,NO,NL,NU,NK,R] _
 have BS:=hO.S'
 refine bV U U (aI (s_2 (aH fun _ s_3=>aH fun _ s_4=>aB (bC U U (dB aN se22 U U (bC U U (aI (s_4 (bX (At.loop (fun fr_ hp_ ms_=> ∃(i:Nat) (NF NA:Heaplet) (DF:DataW Value) (l:AcR),fr_= [(4,.pointer (some ⟨sp,0,none⟩)),(11,.slice a n cp),(12,.int .i64 (n:Int)),(13,.int .i64 (i:Int))]∧hp_= [NS,NF,NA,NT,NM,NW,ND,NP,NQ,NO,NL,NU,NK,R]∧n- i=ms_∧(i≤n)∧(MapV Tryz.prog 33 NF ma i DF)∧(MapA keyA okAd ptrV DF l)∧(AccsN NA l c)∧(LoadOk ((ws.map Prod.fst).take i))∧(MdEq l (ofA ((ws.map Prod.fst).take i)))) ?_ aZ ⟨0,NF,NA,DF0,l0,rfl,rfl,rfl,Nat.zero_le _,hO.F,hO.A,hO.N.mono (Nat.zero_le _),⟨List.nodup_nil,fun _ h=>absurd h List.not_mem_nil⟩,hM0⟩ ?_))))))))))
 ·repeat first|apply cW|exact .nil|exact lkI rfl (by omega)|rfl
 rintro _ _ _ ⟨i,NF,NA,DF,l,rfl,rfl,rfl,hi,hF,hA,hN,hok,hmd⟩
 refine aH fun _ s_5=>aB (op_lss aN U U U (aI (s_5 (aH fun _ s_6=>cD U (fun c14=>?_) (fun c14=>?_)))))
 ·obtain⟨q,hqi⟩: ∃q,ws[i]? =some q:=⟨_,List.getElem?_eq_getElem (by omega)⟩
  obtain⟨w,ii⟩:=q
  have hw:=hrd _ (List.mem_of_getElem? hqi)
  have hql:=hlen _ (List.mem_of_getElem? hqi)
  have hbi:(ws.map Prod.fst)[i]? =some w:=by rw [List.getElem?_map,hqi];rfl
  have had:w.ad.length=20:=hw.ad
  have hcl:w.co.length≤1099511627776:=hw.cl
  have hwl:w.sl.length≤c:=hw.ln
  have hwsl:RSl R 8 ii.sa w.sl.length ii.sc (w.sl.flatMap slotC):=hw.sl
  have hscp:=hwsl.cap63
  have hwkv: ∀q∈w.sl,q.1<WW∧q.2<WW:=hw.kv
  refine cG (aS (s_6 (aH fun _ s_7=>bX (aH fun _ s_8=>aB (op_idxE aN se22 U U hrow (show _=(((i:Nat)):Int)from by omega) (by omega) U ?_)))))
  refine op_loadAggE (ds:=accC (w,ii)) aN ag43 U hrow (by exact flat_atS accC hlen hqi) (by exact hql) (by omega) (by simp) U ?_
  refine bZ bT ze43 U (fun N6 b6 B6=>?_)
  change Blk N6 b6 _ [.int .u8 0,.int .u8 0,.int .u8 0,.int .u8 0,.int .u8 0,.int .u8 0,.int .u8 0,.int .u8 0,.int .u8 0,.int .u8 0,.int .u8 0,.int .u8 0,.int .u8 0,.int .u8 0,.int .u8 0,.int .u8 0,.int .u8 0,.int .u8 0,.int .u8 0,.int .u8 0,.int .u64 0,.int .u64 0,.int .u64 0,.int .u64 0,.int .u64 0,.slice none 0 0,.slice none 0 0]at B6
  refine bP nxQ sz43 U U U hql accC_one B6 (by rw [hql];decide) sel0 (fun N6 B6=>?_)
  rw [setL_full (by rw [hql];rfl)]at B6
  refine aI (s_8 (aH fun _ s_9=>aH fun _ s_10=>aB (bC U U (aJ aN fl43_0 U U ?_))))
  refine aK (ds:=u8s w.ad) aN ag33 U B6 (by exact accC_ad had) (by rw [cY];exact had) cO U ?_
  refine bG bT (.cons U (.cons U .nil)) (FExists (k:=w.ad) BS hF hA had) Tryz.func29 U U (by simp) U ?_
  rintro _ _ ⟨rfl,rfl⟩
  show At _ _ _ [N6,NS,NF,NA,NT,NM,NW,ND,NP,NQ,NO,NL,NU,NK,R] _
  refine aI (s_10 (At.condB U (fun c20=>?_) (fun c20=>?_)))
  ·refine aH fun _ s_11=>aB (bV U U (bV U U (aI (s_11 (cK (dC (At.inRet (dC (dC (At.inRet (dC ((dropAt13 (dropAt12 (dropAt11 (dropAt10 (dropAt9 (dropAt8 (dropAt7 (dropAt6 (dropAt5 (dropAt4 (dropAt3 (dropAt2 (cT (dropAt0 (At.retN (L1:= []) U (.tmp U (.tmp U .nil)) U (.refl _) aZ ?_)))))))))))))))))))))))))))
   exact .inl ⟨fun h=>(load_there h hbi).1 (ofA_mem.1 (by rw [←hmd w.ad,Option.isSome_map];exact c20)),rfl,rfl⟩
  have hnx: ¬(getA w.ad (ofA ((ws.map Prod.fst).take i))).isSome=true:=by
   rw [←hmd w.ad]
   intro h
   simp only [Option.isSome_map]at h
   rw [h]at c20;cases c20
  refine cG (aS (s_9 (aH fun _ s_12=>At.meet (fun fr_ hp_=> ∃(N27 N28 N30:Heaplet) (a27:Option Addr) (c27 b28 b30:Nat),fr_= [(4,.pointer (some ⟨sp,0,none⟩)),(6,.pointer (some ⟨b6,0,none⟩)),(7,.pointer (some ⟨b30,0,none⟩)),(11,.slice a n cp),(12,.int .i64 (n:Int)),(13,.int .i64 (i:Int))]∧hp_= [N27,N28,N30,N6,NS,NF,NA,NT,NM,NW,ND,NP,NQ,NO,NL,NU,NK,R]∧(RSl N27 1 a27 w.co.length c27 (u8s w.co))∧(MapV Tryz.prog 36 N28 b28 0 (.map []))∧(Blk N30 b30 71 (acK w.no w.ba a27 w.co.length c27 b28))) ?_ (fun K12_ jk_12=>?_))))
  rotate_left
  ·skip
   refine permSel14 (cH (permSel14 (permSel14 (permSel14 (permSel14 (permSel14 (permSel14 (permSel14 (permSel14 (permSel14 (permSel14 (permSel14 (permSel14 (permSel14 (At.planS [N6,R] (.take 0 (.take 1 (.take 2 (.take 3 (.take 4 (.take 5 (.fork 6 false (.fork 7 false (.take 8 (.fork 9 true (.take 10 .done) .nofork)) .nofork) (.fork 7 false (.fork 6 false (.take 8 (.fork 9 true (.take 10 .done) .nofork)) .nofork) .nofork)))))))) (by kernel_rfl) (by kernel_rfl) (.cons _ (.cons _ (.cons _ (.cons _ (.cons _ (.cons _ (.cons _ (.cons _ (.cons _ (.cons _ (.cons _ (.cons _ (.cons _ (.refl _)))))))))))))) (aJ (nxpf U U) fl43_1 U U (aU (nxpf U U) sc34 U B6 (accC_no had) cO U (aJ (nxpf U U) fl43_2 U U (aK (ds:=u64s (wl w.ba)) (nxpf U U) ag36 U B6 (by exact accC_ba had) (by rfl) cO U ?_)))))))))))))))))))
   refine aJ (nxpf U U) fl43_3 U U (aU (nxpf U U) sc37 U B6 (accC_co had) cO U (At.fork ?_ ?_))
   rotate_left
   ·refine At.fork ?_ ?_
    rotate_left
    ·exact At.pNo
    refine op_makeMapV 36 (Nx.agree (nxpa U U)) U (fun N28 b28 M28=>At.andS (.cons _ (.cons _ (.cons _ (.cons _ (.cons _ (.cons _ (.cons _ (.cons _ (.cons _ (.cons _ (.cons _ (.cons _ (.cons _ (.cons _ (.refl _))))))))))))))) (At.fork ?_ ?_))
    rotate_left
    ·exact At.pNo
    refine bG (Nx.agree (nxpa U U)) (.cons U .nil) (FBClone hw.co U hcl) Tryz.func30 U U (by simp) U ?_
    rintro _ _ ⟨N27,a27,c27,rfl,rfl,r27⟩
    show At _ _ _ [N27,N28,NS,NF,NA,NT,NM,NW,ND,NP,NQ,NO,NL,NU,NK,N6,R] _
    refine At.andS (.cons _ (.cons _ (.cons _ (.cons _ (.cons _ (.cons _ (.cons _ (.cons _ (.cons _ (.cons _ (.cons _ (.cons _ (.cons _ (.cons _ (.cons _ (.refl _)))))))))))))))) (op_build (out:= [_,_,_,_,_,_,_]) (nxpf U U) ze71 pl71 (.cons U (.cons U (.cons U (.cons U .nil)))) U U (At.fork ?_ ?_))
    rotate_left
    ·exact At.pNo
    refine cU (Nx.agree (nxpa U U)) U U U (fun N30 b30 B30=>At.andS (.cons _ (.cons _ (.cons _ (.cons _ (.cons _ (.cons _ (.cons _ (.cons _ (.cons _ (.cons _ (.cons _ (.cons _ (.cons _ (.cons _ (.cons _ (.cons _ (.refl _))))))))))))))))) (cZ (nxpf U U) U U (At.pDone (cP (cI (cI (cI (cI (cI (cI (cI (cI (cI (cI (cI (cI (cI (cP (permSel15 (cP (cP (aS (jk_12 ?_ (.refl _) ⟨N27,N28,N30,a27,c27,b28,b30,rfl,rfl,r27,M28,B30⟩)))))))))))))))))))))))
    repeat first|apply cW|exact .nil|exact lkI rfl (by omega)|rfl
   refine bG (Nx.agree (nxpa U U)) (.cons U .nil) (FBClone hw.co U hcl) Tryz.func30 U U (by simp) U ?_
   rintro _ _ ⟨N27,a27,c27,rfl,rfl,r27⟩
   show At _ _ _ [N27,NS,NF,NA,NT,NM,NW,ND,NP,NQ,NO,NL,NU,NK,N6,R] _
   refine At.andS (.cons _ (.cons _ (.cons _ (.cons _ (.cons _ (.cons _ (.cons _ (.cons _ (.cons _ (.cons _ (.cons _ (.cons _ (.cons _ (.cons _ (.refl _))))))))))))))) (At.fork ?_ ?_)
   rotate_left
   ·exact At.pNo
   refine op_makeMapV 36 (Nx.agree (nxpa U U)) U (fun N28 b28 M28=>At.andS (.cons _ (.cons _ (.cons _ (.cons _ (.cons _ (.cons _ (.cons _ (.cons _ (.cons _ (.cons _ (.cons _ (.cons _ (.cons _ (.cons _ (.cons _ (.refl _)))))))))))))))) (op_build (out:= [_,_,_,_,_,_,_]) (nxpf U U) ze71 pl71 (.cons U (.cons U (.cons U (.cons U .nil)))) U U (At.fork ?_ ?_)))
   rotate_left
   ·exact At.pNo
   refine cU (Nx.agree (nxpa U U)) U U U (fun N30 b30 B30=>At.andS (.cons _ (.cons _ (.cons _ (.cons _ (.cons _ (.cons _ (.cons _ (.cons _ (.cons _ (.cons _ (.cons _ (.cons _ (.cons _ (.cons _ (.cons _ (.cons _ (.refl _))))))))))))))))) (cZ (nxpf U U) U U (At.pDone (cP (cI (cI (cI (cI (cI (cI (cI (cI (cI (cI (cI (cI (cI (cP (permSel15 (cI (cP (aS (jk_12 ?_ (.refl _) ⟨N27,N28,N30,a27,c27,b28,b30,rfl,rfl,r27,M28,B30⟩)))))))))))))))))))))))
   repeat first|apply cW|exact .nil|exact lkI rfl (by omega)|rfl
  rintro _ _ ⟨N27,N28,N30,a27,c27,b28,b30,rfl,rfl,r27,M28,B30⟩
  refine s_12 (aH fun _ s_13=>aH fun _ s_14=>aB (aJ aN fl43_4 U U (aU aN sc41 U B6 (accC_sl had) mem3 U (dB aN se41 U U (bC U U (aI (s_14 (bX (cP (cP (cP (cP (cP (cP (cP (cP (cP (cP (cP (cP (cP (cP (cI (permSel15 (cP (cP (At.loop (fun fr_ hp_ ms_=> ∃(j:Nat) (NI2:Heaplet) (DI:DataW Value),fr_= [(4,.pointer (some ⟨sp,0,none⟩)),(6,.pointer (some ⟨b6,0,none⟩)),(7,.pointer (some ⟨b30,0,none⟩)),(11,.slice a n cp),(12,.int .i64 (n:Int)),(13,.int .i64 (i:Int)),(32,.slice ii.sa w.sl.length ii.sc),(33,.int .i64 (w.sl.length:Int)),(34,.int .i64 (j:Int))]∧hp_= [NI2,N6,N27,N30,NS,NF,NA,NT,NM,NW,ND,NP,NQ,NO,NL,NU,NK,R]∧w.sl.length- j=ms_∧(j≤w.sl.length)∧(MapV Tryz.prog 36 NI2 b28 j DI)∧(MapA keyW okWd wordV DI (putsF [] (w.sl.take j)))) ?_ aZ ⟨0,N28,_,rfl,rfl,rfl,Nat.zero_le _,M28,MapA.nil⟩ ?_)))))))))))))))))))))))))))
  ·repeat first|apply cW|exact .nil|exact lkI rfl (by omega)|rfl
  rintro _ _ _ ⟨j,NI2,DI,rfl,rfl,rfl,hj,hMI,hAI⟩
  refine aH fun _ s_15=>aB (op_lss aN U U U (aI (s_15 (aH fun _ s_16=>cD U (fun c35=>?_) (fun c35=>?_)))))
  ·obtain⟨s,hsj⟩: ∃s,w.sl[j]? =some s:=⟨_,List.getElem?_eq_getElem (by omega)⟩
   have hkv:=hwkv s (List.mem_of_getElem? hsj)
   refine cG (aS (s_16 (aH fun _ s_17=>bX (aH fun _ s_18=>aB (op_idxE aN se41 U U hwsl (show _=(((j:Nat)):Int)from by omega) (by omega) U ?_)))))
   refine op_loadAggE (ds:=slotC s) aN ag52 U hwsl (by exact flat_atS slotC (fun y _=>slotC_len y) hsj) (by exact slotC_len s) (by omega) (by simp) U ?_
   refine bZ bT ze52 U (fun N9 b9 B9=>?_)
   change Blk N9 b9 _ [.int .u64 0,.int .u64 0,.int .u64 0,.int .u64 0,.int .u64 0,.int .u64 0,.int .u64 0,.int .u64 0]at B9
   refine bP nxQ sz52 U U U (slotC_len s) (slotC_one s) B9 (by rw [slotC_len];decide) sel0 (fun N9 B9=>?_)
   rw [setL_full (by rw [slotC_len];rfl)]at B9
   refine aI (s_18 (bA (cH (bF (permSel18 (permSel18 (permSel18 (permSel18 (permSel18 (permSel18 (permSel18 (permSel18 (permSel18 (permSel18 (permSel18 (permSel18 (permSel18 (permSel18 (permSel18 (permSel18 (cS [NI2,N9,N30] [8] [] [0,1,2,3,4,5,6,7,8] (by kernel_rfl) (by kernel_rfl) (.cons _ (.cons _ (.cons _ (.cons _ (.cons _ (.cons _ (.cons _ (.cons _ (.cons _ (.cons _ (.cons _ (.cons _ (.cons _ (.cons _ (.cons _ (.cons _ (.refl _))))))))))))))))) (aR (bB U U U) U U (bH (bB U U U) U U (aJ (bB U U U) fl71_3 U U (aU (bB U U U) sc69 U B30 U mem2 U ?_)))))))))))))))))))))))))
   refine aJ (bB U U U) fl52_0 U U (aK (ds:=u64s (wl s.1)) (bB U U U) ag36 U B9 (by rfl) (by rfl) dG U ?_)
   refine aJ (bB U U U) fl52_1 U U (aK (ds:=u64s (wl s.2)) (bB U U U) ag36 U B9 (by rfl) (by rfl) dG U ?_)
   refine op_mapUpdateV (nxsl U U U U) kd36 Tryz.underlying69 U U U hMI ((by unfold maxLen;omega)) (keyW_spec s.1) sel16 (fun NI3 hMI3 hoI=>?_)
   refine dH (cJ (aS (s_17 (aB (dD aN U U (by omega) (by omega) U (bC U U (aI (dropAt17 (cI (cI (cI (cI (cI (cI (cI (cI (cI (cI (cI (cI (cI (cI (cP (cP (cP (cP ?_))))))))))))))))))))))))))
   refine At.back ?_ aZ ⟨j+1,NI3,_,rfl,rfl,rfl,by omega,hMI3,by rw [take_nextS hsj,puts_snoc];exact hAI.put keE_W hkv.1 s.2⟩ ?_
   ·repeat first|apply cW|exact .nil|exact lkI rfl (by omega)|rfl
   ·omega
  refine At.exit (bD (bD (dE (aS (s_13 (aH fun _ s_19=>aH fun _ s_20=>?_))))))
  have hje:j=w.sl.length:=by omega
  have htk:w.sl.take j=w.sl:=by rw [hje,List.take_length]
  rw [htk]at hAI
  have hsz:=hAI.size
  refine bI (cH (bF (cP (cP (cP (cP (cP (cP (cP (cP (cP (cP (cP (cP (cP (cP (cP (cS [N6,NI2,N30] [] [] [0,1,2,3,4,5,6,7,8] (by kernel_rfl) (by kernel_rfl) (.cons _ (.cons _ (.cons _ (.cons _ (.cons _ (.cons _ (.cons _ (.cons _ (.cons _ (.cons _ (.cons _ (.cons _ (.cons _ (.cons _ (.cons _ (.refl _)))))))))))))))) (aR (bB U U U) U U (bH (bB U U U) U U (aJ (bB U U U) fl71_3 U U (aU (bB U U U) sc69 U B30 U mem2 U ?_))))))))))))))))))))))
  refine op_lenV (bB U U U) Tryz.underlying69 U hMI (by simp) U (aJ (bB U U U) fl43_4 U U (aU (bB U U U) sc41 U B6 (accC_sl had) cO U (dB (bB U U U) se41 U U (op_neq (bB U U U) U U U (dH (aS (s_20 (cD U (fun c55=>?_) (fun c55=>?_)))))))))
  ·refine aH fun _ s_21=>aB (bV U U (bV U U (aI (s_21 (cK (dC (At.inRet (dC (dC (At.inRet (dC ((dropAt17 (dropAt16 (dropAt15 (dropAt13 (dropAt12 (dropAt11 (dropAt10 (dropAt9 (dropAt8 (dropAt7 (dropAt6 (dropAt5 (dropAt4 (dropAt3 (dropAt2 (cT (dropAt0 (At.retN (L1:= []) U (.tmp U (.tmp U .nil)) U (.refl _) aZ ?_))))))))))))))))))))))))))))))
   exact .inl ⟨fun h=>c55 (by
    have hd:=(load_there h hbi).2
    have:=puts_dis (sl:=w.sl) (l:=([]:List (Nat×Nat))) (by simpa using hd)
    rw [hsz,this];rfl),rfl,rfl⟩
  have c55: ¬((Maps.size DI:Int)≠(w.sl.length:Int)):=c55
  have hpl:(putsF [] w.sl).length=w.sl.length:=by rw [←hsz];omega
  refine cG (aS (s_19 (aH fun _ s_22=>aB (bC U U (bH aN U U (aJ aN fl71_3 U U (aU aN sc69 U B30 U mem17 U ?_)))))))
  refine cP (cI (cI (cI (cI (cI (cI (cI (cI (cI (cI (cI (cI (cI (cI (cI (cI (cP (cR nxQ (.cons U (.cons U .nil)) (FDeleteZ hMI hAI (fun p hp=>puts_lt (fun q hq=>(hwkv q hq).2) p hp)) (F:= [N27,NS,NF,NA,NT,NM,NW,ND,NP,NQ,NO,NL,NU,NK,R,N6,N30]) Tryz.func31 U U aZ (by simp) U ?_))))))))))))))))))
  rintro _ _ ⟨N60,D60,rfl,rfl,hM60,hA60⟩
  show At _ _ _ [N60,N27,NS,NF,NA,NT,NM,NW,ND,NP,NQ,NO,NL,NU,NK,R,N6,N30] _
  skip
  refine aI (s_22 (bF (cI (bA (cP (cP (cP (cP (cP (cP (cP (cP (cP (cP (cP (cP (cP (cP (cP (cS [NF,N6,NS] [7] [] [0,1,2,3,4,5,6,7] (by kernel_rfl) (by kernel_rfl) (.cons _ (.cons _ (.cons _ (.cons _ (.cons _ (.cons _ (.cons _ (.cons _ (.cons _ (.cons _ (.cons _ (.cons _ (.cons _ (.cons _ (.cons _ (.refl _)))))))))))))))) (aR (bB U U U) U U (bH (bB U U U) U U (aJ (bB U U U) fl85_0 U U (aU (bB U U U) sc74 U BS U mem2 U ?_))))))))))))))))))))))))
  refine aJ (bB U U U) fl43_0 U U (cP (cP (cP (cI (cI (cI (cI (cI (cI (cI (cI (cI (cI (cI (cI (cI (cI (cP (At.pack (As:= [N30,N60,N27]) (fun hANPA=>?_))))))))))))))))))))
  obtain⟨NPA,eNPA⟩: ∃N,N=joinL [N30,N60,N27]:=⟨_,rfl⟩
  rw [←eNPA]
  refine aK (ds:=u8s w.ad) (bB U U U) ag33 U B6 (by exact accC_ad had) (by rw [cY];exact had) dG U ?_
  refine aR (bB U U U) U U ?_
  refine op_mapUpdateV (nxsl U U U U) kd33 Tryz.underlying74 U U U hF ((by unfold maxLen;omega)) (keyA_spec had) sel13 (fun NF3 hF3 hoF=>?_)
  have hA3:=hA.put keE_A had (b30,AcS.z)
  refine dH (cJ (aS (s_7 (aB (dD aN U U (by omega) (by omega) U (bC U U (aI ?_)))))))
  have hnm:w.ad∉((ws.map Prod.fst).take i).map AcA.ad:=fun h=>hnx (ofA_mem.2 h)
  have hdis:DisA w.sl:=by
   have:=(puts_len (sl:=w.sl) (l:=([]:List (Nat×Nat))) List.nodup_nil).2.2 (by
    simp only [List.length_nil,Nat.zero_add]
    exact hpl)
   simpa using this
  have eput:putsF [] w.sl=w.sl:=by
   have:=puts_dis (sl:=w.sl) (l:=([]:List (Nat×Nat))) (by simpa using hdis)
   simpa using this
  rw [eput]at hA60
  have hA4:=hA3.rep (v':=(b30,w.ac)) getA_putS rfl
  rw [delA_put]at hA4
  have hok4:=load_step hok hbi hnm hdis
  have hmd4:=hmd.load (xp:=b30) hnm
  rw [←take_nextS hbi]at hmd4
  have hX:AccO N30 N60 N27 c b30 b28 a27 c27 D60 w.ac:=⟨B30,hM60.mono (by omega),hA60,r27,hw.cl,hw.ba,fun p hp=>(hwkv p (List.mem_filter.1 hp).1).2⟩
  have hdn:delA w.ad l=l:=delA_none (by
   cases h0:getA w.ad l with
   |none=>rfl
   |some v=>
    have:=hmd w.ad
    rw [h0]at this
    exact absurd (by rw [←this];rfl) hnx)
  refine permSel15 (permSel15 (permSel15 (permSel15 (permSel15 (permSel15 (permSel15 (permSel15 (permSel15 (permSel15 (permSel15 (permSel15 (permSel15 (dI (permSel15 (permSel15 (At.merge (fun hap=>dropAt13 (aV (aV (aV (aV (aV (aV (aV (aV (aV (aV (aV (bE (aV (dI ?_)))))))))))))))))))))))))))))))
  refine At.back ?_ aZ ⟨i+1,NF3,_,_,(w.ad,(b30,w.ac))::delA w.ad l,rfl,rfl,rfl,by omega,hF3,hA4,by rw [eNPA]at hap⊢;exact AccsN.put hANPA hap hX (by rw [hdn];exact hN),hok4,hmd4⟩ ?_
  ·repeat first|apply cW|exact .nil|exact lkI rfl (by omega)|rfl
  ·omega
 refine At.exit (bD (bD (dE (aS (s_3 (aH fun _ s_23=>aB (bC U U (bV U U (bV U U (aI (s_23 (cK ((At.retN (L1:= [NS,NF,NA,NT,NM,NW,ND,NP,NQ,NO,NL,NU,NK]) U (.tmp U (.tmp U .nil)) U (.refl _) aZ ?_))))))))))))))
 have hin:i=n:=by omega
 have htk:(ws.map Prod.fst).take i=ws.map Prod.fst:=by rw [List.take_of_length_le (by rw [List.length_map];omega)]
 rw [htk]at hok hmd
 exact .inr ⟨hok,sp,t,ma,DF,l,NS,NF,NA,NT,NM,NW,ND,NP,NQ,NO,NL,NU,NK,rfl,rfl,⟨hO.J.mono (Nat.zero_le _),hF.mono (by omega),hA,hN⟩,e0,hmd,eu0,ek0,el0⟩
def acV (x:AcS):AcV:=⟨x.no,x.ba,x.co,fun k=>getA k x.st⟩
theorem ObL.blk {NJ:Heaplet} {c p:Nat} {o:Ob} : ∀ {l:List (Nat×Ob)} {N:Heaplet},ObL NJ c N l→(p,o)∈l→ ∃cs,Blk N p 71 cs
 | [],_,_,h=>absurd h List.not_mem_nil
 |q::r,N,⟨X,R,ha,hN,⟨NX,NM,D,hs,hX,z⟩,hR⟩,h=>by
  rcases List.mem_cons.1 h with e|h
  ·rw [←e]at z
   exact⟨_,by rw [hN];exact(z.B.le (by rw [hX];exact le_joinL hs (by simp))).le join2_left⟩
  ·obtain⟨cs,hc⟩:=ObL.blk hR h
   exact⟨cs,by rw [hN];exact hc.le (join2_right ha)⟩
theorem AccsN.split: ∀ {l:AcR} {N:Heaplet} {c:Nat},AccsN N l c→ ∃NB NJ lo,Apart NB NJ∧N=join2 NB NJ∧ObL NJ c NB lo∧DisA lo∧ ∀q∈l, ∃o,(q.2.1,o)∈lo∧o.ad=q.1∧o.v=acV q.2.2
 | [],N,c,_=>⟨nilH,N,[],fun _=>.inl rfl,(funext fun _=>rfl:N=join2 nilH N),trivial,List.nodup_nil,fun _ h=>absurd h List.not_mem_nil⟩
 |p::l,N,c,⟨X,R,ha,hN,⟨NX,NM,NC,mb,ca,cc,D,hs,hX,o⟩,hR⟩=>by
  obtain⟨NB,NJ,lo,h1,rfl,h3,h4,h5⟩:=AccsN.split hR
  obtain⟨hxm,hs2⟩:=apart_fold (A:= []) (X:=NX) (Y:=NM) (C:= [NC]) hs
  have hxc:Apart (join2 NX NM) NC:=List.rel_of_pairwise_cons hs2 (by simp)
  have eX:X=join2 (join2 NX NM) NC:=by
   rw [hX, ←joinL_two]
   exact(joinL_flat (A:= []) (X:=NX) (Y:=NM) (C:= [NC])).symm
  obtain⟨XB,hXB⟩: ∃XB,XB=join2 NX NM:=⟨_,rfl⟩
  rw [←hXB]at hxc eX
  subst eX
  have a1:=apart_left ha.symm |>.symm
  have a2:=apart_right ha.symm |>.symm
  have xb:=apart_left (apart_left ha).symm
  have xj:=apart_left (apart_right ha).symm
  have cb:=apart_right (apart_left ha).symm
  have cj:=apart_right (apart_right ha).symm
  have hJ:NJ.le (join2 NC NJ):=join2_right cj.symm
  have hap2: [NX,NM].Pairwise Apart:=List.pairwise_cons.2 ⟨fun Z hZ=>by rw [List.mem_singleton.1 hZ];exact hxm,List.pairwise_singleton _ _⟩
  refine⟨join2 XB NB,join2 NC NJ,(p.2.1,⟨p.2.2.no,p.2.2.ba,ca,cc,p.2.2.co,mb,fun k=>getA k p.2.2.st,p.1⟩)::lo,?_,?_,⟨XB,NB,xb.symm,rfl,⟨NX,NM,D,hap2,by rw [hXB];exact joinL_two.symm,⟨o.B,o.M,⟨p.2.2.st,o.A,fun _=>rfl⟩,o.C.le join2_left,o.ln,o.ba,fun k v hv=>o.st (k,v) (getA_mem hv)⟩⟩,h3.mono (Nat.le_refl _) hJ⟩,List.nodup_cons.2 ⟨fun hm=>?_,h4⟩,fun q hq=>?_⟩
  ·exact(apart_join (apart_join hxc xj.symm).symm (apart_join cb h1).symm).symm
  ·rw [hN, ←join_assoc,join_assoc (A:=NC),join_comm cb.symm, ←join_assoc (A:=NB),join_assoc]
  ·obtain⟨⟨p2,o2⟩,hm2,e⟩:=List.mem_map.1 hm
   obtain⟨cs,hc⟩:=ObL.blk h3 hm2
   have hb:=o.B.le (join2_left (A:=NX) (B:=NM))
   rw [←hXB, ←show p2=p.2.1 from e]at hb
   rcases xb p2 with h|h
   ·rw [Blk,h]at hc;cases hc
   ·rw [Blk,h]at hb;cases hb
  ·rcases List.mem_cons.1 hq with rfl|hq
   ·exact⟨_,List.mem_cons_self,rfl,rfl⟩
   ·obtain⟨ob,k1,k2,k3⟩:=h5 q hq
    exact⟨ob,List.mem_cons_of_mem _ k1,k2,k3⟩
def v0 (b:List AcA):Vw:=⟨fun _=>none,fun _=>none,fun _=>none,fun _=>none,fun _=>none,fun _=>none,0,[],fun a=>(getA a (ofA b)).map acV⟩
theorem MapF.z {α β:Type} [DecidableEq α] {κ:α→Lit} {ok:α→Prop} {val:β→Value} {D:DataW Value} {l:List (α×β)} (h:MapA κ ok val D l) (e:l= []):MapF κ ok val D (fun _=>none):=⟨l,h,fun k=>by rw [e];rfl⟩
theorem StQ.load {t:SJ} {ma sp c:Nat} {DF:DataW Value} {l:AcR} {NS NF NA NT NM NW ND NP NQ NO NL NU NK NB NJ:Heaplet} {lo:List (Nat×Ob)} {b:List AcA} (h:StO t NS NF NA NT NM NW ND NP NQ NO NL NU NK sp ma c DF l) (e:t.ab=SAb.z) (hM:MdEq l (ofA b)) (eu:t.un=0) (ek:t.kn=0) (el:t.ln=0) (h3:ObL NJ c NB lo) (h4:DisA lo) (h5: ∀q∈l, ∃o,(q.2.1,o)∈lo∧o.ad=q.1∧o.v=acV q.2.2) (hap: [NS,NF,NT,NM,NW,ND,NP,NQ,NO,NL,NU,NK,NB,NJ].Pairwise Apart):StQ sp 0 c 0 (v0 b) (fun _=>none) [] 0 (joinL [NS,NF,NT,NM,NW,ND,NP,NQ,NO,NL,NU,NK,NB,NJ]):=by
 obtain⟨S,T,M,W,D,P,Q,O,aT,aM,aW,aD,aP,aQ,aO,gL,gU,gK,oL,bL,bU,bK⟩:=h.J
 obtain⟨ab,mt,mm,mw,md,ws,tr,og,la,ln,lc,ua,un,uc,ka,kn,kc,DT,DM,DW,DD,DP,DQ,DO,ls,us,ks⟩:=t
 dsimp only at*
 subst e eu ek el
 have hus:us= []:=List.eq_nil_of_length_eq_zero (by rw [gU.1,Nat.zero_mul])
 have hks:ks= []:=List.eq_nil_of_length_eq_zero (by rw [gK.1,Nat.zero_mul])
 have hls:ls= []:=List.eq_nil_of_length_eq_zero (by rw [gL.1,Nat.zero_mul])
 subst hus hks hls
 have hob: ∀a p,(getA a l).map (fun v=>v.1)=some p→ ∃o,getA p lo=some o∧o.ad=a∧ ∃x,getA a l=some (p,x)∧o.v=acV x:=fun a p hp=>by
  cases hg:getA a l with
  |none=>rw [hg]at hp;cases hp
  |some v=>
   rw [hg]at hp
   obtain rfl:=Option.some.inj hp
   obtain⟨o,k1,k2,k3⟩:=h5 (a,v) (getA_mem hg)
   exact⟨o,getA_of h4 k1,k2,v.2,rfl,k3⟩
 refine⟨⟨sp,ma,mt,mm,mw,md,ws,tr,og⟩,⟨⟨fun _=>none,fun _=>none,fun _=>none,fun _=>none,fun _=>none,fun _=>none,0,[],fun a=>(getA a l).map fun v=>v.1,fun p=>getA p lo⟩,[],[],la,lc,[],ua,uc,ka,kc,DO,DF,DT,DM,DW,DD,DP,DQ⟩,NS,NF,NT,NM,NW,ND,NP,NQ,NO,NL,NU,NK,NB,NJ,rfl,hap,⟨⟨S,h.F,T,M,W,D,P,Q,?_,MapF.z aT rfl,MapF.z aM rfl,MapF.z aW rfl,MapF.z aD rfl,MapF.z aP rfl,MapF.z aQ rfl,gL,⟨[],rfl,rfl,fun _ h=>absurd h List.not_mem_nil⟩,⟨lo,h4,fun _=>rfl,h3⟩,fun a p hp=>?_,Nat.zero_le _⟩,gU,gK,O,MapF.z aO rfl,.nil _,List.Pairwise.nil,fun _ h=>absurd h List.not_mem_nil,Nat.le_refl _,Nat.zero_le _,Nat.le_refl _,by decide⟩,rfl,?_,rfl⟩
 ·refine⟨l.map fun q=>(q.1,q.2.1),h.A.reval (by rw [List.map_map];rfl),fun a=>?_⟩
  exact getA_mapv (f:=fun v:Nat×AcS=>v.1)
 ·obtain⟨o,k1,k2,_⟩:=hob a p hp
  exact⟨o,k1,k2⟩
 ·unfold JS.v v0
  simp only [Vw.mk.injEq,true_and]
  funext a
  rw [←hM a]
  cases hg:getA a l with
  |none=>rfl
  |some v=>
   obtain⟨o,k1,k2,x,k3,k4⟩:=hob a v.1 (by rw [hg];rfl)
   have e2:v=(v.1,x):=Option.some.inj (hg.symm.trans k3)
   show((some v.1).bind fun p=>getA p lo).map Ob.v=some (acV v.2)
   rw [Option.bind_some,k1,Option.map_some,k4,e2]
theorem QLoad {NB NI:Heaplet} {a:Option Addr} {n cp c:Nat} {ws:List (AcA×AcI)} (hrow:RSl NB 27 a n cp (ws.flatMap accC)) (hn:ws.length=n) (hrd: ∀p∈ws,AccRd NI c p) (hnc:n≤c) (hc:c≤1000000):
 Fn Tryz.prog 5 #[.slice a n cp] [nilH] [NB,NI] (fun v L=>(¬LoadOk (ws.map Prod.fst)∧v=.tuple #[.pointer none,.int .i64 9]∧ ∃N,L= [N])∨(LoadOk (ws.map Prod.fst)∧ ∃sp,v=.tuple #[.pointer (some ⟨sp,0,none⟩),.int .i64 0]∧StQP sp 0 c 0 (v0 (ws.map Prod.fst)) (fun _=>none) [] 0 L)):=by
 have h1:=(FLoadZ hrow hn hrd hnc hc).out (Post':=fun v L=>(¬LoadOk (ws.map Prod.fst)∧v=.tuple #[.pointer none,.int .i64 9]∧L= [])∨(LoadOk (ws.map Prod.fst)∧ ∃sp t ma DF l NS NF NA NT NM NW ND NP NQ NO NL NU NK,v=.tuple #[.pointer (some ⟨sp,0,none⟩),.int .i64 0]∧L= [NS,NF,NT,NM,NW,ND,NP,NQ,NO,NL,NU,NK,NA]∧StO t NS NF NA NT NM NW ND NP NQ NO NL NU NK sp ma c DF l∧t.ab=SAb.z∧MdEq l (ofA (ws.map Prod.fst))∧t.un=0∧t.kn=0∧t.ln=0)) fun v L hp=>by
  rcases hp with ⟨k1,k2,rfl⟩|⟨k1,sp,t,ma,DF,l,NS,NF,NA,NT,NM,NW,ND,NP,NQ,NO,NL,NU,NK,rfl,rfl,hr⟩
  ·exact⟨[],.refl _,.inl ⟨k1,k2,rfl⟩⟩
  ·exact⟨[NS,NF,NT,NM,NW,ND,NP,NQ,NO,NL,NU,NK,NA],permN [NS,NF,NA,NT,NM,NW,ND,NP,NQ,NO,NL,NU,NK] nilH (by decide:([0,1,2,3,4,5,6,7,8,9,10,11,12]:List Nat).Perm [0,1,3,4,5,6,7,8,9,10,11,12,2]),.inr ⟨k1,sp,t,ma,DF,l,NS,NF,NA,NT,NM,NW,ND,NP,NQ,NO,NL,NU,NK,rfl,rfl,hr⟩⟩
 refine Fn.pack (As:= []) (L0:= []) .nil h1 fun v L hp=>?_
 rcases hp with ⟨k1,k2,rfl⟩|⟨k1,sp,t,ma,DF,l,NS,NF,NA,NT,NM,NW,ND,NP,NQ,NO,NL,NU,NK,rfl,rfl,hO,e,hM,eu,ek,el⟩
 ·exact⟨[],[],rfl,fun _=>.inl ⟨k1,k2,_,rfl⟩⟩
 ·refine⟨[NS,NF,NT,NM,NW,ND,NP,NQ,NO,NL,NU,NK,NA],[],rfl,fun hs=>.inr ⟨k1,sp,rfl,_,rfl,?_⟩⟩
  obtain⟨NB,NJ,lo,a1,rfl,h3,h4,h5⟩:=hO.N.split
  have hs2:=apart_flat (A:= [NS,NF,NT,NM,NW,ND,NP,NQ,NO,NL,NU,NK]) (X:=NB) (Y:=NJ) (C:= []) a1 hs
  rw [show joinL [NS,NF,NT,NM,NW,ND,NP,NQ,NO,NL,NU,NK,join2 NB NJ]=joinL [NS,NF,NT,NM,NW,ND,NP,NQ,NO,NL,NU,NK,NB,NJ]from joinL_flat (A:= [NS,NF,NT,NM,NW,ND,NP,NQ,NO,NL,NU,NK]) (X:=NB) (Y:=NJ) (C:= [])]
  exact StQ.load hO e hM eu ek el h3 h4 h5 hs2
def LgU (g:LgM):Prop:= ∃ts:List (List UInt8),ts.length=g.tn∧(∀t∈ts,t.length=32)∧g.xs=ts.flatMap u8s
set_option maxHeartbeats 4000000 in
theorem FSameLogs {Na Nb Ka Kb:Heaplet} {a b:Option Addr} {n ca cb:Nat} {lg:List LgM} {xs ys:List Value} (ra:RSl Na 22 a n ca xs) (rb:RSl Nb 22 b n cb ys) (hn:lg.length=n) (ha:LogsN Ka lg xs) (hb:LogsN Kb lg ys) (hu: ∀g∈lg,LgU g):Fn Tryz.prog 20 #[.slice a n ca,.slice b n cb] [] [Na,Ka,Nb,Kb] (fun v L=>v=.bool true∧L= []):=by
 obtain⟨ws,w1,rfl,w3⟩:=ha
 obtain⟨vs,v1,rfl,v3⟩:=hb
 have hcp:=ra.cap63
 have hcq:=rb.cap63
 have hla: ∀y∈ws,(logF y).length=22:=fun y hy=>logF_len (w3 y hy)
 have hlb: ∀y∈vs,(logF y).length=22:=fun y hy=>logF_len (v3 y hy)
 have hwn:ws.length=n:=by rw [←hn, ←w1,List.length_map]
 have hvn:vs.length=n:=by rw [←hn, ←v1,List.length_map]
 refine Fn.enter (vs:= [.slice a n ca,.slice b n cb]) Tryz.func20 U U U ?_
 intro E R hR
 have ra:=ra.le (hR Na (by simp))
 have rb:=rb.le (hR Nb (by simp))
 have w3: ∀p∈ws,LogR R p:=fun p hp=>(w3 p hp).le (hR Ka (by simp))
 have v3: ∀p∈vs,LogR R p:=fun p hp=>(v3 p hp).le (hR Kb (by simp))
 change At _ _ E [R] _
 refine aH fun _ s_1=>aB (bV U U (aI (s_1 (aH fun _ s_2=>aH fun _ s_3=>aB (bC U U (dB aN se60 U U (bC U U (dB aN se60 U U (op_neq aN U U U (aI (s_3 (cD U (fun c11=>?_) (fun c11=>?_)))))))))))))
 ·exact absurd U c11
 refine cG (aS (s_2 (aH fun _ s_4=>aH fun _ s_5=>aB (bV U U (aI (s_5 (bX (At.loop (fun fr_ hp_ ms_=> ∃(i:Nat),fr_= [(0,.slice a n ca),(1,.slice b n cb),(5,.int .i64 (i:Int))]∧hp_= [R]∧n- i=ms_∧(i≤n)) ?_ aZ ⟨0,rfl,rfl,rfl,Nat.zero_le _⟩ ?_))))))))
 ·repeat first|apply cW|exact .nil|exact lkI rfl (by omega)|rfl
 rintro _ _ _ ⟨i,rfl,rfl,rfl,hi⟩
 refine aH fun _ s_6=>aH fun _ s_7=>aB (bC U U (bC U U (dB aN se60 U U (op_lss aN U U U (aI (s_7 (cD U (fun c15=>?_) (fun c15=>?_))))))))
 ·obtain⟨⟨w,ii⟩,hqi⟩: ∃q,ws[i]? =some q:=⟨_,List.getElem?_eq_getElem (by omega)⟩
  obtain⟨jj,hqj⟩: ∃jj,vs[i]? =some (w,jj):=by
   have e:=congrArg (fun l=>l[i]?) (v1.trans w1.symm)
   simp only [List.getElem?_map,hqi]at e
   cases hv:vs[i]? with
   |none=>rw [hv]at e;cases e
   |some v=>
    rw [hv]at e
    obtain⟨v1,v2⟩:=v
    simp only [Option.map_some,Option.some.injEq]at e
    exact⟨v2,by rw [e]⟩
  have hw:=w3 _ (List.mem_of_getElem? hqi)
  have hv:=v3 _ (List.mem_of_getElem? hqj)
  obtain⟨ts,ht1,ht2,ht3⟩:=hu w (by rw [←w1];exact List.mem_map.2 ⟨_,List.mem_of_getElem? hqi,rfl⟩)
  have had:w.a.length=20:=hw.ad
  have hdA:RSl R 1 ii.da w.d.length ii.dc (u8s w.d):=hw.da
  have hdB:RSl R 1 jj.da w.d.length jj.dc (u8s w.d):=hv.da
  have htA:RSl R 32 ii.ta w.tn ii.tc w.xs:=hw.to
  have htB:RSl R 32 jj.ta w.tn jj.tc w.xs:=hv.to
  rw [ht3]at htA htB
  have hsA:=htA.cap63
  have hsB:=htB.cap63
  have hkl:=len_A (k:=w.a) had
  have cA:(logF (w,ii))[21]? =some (.slice ii.da w.d.length ii.dc):=logC_21 had
  have cB:(logF (w,jj))[21]? =some (.slice jj.da w.d.length jj.dc):=logC_21 had
  have tA:(logF (w,ii))[20]? =some (.slice ii.ta w.tn ii.tc):=logC_20 had
  have tB:(logF (w,jj))[20]? =some (.slice jj.ta w.tn jj.tc):=logC_20 had
  have hia:a.isSome=true:=ra.isSome (by omega)
  have hib:b.isSome=true:=rb.isSome (by omega)
  have hl32: ∀t∈ts,(u8s t).length=32:=fun t ht=>by rw [cY,ht2 t ht]
  refine cG (aS (s_6 (aH fun _ s_8=>bX (aH fun _ s_9=>aH fun _ s_10=>At.drawn [] [0,1,2,3,4,5,6,7,8,9,10,11,12,13,14,15,16,17,18,19,20,21,22,23,24,25,26,27,28,29,30,31,32,33,34,35,36,37,38,39,40] (by kernel_rfl) (by kernel_rfl) (aR (cX U U U (by kernel_rfl)) U U (aR (cX U U U (by kernel_rfl)) U U (op_idxE (cX U U U (by kernel_rfl)) se60 U U ra (show _=(((i:Nat)):Int)from by omega) (by omega) U ?_)))))))
  refine dA (cX U U U (by kernel_rfl)) fl93_0 U (by first|rfl|assumption) U ?_
  refine op_loadAggE (ds:=u8s w.a) (cX U U U (by kernel_rfl)) ag33 U ra (by exact(flat_partA hla hqi (by decide)).trans (logC_ad had _ _)) (by exact hkl) (by omega) (by simp) U ?_
  refine aR (cX U U U (by kernel_rfl)) U U (aR (cX U U U (by kernel_rfl)) U U (op_idxE (cX U U U (by kernel_rfl)) se60 U U rb (show _=(((i:Nat)):Int)from by omega) (by omega) U ?_))
  refine dA (cX U U U (by kernel_rfl)) fl93_0 U (by first|rfl|assumption) U ?_
  refine op_loadAggE (ds:=u8s w.a) (cX U U U (by kernel_rfl)) ag33 U rb (by exact(flat_partA hlb hqj (by decide)).trans (logC_ad had _ _)) (by exact hkl) (by omega) (by simp) U ?_
  refine op_neW8 (a:=w.a) (b:=w.a) (cX U U U (by exact okB_ne8S U U (by kernel_rfl))) ae33 Tryz.underlying5 (by kernel_rfl) U U had had U ?_
  refine aR (cX U U U (by kernel_rfl)) U U (At.partP (d:=29) U (fun g29=>?_) (fun g29=>?_))
  ·exact absurd U g29
  refine aR (nxogf U U U U U U (by kernel_rfl)) U U (aR (nxogf U U U U U U (by kernel_rfl)) U U (op_idxE (nxogf U U U U U U (by kernel_rfl)) se60 U U ra (show _=(((i:Nat)):Int)from by omega) (by omega) U ?_))
  refine dA (nxogf U U U U U U (by kernel_rfl)) fl93_2 U (by first|rfl|assumption) U ?_
  refine op_loadE (nxogf U U U U U U (by kernel_rfl)) sc37 U ra (by first|exact get8 (by omega)|exact get64 (by omega)|exact get32 (by omega)|exact(flat_part hla hqi (by decide)).trans cA) (by simp) U ?_
  refine op_str (nxogf U U U U U U (by kernel_rfl)) Tryz.underlying37 Tryz.underlying5 Tryz.underlying9 U (by assumption) (by simp) U ?_
  refine aR (nxogf U U U U U U (by kernel_rfl)) U U (aR (nxogf U U U U U U (by kernel_rfl)) U U (op_idxE (nxogf U U U U U U (by kernel_rfl)) se60 U U rb (show _=(((i:Nat)):Int)from by omega) (by omega) U ?_))
  refine dA (nxogf U U U U U U (by kernel_rfl)) fl93_2 U (by first|rfl|assumption) U ?_
  refine op_loadE (nxogf U U U U U U (by kernel_rfl)) sc37 U rb (by first|exact get8 (by omega)|exact get64 (by omega)|exact get32 (by omega)|exact(flat_part hlb hqj (by decide)).trans cB) (by simp) U ?_
  refine op_str (nxogf U U U U U U (by kernel_rfl)) Tryz.underlying37 Tryz.underlying5 Tryz.underlying9 U (by assumption) (by simp) U ?_
  refine op_neS (nxogf U U U U U U (by kernel_rfl)) U U U (op_pickF (cX U U U (by kernel_rfl)) U U U (aR (cX U U U (by kernel_rfl)) U U (At.partP (d:=44) U (fun g44=>?_) (fun g44=>?_))))
  ·exact absurd U g44
  refine aR (nxogf U U U U U U (by kernel_rfl)) U U (aR (nxogf U U U U U U (by kernel_rfl)) U U (op_idxE (nxogf U U U U U U (by kernel_rfl)) se60 U U ra (show _=(((i:Nat)):Int)from by omega) (by omega) U ?_))
  refine dA (nxogf U U U U U U (by kernel_rfl)) fl93_1 U (by first|rfl|assumption) U ?_
  refine op_loadE (nxogf U U U U U U (by kernel_rfl)) sc91 U ra (by first|exact get8 (by omega)|exact get64 (by omega)|exact get32 (by omega)|exact(flat_part hla hqi (by decide)).trans tA) (by simp) U ?_
  refine dB (nxogf U U U U U U (by kernel_rfl)) se91 U U (aR (nxogf U U U U U U (by kernel_rfl)) U U (aR (nxogf U U U U U U (by kernel_rfl)) U U (op_idxE (nxogf U U U U U U (by kernel_rfl)) se60 U U rb (show _=(((i:Nat)):Int)from by omega) (by omega) U ?_)))
  refine dA (nxogf U U U U U U (by kernel_rfl)) fl93_1 U (by first|rfl|assumption) U ?_
  refine op_loadE (nxogf U U U U U U (by kernel_rfl)) sc91 U rb (by first|exact get8 (by omega)|exact get64 (by omega)|exact get32 (by omega)|exact(flat_part hlb hqj (by decide)).trans tB) (by simp) U ?_
  refine dB (nxogf U U U U U U (by kernel_rfl)) se91 U U (op_neq (nxogf U U U U U U (by kernel_rfl)) U U U (op_pickF (cX U U U (by kernel_rfl)) U U U (At.oneNil (aS (s_10 (cD U (fun c58=>?_) (fun c58=>?_)))))))
  ·exact absurd U c58
  refine cG (aS (s_9 (aH fun _ s_11=>aB (bV U U (aI (s_11 (bX (At.loop (fun fr_ hp_ ms_=> ∃(k:Nat),fr_= [(0,.slice a n ca),(1,.slice b n cb),(5,.int .i64 (i:Int)),(6,.int .i64 (k:Int))]∧hp_= [R]∧w.tn- k=ms_∧(k≤w.tn)) ?_ aZ ⟨0,rfl,rfl,rfl,Nat.zero_le _⟩ ?_))))))))
  ·repeat first|apply cW|exact .nil|exact lkI rfl (by omega)|rfl
  rintro _ _ _ ⟨k,rfl,rfl,rfl,hk⟩
  refine aH fun _ s_12=>aH fun _ s_13=>aB (bC U U (bC U U (bC U U (op_idxE aN se60 U U ra (show _=(((i:Nat)):Int)from by omega) (by omega) U ?_))))
  refine dA aN fl93_1 U (by first|rfl|assumption) U ?_
  refine op_loadE aN sc91 U ra (by first|exact get8 (by omega)|exact get64 (by omega)|exact get32 (by omega)|exact(flat_part hla hqi (by decide)).trans tA) (by simp) U ?_
  refine dB aN se91 U U (op_lss aN U U U (aI (s_13 (cD U (fun c66=>?_) (fun c66=>?_)))))
  ·obtain⟨s,hsk⟩: ∃s,ts[k]? =some s:=⟨_,List.getElem?_eq_getElem (by omega)⟩
   have hsl:s.length=32:=ht2 s (List.mem_of_getElem? hsk)
   have hitA:ii.ta.isSome=true:=htA.isSome (by omega)
   have hitB:jj.ta.isSome=true:=htB.isSome (by omega)
   refine cG (aS (s_12 (aH fun _ s_14=>bX (aH fun _ s_15=>cS [R] [] [] [0,1,2,3,4,5,6,7,8,9,10,11,12,13,14,15,16] (by kernel_rfl) (by kernel_rfl) (.refl _) (aR (bB U U U) U U (aR (bB U U U) U U (op_idxE (bB U U U) se60 U U ra (show _=(((i:Nat)):Int)from by omega) (by omega) U ?_)))))))
   refine dA (bB U U U) fl93_1 U (by first|rfl|assumption) U ?_
   refine op_loadE (bB U U U) sc91 U ra (by first|exact get8 (by omega)|exact get64 (by omega)|exact get32 (by omega)|exact(flat_part hla hqi (by decide)).trans tA) (by simp) U ?_
   refine aR (bB U U U) U U (op_idxE (bB U U U) se91 U U htA (show _=(((k:Nat)):Int)from by omega) (by omega) U ?_)
   refine op_loadAggE (ds:=u8s s) (bB U U U) ag45 U htA (by exact flat_atS u8s hl32 hsk) (by rw [cY,hsl]) (by omega) (by simp) U ?_
   refine aR (bB U U U) U U (aR (bB U U U) U U (op_idxE (bB U U U) se60 U U rb (show _=(((i:Nat)):Int)from by omega) (by omega) U ?_))
   refine dA (bB U U U) fl93_1 U (by first|rfl|assumption) U ?_
   refine op_loadE (bB U U U) sc91 U rb (by first|exact get8 (by omega)|exact get64 (by omega)|exact get32 (by omega)|exact(flat_part hlb hqj (by decide)).trans tB) (by simp) U ?_
   refine aR (bB U U U) U U (op_idxE (bB U U U) se91 U U htB (show _=(((k:Nat)):Int)from by omega) (by omega) U ?_)
   refine op_loadAggE (ds:=u8s s) (bB U U U) ag45 U htB (by exact flat_atS u8s hl32 hsk) (by rw [cY,hsl]) (by omega) (by simp) U ?_
   refine op_neW8 (a:=s) (b:=s) (bB U U U) ae45 Tryz.underlying5 (by kernel_rfl) U U hsl hsl U (dH (aS (s_15 (cD U (fun c85=>?_) (fun c85=>?_)))))
   ·exact absurd U c85
   refine cG (cJ (aS (s_14 (aB (bC U U (dD aN U U (by omega) (by omega) U (bV U U (aI (At.back ?_ aZ ⟨k+1,rfl,rfl,rfl,by omega⟩ ?_)))))))))
   ·repeat first|apply cW|exact .nil|exact lkI rfl (by omega)|rfl
   ·omega
  refine At.exit (bD (bD (dE (cJ (aS (s_8 (aB (bC U U (dD aN U U (by omega) (by omega) U (bV U U (aI (At.back ?_ aZ ⟨i+1,rfl,rfl,rfl,by omega⟩ ?_))))))))))))
  ·repeat first|apply cW|exact .nil|exact lkI rfl (by omega)|rfl
  ·omega
 refine At.exit (bD (bD (dE (aS (s_4 (aH fun _ s_16=>aB (bV U U (aI (s_16 (cK ((cF (L1:= []) U (.tmp U .nil) (.refl _) aZ ?_))))))))))))
 exact⟨rfl,rfl⟩
theorem Fn.onR {P:Program} {f:FuncId} {args:Array Value} {Lr As Ps:List Heaplet} {Post Post':Value→List Heaplet→Prop} (hap:Ps.Pairwise Apart) (h:Fn P f args As Lr Post) (Rs:List Heaplet) (hN: ∀N∈Lr,N∈Rs) (hp:(As++Rs).Perm Ps) (ho: ∀v L,Post v L→ ∃Qs,(L++Rs).Perm Qs∧(Qs.Pairwise Apart→Post' v [joinL Qs])):Fn P f args [joinL Ps] [] Post':=by
 have h1:Fn P f args (Ps++ []) [] (fun v Qs=>Qs.Pairwise Apart→Post' v [joinL Qs]):=by
  rw [List.append_nil]
  exact((h.frameR Rs hN).permL hp).out fun v L ⟨L1,e,hq⟩=>by
   obtain⟨Qs,h3,h4⟩:=ho v L1 hq
   exact⟨Qs,e▸h3,h4⟩
 exact Fn.pack (L0:= []) hap h1 fun v L hq=>⟨L,[],(List.append_nil L).symm,hq⟩
section
variable {N K : Heaplet} {sp n c oc : Nat} {V : Vw} {lo : List UInt8 × Nat → Option Nat} {ms : List (Int × Vw)} {tl : Int}
theorem QEnd (h:StQ sp n c oc V lo ms tl N):Fn Tryz.prog 28 #[.pointer (some ⟨sp,0,none⟩),.bool true] [N] [] (fun v L=> ∃N2,v=.tuple #[]∧L= [N2]∧AcsV N2 sp c (endA V)):=by
 obtain⟨z,g,NS,NF,NT,NM,NW,ND,NP,NQ,NO,NL,NU,NK,NB,NJ,rfl,hap,q,rfl,rfl,rfl⟩:=h
 refine Fn.onR hap (JEnd q.O.S q.O.F q.O.aF q.O.T q.O.aT q.O.D q.O.aD q.O.B q.O.wf) [NT,NM,NW,ND,NP,NQ,NO,NL,NU,NK,NB,NJ] (by simp) (permN [NS,NF,NT,NM,NW,ND,NP,NQ,NO,NL,NU,NK,NB,NJ] nilH (by decide:([0,1,2,3,4,5,6,7,8,9,10,11,12,13]:List Nat).Perm [0,1,2,3,4,5,6,7,8,9,10,11,12,13])) fun v L hp=>?_
 obtain⟨NS2,NF2,DF,cs,f,e1,rfl,BS,hF,aF,hf,he⟩:=hp
 refine⟨[NS2,NF2,NT,NM,NW,ND,NP,NQ,NO,NL,NU,NK,NB,NJ],.refl _,fun hs=>⟨_,e1,rfl,?_⟩⟩
 have l: ∀X∈ [NS2,NF2,NT,NM,NW,ND,NP,NQ,NO,NL,NU,NK,NB,NJ],X.le (joinL [NS2,NF2,NT,NM,NW,ND,NP,NQ,NO,NL,NU,NK,NB,NJ]):=fun X hX=>le_joinL hs hX
 have lB:=l NB (by simp)
 exact(accs_of (BS.le (l _ (by simp))) (hF.le (l _ (by simp))) aF (fun p o hp=>by
  obtain⟨NX,NMx,D,h1,h2,y⟩:=q.O.B.see hp
  exact⟨D,y.B.le (Heaplet.le_trans h1 lB),y.M.le (Heaplet.le_trans h2 lB),y.A,y.C.le (l NJ (by simp)),y.ln,y.ba,y.st⟩) fun a p hp=>by
  obtain⟨o,ho,_⟩:=q.O.wf a p (hf a p hp)
  exact⟨o,ho⟩).mono he
def logM (m:OpM):LgM:=⟨m.a,m.b.length % 5,topsC m.b (m.b.length % 5),m.b.take 100⟩
theorem logM_u (m:OpM):LgU (logM m):=by
 refine⟨(List.range (m.b.length % 5)).map fun j=>m.b.getD 0 0::UInt8.ofNat j::List.replicate 30 0,by rw [List.length_map,List.length_range];rfl,fun t ht=>?_,?_⟩
 ·obtain⟨j,_,rfl⟩:=List.mem_map.1 ht
  rfl
 ·show topsC m.b _=_
  rw [topsC,List.flatMap_map];rfl
end
noncomputable def yOf (p:Int):UInt64:=(wrap64 p).choose
theorem yOf_eq (p:Int):IntKind.u64.wrap p=((yOf p).toNat:Int):=(wrap64 p).choose_spec
abbrev LoF:=List UInt8×Nat→Option Nat
noncomputable def doesV (m:OpM) (V:Vw) (lo:LoF):Vw×LoF:=
 if m.dd=1 then (setV m.a id V,lo)else
 if m.dd=2 then (madV m.a V,mkO V m.a lo)else
 if m.dd=3 then (setV m.a (fun a=> { a with no:=yOf m.n }) V,lo)else
 if m.dd=4 then (setV m.a (fun a=> { a with ba:=m.v }) V,lo)else
 if m.dd=5 then (setV m.a (fun a=> { a with co:=m.b.take 100 }) V,lo)else
 if m.dd=6 then (setV m.a (setSlA m.k m.v) V,fstF (m.a,m.k) ((slotV V (m.a,m.k)).getD 0) lo)else
 if m.dd=7 then ({ V with lq:=updF V.lq (m.a,m.k) (some m.v) },lo)else
 if m.dd=8 then ({ V with lt:=updF V.lt m.a (some ()) },lo)else
 if m.dd=9 then ({ V with lw:=updF V.lw m.a (some ()) },lo)else
 if m.dd=10 then ({ V with lp:=updF V.lp (m.a,m.k) (some ()) },lo)else
 if m.dd=11 then ({ V with rf:=addR V.rf (yOf m.n) },lo)else
 if m.dd=12 then ({ V with rf:=V.rf- minV (yOf m.n) V.rf },lo)else
 if m.dd=13 then ({ V with lg:=V.lg++ [logM m] },lo)else
 if m.dd=14 then ({ V with ld:=updF V.ld m.a (some ()) },lo)else
 (V,lo)
section
variable {m : OpM} {V : Vw} {lo : LoF}
theorem doesV_1 (h:m.dd=1):doesV m V lo=(setV m.a id V,lo):=by
 unfold doesV
 rw [h];rfl
theorem doesV_2 (h:m.dd=2):doesV m V lo=(madV m.a V,mkO V m.a lo):=by
 unfold doesV
 rw [h];rfl
theorem doesV_3 (h:m.dd=3):doesV m V lo=(setV m.a (fun a=> { a with no:=yOf m.n }) V,lo):=by
 unfold doesV
 rw [h];rfl
theorem doesV_4 (h:m.dd=4):doesV m V lo=(setV m.a (fun a=> { a with ba:=m.v }) V,lo):=by
 unfold doesV
 rw [h];rfl
theorem doesV_5 (h:m.dd=5):doesV m V lo=(setV m.a (fun a=> { a with co:=m.b.take 100 }) V,lo):=by
 unfold doesV
 rw [h];rfl
theorem doesV_6 (h:m.dd=6):doesV m V lo=(setV m.a (setSlA m.k m.v) V,fstF (m.a,m.k) ((slotV V (m.a,m.k)).getD 0) lo):=by
 unfold doesV
 rw [h];rfl
theorem doesV_7 (h:m.dd=7):doesV m V lo=({ V with lq:=updF V.lq (m.a,m.k) (some m.v) },lo):=by
 unfold doesV
 rw [h];rfl
theorem doesV_8 (h:m.dd=8):doesV m V lo=({ V with lt:=updF V.lt m.a (some ()) },lo):=by
 unfold doesV
 rw [h];rfl
theorem doesV_9 (h:m.dd=9):doesV m V lo=({ V with lw:=updF V.lw m.a (some ()) },lo):=by
 unfold doesV
 rw [h];rfl
theorem doesV_10 (h:m.dd=10):doesV m V lo=({ V with lp:=updF V.lp (m.a,m.k) (some ()) },lo):=by
 unfold doesV
 rw [h];rfl
theorem doesV_11 (h:m.dd=11):doesV m V lo=({ V with rf:=addR V.rf (yOf m.n) },lo):=by
 unfold doesV
 rw [h];rfl
theorem doesV_12 (h:m.dd=12):doesV m V lo=({ V with rf:=V.rf- minV (yOf m.n) V.rf },lo):=by
 unfold doesV
 rw [h];rfl
theorem doesV_13 (h:m.dd=13):doesV m V lo=({ V with lg:=V.lg++ [logM m] },lo):=by
 unfold doesV
 rw [h];rfl
theorem doesV_14 (h:m.dd=14):doesV m V lo=({ V with ld:=updF V.ld m.a (some ()) },lo):=by
 unfold doesV
 rw [h];rfl
theorem doesV_0 (h1: ¬m.dd=1) (h2: ¬m.dd=2) (h3: ¬m.dd=3) (h4: ¬m.dd=4) (h5: ¬m.dd=5) (h6: ¬m.dd=6) (h7: ¬m.dd=7) (h8: ¬m.dd=8) (h9: ¬m.dd=9) (h10: ¬m.dd=10) (h11: ¬m.dd=11) (h12: ¬m.dd=12) (h13: ¬m.dd=13) (h14: ¬m.dd=14):doesV m V lo=(V,lo):=by
 unfold doesV
 rw [if_neg h1,if_neg h2,if_neg h3,if_neg h4,if_neg h5,if_neg h6,if_neg h7,if_neg h8,if_neg h9,if_neg h10,if_neg h11,if_neg h12,if_neg h13,if_neg h14]
def Fst (V:Vw) (lo:LoF) (V2:Vw) (lo2:LoF):Prop:= ∀p,(lo2 p=lo p∨(lo p=none∧lo2 p=some ((slotV V p).getD 0)))∧(lo2 p=none→(slotV V2 p).getD 0=(slotV V p).getD 0)
theorem Fst.same {V2:Vw} (h: ∀p,slotV V2 p=slotV V p):Fst V lo V2 lo:=fun p=>⟨.inl rfl,fun _=>by rw [h]⟩
theorem slot_setV {k:List UInt8} {G:AcV→AcV} (hG: ∀a,(G a).st=a.st) (p:List UInt8×Nat):slotV (setV k G V) p=slotV V p:=by
 unfold slotV setV
 by_cases e:p.1=k
 ·rw [←e]
  show(updF V.ac p.1 _ p.1).bind _=_
  rw [updF_at]
  show(G _).st p.2=_
  rw [hG]
  cases V.ac p.1<;>rfl
 ·show(updF V.ac k _ p.1).bind _=_
  rw [updF_ne e]
theorem fst_slot {k:List UInt8} {x y:Nat} :Fst V lo (setV k (setSlA x y) V) (fstF (k,x) ((slotV V (k,x)).getD 0) lo):=fun p=>by
 by_cases e:p=(k,x)
 ·subst e
  unfold fstF
  cases hl:lo (k,x)with
  |none=>
   rw [show(none:Option Nat).isSome=false from rfl,if_neg (by decide),updF_at]
   exact⟨.inr ⟨rfl,rfl⟩,fun h=>by cases h⟩
  |some v=>
   rw [show(some v:Option Nat).isSome=true from rfl,if_pos rfl,hl]
   exact⟨.inl rfl,fun h=>by cases h⟩
 ·have h1:fstF (k,x) ((slotV V (k,x)).getD 0) lo p=lo p:=by
   unfold fstF
   split
   ·rfl
   ·exact updF_ne e
  rw [h1]
  refine⟨.inl rfl,fun _=>?_⟩
  have:slotV (setV k (setSlA x y) V) p=slotV V p:=by
   unfold slotV setV
   by_cases e1:p.1=k
   ·have e2:p.2≠x:=fun h=>e (by rw [←e1, ←h])
    rw [←e1]
    show(updF V.ac p.1 _ p.1).bind _=_
    rw [updF_at]
    show updF _ x _ p.2=_
    rw [updF_ne e2]
    cases V.ac p.1<;>rfl
   ·show(updF V.ac k _ p.1).bind _=_
    rw [updF_ne e1]
  rw [this]
theorem fst_made {k:List UInt8} :Fst V lo (madV k V) (mkO V k lo):=fun p=>by
 unfold mkO
 by_cases e:p.1=k
 ·by_cases hl:lo p=none
  ·rw [if_pos ⟨e,hl⟩,hl]
   cases hs:slotV V p with
   |none=>
    refine⟨.inl rfl,fun _=>?_⟩
    have:slotV (madV k V) p=none:=by
     unfold slotV madV setV
     rw [←e]
     show(updF V.ac p.1 _ p.1).bind _=_
     rw [updF_at];rfl
    rw [this]
   |some v=>exact⟨.inr ⟨rfl,rfl⟩,fun h=>by cases h⟩
  ·rw [if_neg fun h=>hl h.2]
   exact⟨.inl rfl,fun h=>absurd h hl⟩
 ·rw [if_neg fun h=>e h.1]
  refine⟨.inl rfl,fun _=>?_⟩
  have:slotV (madV k V) p=slotV V p:=by
   unfold slotV madV setV
   show(updF V.ac k _ p.1).bind _=_
   rw [updF_ne e]
  rw [this]
theorem does_fst (m:OpM) (V:Vw) (lo:LoF):Fst V lo (doesV m V lo).1 (doesV m V lo).2:=by
 by_cases h1:m.dd=1
 ·rw [doesV_1 h1];exact Fst.same (V2:=setV m.a id V) (slot_setV fun _=>rfl)
 by_cases h2:m.dd=2
 ·rw [doesV_2 h2];exact fst_made
 by_cases h3:m.dd=3
 ·rw [doesV_3 h3];exact Fst.same (V2:=setV m.a (fun a=> { a with no:=yOf m.n }) V) (slot_setV fun _=>rfl)
 by_cases h4:m.dd=4
 ·rw [doesV_4 h4];exact Fst.same (V2:=setV m.a (fun a=> { a with ba:=m.v }) V) (slot_setV fun _=>rfl)
 by_cases h5:m.dd=5
 ·rw [doesV_5 h5];exact Fst.same (V2:=setV m.a (fun a=> { a with co:=m.b.take 100 }) V) (slot_setV fun _=>rfl)
 by_cases h6:m.dd=6
 ·rw [doesV_6 h6];exact fst_slot
 by_cases h7:m.dd=7
 ·rw [doesV_7 h7];exact Fst.same fun _=>rfl
 by_cases h8:m.dd=8
 ·rw [doesV_8 h8];exact Fst.same fun _=>rfl
 by_cases h9:m.dd=9
 ·rw [doesV_9 h9];exact Fst.same fun _=>rfl
 by_cases h10:m.dd=10
 ·rw [doesV_10 h10];exact Fst.same fun _=>rfl
 by_cases h11:m.dd=11
 ·rw [doesV_11 h11];exact Fst.same fun _=>rfl
 by_cases h12:m.dd=12
 ·rw [doesV_12 h12];exact Fst.same fun _=>rfl
 by_cases h13:m.dd=13
 ·rw [doesV_13 h13];exact Fst.same fun _=>rfl
 by_cases h14:m.dd=14
 ·rw [doesV_14 h14];exact Fst.same fun _=>rfl
 rw [doesV_0 h1 h2 h3 h4 h5 h6 h7 h8 h9 h10 h11 h12 h13 h14];exact Fst.same fun _=>rfl
theorem does_lg (hu: ∀g∈V.lg,LgU g): ∀g∈(doesV m V lo).1.lg,LgU g:=by
 by_cases h1:m.dd=1
 ·rw [doesV_1 h1];exact hu
 by_cases h2:m.dd=2
 ·rw [doesV_2 h2];exact hu
 by_cases h3:m.dd=3
 ·rw [doesV_3 h3];exact hu
 by_cases h4:m.dd=4
 ·rw [doesV_4 h4];exact hu
 by_cases h5:m.dd=5
 ·rw [doesV_5 h5];exact hu
 by_cases h6:m.dd=6
 ·rw [doesV_6 h6];exact hu
 by_cases h7:m.dd=7
 ·rw [doesV_7 h7];exact hu
 by_cases h8:m.dd=8
 ·rw [doesV_8 h8];exact hu
 by_cases h9:m.dd=9
 ·rw [doesV_9 h9];exact hu
 by_cases h10:m.dd=10
 ·rw [doesV_10 h10];exact hu
 by_cases h11:m.dd=11
 ·rw [doesV_11 h11];exact hu
 by_cases h12:m.dd=12
 ·rw [doesV_12 h12];exact hu
 by_cases h13:m.dd=13
 ·rw [doesV_13 h13];exact fun g hg=>(List.mem_append.1 hg).elim (hu g) fun h=>by rw [List.mem_singleton.1 h];exact logM_u m
 by_cases h14:m.dd=14
 ·rw [doesV_14 h14];exact hu
 rw [doesV_0 h1 h2 h3 h4 h5 h6 h7 h8 h9 h10 h11 h12 h13 h14];exact hu
end
def OkO (O:List UInt8×Nat→Nat) (lo:LoF) (V:Vw):Prop:= ∀p,lo p=some (O p)∨(lo p=none∧(slotV V p).getD 0=O p)
theorem OkO.old {O:List UInt8×Nat→Nat} {lo lo2:LoF} {V V2 W:Vw} (h:OkO O lo W) (hV:OkO O lo V) (hF:Fst V lo V2 lo2):OkO O lo2 W:=fun p=>by
 rcases(hF p).1 with e|⟨e1,e2⟩
 ·rw [e];exact h p
 ·rcases hV p with e3|⟨_,e3⟩
  ·rw [e1]at e3;cases e3
  ·exact .inl (by rw [e2,e3])
theorem OkO.new {O:List UInt8×Nat→Nat} {lo lo2:LoF} {V V2:Vw} (hV:OkO O lo V) (hF:Fst V lo V2 lo2):OkO O lo2 V2:=fun p=>by
 rcases(hF p).1 with e|⟨e1,e2⟩
 ·rcases hV p with e3|⟨e3,e4⟩
  ·exact .inl (by rw [e,e3])
  ·have hn:lo2 p=none:=by rw [e,e3]
   exact .inr ⟨hn,((hF p).2 hn).trans e4⟩
 ·rcases hV p with e3|⟨_,e3⟩
  ·rw [e1]at e3;cases e3
  ·exact .inl (by rw [e2,e3])
def orO (V:Vw) (lo:LoF):List UInt8×Nat→Nat:=fun p=>(lo p).getD ((slotV V p).getD 0)
theorem OkO.start (V:Vw) (lo:LoF):OkO (orO V lo) lo V:=fun p=>by
 unfold orO
 cases lo p with
 |none=>exact .inr ⟨rfl,rfl⟩
 |some v=>exact .inl rfl
theorem OkO.orig {O:List UInt8×Nat→Nat} {lo:LoF} {V:Vw} (h:OkO O lo V) (p:List UInt8×Nat):origV V lo p=if (V.lm p.1).isSome=true then 0 else O p:=by
 unfold origV
 split
 ·rfl
 ·rcases h p with e|⟨e,e2⟩
  ·rw [e];rfl
  ·rw [e];exact e2
theorem StQ.lec {N:Heaplet} {sp n c oc:Nat} {V:Vw} {lo:LoF} {ms:List (Int×Vw)} {tl:Int} (h:StQ sp n c oc V lo ms tl N):n≤c:=by
 obtain⟨z,g,NS,NF,NT,NM,NW,ND,NP,NQ,NO,NL,NU,NK,NB,NJ,_,_,q,_⟩:=h
 exact q.bN
set_option maxHeartbeats 4000000 in
theorem FDoesQ {N K:Heaplet} {sp n c oc:Nat} {V:Vw} {lo:LoF} {ms:List (Int×Vw)} {tl:Int} {m:OpM} {ba:Option Addr} {bc:Nat} (h:StQ sp n c oc V lo ms tl N) (hv:OpV K m ba bc) (hc:c+oc≤1000000000):Fn Tryz.prog 8 #[.pointer (some ⟨sp,0,none⟩),.agg (opC m ba bc).toArray] [N] [K] (fun _ L=>StQP sp (n+4) (c+4) (oc+c+4) (doesV m V lo).1 (doesV m V lo).2 ms tl L):=by
 have ha:=hv.a
 have hk:=hv.k
 have hw:=hv.v
 have hol:=opC_len (ba:=ba) (bc:=bc) ha
 have hkl:=len_A (k:=m.a) ha
 have hpl:okPl (m.a,m.k):=⟨ha,hk⟩
 refine Fn.enter (vs:= [.pointer (some ⟨sp,0,none⟩),.agg (opC m ba bc).toArray]) Tryz.func8 U U U ?_
 intro E R hR
 have hV:=hv.le (hR K (by simp))
 have hb:=hV.b
 have hbl:=hb.len8
 have hy:=yOf_eq m.n
 change At _ _ E [N,R] _
 refine aH fun _ s_1=>aB (cU bT U U U (fun N3 b3 B3=>aI (s_1 (aH fun _ s_2=>aB (aJ aN fl39_5 U U (aU aN sc3 U B3 (opC_n ha) cO U (op_convW aN (und_some Tryz.underlying3) Tryz.underlying34 U U ?_)))))))
 rw [hy]
 refine bV U U (aI (s_2 (aH fun _ s_3=>aB (aJ aN fl39_1 U U (aU aN sc3 U B3 (show(opC m ba bc)[0+1]? =some (.int .i64 m.dd)from U) cO U (aI (s_3 (bX (aH fun _ s_4=>aB (op_eql aN U U U (bV U U (aI (s_4 (cD U (fun c10=>?_) (fun c10=>?_)))))))))))))))
 ·refine aB (bC U U (aJ aN fl39_2 U U (aK (ds:=u8s m.a) aN ag33 U B3 (by exact opC_a ha) (by exact hkl) cO U ?_)))
  refine bF (cH (bF (cR nxQ (.cons U (.cons U .nil)) (QOpen h ha hc) (F:= [N3,R]) Tryz.func35 U U aZ (by simp) U ?_)))
  rintro _ _ ⟨rfl,N2,rfl,h2⟩
  show At _ _ _ [N2,N3,R] _
  refine cE (cJ (cT (cQ (L1:= [N2]) U .nil U (.refl _) aZ ?_)))
  exact⟨N2,rfl,by rw [doesV_1 (by assumption)];exact h2⟩
 refine aH fun _ s_5=>aB (op_eql aN U U U (bV U U (aI (s_5 (cD U (fun c16=>?_) (fun c16=>?_))))))
 ·refine aB (bC U U (aJ aN fl39_2 U U (aK (ds:=u8s m.a) aN ag33 U B3 (by exact opC_a ha) (by exact hkl) cO U ?_)))
  refine bF (cH (bF (cR nxQ (.cons U (.cons U .nil)) (QMake h ha hc) (F:= [N3,R]) Tryz.func36 U U aZ (by simp) U ?_)))
  rintro _ _ ⟨rfl,N2,rfl,h2⟩
  show At _ _ _ [N2,N3,R] _
  refine cE (cJ (cT (cQ (L1:= [N2]) U .nil U (.refl _) aZ ?_)))
  exact⟨N2,rfl,by rw [doesV_2 (by assumption)];exact h2⟩
 refine aH fun _ s_6=>aB (op_eql aN U U U (bV U U (aI (s_6 (cD U (fun c22=>?_) (fun c22=>?_))))))
 ·refine aB (bC U U (aJ aN fl39_2 U U (aK (ds:=u8s m.a) aN ag33 U B3 (by exact opC_a ha) (by exact hkl) cO U ?_)))
  refine bC U U (bF (cH (bF (cR nxQ (.cons U (.cons U (.cons U .nil))) (QNonce (w:=yOf m.n) h ha hc) (F:= [N3,R]) Tryz.func13 U U aZ (by simp) U ?_))))
  rintro _ _ ⟨rfl,N2,rfl,h2⟩
  show At _ _ _ [N2,N3,R] _
  refine cE (cJ (cT (cQ (L1:= [N2]) U .nil U (.refl _) aZ ?_)))
  exact⟨N2,rfl,by rw [doesV_3 (by assumption)];exact h2⟩
 refine aH fun _ s_7=>aB (op_eql aN U U U (bV U U (aI (s_7 (cD U (fun c29=>?_) (fun c29=>?_))))))
 ·refine aB (bC U U (aJ aN fl39_2 U U (aK (ds:=u8s m.a) aN ag33 U B3 (by exact opC_a ha) (by exact hkl) cO U ?_)))
  refine aJ aN fl39_4 U U (aK (ds:=u64s (wl m.v)) aN ag36 U B3 (by exact opC_v ha) (by exact bQ m.v) cO U ?_)
  refine bF (cH (bF (cR nxQ (.cons U (.cons U (.cons U .nil))) (QBal h ha hw hc) (F:= [N3,R]) Tryz.func16 U U aZ (by simp) U ?_)))
  rintro _ _ ⟨rfl,N2,rfl,h2⟩
  show At _ _ _ [N2,N3,R] _
  refine cE (cJ (cT (cQ (L1:= [N2]) U .nil U (.refl _) aZ ?_)))
  exact⟨N2,rfl,by rw [doesV_4 (by assumption)];exact h2⟩
 refine aH fun _ s_8=>aB (op_eql aN U U U (bV U U (aI (s_8 (cD U (fun c37=>?_) (fun c37=>?_))))))
 ·refine bF (cH (bF (cS [N3,R] [6] [0] [0,1,2,3,4,5,6] (by kernel_rfl) (by kernel_rfl) (.cons _ (.refl _)) (aR (bB U U U) U U (aJ (bB U U U) fl39_2 U U (aK (ds:=u8s m.a) (bB U U U) ag33 U B3 (by exact opC_a ha) (by exact hkl) cO U ?_))))))
  refine aJ (bB U U U) fl39_6 U U (aU (bB U U U) sc37 U B3 (opC_b ha) cO U (bG (Nx.agree (nxsm U U U)) (.cons U (.cons U .nil)) (KTwinS hb 100 100 U (by decide)) Tryz.func33 U U (by simp) U ?_))
  rintro _ _ ⟨N44,a44,c44,rfl,rfl,r44⟩
  show At _ _ _ [N44,N,N3,R] _
  refine bI (bI (bF (bI (At.moreS (Lst:= [N3,R]) (Lst':= [N44,N3,R]) (.cons _ (.refl _)) (.cons _ (.refl _)) ?_))))
  refine cR (nxsl U U U U) (.cons U (.cons U (.cons U .nil))) (QCode h ha r44.rsl (by rw [List.length_take];omega) hc) (F:= [N44,N3,R]) Tryz.func15 U U aZ (by simp) U ?_
  rintro _ _ ⟨rfl,N2,rfl,h2⟩
  show At _ _ _ [N2,N44,N3,R] _
  refine dH (cJ (dropAt2 (cT (cQ (L1:= [N2]) U .nil U (.refl _) aZ ?_))))
  exact⟨N2,rfl,by rw [doesV_5 (by assumption)];exact h2⟩
 refine aH fun _ s_9=>aB (op_eql aN U U U (bV U U (aI (s_9 (cD U (fun c46=>?_) (fun c46=>?_))))))
 ·refine aB (bC U U (aJ aN fl39_2 U U (aK (ds:=u8s m.a) aN ag33 U B3 (by exact opC_a ha) (by exact hkl) cO U ?_)))
  refine aJ aN fl39_3 U U (aK (ds:=u64s (wl m.k)) aN ag36 U B3 (by exact opC_k ha) (by exact bQ m.k) cO U ?_)
  refine aJ aN fl39_4 U U (aK (ds:=u64s (wl m.v)) aN ag36 U B3 (by exact opC_v ha) (by exact bQ m.v) cO U ?_)
  refine bF (cH (bF (cR nxQ (.cons U (.cons U (.cons U (.cons U .nil)))) (QSlot h hpl hw hc) (F:= [N3,R]) Tryz.func14 U U aZ (by simp) U ?_)))
  rintro _ _ ⟨rfl,N2,rfl,h2⟩
  show At _ _ _ [N2,N3,R] _
  refine cE (cJ (cT (cQ (L1:= [N2]) U .nil U (.refl _) aZ ?_)))
  exact⟨N2,rfl,by rw [doesV_6 (by assumption)];exact h2⟩
 refine aH fun _ s_10=>aB (op_eql aN U U U (bV U U (aI (s_10 (cD U (fun c56=>?_) (fun c56=>?_))))))
 ·refine aB (bC U U (aJ aN fl39_2 U U (aK (ds:=u8s m.a) aN ag33 U B3 (by exact opC_a ha) (by exact hkl) cO U ?_)))
  refine aJ aN fl39_3 U U (aK (ds:=u64s (wl m.k)) aN ag36 U B3 (by exact opC_k ha) (by exact bQ m.k) cO U ?_)
  refine aJ aN fl39_4 U U (aK (ds:=u64s (wl m.v)) aN ag36 U B3 (by exact opC_v ha) (by exact bQ m.v) cO U ?_)
  refine bF (cH (bF (cR nxQ (.cons U (.cons U (.cons U (.cons U .nil)))) (QTrans h hpl hc) (F:= [N3,R]) Tryz.func37 U U aZ (by simp) U ?_)))
  rintro _ _ ⟨rfl,N2,rfl,h2⟩
  show At _ _ _ [N2,N3,R] _
  refine cE (cJ (cT (cQ (L1:= [N2]) U .nil U (.refl _) aZ ?_)))
  exact⟨N2,rfl,by rw [doesV_7 (by assumption)];exact h2⟩
 refine aH fun _ s_11=>aB (op_eql aN U U U (bV U U (aI (s_11 (cD U (fun c66=>?_) (fun c66=>?_))))))
 ·refine aB (bC U U (aJ aN fl39_2 U U (aK (ds:=u8s m.a) aN ag33 U B3 (by exact opC_a ha) (by exact hkl) cO U ?_)))
  refine bF (cH (bF (cR nxQ (.cons U (.cons U .nil)) (QTouch h ha hc) (F:= [N3,R]) Tryz.func38 U U aZ (by simp) U ?_)))
  rintro _ _ ⟨rfl,N2,rfl,h2⟩
  show At _ _ _ [N2,N3,R] _
  refine cE (cJ (cT (cQ (L1:= [N2]) U .nil U (.refl _) aZ ?_)))
  exact⟨N2,rfl,by rw [doesV_8 (by assumption)];exact h2⟩
 refine aH fun _ s_12=>aB (op_eql aN U U U (bV U U (aI (s_12 (cD U (fun c72=>?_) (fun c72=>?_))))))
 ·refine aB (bC U U (aJ aN fl39_2 U U (aK (ds:=u8s m.a) aN ag33 U B3 (by exact opC_a ha) (by exact hkl) cO U ?_)))
  refine bF (cH (bF (cR nxQ (.cons U (.cons U .nil)) (QHeat h ha hc) (F:= [N3,R]) Tryz.func39 U U aZ (by simp) U ?_)))
  rintro _ _ ⟨rfl,N2,rfl,h2⟩
  show At _ _ _ [N2,N3,R] _
  refine cE (cJ (cT (cQ (L1:= [N2]) U .nil U (.refl _) aZ ?_)))
  exact⟨N2,rfl,by rw [doesV_9 (by assumption)];exact h2⟩
 refine aH fun _ s_13=>aB (op_eql aN U U U (bV U U (aI (s_13 (cD U (fun c78=>?_) (fun c78=>?_))))))
 ·refine aB (bC U U (aJ aN fl39_2 U U (aK (ds:=u8s m.a) aN ag33 U B3 (by exact opC_a ha) (by exact hkl) cO U ?_)))
  refine aJ aN fl39_3 U U (aK (ds:=u64s (wl m.k)) aN ag36 U B3 (by exact opC_k ha) (by exact bQ m.k) cO U ?_)
  refine bF (cH (bF (cR nxQ (.cons U (.cons U (.cons U .nil))) (QHSlot h hpl hc) (F:= [N3,R]) Tryz.func27 U U aZ (by simp) U ?_)))
  rintro _ _ ⟨rfl,N2,rfl,h2⟩
  show At _ _ _ [N2,N3,R] _
  refine cE (cJ (cT (cQ (L1:= [N2]) U .nil U (.refl _) aZ ?_)))
  exact⟨N2,rfl,by rw [doesV_10 (by assumption)];exact h2⟩
 refine aH fun _ s_14=>aB (op_eql aN U U U (bV U U (aI (s_14 (cD U (fun c86=>?_) (fun c86=>?_))))))
 ·refine aB (bC U U (bC U U (bF (cH (bF (cR nxQ (.cons U (.cons U .nil)) (QAdd (w:=yOf m.n) h hc) (F:= [N3,R]) Tryz.func40 U U aZ (by simp) U ?_))))))
  rintro _ _ ⟨rfl,N2,rfl,h2⟩
  show At _ _ _ [N2,N3,R] _
  refine cE (cJ (cT (cQ (L1:= [N2]) U .nil U (.refl _) aZ ?_)))
  exact⟨N2,rfl,by rw [doesV_11 (by assumption)];exact h2⟩
 refine aH fun _ s_15=>aB (op_eql aN U U U (bV U U (aI (s_15 (cD U (fun c91=>?_) (fun c91=>?_))))))
 ·refine aB (bC U U (bC U U (bF (cH (bF (cR nxQ (.cons U (.cons U .nil)) (QSub (w:=yOf m.n) h hc) (F:= [N3,R]) Tryz.func41 U U aZ (by simp) U ?_))))))
  rintro _ _ ⟨rfl,N2,rfl,h2⟩
  show At _ _ _ [N2,N3,R] _
  refine cE (cJ (cT (cQ (L1:= [N2]) U .nil U (.refl _) aZ ?_)))
  exact⟨N2,rfl,by rw [doesV_12 (by assumption)];exact h2⟩
 refine aH fun _ s_16=>aB (op_eql aN U U U (bV U U (aI (s_16 (cD U (fun c96=>?_) (fun c96=>?_))))))
 ·refine aB (bC U U (aK (ds:=opC m ba bc) aN ag39 U B3 (by exact bJ hol) (by exact hol) cO U ?_))
  refine bG bT (.cons U .nil) (FLog hV) Tryz.func43 U U (by simp) U ?_
  rintro _ _ ⟨N100,ta,tc,da,dc,rfl,rfl,hL⟩
  show At _ _ _ [N100,N3,N,R] _
  refine bI (bF (bF (bI (cR nxQ (.cons U (.cons U .nil)) (QLog (w:=logM m) (i:=⟨ta,tc,da,dc⟩) h hL hc) (F:= [N100,N3,R]) Tryz.func42 U U aZ (by simp) U ?_))))
  rintro _ _ ⟨rfl,N2,rfl,h2⟩
  show At _ _ _ [N2,N100,N3,R] _
  refine cE (cJ (dropAt2 (cT (cQ (L1:= [N2]) U .nil U (.refl _) aZ ?_))))
  exact⟨N2,rfl,by rw [doesV_13 (by assumption)];exact h2⟩
 refine aH fun _ s_17=>aB (op_eql aN U U U (bV U U (aI (s_17 (cD U (fun c102=>?_) (fun c102=>?_))))))
 ·refine aB (bC U U (aJ aN fl39_2 U U (aK (ds:=u8s m.a) aN ag33 U B3 (by exact opC_a ha) (by exact hkl) cO U ?_)))
  refine bF (cH (bF (cR nxQ (.cons U (.cons U .nil)) (QDestroy h ha hc) (F:= [N3,R]) Tryz.func44 U U aZ (by simp) U ?_)))
  rintro _ _ ⟨rfl,N2,rfl,h2⟩
  show At _ _ _ [N2,N3,R] _
  refine cE (cJ (cT (cQ (L1:= [N2]) U .nil U (.refl _) aZ ?_)))
  exact⟨N2,rfl,by rw [doesV_14 (by assumption)];exact h2⟩
 refine cG (cJ (dropAt0 (cQ (L1:= [N]) U .nil U (.refl _) aZ ?_)))
 exact⟨N,rfl,by rw [doesV_0 (by assumption) (by assumption) (by assumption) (by assumption) (by assumption) (by assumption) (by assumption) (by assumption) (by assumption) (by assumption) (by assumption) (by assumption) (by assumption) (by assumption)];exact h.mono (by omega) (by omega) (by omega) (Nat.add_le_add_right h.lec 4)⟩
section
variable {N : Heaplet} {sp n c oc : Nat} {V : Vw} {lo : LoF} {ms : List (Int × Vw)} {tl : Int} {a : List UInt8} {kx : Nat}
theorem QRefund (h:StQ sp n c oc V lo ms tl N):Fn Tryz.prog 19 #[.pointer (some ⟨sp,0,none⟩)] [] [N] (fun v L=>v=.int .u64 (V.rf.toNat:Int)∧L= []):=by
 obtain⟨x,J,la,lc,u,k,ls,DF,DT,DM,DW,DD,DP,DQ,DO,rfl,rfl,q⟩:=h.see
 exact VRefund q
theorem QLogs (h:StQ sp n c oc V lo ms tl N) (hc:c≤1000000):Fn Tryz.prog 21 #[.pointer (some ⟨sp,0,none⟩)] [] [N] (LogT V.lg):=by
 obtain⟨x,J,la,lc,u,k,ls,DF,DT,DM,DW,DD,DP,DQ,DO,rfl,rfl,q⟩:=h.see
 exact VLogs q hc
theorem QAccs (h:StQ sp n c oc V lo ms tl N):AcsV N sp c V.ac:=by
 obtain⟨x,J,la,lc,u,k,ls,DF,DT,DM,DW,DD,DP,DQ,DO,rfl,rfl,q⟩:=h.see
 exact q.accs
theorem QWarm (h:StQ sp n c oc V lo ms tl N) (hk:okAd a):Fn Tryz.prog 22 #[.pointer (some ⟨sp,0,none⟩),.agg (u8s a).toArray] [] [N] (fun v L=>v=.bool (V.lw a).isSome∧L= []):=by
 obtain⟨x,J,la,lc,u,k,ls,DF,DT,DM,DW,DD,DP,DQ,DO,rfl,rfl,q⟩:=h.see
 exact VWarm q hk
theorem QDestroyed (h:StQ sp n c oc V lo ms tl N) (hk:okAd a):Fn Tryz.prog 25 #[.pointer (some ⟨sp,0,none⟩),.agg (u8s a).toArray] [] [N] (fun v L=>v=.bool (V.ld a).isSome∧L= []):=by
 obtain⟨x,J,la,lc,u,k,ls,DF,DT,DM,DW,DD,DP,DQ,DO,rfl,rfl,q⟩:=h.see
 exact VDestroyed q hk
theorem QMade (h:StQ sp n c oc V lo ms tl N) (hk:okAd a):Fn Tryz.prog 26 #[.pointer (some ⟨sp,0,none⟩),.agg (u8s a).toArray] [] [N] (fun v L=>v=.bool (V.lm a).isSome∧L= []):=by
 obtain⟨x,J,la,lc,u,k,ls,DF,DT,DM,DW,DD,DP,DQ,DO,rfl,rfl,q⟩:=h.see
 exact VMade q hk
theorem QTransient (h:StQ sp n c oc V lo ms tl N) (hk:okPl (a,kx)):Fn Tryz.prog 23 #[.pointer (some ⟨sp,0,none⟩),.agg (u8s a).toArray,.agg (u64s (wl kx)).toArray] [] [N] (fun v L=>v=wordV ((V.lq (a,kx)).getD 0)∧L= []):=by
 obtain⟨x,J,la,lc,u,k,ls,DF,DT,DM,DW,DD,DP,DQ,DO,rfl,rfl,q⟩:=h.see
 exact VTransient q hk
theorem QOriginal {O:List UInt8×Nat→Nat} (h:StQ sp n c oc V lo ms tl N) (hO:OkO O lo V) (hk:okPl (a,kx)):Fn Tryz.prog 24 #[.pointer (some ⟨sp,0,none⟩),.agg (u8s a).toArray,.agg (u64s (wl kx)).toArray] [] [N] (fun v L=>v=wordV (if (V.lm a).isSome=true then 0 else O (a,kx))∧L= []):=by
 rw [←hO.orig (a,kx)]
 obtain⟨x,J,la,lc,u,k,ls,DF,DT,DM,DW,DD,DP,DQ,DO,rfl,rfl,q⟩:=h.see
 exact VOriginal q hk
structure MkO (O:List UInt8×Nat→Nat) (lo:LoF) (V V0:Vw) (ms:List (Int×Vw)) (tl:Int):Prop where
 h: ∃rest,ms=(0,V0)::rest∧ ∀q∈rest,q.1≠0
 ok: ∀q∈ms,OkO O lo q.2
 v:OkO O lo V
 t:1≤tl
variable {O : List UInt8 × Nat → Nat} {V0 : Vw}
theorem MkO.start (V:Vw) (lo:LoF):MkO (orO V lo) lo V V ([]++ [(0,V)]) (0+1):=⟨⟨[],rfl,fun _ h=>absurd h List.not_mem_nil⟩,fun q hq=>by rw [List.mem_singleton.1 hq];exact OkO.start V lo,OkO.start V lo,by decide⟩
theorem MkO.does (h:MkO O lo V V0 ms tl) (m:OpM):MkO O (doesV m V lo).2 (doesV m V lo).1 V0 ms tl:=⟨h.h,fun q hq=>(h.ok q hq).old h.v (does_fst m V lo),h.v.new (does_fst m V lo),h.t⟩
theorem MkO.mark (h:MkO O lo V V0 ms tl):MkO O lo V V0 (ms++ [(tl,V)]) (tl+1):=by
 have ht:=h.t
 obtain⟨rest,e,hr⟩:=h.h
 refine⟨⟨rest++ [(tl,V)],by rw [e];rfl,fun q hq=>?_⟩,fun q hq=>?_,h.v,by omega⟩
 ·rcases List.mem_append.1 hq with hq|hq
  ·exact hr q hq
  ·rw [List.mem_singleton.1 hq]
   show tl≠0
   omega
 ·rcases List.mem_append.1 hq with hq|hq
  ·exact h.ok q hq
  ·rw [List.mem_singleton.1 hq];exact h.v
theorem MkO.back (h:MkO O lo V V0 ms tl) {ia:Nat} {num:Int} {W:Vw} (hi:ms[ia]? =some (num,W)) (hn:num≠0):MkO O lo W V0 (ms.take (ia+1)) tl:=by
 obtain⟨rest,e,hr⟩:=h.h
 refine⟨⟨rest.take ia,by rw [e];rfl,fun q hq=>hr q (List.mem_of_mem_take hq)⟩,fun q hq=>h.ok q (List.mem_of_mem_take hq),h.ok _ (List.mem_of_getElem? hi),h.t⟩
theorem QBackL (h:StQ sp n c oc V lo ms tl N) (hm:MkO O lo V V0 ms tl) (hc:c+oc≤1000000000) {num:Int} (hn:num≠0):Fn Tryz.prog 18 #[.pointer (some ⟨sp,0,none⟩),.int .i64 num] [N] [] (fun v L=> ∃b V ms N,v=.bool b∧L= [N]∧StQ sp n (c+n) oc V lo ms tl N∧MkO O lo V V0 ms tl):=
 (QBack h hc num).mono fun v L hp=>by
  rcases hp with ⟨ia,W,h1,e,N2,e2,h2⟩|⟨_,e,N2,e2,h2⟩
  ·exact⟨_,W,_,N2,e,e2,h2,hm.back h1 hn⟩
  ·exact⟨_,V,ms,N2,e,e2,h2,hm⟩
theorem QBackM (h:StQ sp n c oc V lo ms tl N) (hm:MkO O lo V V0 ms tl) (hc:c+oc≤1000000000):Fn Tryz.prog 18 #[.pointer (some ⟨sp,0,none⟩),.int .i64 0] [N] [] (fun v L=> ∃ms N,v=.bool true∧L= [N]∧StQ sp n (c+n) oc V0 lo ms tl N∧OkO O lo V0):=
 (QBack h hc 0).mono fun v L hp=>by
  obtain⟨rest,e0,hr⟩:=hm.h
  rcases hp with ⟨ia,W,h1,e,N2,e2,h2⟩|⟨hno,_⟩
  ·have hW:W=V0:=by
    rcases List.mem_cons.1 (e0▸List.mem_of_getElem? h1)with e3|h3
    ·exact(Prod.mk.inj e3).2
    ·exact absurd U (hr _ h3)
   subst hW
   exact⟨_,N2,e,e2,h2,hm.ok _ (List.mem_of_getElem? h1)⟩
  ·exact absurd U (hno (0,V0) (by rw [e0];simp))
end
section
variable {NB NI : Heaplet} {a : Option Addr} {n cp c : Nat} {ws : List (AcA × AcI)}
theorem QLoadB (hrow:RSl NB 27 a n cp (ws.flatMap accC)) (hn:ws.length=n) (hrd: ∀p∈ws,AccRd NI c p) (hnc:n≤c) (hc:c≤1000000) {b:List AcA} (hb:ws.map Prod.fst=b):
 Fn Tryz.prog 5 #[.slice a n cp] [nilH] [NB,NI] (fun v L=>(∃N, ¬LoadOk b∧v=.tuple #[.pointer none,.int .i64 9]∧L= [N])∨(∃N sp,LoadOk b∧v=.tuple #[.pointer (some ⟨sp,0,none⟩),.int .i64 0]∧L= [N]∧StQ sp 0 c 0 (v0 b) (fun _=>none) [] 0 N)):=by
 subst hb
 refine(QLoad hrow hn hrd hnc hc).mono fun v L hp=>?_
 rcases hp with ⟨h,e,N,e2⟩|⟨h,sp,e,N,e2,hq⟩
 ·exact .inl ⟨N,h,e,e2⟩
 ·exact .inr ⟨N,sp,h,e,e2,hq⟩
theorem QLoadF (hrow:RSl NB 27 a n cp (ws.flatMap accC)) (hn:ws.length=n) (hrd: ∀p∈ws,AccRd NI c p) (hnc:n≤c) (hc:c≤1000000) {b:List AcA} (hb:ws.map Prod.fst=b) (hbad: ¬LoadOk b):
 Fn Tryz.prog 5 #[.slice a n cp] [nilH] [NB,NI] (fun v L=> ∃N,v=.tuple #[.pointer none,.int .i64 9]∧L= [N]):=by
 subst hb
 refine(QLoad hrow hn hrd hnc hc).mono fun v L hp=>?_
 rcases hp with ⟨_,e,N,e2⟩|⟨h,_⟩
 ·exact⟨N,e,e2⟩
 ·exact absurd h hbad
theorem QLoadT (hrow:RSl NB 27 a n cp (ws.flatMap accC)) (hn:ws.length=n) (hrd: ∀p∈ws,AccRd NI c p) (hnc:n≤c) (hc:c≤1000000) {b:List AcA} (hb:ws.map Prod.fst=b) (hok:LoadOk b):
 Fn Tryz.prog 5 #[.slice a n cp] [nilH] [NB,NI] (fun v L=> ∃sp N,v=.tuple #[.pointer (some ⟨sp,0,none⟩),.int .i64 0]∧L= [N]∧StQ sp 0 c 0 (v0 b) (fun _=>none) [] 0 N):=by
 subst hb
 refine(QLoad hrow hn hrd hnc hc).mono fun v L hp=>?_
 rcases hp with ⟨h,_⟩|⟨_,sp,e,N,e2,hq⟩
 ·exact absurd hok h
 ·exact⟨sp,N,e,e2,hq⟩
end
end Go.Proofs.YtalmjkcapecpiaaGreat
