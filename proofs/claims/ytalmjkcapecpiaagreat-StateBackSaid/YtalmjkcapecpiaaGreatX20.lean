/- Several texts in one: see the remarks ahead of each part. No condition but those told there. -/
import Derived.Test.YtalmjkcapecpiaaGreatX1
import Derived.Test.YtalmjkcapecpiaaGreatX19
import Derived.Test.YtalmjkcapecpiaaGreatX18
import Derived.Test.YtalmjkcapecpiaaGreatXA35
import Derived.Test.YtalmjkcapecpiaaGreatXKE8
set_option linter.unusedSimpArgs false
set_option linter.unusedVariables false
namespace Go.Proofs.YtalmjkcapecpiaaGreat
open Go Go.RowKit
set_option maxRecDepth 100000
theorem empty_root:acRoot (acC [])= [86,232,31,23,27,204,85,166,255,131,69,230,146,192,248,110,91,72,224,27,153,108,173,192,1,98,47,181,227,99,180,33]:=by
 have e:(nodeF 81 (prs [])).form= [128]:=by
  have:nodeF 81 (prs [])=itS []:=by simp [prs,nodeF]
  rw [this,itS,form_false]
  rfl
 rw [show acC []= [] by simp [acC,srtB],acRoot,acR,List.foldl_nil,rootM,e,k80]
set_option maxHeartbeats 1000000 in
theorem FBeginX {NS:Heaplet} {sp ma:Nat} {v1 v2 v3 v4 v5 v6 v7 v8 v9 v10 v11 v12:Value} (BS:Blk NS sp 85 [.map (some ma),v1,v2,v3,v4,v5,v6,v7,v8,v9,v10,v11,v12]):Fn Tryz.prog 49 #[.pointer (some ⟨sp,0,none⟩)] [NS] [] (fun v L=> ∃NS NT mt mm mw md ws tr og,v=.tuple #[]∧L= [NS,NT]∧Blk NS sp 85 (stK ma mt mm mw md ws tr og 0 (.slice none 0 0) (.slice none 0 0) (.slice none 0 0) 0)∧MapV Tryz.prog 33 NT mt 0 (.map [])):=by
 refine Fn.enter (vs:= [.pointer (some ⟨sp,0,none⟩)]) Tryz.func49 U U U ?_
 intro E R hR
 change At _ _ E [NS,R] _
 refine aB (bC U U (op_makeMapV 33 bT U (fun N3 b3 M3=>op_makeMapV 33 bT U (fun N4 b4 M4=>op_makeMapV 33 bT U (fun N5 b5 M5=>op_makeMapV 33 bT U (fun N6 b6 M6=>op_makeMapV 105 bT U (fun N7 b7 M7=>op_makeMapV 105 bT U (fun N8 b8 M8=>op_makeMapV 105 bT U (fun N9 b9 M9=>op_build (out:= [_,_,_,_,_,_,_,.int .u64 0,.slice none 0 0,.slice none 0 0,.slice none 0 0,.int .i64 0]) aN ze83 pl83 (.cons U (.cons U (.cons U (.cons U (.cons U (.cons U (.cons U .nil))))))) U U (bH aN U U (aJ aN fl85_1 U U (bP nxQ sz83 U U U U U BS (by exact show 0+1+12≤13 by decide) sel7 (fun NS BS=>?_)))))))))))))
 change Blk NS sp _ (stK ma b3 b4 b5 b6 b7 b8 b9 0 (.slice none 0 0) (.slice none 0 0) (.slice none 0 0) 0)at BS
 refine cE (dropAt6 (dropAt5 (dropAt4 (dropAt3 (dropAt2 (cT (cQ (L1:= [NS,N3]) U .nil U (.refl _) aZ ?_)))))))
 exact⟨NS,N3,b3,b4,b5,b6,b7,b8,b9,rfl,rfl,BS,M3⟩
set_option maxHeartbeats 1000000 in
theorem FNewX:Fn Tryz.prog 12 #[] [] [] (fun v L=> ∃sp ma NS NF NT mt mm mw md ws tr og,v=.pointer (some ⟨sp,0,none⟩)∧L= [NS,NF,NT]∧Blk NS sp 85 (stK ma mt mm mw md ws tr og 0 (.slice none 0 0) (.slice none 0 0) (.slice none 0 0) 0)∧MapV Tryz.prog 33 NF ma 0 (.map [])∧MapV Tryz.prog 33 NT mt 0 (.map [])):=by
 refine Fn.enter (vs:= []) Tryz.func12 U U U ?_
 intro E R hR
 change At _ _ E [R] _
 refine aH fun _ s_1=>aB (bV U U (aI (s_1 (aH fun _ s_2=>aB (op_makeMapV 33 bT U (fun N2 b2 M2=>op_build (out:= [_,.map none,.map none,.map none,.map none,.map none,.map none,.map none,.int .u64 0,.slice none 0 0,.slice none 0 0,.slice none 0 0,.int .i64 0]) aN ze85 pl85 (.cons U .nil) U U (cU bT U U U (fun N4 b4 B4=>bV U U (aI (s_2 (aH fun _ s_3=>aB (bC U U (cR nxQ (.cons U .nil) (FBeginX B4) (F:= [N2,R]) Tryz.func49 U U aZ (by simp) U ?_)))))))))))))
 rintro v6 L6 ⟨NS,NT,mt,mm,mw,md,ws,tr,og,rfl,rfl,BS,MT⟩
 show At _ _ _ [NS,NT,N2,R] _
 skip
 refine aI (s_3 (aH fun _ s_4=>aB (bC U U (bV U U (aI (s_4 (cK ((bI (bF (bI (bI (cF (L1:= [NS,N2,NT]) U (.tmp U .nil) (.refl _) aZ ?_)))))))))))))
 exact⟨b4,b2,NS,N2,NT,mt,mm,mw,md,ws,tr,og,rfl,rfl,BS,M2,MT⟩
section
variable {K : Heaplet} {sp ma c : Nat} {D : DataW Value} {l : AcR} {cs : List Value} {k : List UInt8}
set_option maxHeartbeats 1000000 in
theorem FAtX (BS:Blk K sp 85 (.map (some ma)::cs)) (hM:MapV Tryz.prog 33 K ma c D) (hA:MapA keyA okAd ptrV D l) (hk:okAd k) {xp:Nat} {x:AcS} (hg:getA k l=some (xp,x)):Fn Tryz.prog 65 #[.pointer (some ⟨sp,0,none⟩),.agg (u8s k).toArray] [] [K] (fun v L=>v=.pointer (some ⟨xp,0,none⟩)∧L= []):=by
 have hul:=len_A hk
 have hlk:=ptr_look hA hk
 rw [hg]at hlk
 refine Fn.enter (vs:= [.pointer (some ⟨sp,0,none⟩),.agg (u8s k).toArray]) Tryz.func65 U U U ?_
 intro E R hR
 have hle:=hR K (by simp)
 have BR:=BS.le hle
 have hM:=hM.le hle
 change At _ _ E [R] _
 refine aH fun _ s_1=>aB (cU bT U U U (fun N3 b3 B3=>bV U U (aI (s_1 (aH fun _ s_2=>aH fun _ s_3=>cS [N3,R] [5] [] [0,1,2,3,4,5,6] (by kernel_rfl) (by kernel_rfl) (.refl _) (aR (bB U U U) U U (bH (bB U U U) U U (aJ (bB U U U) fl85_0 U U (aU (bB U U U) sc74 U BR U dG U ?_)))))))))
 refine aK (ds:=u8s k) (bB U U U) ag33 U B3 (by exact bJ hul) (by exact hul) cO U ?_
 refine op_lookupV1 (Nx.agree (nxss U U U U)) kd33 Tryz.underlying74 (fun _=>by first|rfl|kernel_rfl) U U hM (keyA_spec hk) (hlk) (by simp) U ?_
 refine At.anyS (.refl _) (cZ (bB U U U) U U (dH (aS (s_3 (aH fun _ s_4=>aB (bC U U (op_nePO aN Tryz.underlying67 U U (aI (s_4 (At.condT U (aH fun _ s_5=>aB (bC U U (bV U U (aI (s_5 (cK (dC ((dropAt0 (cF (L1:= []) U (.tmp U .nil) (.refl _) aZ ?_))))))))))))))))))))
 exact⟨rfl,rfl⟩
set_option maxHeartbeats 1000000 in
theorem FBalanceX (BS:Blk K sp 85 (.map (some ma)::cs)) (hM:MapV Tryz.prog 33 K ma c D) (hA:MapA keyA okAd ptrV D l) (hk:okAd k) {xp:Nat} {x:AcS} (hg:getA k l=some (xp,x)) {no:UInt64} {ba cn cc mx:Nat} {ca:Option Addr} (BX:Blk K xp 71 (acK no ba ca cn cc mx)):Fn Tryz.prog 34 #[.pointer (some ⟨sp,0,none⟩),.agg (u8s k).toArray] [] [K] (fun v L=>v=.agg (u64s (wl ba)).toArray∧L= []):=by
 have hul:=len_A hk
 unfold acK at BX
 refine Fn.enter (vs:= [.pointer (some ⟨sp,0,none⟩),.agg (u8s k).toArray]) Tryz.func34 U U U ?_
 intro E R hR
 have hle:=hR K (by simp)
 have BS:=BS.le hle
 have BX:=BX.le hle
 have hM:=hM.le hle
 change At _ _ E [R] _
 refine aH fun _ s_1=>aB (cU bT U U U (fun N3 b3 B3=>bZ bT ze36 U (fun N4 b4 B4=>?_)))
 change Blk N4 b4 _ [.int .u64 0,.int .u64 0,.int .u64 0,.int .u64 0]at B4
 refine aI (s_1 (aH fun _ s_2=>aB (bC U U (aK (ds:=u8s k) aN ag33 U B3 (by exact bJ hul) (by exact hul) dG U ?_))))
 refine bG bT (.cons U (.cons U .nil)) (FAtX BS hM hA hk hg) Tryz.func65 U U (by simp) U ?_
 rintro v7 L7 ⟨rfl,rfl⟩
 show At _ _ _ [N4,N3,R] _
 refine bH aN U U (aJ aN fl71_1 U U (aK (ds:=u64s (wl ba)) aN ag36 U BX (by rfl) (by rfl) mem2 U ?_))
 refine bP nxQ sz36 U U U (bQ ba) (one_wl ba) B4 (by rw [bQ];decide) sel0 (fun N4 B4=>?_)
 rw [setL_full (by rw [bQ];rfl)]at B4
 refine aI (s_2 (cK ((cT (cF (L1:= []) U (.cell U (res_agg (ds:=u64s (wl ba)) ag36 B4 (bJ (bQ ba)) (bQ ba) cO) .nil) (.cons _ (.refl _)) aZ ?_)))))
 exact⟨rfl,rfl⟩
end
def WkP (sp:Nat) (cs:List Value) (ma mt xp mx:Nat) (k:List UInt8) (NJ NK NB:Heaplet) (i:Nat) (NS NR:Heaplet):Prop:=
 ∃NF NT NX D DT,NR=joinL [NF,NT,NX,NJ,NK,NB]∧ [NF,NT,NX,NJ,NK,NB].Pairwise Apart∧Blk NS sp 85 cs∧MapV Tryz.prog 33 NF ma 1 D∧MapA keyA okAd ptrV D (if 2≤i then [(k,(xp,AcS.z))]else [])∧MapV Tryz.prog 33 NT mt 1 DT∧MapA keyA okAd unitV DT (if 1≤i then [(k,())]else [])∧Blk NX xp 71 (acK 0 (if 3≤i then 7 else 0) none 0 0 mx)
theorem del_one {β:Type} {k:List UInt8} {v:β} :delA k [(k,v)]= []:=by simp [delA]
section
variable {sp ma mt xp mx p1 p2 p3 p4 q1 q2 q3 q4 b7 b6 : Nat} {cs : List Value} {k : List UInt8} {NJ NK NB : Heaplet}
theorem wk_2 (hC:CapB NB b7 b6 0 xp):UndoAt (WkP sp cs ma mt xp mx k NJ NK NB) [cloV 92 [p1,p2,p3,p4],cloV 91 [q1,q2,q3,q4],cloV 56 [b7,b6]] 2:=by
 refine⟨56,[.pointer (some ⟨b7,0,none⟩),.pointer (some ⟨b6,0,none⟩)],_,rfl,Tryz.func56,rfl,rfl,fun NS NR ⟨NF,NT,NX,D,DT,hNR,hap,BS,hF,hA,hT,hU,BX⟩=>?_⟩
 subst hNR
 have h:=(FUndoBal hC BX).mono (Post':=fun _ L=> ∃X,L= [X]∧Blk X xp 71 (acK 0 0 none 0 0 mx)) fun v L ⟨X,_,hL,hX⟩=>⟨X,hL,hX⟩
 exact(h.inJ (As:= [NF,NT]) (Bs:= [NJ,NK,NB]) (by simp) hap).mono fun v L ⟨X,hL,hap2,hX⟩=>⟨NS,_,hL,NF,NT,X,D,DT,rfl,hap2,BS,hF,hA,hT,hU,hX⟩
theorem wk_1 (hk:okAd k) (hC:CapU NK 74 67 q1 q2 q3 q4 ma k false [.pointer none]):UndoAt (WkP sp cs ma mt xp mx k NJ NK NB) [cloV 92 [p1,p2,p3,p4],cloV 91 [q1,q2,q3,q4],cloV 56 [b7,b6]] 1:=by
 refine⟨91,[.pointer (some ⟨q1,0,none⟩),.pointer (some ⟨q2,0,none⟩),.pointer (some ⟨q3,0,none⟩),.pointer (some ⟨q4,0,none⟩)],_,rfl,Tryz.func91,rfl,rfl,fun NS NR ⟨NF,NT,NX,D,DT,hNR,hap,BS,hF,hA,hT,hU,BX⟩=>?_⟩
 subst hNR
 have h:=(FUndoAP hC hF hA hk).mono (Post':=fun _ L=> ∃X,L= [X]∧ ∃D,MapV Tryz.prog 33 X ma 1 D∧MapA keyA okAd ptrV D []) fun v L ⟨X,D2,_,hL,hX,hY⟩=>⟨X,hL,D2,hX,by rw [if_pos (by decide),del_one]at hY;exact hY⟩
 exact(h.inJ (As:= []) (Bs:= [NT,NX,NJ,NK,NB]) (by simp) hap).mono fun v L ⟨X,hL,hap2,D2,hX,hY⟩=>⟨NS,_,hL,X,NT,NX,D2,DT,rfl,hap2,BS,hX,hY,hT,hU,BX⟩
theorem wk_0 (hk:okAd k) (hC:CapU NJ 75 115 p1 p2 p3 p4 mt k false []):UndoAt (WkP sp cs ma mt xp mx k NJ NK NB) [cloV 92 [p1,p2,p3,p4],cloV 91 [q1,q2,q3,q4],cloV 56 [b7,b6]] 0:=by
 refine⟨92,[.pointer (some ⟨p1,0,none⟩),.pointer (some ⟨p2,0,none⟩),.pointer (some ⟨p3,0,none⟩),.pointer (some ⟨p4,0,none⟩)],_,rfl,Tryz.func92,rfl,rfl,fun NS NR ⟨NF,NT,NX,D,DT,hNR,hap,BS,hF,hA,hT,hU,BX⟩=>?_⟩
 subst hNR
 have h:=(FUndoAU hC hT hU hk).mono (Post':=fun _ L=> ∃X,L= [X]∧ ∃D,MapV Tryz.prog 33 X mt 1 D∧MapA keyA okAd unitV D []) fun v L ⟨X,D2,_,hL,hX,hY⟩=>⟨X,hL,D2,hX,by rw [if_pos (by decide),del_one]at hY;exact hY⟩
 exact(h.inJ (As:= [NF]) (Bs:= [NX,NJ,NK,NB]) (by simp) hap).mono fun v L ⟨X,hL,hap2,D2,hX,hY⟩=>⟨NS,_,hL,NF,X,NX,D,D2,rfl,hap2,BS,hF,hA,hX,hY,BX⟩
end
def k1S:List UInt8:=1::List.replicate 19 0
theorem okAd_1:okAd k1S:=rfl
def z0S:List UInt8:= [86,232,31,23,27,204,85,166,255,131,69,230,146,192,248,110,91,72,224,27,153,108,173,192,1,98,47,181,227,99,180,33]
theorem blk_sameS {N:Heaplet} {b:Nat} {e:TypeId} {cs ds:List Value} (h:Blk N b e cs) (k:Blk N b e ds):cs=ds:=by
 unfold Blk at h k
 rw [h]at k
 simp only [Option.some.injEq,Obj.cells.injEq,and_true]at k
 exact List.toArray_inj k
theorem MapA.nilA:MapA keyA okAd ptrV (.map []) ([]:AcR):=MapA.nil
set_option maxHeartbeats 1000000 in
theorem SWakes_f:Fn Tryz.prog 7 #[] [] [] (fun v L=>v=.bool true∧L= []):=by
 have e7:u64s (wl 7)= [.int .u64 7,.int .u64 0,.int .u64 0,.int .u64 0]:=rfl
 refine Fn.enter (vs:= []) Tryz.func7 U U U ?_
 intro E R hR
 change At _ _ E [R] _
 refine aH fun _ s_1=>aB (bV U U (aI (s_1 (aH fun _ s_2=>aB (bG bT .nil (FNewX) Tryz.func12 U U (by simp) U ?_)))))
 rintro v5 L5 ⟨sp,ma,NS,NF,NT,mt,mm,mw,md,ws,tr,og,rfl,rfl,BS,hF,hT⟩
 show At _ _ _ [NS,NF,NT,R] _
 refine bV rfl rfl (aI (s_2 (aH fun _ s_3=>aH fun _ s_4=>aB (bC rfl rfl (op_eqPt aN Tryz.underlying25 rfl rfl (aI (s_4 (At.condF rfl (cG (aS (s_3 (aH fun _ s_5=>aB (bC rfl rfl (bG bT (.cons rfl .nil) (Fn.overJ (Ns:= [NS,NF]) fun J hJ=>FRootS (sp:=sp) (ma:=ma) (c:=0) (DF:=.map []) (l:= []) (M:= []) ⟨BS.le (hJ _ (by simp)),hF.le (hJ _ (by simp)),MapA.nilA,fun k v h=>by cases h⟩ (fun a=>rfl) List.nodup_nil (by decide)) Tryz.func10 rfl rfl (by simp) rfl ?_))))))))))))))
 rintro v9 L9 ⟨rfl,rfl⟩
 show At _ _ _ [NS,NF,NT,R] _
 rw [empty_root]
 refine bZ bT ze45 U (fun N2 b2 B2=>?_)
 change Blk N2 b2 _ [.int .u8 0,.int .u8 0,.int .u8 0,.int .u8 0,.int .u8 0,.int .u8 0,.int .u8 0,.int .u8 0,.int .u8 0,.int .u8 0,.int .u8 0,.int .u8 0,.int .u8 0,.int .u8 0,.int .u8 0,.int .u8 0,.int .u8 0,.int .u8 0,.int .u8 0,.int .u8 0,.int .u8 0,.int .u8 0,.int .u8 0,.int .u8 0,.int .u8 0,.int .u8 0,.int .u8 0,.int .u8 0,.int .u8 0,.int .u8 0,.int .u8 0,.int .u8 0]at B2
 refine bP nxQ sz45 U U U U U B2 (by decide) sel0 (fun N2 B2=>?_)
 change Blk N2 b2 _ (u8s z0S)at B2
 refine aI (s_5 (aH fun _ s_6=>aB (bC U U (At.empty (bS (bS (bS (bA (bA (bS (cR nxQ (.cons U .nil) (FMarkX (ms:= []) BS (Row.nil nilH _ _) (by decide) ⟨by decide,by decide⟩) (F:= [N2,NF,NT,R]) Tryz.func17 U U aZ (by simp) U ?_)))))))))))
 rintro v11 L11 ⟨NS,NKm,ak,ck,rfl,rfl,BS,rK⟩
 show At _ _ _ [NS,NKm,N2,NF,NT,R] _
 skip
 refine bV U U (aI (s_6 (aH fun _ s_7=>aB (bC U U (op_buildA (out:= [_,.int .u8 0,.int .u8 0,.int .u8 0,.int .u8 0,.int .u8 0,.int .u8 0,.int .u8 0,.int .u8 0,.int .u8 0,.int .u8 0,.int .u8 0,.int .u8 0,.int .u8 0,.int .u8 0,.int .u8 0,.int .u8 0,.int .u8 0,.int .u8 0,.int .u8 0]) aN ze33 ae33 (.cons U .nil) U U (op_buildA (out:= [_,.int .u64 0,.int .u64 0,.int .u64 0]) aN ze36 ae36 (.cons U .nil) U U (At.empty (aY (bA (bA (bI (aY (aY (aY (cR nxQ (.cons U (.cons U (.cons U .nil))) (FSetBalanceX (y:=7) (k:=k1S) BS (Row.nil nilH2 _ _) (by decide) hT MapA.nil hF MapA.nilA okAd_1 (by decide) (by decide) U) (F:= [NKm,N2,R]) Tryz.func16 U U aZ (by simp) U ?_)))))))))))))))
 rintro _ _ ⟨NS,NF,NT,NU,NX,NM,NJ,NK,NB,a2,cu,D,DT,xp,mx,p1,p2,p3,p4,q1,q2,q3,q4,b7,b6,rfl,rfl,h15⟩
 show At _ _ _ [NS,NF,NT,NU,NX,NM,NJ,NK,NB,NKm,N2,R] _
 have BS:=h15.S
 have hcl: ∀i,0≤i→i<3→UndoAt (WkP sp (stK ma mt mm mw md ws tr og 0 (.slice none 0 0) (.slice a2 3 cu) (.slice ak 1 ck) 1) ma mt xp mx k1S NJ NK NB) [cloV 92 [p1,p2,p3,p4],cloV 91 [q1,q2,q3,q4],cloV 56 [b7,b6]] i:=fun i _ hi=>by
  rcases i with _|_|_|i
  ·exact wk_0 okAd_1 h15.C1
  ·exact wk_1 okAd_1 h15.C2
  ·exact wk_2 h15.C3
  ·omega
 refine aI (s_7 (aH fun _ s_8=>aB (bC U U (bE (bE (bE (a6 (bM (bS (bE (bE (bE (bE (bE (bE (At.pack (As:= [NF,NT,NX,NJ,NK,NB]) (fun hANR=>?_)))))))))))))))))
 obtain⟨NR,eNR⟩: ∃N,N=joinL [NF,NT,NX,NJ,NK,NB]:=⟨_,rfl⟩
 rw [←eNR]
 refine op_buildA (out:= [_,.int .u8 0,.int .u8 0,.int .u8 0,.int .u8 0,.int .u8 0,.int .u8 0,.int .u8 0,.int .u8 0,.int .u8 0,.int .u8 0,.int .u8 0,.int .u8 0,.int .u8 0,.int .u8 0,.int .u8 0,.int .u8 0,.int .u8 0,.int .u8 0,.int .u8 0]) aN ze33 ae33 (.cons U .nil) U U ?_
 have hlN: ∀N∈ [NF,NT,NX,NJ,NK,NB],N.le NR:=by
  rw [eNR];exact fun N h=>le_joinL hANR h
 refine bG bT (.cons U (.cons U .nil)) (Fn.overJ (Ns:= [NS,NR]) fun J hJ=>FBalanceX (k:=k1S) (x:=AcS.z) (BS.le (hJ _ (by simp))) ((h15.F.le (hlN _ (by simp))).le (hJ _ (by simp))) h15.aF okAd_1 getA_putS ((h15.X.le (hlN _ (by simp))).le (hJ _ (by simp)))) Tryz.func34 U U (by simp) U ?_
 rintro _ _ ⟨rfl,rfl⟩
 show At _ _ _ [NR,NS,NU,NM,NKm,N2,R] _
 refine bZ bT ze36 U (fun N4 b4 B4=>?_)
 change Blk N4 b4 _ [.int .u64 0,.int .u64 0,.int .u64 0,.int .u64 0]at B4
 refine bP nxQ sz36 U U U U U B4 (by decide) sel0 (fun N4 B4=>?_)
 change Blk N4 b4 _ (u64s (wl 7))at B4
 refine aI (s_8 (aH fun _ s_9=>aB (op_idxA aN ae45 U U (show _=((0:Nat):Int)from U) (by omega) U (aU aN sc5 U B2 (by first|exact get8A (by omega)|rfl) mem6 U ?_))))
 refine op_eql aN U U U (bC U U (op_idxA (nxgf U U U U) ae45 U U (show _=((31:Nat):Int)from U) (by omega) U (aU (nxgf U U U U) sc5 U B2 (by first|exact get8A (by omega)|rfl) mem6 U ?_)))
 refine op_eql (nxgf U U U U) U U U (op_pickT aN U U U (bC U U (aK (ds:=u64s (wl 7)) (nxgf U U U U) ag36 U B4 (by rfl) (by rfl) cO U ?_)))
 refine op_buildA (out:= [_,.int .u64 0,.int .u64 0,.int .u64 0]) (nxgf U U U U) ze36 ae36 (.cons U .nil) U U (op_eqW (a:=wl 7) (b:=wl 7) (nxgf U U U U) ae36 Tryz.underlying34 (by kernel_rfl) U U U U U (op_pickT aN U U U (bC U U (aR (nxgf U U U U) U U (aR (nxgf U U U U) U U (bM (bM (bM (bM (bM (bS (aY (bM (cR (nxg U U U U) (.cons U (.cons U .nil)) (FBackT (P:=WkP sp (stK ma mt mm mw md ws tr og 0 (.slice none 0 0) (.slice a2 3 cu) (.slice ak 1 ck) 1) ma mt xp mx k1S NJ NK NB) (n:=3) (u0:=0) (ia:=0) (num:=0) (ms:= [(0,0)]) ⟨NF,NT,NX,D,DT,eNR,hANR,BS,h15.F,h15.aF,h15.T,h15.aT,h15.X⟩ (fun i NS NR ⟨_,_,_,_,_,_,_,h,_⟩=>⟨_,_,_,_,_,_,_,_,_,_,_,h⟩) h15.Uq.rsl rK.rsl U U U (by simp) (Nat.zero_le _) (by decide) hcl) (F:= [N4,NU,NM,NKm,N2,R]) Tryz.func18 U U aZ (by simp) U ?_))))))))))))))
 rintro _ _ ⟨NS0,NS,NR2,ma',mt',mm',mw',md',ws',tr',og',rf',lg',tl',rfl,rfl,hP0,BS0,BS2⟩
 show At _ _ _ [NS,NR2,N4,NU,NM,NKm,N2,R] _
 obtain⟨NF,NT,NX,D,DT,eN,hap,BSc,hF0,hA0,_⟩:=hP0;have em:ma'=ma:=by have e:=(List.cons.inj (blk_sameS BS0 BSc)).1;cases e;rfl
 refine op_pickT aN U U U (bC U U (aR (nxgf U U U U) U U (op_buildA (out:= [_,.int .u8 0,.int .u8 0,.int .u8 0,.int .u8 0,.int .u8 0,.int .u8 0,.int .u8 0,.int .u8 0,.int .u8 0,.int .u8 0,.int .u8 0,.int .u8 0,.int .u8 0,.int .u8 0,.int .u8 0,.int .u8 0,.int .u8 0,.int .u8 0,.int .u8 0]) (nxgf U U U U) ze33 ae33 (.cons U .nil) U U ?_)))
 refine bG (nxga U U U U) (.cons U (.cons U .nil)) (FExistsC BS2 (show MapV Tryz.prog 33 NR2 ma' 1 D from by rw [em,eN];exact hF0.le (le_joinL hap (by simp))) hA0 okAd_1 (b:=false) U) Tryz.func29 U U (by simp) U ?_
 rintro _ _ ⟨rfl,rfl⟩
 show At _ _ _ [NS,NR2,N4,NU,NM,NKm,N2,R] _
 refine op_not (nxgf U U U U) U U (op_pickT aN U U U (bV U U (aI (s_9 (cK ((dropAt6 (dropAt5 (dropAt4 (dropAt3 (dropAt2 (cT (dropAt0 (cF (L1:= []) U (.tmp U .nil) (.refl _) aZ ?_))))))))))))))
 exact⟨rfl,rfl⟩
def opF (p:OpM×(Option Addr×Nat)):List Value:=opC p.1 p.2.1 p.2.2
def KW9:Nat:=9+9*18446744073709551616
end Go.Proofs.YtalmjkcapecpiaaGreat
