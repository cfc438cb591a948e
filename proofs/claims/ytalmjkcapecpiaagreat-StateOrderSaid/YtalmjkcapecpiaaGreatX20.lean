/- Several texts in one: see the remarks ahead of each part. No condition but those told there. -/
import Derived.Test.YtalmjkcapecpiaaGreatX1
import Derived.Test.YtalmjkcapecpiaaGreatX19
import Derived.Test.YtalmjkcapecpiaaGreatX18
import Derived.Test.YtalmjkcapecpiaaGreatXA35
import Derived.Test.YtalmjkcapecpiaaGreatXKE8
set_option linter.unusedSimpArgs false
set_option linter.unusedVariables false
namespace Go.Proofs.YtalmjkcapecpiaaGreat
open Go Go.RowKit
set_option maxRecDepth 100000
theorem empty_root:acRoot (acC [])= [86,232,31,23,27,204,85,166,255,131,69,230,146,192,248,110,91,72,224,27,153,108,173,192,1,98,47,181,227,99,180,33]:=by
 have e:(nodeF 81 (prs [])).form= [128]:=by
  have:nodeF 81 (prs [])=itS []:=by simp [prs,nodeF]
  rw [this,itS,form_false]
  rfl
 rw [show acC []= [] by simp [acC,srtB],acRoot,acR,List.foldl_nil,rootM,e,k80]
set_option maxHeartbeats 1000000 in
theorem FBeginX {NS:Heaplet} {sp ma:Nat} {v1 v2 v3 v4 v5 v6 v7 v8 v9 v10 v11 v12:Value} (BS:Blk NS sp 85 [.map (some ma),v1,v2,v3,v4,v5,v6,v7,v8,v9,v10,v11,v12]):Fn Tryz.prog 49 #[.pointer (some ⟨sp,0,none⟩)] [NS] [] (fun v L=> ∃NS NT mt mm mw md ws tr og,v=.tuple #[]∧L= [NS,NT]∧Blk NS sp 85 (stK ma mt mm mw md ws tr og 0 (.slice none 0 0) (.slice none 0 0) (.slice none 0 0) 0)∧MapV Tryz.prog 33 NT mt 0 (.map [])):=by
 refine Fn.enter (vs:= [.pointer (some ⟨sp,0,none⟩)]) Tryz.func49 U U U ?_
 intro E R hR
 change At _ _ E [NS,R] _
 refine aA (bA U U (op_makeMapV 33 bQ U (fun N3 b3 M3=>op_makeMapV 33 bQ U (fun N4 b4 M4=>op_makeMapV 33 bQ U (fun N5 b5 M5=>op_makeMapV 33 bQ U (fun N6 b6 M6=>op_makeMapV 105 bQ U (fun N7 b7 M7=>op_makeMapV 105 bQ U (fun N8 b8 M8=>op_makeMapV 105 bQ U (fun N9 b9 M9=>op_build (out:= [_,_,_,_,_,_,_,.int .u64 0,.slice none 0 0,.slice none 0 0,.slice none 0 0,.int .i64 0]) aI ze83 pl83 (.cons U (.cons U (.cons U (.cons U (.cons U (.cons U (.cons U .nil))))))) U U (bI aI U U (aG aI fl85_1 U U (bJ nxQ sz83 U U U U U BS (by exact show 0+1+12≤13 by decide) sel7 (fun NS BS=>?_)))))))))))))
 change Blk NS sp _ (stK ma b3 b4 b5 b6 b7 b8 b9 0 (.slice none 0 0) (.slice none 0 0) (.slice none 0 0) 0)at BS
 refine bZ (dropAt6 (dropAt5 (dropAt4 (dropAt3 (dropAt2 (cQ (cR (L1:= [NS,N3]) U .nil U (.refl _) aV ?_)))))))
 exact⟨NS,N3,b3,b4,b5,b6,b7,b8,b9,rfl,rfl,BS,M3⟩
set_option maxHeartbeats 1000000 in
theorem FNewX:Fn Tryz.prog 12 #[] [] [] (fun v L=> ∃sp ma NS NF NT mt mm mw md ws tr og,v=.pointer (some ⟨sp,0,none⟩)∧L= [NS,NF,NT]∧Blk NS sp 85 (stK ma mt mm mw md ws tr og 0 (.slice none 0 0) (.slice none 0 0) (.slice none 0 0) 0)∧MapV Tryz.prog 33 NF ma 0 (.map [])∧MapV Tryz.prog 33 NT mt 0 (.map [])):=by
 refine Fn.enter (vs:= []) Tryz.func12 U U U ?_
 intro E R hR
 change At _ _ E [R] _
 refine aB fun _ s_1=>aA (bP U U (aC (s_1 (aB fun _ s_2=>aA (op_makeMapV 33 bQ U (fun N2 b2 M2=>op_build (out:= [_,.map none,.map none,.map none,.map none,.map none,.map none,.map none,.int .u64 0,.slice none 0 0,.slice none 0 0,.slice none 0 0,.int .i64 0]) aI ze85 pl85 (.cons U .nil) U U (cU bQ U U U (fun N4 b4 B4=>bP U U (aC (s_2 (aB fun _ s_3=>aA (bA U U (cL nxQ (.cons U .nil) (FBeginX B4) (F:= [N2,R]) Tryz.func49 U U aV (by simp) U ?_)))))))))))))
 rintro v6 L6 ⟨NS,NT,mt,mm,mw,md,ws,tr,og,rfl,rfl,BS,MT⟩
 show At _ _ _ [NS,NT,N2,R] _
 skip
 refine aC (s_3 (aB fun _ s_4=>aA (bA U U (bP U U (aC (s_4 (cI ((bE (bF (bE (bE (cC (L1:= [NS,N2,NT]) U (.tmp U .nil) (.refl _) aV ?_)))))))))))))
 exact⟨b4,b2,NS,N2,NT,mt,mm,mw,md,ws,tr,og,rfl,rfl,BS,M2,MT⟩
section
variable {K : Heaplet} {sp ma c : Nat} {D : DataW Value} {l : AcR} {cs : List Value} {k : List UInt8}
set_option maxHeartbeats 1000000 in
theorem FAtX (BS:Blk K sp 85 (.map (some ma)::cs)) (hM:MapV Tryz.prog 33 K ma c D) (hA:MapA keyA okAd ptrV D l) (hk:okAd k) {xp:Nat} {x:AcS} (hg:getA k l=some (xp,x)):Fn Tryz.prog 65 #[.pointer (some ⟨sp,0,none⟩),.agg (u8s k).toArray] [] [K] (fun v L=>v=.pointer (some ⟨xp,0,none⟩)∧L= []):=by
 have hul:=len_A hk
 have hlk:=ptr_look hA hk
 rw [hg]at hlk
 refine Fn.enter (vs:= [.pointer (some ⟨sp,0,none⟩),.agg (u8s k).toArray]) Tryz.func65 U U U ?_
 intro E R hR
 have hle:=hR K (by simp)
 have BR:=BS.le hle
 have hM:=hM.le hle
 change At _ _ E [R] _
 refine aB fun _ s_1=>aA (cU bQ U U U (fun N3 b3 B3=>bP U U (aC (s_1 (aB fun _ s_2=>aB fun _ s_3=>cO [N3,R] [5] [] [0,1,2,3,4,5,6] (by kernel_rfl) (by kernel_rfl) (.refl _) (aN (aY U U U) U U (bI (aY U U U) U U (aG (aY U U U) fl85_0 U U (a6 (aY U U U) sc74 U BR U mem1 U ?_)))))))))
 refine aJ (ds:=u8s k) (aY U U U) ag33 U B3 (by exact bV hul) (by exact hul) cT U ?_
 refine op_lookupV1 (Nx.agree (nxss U U U U)) kd33 Tryz.underlying74 (fun _=>by first|rfl|kernel_rfl) U U hM (keyA_spec hk) (hlk) (by simp) U ?_
 refine At.anyS (.refl _) (cW (aY U U U) U U (At.sNil (aS (s_3 (aB fun _ s_4=>aA (bA U U (op_nePO aI Tryz.underlying67 U U (aC (s_4 (At.condT U (aB fun _ s_5=>aA (bA U U (bP U U (aC (s_5 (cI (cX ((dropAt0 (cC (L1:= []) U (.tmp U .nil) (.refl _) aV ?_))))))))))))))))))))
 exact⟨rfl,rfl⟩
set_option maxHeartbeats 1000000 in
theorem FBalanceX (BS:Blk K sp 85 (.map (some ma)::cs)) (hM:MapV Tryz.prog 33 K ma c D) (hA:MapA keyA okAd ptrV D l) (hk:okAd k) {xp:Nat} {x:AcS} (hg:getA k l=some (xp,x)) {no:UInt64} {ba cn cc mx:Nat} {ca:Option Addr} (BX:Blk K xp 71 (acK no ba ca cn cc mx)):Fn Tryz.prog 34 #[.pointer (some ⟨sp,0,none⟩),.agg (u8s k).toArray] [] [K] (fun v L=>v=.agg (u64s (wl ba)).toArray∧L= []):=by
 have hul:=len_A hk
 unfold acK at BX
 refine Fn.enter (vs:= [.pointer (some ⟨sp,0,none⟩),.agg (u8s k).toArray]) Tryz.func34 U U U ?_
 intro E R hR
 have hle:=hR K (by simp)
 have BS:=BS.le hle
 have BX:=BX.le hle
 have hM:=hM.le hle
 change At _ _ E [R] _
 refine aB fun _ s_1=>aA (cU bQ U U U (fun N3 b3 B3=>bW bQ ze36 U (fun N4 b4 B4=>?_)))
 change Blk N4 b4 _ [.int .u64 0,.int .u64 0,.int .u64 0,.int .u64 0]at B4
 refine aC (s_1 (aB fun _ s_2=>aA (bA U U (aJ (ds:=u8s k) aI ag33 U B3 (by exact bV hul) (by exact hul) mem1 U ?_))))
 refine bM bQ (.cons U (.cons U .nil)) (FAtX BS hM hA hk hg) Tryz.func65 U U (by simp) U ?_
 rintro v7 L7 ⟨rfl,rfl⟩
 show At _ _ _ [N4,N3,R] _
 refine bI aI U U (aG aI fl71_1 U U (aJ (ds:=u64s (wl ba)) aI ag36 U BX (by rfl) (by rfl) mem2 U ?_))
 refine bJ nxQ sz36 U U U (cD ba) (one_wl ba) B4 (by rw [cD];decide) sel0 (fun N4 B4=>?_)
 rw [setL_full (by rw [cD];rfl)]at B4
 refine aC (s_2 (cI ((cQ (cC (L1:= []) U (.cell U (res_agg (ds:=u64s (wl ba)) ag36 B4 (bV (cD ba)) (cD ba) cT) .nil) (.cons _ (.refl _)) aV ?_)))))
 exact⟨rfl,rfl⟩
end
def WkP (sp:Nat) (cs:List Value) (ma mt xp mx:Nat) (k:List UInt8) (NJ NK NB:Heaplet) (i:Nat) (NS NR:Heaplet):Prop:=
 ∃NF NT NX D DT,NR=joinL [NF,NT,NX,NJ,NK,NB]∧ [NF,NT,NX,NJ,NK,NB].Pairwise Apart∧Blk NS sp 85 cs∧MapV Tryz.prog 33 NF ma 1 D∧MapA keyA okAd ptrV D (if 2≤i then [(k,(xp,AcS.z))]else [])∧MapV Tryz.prog 33 NT mt 1 DT∧MapA keyA okAd unitV DT (if 1≤i then [(k,())]else [])∧Blk NX xp 71 (acK 0 (if 3≤i then 7 else 0) none 0 0 mx)
theorem del_one {β:Type} {k:List UInt8} {v:β} :delA k [(k,v)]= []:=by simp [delA]
section
variable {sp ma mt xp mx p1 p2 p3 p4 q1 q2 q3 q4 b7 b6 : Nat} {cs : List Value} {k : List UInt8} {NJ NK NB : Heaplet}
theorem wk_2 (hC:CapB NB b7 b6 0 xp):UndoAt (WkP sp cs ma mt xp mx k NJ NK NB) [cloV 92 [p1,p2,p3,p4],cloV 91 [q1,q2,q3,q4],cloV 56 [b7,b6]] 2:=by
 refine⟨56,[.pointer (some ⟨b7,0,none⟩),.pointer (some ⟨b6,0,none⟩)],_,rfl,Tryz.func56,rfl,rfl,fun NS NR ⟨NF,NT,NX,D,DT,hNR,hap,BS,hF,hA,hT,hU,BX⟩=>?_⟩
 subst hNR
 have h:=(FUndoBal hC BX).mono (Post':=fun _ L=> ∃X,L= [X]∧Blk X xp 71 (acK 0 0 none 0 0 mx)) fun v L ⟨X,_,hL,hX⟩=>⟨X,hL,hX⟩
 exact(h.inJ (As:= [NF,NT]) (Bs:= [NJ,NK,NB]) (by simp) hap).mono fun v L ⟨X,hL,hap2,hX⟩=>⟨NS,_,hL,NF,NT,X,D,DT,rfl,hap2,BS,hF,hA,hT,hU,hX⟩
theorem wk_1 (hk:okAd k) (hC:CapU NK 74 67 q1 q2 q3 q4 ma k false [.pointer none]):UndoAt (WkP sp cs ma mt xp mx k NJ NK NB) [cloV 92 [p1,p2,p3,p4],cloV 91 [q1,q2,q3,q4],cloV 56 [b7,b6]] 1:=by
 refine⟨91,[.pointer (some ⟨q1,0,none⟩),.pointer (some ⟨q2,0,none⟩),.pointer (some ⟨q3,0,none⟩),.pointer (some ⟨q4,0,none⟩)],_,rfl,Tryz.func91,rfl,rfl,fun NS NR ⟨NF,NT,NX,D,DT,hNR,hap,BS,hF,hA,hT,hU,BX⟩=>?_⟩
 subst hNR
 have h:=(FUndoAP hC hF hA hk).mono (Post':=fun _ L=> ∃X,L= [X]∧ ∃D,MapV Tryz.prog 33 X ma 1 D∧MapA keyA okAd ptrV D []) fun v L ⟨X,D2,_,hL,hX,hY⟩=>⟨X,hL,D2,hX,by rw [if_pos (by decide),del_one]at hY;exact hY⟩
 exact(h.inJ (As:= []) (Bs:= [NT,NX,NJ,NK,NB]) (by simp) hap).mono fun v L ⟨X,hL,hap2,D2,hX,hY⟩=>⟨NS,_,hL,X,NT,NX,D2,DT,rfl,hap2,BS,hX,hY,hT,hU,BX⟩
theorem wk_0 (hk:okAd k) (hC:CapU NJ 75 115 p1 p2 p3 p4 mt k false []):UndoAt (WkP sp cs ma mt xp mx k NJ NK NB) [cloV 92 [p1,p2,p3,p4],cloV 91 [q1,q2,q3,q4],cloV 56 [b7,b6]] 0:=by
 refine⟨92,[.pointer (some ⟨p1,0,none⟩),.pointer (some ⟨p2,0,none⟩),.pointer (some ⟨p3,0,none⟩),.pointer (some ⟨p4,0,none⟩)],_,rfl,Tryz.func92,rfl,rfl,fun NS NR ⟨NF,NT,NX,D,DT,hNR,hap,BS,hF,hA,hT,hU,BX⟩=>?_⟩
 subst hNR
 have h:=(FUndoAU hC hT hU hk).mono (Post':=fun _ L=> ∃X,L= [X]∧ ∃D,MapV Tryz.prog 33 X mt 1 D∧MapA keyA okAd unitV D []) fun v L ⟨X,D2,_,hL,hX,hY⟩=>⟨X,hL,D2,hX,by rw [if_pos (by decide),del_one]at hY;exact hY⟩
 exact(h.inJ (As:= [NF]) (Bs:= [NX,NJ,NK,NB]) (by simp) hap).mono fun v L ⟨X,hL,hap2,D2,hX,hY⟩=>⟨NS,_,hL,NF,X,NX,D,D2,rfl,hap2,BS,hF,hA,hX,hY,BX⟩
end
def k1S:List UInt8:=1::List.replicate 19 0
theorem okAd_1:okAd k1S:=rfl
def z0S:List UInt8:= [86,232,31,23,27,204,85,166,255,131,69,230,146,192,248,110,91,72,224,27,153,108,173,192,1,98,47,181,227,99,180,33]
theorem blk_sameS {N:Heaplet} {b:Nat} {e:TypeId} {cs ds:List Value} (h:Blk N b e cs) (k:Blk N b e ds):cs=ds:=by
 unfold Blk at h k
 rw [h]at k
 simp only [Option.some.injEq,Obj.cells.injEq,and_true]at k
 exact List.toArray_inj k
theorem MapA.nilA:MapA keyA okAd ptrV (.map []) ([]:AcR):=MapA.nil
set_option maxHeartbeats 1000000 in
theorem SWakes_f:Fn Tryz.prog 7 #[] [] [] (fun v L=>v=.bool true∧L= []):=by
 have e7:u64s (wl 7)= [.int .u64 7,.int .u64 0,.int .u64 0,.int .u64 0]:=rfl
 refine Fn.enter (vs:= []) Tryz.func7 U U U ?_
 intro E R hR
 change At _ _ E [R] _
 refine aB fun _ s_1=>aA (bP U U (aC (s_1 (aB fun _ s_2=>aA (bM bQ .nil (FNewX) Tryz.func12 U U (by simp) U ?_)))))
 rintro v5 L5 ⟨sp,ma,NS,NF,NT,mt,mm,mw,md,ws,tr,og,rfl,rfl,BS,hF,hT⟩
 show At _ _ _ [NS,NF,NT,R] _
 refine bP rfl rfl (aC (s_2 (aB fun _ s_3=>aB fun _ s_4=>aA (bA rfl rfl (op_eqPt aI Tryz.underlying25 rfl rfl (aC (s_4 (At.condF rfl (bY (aS (s_3 (aB fun _ s_5=>aA (bA rfl rfl (bM bQ (.cons rfl .nil) (Fn.overJ (Ns:= [NS,NF]) fun J hJ=>FRootS (sp:=sp) (ma:=ma) (c:=0) (DF:=.map []) (l:= []) (M:= []) ⟨BS.le (hJ _ (by simp)),hF.le (hJ _ (by simp)),MapA.nilA,fun k v h=>by cases h⟩ (fun a=>rfl) List.nodup_nil (by decide)) Tryz.func10 rfl rfl (by simp) rfl ?_))))))))))))))
 rintro v9 L9 ⟨rfl,rfl⟩
 show At _ _ _ [NS,NF,NT,R] _
 rw [empty_root]
 refine bW bQ ze45 U (fun N2 b2 B2=>?_)
 change Blk N2 b2 _ [.int .u8 0,.int .u8 0,.int .u8 0,.int .u8 0,.int .u8 0,.int .u8 0,.int .u8 0,.int .u8 0,.int .u8 0,.int .u8 0,.int .u8 0,.int .u8 0,.int .u8 0,.int .u8 0,.int .u8 0,.int .u8 0,.int .u8 0,.int .u8 0,.int .u8 0,.int .u8 0,.int .u8 0,.int .u8 0,.int .u8 0,.int .u8 0,.int .u8 0,.int .u8 0,.int .u8 0,.int .u8 0,.int .u8 0,.int .u8 0,.int .u8 0,.int .u8 0]at B2
 refine bJ nxQ sz45 U U U U U B2 (by decide) sel0 (fun N2 B2=>?_)
 change Blk N2 b2 _ (u8s z0S)at B2
 refine aC (s_5 (aB fun _ s_6=>aA (bA U U (At.empty (cE (cE (cE (bD (bD (cE (cL nxQ (.cons U .nil) (FMarkX (ms:= []) BS (Row.nil nilH _ _) (by decide) ⟨by decide,by decide⟩) (F:= [N2,NF,NT,R]) Tryz.func17 U U aV (by simp) U ?_)))))))))))
 rintro v11 L11 ⟨NS,NKm,ak,ck,rfl,rfl,BS,rK⟩
 show At _ _ _ [NS,NKm,N2,NF,NT,R] _
 skip
 refine bP U U (aC (s_6 (aB fun _ s_7=>aA (bA U U (op_buildA (out:= [_,.int .u8 0,.int .u8 0,.int .u8 0,.int .u8 0,.int .u8 0,.int .u8 0,.int .u8 0,.int .u8 0,.int .u8 0,.int .u8 0,.int .u8 0,.int .u8 0,.int .u8 0,.int .u8 0,.int .u8 0,.int .u8 0,.int .u8 0,.int .u8 0,.int .u8 0]) aI ze33 ae33 (.cons U .nil) U U (op_buildA (out:= [_,.int .u64 0,.int .u64 0,.int .u64 0]) aI ze36 ae36 (.cons U .nil) U U (At.empty (bO (bD (bD (bE (bO (bO (bO (cL nxQ (.cons U (.cons U (.cons U .nil))) (FSetBalanceX (y:=7) (k:=k1S) BS (Row.nil nilH2 _ _) (by decide) hT MapA.nil hF MapA.nilA okAd_1 (by decide) (by decide) U) (F:= [NKm,N2,R]) Tryz.func16 U U aV (by simp) U ?_)))))))))))))))
 rintro _ _ ⟨NS,NF,NT,NU,NX,NM,NJ,NK,NB,a2,cu,D,DT,xp,mx,p1,p2,p3,p4,q1,q2,q3,q4,b7,b6,rfl,rfl,h15⟩
 show At _ _ _ [NS,NF,NT,NU,NX,NM,NJ,NK,NB,NKm,N2,R] _
 have BS:=h15.S
 have hcl: ∀i,0≤i→i<3→UndoAt (WkP sp (stK ma mt mm mw md ws tr og 0 (.slice none 0 0) (.slice a2 3 cu) (.slice ak 1 ck) 1) ma mt xp mx k1S NJ NK NB) [cloV 92 [p1,p2,p3,p4],cloV 91 [q1,q2,q3,q4],cloV 56 [b7,b6]] i:=fun i _ hi=>by
  rcases i with _|_|_|i
  ·exact wk_0 okAd_1 h15.C1
  ·exact wk_1 okAd_1 h15.C2
  ·exact wk_2 h15.C3
  ·omega
 refine aC (s_7 (aB fun _ s_8=>aA (bA U U (aZ (aZ (aZ (cH (cM (cE (aZ (aZ (aZ (aZ (aZ (aZ (At.pack (As:= [NF,NT,NX,NJ,NK,NB]) (fun hANR=>?_)))))))))))))))))
 obtain⟨NR,eNR⟩: ∃N,N=joinL [NF,NT,NX,NJ,NK,NB]:=⟨_,rfl⟩
 rw [←eNR]
 refine op_buildA (out:= [_,.int .u8 0,.int .u8 0,.int .u8 0,.int .u8 0,.int .u8 0,.int .u8 0,.int .u8 0,.int .u8 0,.int .u8 0,.int .u8 0,.int .u8 0,.int .u8 0,.int .u8 0,.int .u8 0,.int .u8 0,.int .u8 0,.int .u8 0,.int .u8 0,.int .u8 0]) aI ze33 ae33 (.cons U .nil) U U ?_
 have hlN: ∀N∈ [NF,NT,NX,NJ,NK,NB],N.le NR:=by
  rw [eNR];exact fun N h=>le_joinL hANR h
 refine bM bQ (.cons U (.cons U .nil)) (Fn.overJ (Ns:= [NS,NR]) fun J hJ=>FBalanceX (k:=k1S) (x:=AcS.z) (BS.le (hJ _ (by simp))) ((h15.F.le (hlN _ (by simp))).le (hJ _ (by simp))) h15.aF okAd_1 getA_putS ((h15.X.le (hlN _ (by simp))).le (hJ _ (by simp)))) Tryz.func34 U U (by simp) U ?_
 rintro _ _ ⟨rfl,rfl⟩
 show At _ _ _ [NR,NS,NU,NM,NKm,N2,R] _
 refine bW bQ ze36 U (fun N4 b4 B4=>?_)
 change Blk N4 b4 _ [.int .u64 0,.int .u64 0,.int .u64 0,.int .u64 0]at B4
 refine bJ nxQ sz36 U U U U U B4 (by decide) sel0 (fun N4 B4=>?_)
 change Blk N4 b4 _ (u64s (wl 7))at B4
 refine aC (s_8 (aB fun _ s_9=>aA (op_idxA aI ae45 U U (show _=((0:Nat):Int)from U) (by omega) U (a6 aI sc5 U B2 (by first|exact get8A (by omega)|rfl) mem6 U ?_))))
 refine op_eql aI U U U (bA U U (op_idxA (nxgf U U U U) ae45 U U (show _=((31:Nat):Int)from U) (by omega) U (a6 (nxgf U U U U) sc5 U B2 (by first|exact get8A (by omega)|rfl) mem6 U ?_)))
 refine op_eql (nxgf U U U U) U U U (op_pickT aI U U U (bA U U (aJ (ds:=u64s (wl 7)) (nxgf U U U U) ag36 U B4 (by rfl) (by rfl) cT U ?_)))
 refine op_buildA (out:= [_,.int .u64 0,.int .u64 0,.int .u64 0]) (nxgf U U U U) ze36 ae36 (.cons U .nil) U U (op_eqW (a:=wl 7) (b:=wl 7) (nxgf U U U U) ae36 Tryz.underlying34 (by kernel_rfl) U U U U U (op_pickT aI U U U (bA U U (aN (nxgf U U U U) U U (aN (nxgf U U U U) U U (cM (cM (cM (cM (cM (cE (bO (cM (cL (nxg U U U U) (.cons U (.cons U .nil)) (FBackT (P:=WkP sp (stK ma mt mm mw md ws tr og 0 (.slice none 0 0) (.slice a2 3 cu) (.slice ak 1 ck) 1) ma mt xp mx k1S NJ NK NB) (n:=3) (u0:=0) (ia:=0) (num:=0) (ms:= [(0,0)]) ⟨NF,NT,NX,D,DT,eNR,hANR,BS,h15.F,h15.aF,h15.T,h15.aT,h15.X⟩ (fun i NS NR ⟨_,_,_,_,_,_,_,h,_⟩=>⟨_,_,_,_,_,_,_,_,_,_,_,h⟩) h15.Uq.rsl rK.rsl U U U (by simp) (Nat.zero_le _) (by decide) hcl) (F:= [N4,NU,NM,NKm,N2,R]) Tryz.func18 U U aV (by simp) U ?_))))))))))))))
 rintro _ _ ⟨NS0,NS,NR2,ma',mt',mm',mw',md',ws',tr',og',rf',lg',tl',rfl,rfl,hP0,BS0,BS2⟩
 show At _ _ _ [NS,NR2,N4,NU,NM,NKm,N2,R] _
 obtain⟨NF,NT,NX,D,DT,eN,hap,BSc,hF0,hA0,_⟩:=hP0;have em:ma'=ma:=by have e:=(List.cons.inj (blk_sameS BS0 BSc)).1;cases e;rfl
 refine op_pickT aI U U U (bA U U (aN (nxgf U U U U) U U (op_buildA (out:= [_,.int .u8 0,.int .u8 0,.int .u8 0,.int .u8 0,.int .u8 0,.int .u8 0,.int .u8 0,.int .u8 0,.int .u8 0,.int .u8 0,.int .u8 0,.int .u8 0,.int .u8 0,.int .u8 0,.int .u8 0,.int .u8 0,.int .u8 0,.int .u8 0,.int .u8 0]) (nxgf U U U U) ze33 ae33 (.cons U .nil) U U ?_)))
 refine bM (nxga U U U U) (.cons U (.cons U .nil)) (FExistsC BS2 (show MapV Tryz.prog 33 NR2 ma' 1 D from by rw [em,eN];exact hF0.le (le_joinL hap (by simp))) hA0 okAd_1 (b:=false) U) Tryz.func29 U U (by simp) U ?_
 rintro _ _ ⟨rfl,rfl⟩
 show At _ _ _ [NS,NR2,N4,NU,NM,NKm,N2,R] _
 refine op_not (nxgf U U U U) U U (op_pickT aI U U U (bP U U (aC (s_9 (cI ((dropAt6 (dropAt5 (dropAt4 (dropAt3 (dropAt2 (cQ (dropAt0 (cC (L1:= []) U (.tmp U .nil) (.refl _) aV ?_))))))))))))))
 exact⟨rfl,rfl⟩
def opF (p:OpM×(Option Addr×Nat)):List Value:=opC p.1 p.2.1 p.2.2
def KW9:Nat:=9+9*18446744073709551616
theorem KW9_lt:KW9<WW:=by unfold KW9 WW;decide
theorem ints_at {ts:List Int} {i:Nat} {t:Int} (h:ts[i]? =some t):(ts.map fun t=>Value.int .i64 t)[i]? =some (.int .i64 t):=by rw [List.getElem?_map,h];rfl
theorem slots_fun {sl:List (Nat×Nat)} {q:Nat×Nat} {f:AcS→AcS} :(fun x=>slotsS (sl++ [q]) (f x))=fun x=>(slotsS sl (f x)).setSl q.1 q.2:=funext fun x=>slotsS_snoc
theorem mod_rng {t:Int} {n:Nat} (hn:0<n): -(n:Int)<Int.tmod t n∧Int.tmod t n<n:=
 ⟨Int.lt_tmod_of_pos t (by omega),Int.tmod_lt_of_pos t (by omega)⟩
theorem set_lens {ws:List (AcA×AcI)} {i:Nat} {q:AcA×AcI} (h: ∀y∈ws,(accC y).length=27) (hq:(accC q).length=27): ∀y∈ws.set i q,(accC y).length=27:=fun y hy=>by
 rcases List.mem_or_eq_of_mem_set hy with hy|hy
 ·exact h y hy
 ·rw [hy];exact hq
set_option maxHeartbeats 8000000 in
theorem StateOrder_f {K:Heaplet} {la oa ta:Option Addr} {ln lc on oc tn tc:Nat} {ws0:List (AcA×AcI)} {os:List (OpM×(Option Addr×Nat))} {ts:List Int} (hl:RSl K 27 la ln lc (ws0.flatMap accC)) (hln:ws0.length=ln) (hin: ∀p∈ws0,AccIn K p) (ho:RSl K 32 oa on oc (os.flatMap opF)) (hon:os.length=on) (hv: ∀p∈os,OpV K p.1 p.2.1 p.2.2) (ht:RSl K 1 ta tn tc (ts.map fun t=>Value.int .i64 t)) (htn:ts.length=tn):
 Fn Tryz.prog 3 #[.slice la ln lc,.slice oa on oc,.slice ta tn tc] [] [K] (fun v L=>v=.bool true∧L= []):=by
 have hoc:=ho.cap63
 have htc:=ht.cap63
 have hol: ∀y∈os,(opF y).length=32:=fun y hy=>opC_len (hv y hy).a
 refine Fn.enter (vs:= [.slice la ln lc,.slice oa on oc,.slice ta tn tc]) Tryz.func3 U U U ?_
 intro E R hR
 have hle:=hR K (by simp)
 have hl:=hl.le hle
 have hin: ∀p∈ws0,AccIn R p:=fun p hp=>(hin p hp).le hle
 have ho:=ho.le hle
 have hv: ∀p∈os,OpV R p.1 p.2.1 p.2.2:=fun p hp=>(hv p hp).le hle
 have ht:=ht.le hle
 change At _ _ E [R] _
 refine aB fun _ s_1=>aA (bP U U (aC (s_1 (aB fun _ s_2=>aA (bA U U (bM bQ (.cons U .nil) ((FTwinsS (NB:=R) (K:=R) hl hln hin)) Tryz.func6 U U (by simp) U ?_))))))
 rintro _ _ ⟨NB,NI,a0,n0,c0,rfl,rfl,wz,hz1,hz2,hz3,hz4⟩
 show At _ _ _ [NB,NI,R] _
 have hz6:n0≤30:=by(have e:=congrArg List.length hz3;rw [List.length_map,cutA,List.length_map,List.length_take]at e;omega)
 refine At.empty (cL nxQ (.cons U .nil) (NLoad (c:=30) hz1.rsl hz2 (fun p hp=>(hz4 p hp).mono (by decide)) hz6 (by decide)) (F:= [NB,NI,R]) Tryz.func5 U U aV (by simp) U ?_)
 rintro _ _ (⟨Np,hbad,rfl,rfl⟩|⟨Np,sp,hok,rfl,rfl,hS0⟩)
 ·show At _ _ _ [Np,NB,NI,R] _
  skip
  refine bA U U (bS aI U U U (bS aI U U U (bP U U (bP U U (aC (s_2 (aB fun _ s_3=>aB fun _ s_4=>aA (bA U U (op_eqPO aI Tryz.underlying25 U U (bA U U (op_skip U U U U U U U (op_skip U U U U U U U (op_pickT aI U U U (bA U U (op_skip U U U U U U U (op_skip U U U U U U U (op_pickT aI U U U (aC (s_4 (At.condT U (aB fun _ s_5=>aA (bA U U (op_eqPO aI Tryz.underlying25 U U (bA U U (aN (nxgf U U U U) U U (op_eql (nxgf U U U U) U U U (op_pickT aI U U U (bA U U (bM (nxga U U U U) .nil (SWakes_f) Tryz.func7 U U (by simp) U ?_)))))))))))))))))))))))))))))
  rintro _ _ ⟨rfl,rfl⟩
  show At _ _ _ [Np,NB,NI,R] _
  refine op_pickT aI U U U (bP U U (aC (s_5 (cI (cX ((dropAt2 (cQ (dropAt0 (cC (L1:= []) U (.tmp U .nil) (.refl _) aV ?_))))))))))
  exact⟨rfl,rfl⟩
 show At _ _ _ [Np,NB,NI,R] _
 refine bA U U (bS aI U U U (bS aI U U U (bP U U (bP U U (aC (s_2 (aB fun _ s_6=>aB fun _ s_7=>aA (bA U U (op_eqPO aI Tryz.underlying25 U U (bA U U (aN (nxgf U U U U) U U (op_neq (nxgf U U U U) U U U (op_pickF aI U U U (bA U U (bM (nxga U U U U) .nil (SWakes_f) Tryz.func7 U U (by simp) U ?_)))))))))))))))
 rintro _ _ ⟨rfl,rfl⟩
 show At _ _ _ [Np,NB,NI,R] _
 refine op_not (nxgf U U U U) U U (op_pickF aI U U U (aC (s_7 (At.condF U (bY (aS (s_6 (aB fun _ s_8=>At.meet (fun fr_ hp_=> ∃(N:Heaplet) (M:AcL),fr_= [(2,.slice ta tn tc),(7,.pointer (some ⟨sp,0,none⟩))]∧hp_= [N,R]∧(StN N sp 510 200000 M)∧(M.length≤150)) ?_ (fun K8_ jk_8=>?_)))))))))
 rotate_left
 ·skip
  refine aB fun _ s_9=>aA (bP U U (aC (s_9 (bR (dropAt2 (cQ ?_))))))
  refine At.loop (fun fr_ hp_ ms_=> ∃(i oc1:Nat) (N:Heaplet) (M:AcL),fr_= [(1,.slice oa on oc),(2,.slice ta tn tc),(7,.pointer (some ⟨sp,0,none⟩)),(9,.int .i64 (i:Int))]∧hp_= [N,R]∧on- i=ms_∧(i≤on)∧(i≤120)∧(StN N sp (30+4*i) oc1 M)∧(M.length≤30+i)∧(oc1≤1000*i)) ?_ aV ⟨0,0,Np,_,rfl,rfl,rfl,Nat.zero_le _,Nat.zero_le _,hS0,by rw [ofA,List.length_map,List.length_map];omega,Nat.le_refl _⟩ ?_
  ·repeat first|apply cS|exact .nil|exact lkI rfl (by omega)|rfl
  rintro _ _ _ ⟨i,oc1,N,M,rfl,rfl,rfl,hi,hi120,hS,hMl,hoc1⟩
  refine aB fun _ s_10=>aB fun _ s_11=>aA (bA U U (bA U U (cY aI se23 U U (op_lss aI U U U (bA U U (At.partP (d:=50) U (fun g50=>?_) (fun g50=>?_)))))))
  ·refine aN (nxgf U U U U) U U (op_lss (nxgf U U U U) U U U (op_pickT aI U U U (aC (s_11 (bT U (fun c53=>?_) (fun c53=>?_))))))
   ·have hlt:i<on∧i<120:=⟨by omega,by omega⟩
    obtain⟨q,hqi⟩: ∃q,os[i]? =some q:=⟨_,List.getElem?_eq_getElem (by omega)⟩
    have hq:=hv q (List.mem_of_getElem? hqi)
    have hql:=hol q (List.mem_of_getElem? hqi)
    refine bY (aS (s_10 (aB fun _ s_12=>bR (aA (bA U U (bA U U (bA U U (dA aI se23 U U ho (show _=(((i:Nat)):Int)from by omega) (by omega) U ?_))))))))
    refine op_loadAggE (ds:=opF q) aI ag39 U ho (by exact flat_atS opF hol hqi) (by exact hql) (by omega) (by simp) U ?_
    refine cL nxQ (.cons U (.cons U .nil)) ((FDoes hS hq (by omega) (by omega))) (F:= [R]) Tryz.func8 U U aV (by simp) U ?_
    rintro _ _ ⟨N2,M2,rfl,h2,q2⟩
    show At _ _ _ [N2,R] _
    refine bZ (bX (aS (s_12 (aA (bA U U (cV aI U U (by omega) (by omega) U (bP U U (aC (At.back ?_ aV ⟨i+1,oc1+(30+4*i)+4,N2,M2,rfl,rfl,rfl,by omega,by omega,h2,by omega,by omega⟩ ?_)))))))))
    ·repeat first|apply cS|exact .nil|exact lkI rfl (by omega)|rfl
    ·omega
   refine At.exit (bB (bB (cZ (aS (jk_8 ?_ aV ⟨N,M,rfl,rfl,hS.mono (by omega) (by omega),by omega⟩)))))
   repeat first|apply cS|exact .nil|exact lkI rfl (by omega)|rfl
  refine op_skip U U U U U U U (op_skip U U U U U U U (op_pickF aI U U U (aC (s_11 (At.condF U (At.exit (bB (bB (cZ (aS (jk_8 ?_ aV ⟨N,M,rfl,rfl,hS.mono (by omega) (by omega),by omega⟩)))))))))))
  repeat first|apply cS|exact .nil|exact lkI rfl (by omega)|rfl
 rintro _ _ ⟨N,M,rfl,rfl,hS,hMl⟩
 refine s_8 (aB fun _ s_13=>?_)
 have hG:=hS.good
 refine aA (bA U U (bM bQ (.cons U .nil) (NAlloc hS (by decide)) Tryz.func9 U U (by simp) U ?_))
 rintro _ _ ⟨NA,NAI,a1,n1,c1,rfl,rfl,ws1,hA1,hA2,hA3,hA4⟩
 show At _ _ _ [NA,NAI,N,R] _
 have hn1:n1≤150:=by(have e:=congrArg List.length hA3;rw [List.length_map,acC_lenM]at e;omega)
 have sA:=hA1.rsl
 have hcA:=sA.cap63
 obtain⟨z,hz⟩: ∃z,acRoot (acC M)=z:=⟨_,rfl⟩
 have hzl:z.length=32:=by rw [←hz];exact acRoot_len _
 refine bP U U (aC (s_13 (aB fun _ s_14=>aA (op_lit bQ Tryz.underlying22 ze43 sz43 .nil U U (by simp [Value.cells]) U U U (fun N64 a64 r64=>?_)))))
 simp only [flatV,List.flatMap_cons,List.flatMap_nil,Value.cells,List.append_nil,List.cons_append,List.nil_append]at r64
 have s64:=r64.rsl
 refine bA U U (op_append nxQ Tryz.underlying22 Tryz.underlying22 te43 U U r64 sA (by simp) accs_one (by omega) (by omega) sel0 U (fun N66 a66 p66 r66=>?_))
 have s66:=r66.rsl
 rw [List.nil_append]at r66
 rw [Nat.zero_add]at r66⊢
 refine bP U U (aC (s_14 (aB fun _ s_15=>aA (bA U U (cY aI se22 U U (bP U U (aC (s_15 (aB fun _ s_16=>At.meet (fun fr_ hp_=> ∃(ws:List (AcA×AcI)) (NB2:Heaplet),fr_= [(7,.pointer (some ⟨sp,0,none⟩)),(10,.slice a1 n1 c1),(11,.slice a66 n1 p66),(12,.int .i64 (n1:Int))]∧hp_= [NB2,NA,NAI,N,R]∧(Row NB2 43 27 a66 n1 p66 (ws.flatMap accC))∧(ws.Perm ws1)) ?_ (fun K16_ jk_16=>?_))))))))))
 rotate_left
 ·skip
  refine aB fun _ s_17=>aA (bP U U (aC (s_17 (bR (At.loop (fun fr_ hp_ ms_=> ∃(i:Nat) (ws:List (AcA×AcI)) (NB2:Heaplet),fr_= [(2,.slice ta tn tc),(7,.pointer (some ⟨sp,0,none⟩)),(10,.slice a1 n1 c1),(11,.slice a66 n1 p66),(12,.int .i64 (n1:Int)),(13,.int .i64 (i:Int))]∧hp_= [NB2,NA,NAI,N,R]∧202- i=ms_∧(i≤201)∧(Row NB2 43 27 a66 n1 p66 (ws.flatMap accC))∧(ws.Perm ws1)) ?_ aV ⟨0,ws1,N66,rfl,rfl,rfl,Nat.zero_le _,r66,.refl _⟩ ?_)))))
  ·repeat first|apply cS|exact .nil|exact lkI rfl (by omega)|rfl
  rintro _ _ _ ⟨i,ws,NB2,rfl,rfl,rfl,hi2,rB2,hp⟩
  refine aB fun _ s_18=>aB fun _ s_19=>aA (bA U U (cV aI U U (by omega) (by omega) U (bA U U (cY aI se24 U U (op_lss aI U U U (bA U U (At.partP (d:=74) U (fun g74=>?_) (fun g74=>?_))))))))
  ·refine aN (nxgf U U U U) U U (op_gtr (nxgf U U U U) U U U (op_pickT aI U U U (bA U U (At.partP (d:=78) U (fun g78=>?_) (fun g78=>?_)))))
   ·refine aN (nxgf U U U U) U U (op_lss (nxgf U U U U) U U U (op_pickT aI U U U (aC (s_19 (bT U (fun c81=>?_) (fun c81=>?_))))))
    ·have hlt:i+1<tn∧0<n1∧i<200:=⟨by omega,by omega,by omega⟩
     obtain⟨t1,ht1⟩: ∃t,ts[i]? =some t:=⟨_,List.getElem?_eq_getElem (by omega)⟩
     obtain⟨t2,ht2⟩: ∃t,ts[i+1]? =some t:=⟨_,List.getElem?_eq_getElem (by omega)⟩
     obtain⟨x,hx,ex⟩:=mod_place (t:=t1) hlt.2.1
     obtain⟨y,hy,ey⟩:=mod_place (t:=t2) hlt.2.1
     obtain⟨bx1,bx2⟩:=mod_rng (t:=t1) hlt.2.1
     obtain⟨by1,by2⟩:=mod_rng (t:=t2) hlt.2.1
     have hwl:ws.length=n1:=by rw [hp.length_eq,hA2]
     obtain⟨qx,hqx⟩: ∃q,ws[x]? =some q:=⟨_,List.getElem?_eq_getElem (by omega)⟩
     obtain⟨qy,hqy⟩: ∃q,ws[y]? =some q:=⟨_,List.getElem?_eq_getElem (by omega)⟩
     have hlB: ∀q∈ws,(accC q).length=27:=fun q hq=>accC_len (hA4 q (hp.mem_iff.1 hq)).ad
     have hlx:=hlB qx (List.mem_of_getElem? hqx)
     have hly:=hlB qy (List.mem_of_getElem? hqy)
     have sB:=rB2.rsl
     have hcB:=sB.cap63
     refine bY (aS (s_18 (aB fun _ s_20=>bR (aB fun _ s_21=>cO [R] [] [] [0,1,2,3,4,5,6,7,8,9,10,11,12,13,14,15,16,17,18,19,20,21,22] (by kernel_rfl) (by kernel_rfl) (.cons _ (.cons _ (.cons _ (.cons _ (.refl _))))) (aN (aY U U U) U U (aN (aY U U U) U U (op_idx1 (aY U U U) se24 U U ht (show _=(((i:Nat)):Int)from by omega) (by omega) U ?_)))))))
     refine op_loadE (aY U U U) sc3 U ht (by first|exact get8 (by omega)|exact get64 (by omega)|exact get32 (by omega)|exact ints_at ht1) (by simp) U ?_
     refine aN (aY U U U) U U (op_remT (aY U U U) U U (by omega) U (aN (aY U U U) U U (cV (aY U U U) U U (by omega) (by omega) U (aN (aY U U U) U U (op_remT (aY U U U) U U (by omega) U (aN (aY U U U) U U (aN (aY U U U) U U (cV (aY U U U) U U (by omega) (by omega) U (op_idx1 (aY U U U) se24 U U ht (show _=(((i+1:Nat)):Int)from by omega) (by omega) U ?_)))))))))
     refine op_loadE (aY U U U) sc3 U ht (by first|exact get8 (by omega)|exact get64 (by omega)|exact get32 (by omega)|exact ints_at ht2) (by simp) U ?_
     refine aN (aY U U U) U U (op_remT (aY U U U) U U (by omega) U (aN (aY U U U) U U (cV (aY U U U) U U (by omega) (by omega) U (aN (aY U U U) U U (op_remT (aY U U U) U U (by omega) U (cW (aY U U U) U U (cW (aY U U U) U U (At.sNil (aS (s_21 ?_))))))))))
     rw [ex,ey]
     refine bD (cK (bD (bD (bD (cO [NB2,R] [13,15] [2,3] [0,1,2,3,4,5,6,7,8,9,10,11,12,13,14,15] (by kernel_rfl) (by kernel_rfl) (.cons _ (.cons _ (.cons _ (.refl _)))) (aN (aY U U U) U U (aN (aY U U U) U U (aN (aY U U U) U U (aN (aY U U U) U U (aN (aY U U U) U U (aN (aY U U U) U U (dA (aY U U U) se22 U U sB (show _=(((y:Nat)):Int)from by omega) (by omega) U ?_))))))))))))
     refine op_loadAggE (ds:=accC qy) (aY U U U) ag43 U sB (by exact flat_atS accC hlB hqy) (by exact hly) (by omega) (by simp) U ?_
     refine aN (aY U U U) U U (aN (aY U U U) U U (dA (aY U U U) se22 U U sB (show _=(((x:Nat)):Int)from by omega) (by omega) U ?_))
     refine op_loadAggE (ds:=accC qx) (aY U U U) ag43 U sB (by exact flat_atS accC hlB hqx) (by exact hlx) (by omega) (by simp) U ?_
     refine dA (aY U U U) se22 U U sB (show _=(((x:Nat)):Int)from by omega) (by omega) U ?_
     refine op_storeE (nxss U U U U) sz43 U U U hly accC_one rB2 (by rw [hly,rB2.1];omega) (by rw [hly];decide) sel3 (fun NB2 rB2=>?_)
     rw [flat_setS accC hlB hly (by omega)]at rB2
     have sB2:=rB2.rsl
     refine At.anyS (.refl _) (dA (aY U U U) se22 U U sB (show _=(((y:Nat)):Int)from by omega) (by omega) U ?_)
     refine op_storeE (nxsl U U U U) sz43 U U U hlx accC_one rB2 (by rw [hlx,rB2.1];omega) (by rw [hlx];decide) sel0 (fun NB2 rB2=>?_)
     rw [flat_setS accC (set_lens hlB hly) hlx (by rw [List.length_set];omega)]at rB2
     have sB2:=rB2.rsl
     refine At.sNil (bX (aS (s_20 (aA (bA U U (cV aI U U (by omega) (by omega) U (bP U U (aC (At.back ?_ aV ⟨i+2,(ws.set x qy).set y qx,NB2,rfl,rfl,rfl,by omega,rB2,(swap_perm hqx hqy).trans hp⟩ ?_)))))))))
     ·repeat first|apply cS|exact .nil|exact lkI rfl (by omega)|rfl
     ·omega
    refine At.exit (bB (bB (cZ (aS (jk_16 ?_ aV ⟨ws,NB2,rfl,rfl,rB2,hp⟩)))))
    repeat first|apply cS|exact .nil|exact lkI rfl (by omega)|rfl
   refine op_skip U U U U U U U (op_skip U U U U U U U (op_pickF aI U U U (aC (s_19 (At.condF U (At.exit (bB (bB (cZ (aS (jk_16 ?_ aV ⟨ws,NB2,rfl,rfl,rB2,hp⟩)))))))))))
   repeat first|apply cS|exact .nil|exact lkI rfl (by omega)|rfl
  refine op_skip U U U U U U U (op_skip U U U U U U U (op_pickF aI U U U (bA U U (op_skip U U U U U U U (op_skip U U U U U U U (op_pickF aI U U U (aC (s_19 (At.condF U (At.exit (bB (bB (cZ (aS (jk_16 ?_ aV ⟨ws,NB2,rfl,rfl,rB2,hp⟩)))))))))))))))
  repeat first|apply cS|exact .nil|exact lkI rfl (by omega)|rfl
 rintro _ _ ⟨ws,NB2,rfl,rfl,rB2,hp⟩
 refine s_16 (aB fun _ s_22=>?_)
 have sB:=rB2.rsl
 have hcB:=sB.cap63
 have hwl:ws.length=n1:=by rw [hp.length_eq,hA2]
 have hwr: ∀q∈ws,AccRd NAI 510 q:=fun q hq=>hA4 q (hp.mem_iff.1 hq)
 have hlB: ∀q∈ws,(accC q).length=27:=fun q hq=>accC_len (hwr q hq).ad
 have hbp:(ws.map Prod.fst).Perm (acC M):=by rw [←hA3];exact hp.map _
 obtain⟨hok2,hsame⟩:=load_same hG hbp
 have hwr2:=write_sameC hG hbp KW9
 refine aA (bA U U (At.empty (cL nxQ (.cons U .nil) (NLoad (c:=510) sB hwl hwr (by omega) (by decide)) (F:= [NB2,NA,NAI,N,R]) Tryz.func5 U U aV (by simp) U ?_)))
 rintro _ _ (⟨Nx,hbad2,rfl,rfl⟩|⟨Nq,sq,hok3,rfl,rfl,hSq⟩)
 ·show At _ _ _ [Nx,NB2,NA,NAI,N,R] _
  skip
  refine bA U U (bS aI U U U (bS aI U U U (bP U U (bP U U (aC (s_22 (aB fun _ s_23=>aB fun _ s_24=>aA (bA U U (op_eqPO aI Tryz.underlying25 U U (bA U U (op_skip U U U U U U U (op_skip U U U U U U U (op_pickT aI U U U (bA U U (op_skip U U U U U U U (op_skip U U U U U U U (op_skip U U U U U U U (op_skip U U U U U U U (op_skip U U U U U U U (op_pickT aI U U U (bA U U (op_skip U U U U U U U (op_skip U U U U U U U (op_skip U U U U U U U (op_skip U U U U U U U (op_skip U U U U U U U (op_pickT aI U U U (aC (s_24 (At.condT U (aB fun _ s_25=>aA (bP U U (aC (s_25 (cI (cX ((dropAt4 (dropAt3 (dropAt2 (cQ (dropAt0 (cC (L1:= []) U (.tmp U .nil) (.refl _) aV ?_)))))))))))))))))))))))))))))))))))))))))))
  exact absurd hok2 hbad2
 show At _ _ _ [Nq,NB2,NA,NAI,N,R] _
 refine bA U U (bS aI U U U (bS aI U U U (bP U U (bP U U (aC (s_22 (aB fun _ s_26=>aB fun _ s_27=>aA (bA U U (op_eqPO aI Tryz.underlying25 U U (bA U U (aN (nxgf U U U U) U U (op_neq (nxgf U U U U) U U U (op_pickF aI U U U (bA U U (aN (nxgf U U U U) U U (bM (nxga U U U U) (.cons U .nil) (NRoot hSq (by decide)) Tryz.func10 U U (by simp) U ?_))))))))))))))))
 rintro _ _ ⟨rfl,rfl⟩
 show At _ _ _ [Nq,NB2,NA,NAI,N,R] _
 rw [hsame,hz]
 refine aN (nxgf U U U U) U U (bM (nxga U U U U) (.cons U .nil) (NRoot hS (by decide)) Tryz.func10 U U (by simp) U ?_)
 rintro _ _ ⟨rfl,rfl⟩
 show At _ _ _ [Nq,NB2,NA,NAI,N,R] _
 rw [hz]
 refine op_neW8 (a:=z) (b:=z) (nxgf U U U U) ae45 Tryz.underlying5 (by kernel_rfl) U U hzl hzl U (op_pickF aI U U U (bA U U (At.partP (d:=137) U (fun g137=>?_) (fun g137=>?_))))
 ·exact absurd U g137
 refine aN (nxgf U U U U) U U (bM (nxga U U U U) (.cons U .nil) (NAlloc hSq (by decide)) Tryz.func9 U U (by simp) U ?_)
 rintro _ _ ⟨NC,NCI,a2,n2,c2,rfl,rfl,wq,hQ1,hQ2,hQ3,hQ4⟩
 show At _ _ _ [NC,NCI,Nq,NB2,NA,NAI,N,R] _
 have e21:n2=n1:=by(have e:=congrArg List.length hQ3;have e':=congrArg List.length hA3;rw [List.length_map,hsame]at e;rw [List.length_map]at e';omega)
 subst e21
 refine aN (nxgf U U U U) U U (bM (nxga U U U U) (.cons U (.cons U .nil)) (FSame hQ1.rsl hA1.rsl hQ2 (by rw [hA3,hQ3,hsame]) (fun p hp=>(hQ4 p hp).inn) (fun p hp=>(hA4 p hp).inn)) Tryz.func11 U U (by simp) U ?_)
 rintro _ _ ⟨rfl,rfl⟩
 show At _ _ _ [NC,NCI,Nq,NB2,NA,NAI,N,R] _
 refine op_not (nxgf U U U U) U U (op_pickF aI U U U (aC (s_27 (At.condF U (bY (aS (s_26 (aB fun _ s_28=>aA (At.empty (cL nxQ .nil (NNew) (F:= [NC,NCI,Nq,NB2,NA,NAI,N,R]) Tryz.func12 U U aV (by simp) U ?_))))))))))
 rintro _ _ ⟨su,Nu,rfl,rfl,hSu⟩
 show At _ _ _ [Nu,NC,NCI,Nq,NB2,NA,NAI,N,R] _
 skip
 refine bP U U (aC (s_28 (aB fun _ s_29=>aB fun _ s_30=>aA (bP U U (aC (s_30 (bR (dropAt5 (dropAt3 (dropAt2 (cQ (At.loop (fun fr_ hp_ ms_=> ∃(i cu ou:Nat) (Nu:Heaplet),fr_= [(7,.pointer (some ⟨sp,0,none⟩)),(11,.slice a66 n2 p66),(12,.int .i64 (n2:Int)),(18,.pointer (some ⟨su,0,none⟩)),(19,.int .i64 (i:Int))]∧hp_= [Nu,NB2,NAI,N,R]∧n2- i=ms_∧(i≤n2)∧(StN Nu su cu ou (writeL KW9 ((ws.map Prod.fst).take i) []))∧(cu≤2500*i)∧(ou≤1000000000*i)) ?_ aV ⟨0,0,0,Nu,rfl,rfl,rfl,Nat.zero_le _,hSu,Nat.le_refl _,Nat.le_refl _⟩ ?_))))))))))))
 ·repeat first|apply cS|exact .nil|exact lkI rfl (by omega)|rfl
 rintro _ _ _ ⟨i,cu,ou,Nu,rfl,rfl,rfl,hi,hU,hcu,hou⟩
 refine aB fun _ s_31=>aB fun _ s_32=>aA (bA U U (bA U U (op_lss aI U U U (aC (s_32 (bT U (fun c147=>?_) (fun c147=>?_)))))))
 ·obtain⟨q,hqi⟩: ∃q,ws[i]? =some q:=⟨_,List.getElem?_eq_getElem (by omega)⟩
  obtain⟨w,ii⟩:=q
  have hw:=hwr _ (List.mem_of_getElem? hqi)
  have hbi:(ws.map Prod.fst)[i]? =some w:=by rw [List.getElem?_map,hqi];rfl
  have had:w.ad.length=20:=hw.ad
  have hkl:=len_A (k:=w.ad) had
  have hwb:w.ba<WW:=hw.ba
  have hcl:w.co.length≤1099511627776:=hw.cl
  have hln:w.sl.length≤510:=hw.ln
  have hsl:RSl NAI 8 ii.sa w.sl.length ii.sc (w.sl.flatMap slotC):=hw.sl
  have hscp:=hsl.cap63
  have hkv: ∀q∈w.sl,q.1<WW∧q.2<WW:=hw.kv
  have hia:a66.isSome=true:=sB.isSome (by omega)
  have cA:(accC (w,ii))[25]? =some (.slice ii.ca w.co.length ii.cc):=accC_co had
  have tA:(accC (w,ii))[26]? =some (.slice ii.sa w.sl.length ii.sc):=accC_sl had
  have oA:(accC (w,ii))[20]? =some (.int .u64 (w.no.toNat:Int)):=acP_no had
  obtain⟨M0,hM0⟩: ∃M0,writeL KW9 ((ws.map Prod.fst).take i) []=M0:=⟨_,rfl⟩
  rw [hM0]at hU
  refine bY (aS (s_31 (aB fun _ s_33=>bR (aB fun _ s_34=>cK (bD (bD (bD (bD (cO [NB2] [12] [] [0,1,2,3,4,5,6,7,8,9,10,11,12] (by kernel_rfl) (by kernel_rfl) (.cons _ (.cons _ (.cons _ (.cons _ (.refl _))))) (aN (aY U U U) U U (aN (aY U U U) U U (aN (aY U U U) U U (dA (aY U U U) se22 U U sB (show _=(((i:Nat)):Int)from by omega) (by omega) U ?_)))))))))))))
  refine cG (aY U U U) fl43_0 U (by first|rfl|assumption) U ?_
  refine op_loadAggE (ds:=u8s w.ad) (aY U U U) ag33 U sB (by exact(flat_partA hlB hqi (by decide)).trans (accC_ad had)) (by exact hkl) (by omega) (by simp) U ?_
  refine aN (aY U U U) U U (aN (aY U U U) U U (dA (aY U U U) se22 U U sB (show _=(((i:Nat)):Int)from by omega) (by omega) U ?_))
  refine cG (aY U U U) fl43_1 U (by first|rfl|assumption) U ?_
  refine op_loadE (aY U U U) sc34 U sB (by first|exact get8 (by omega)|exact get64 (by omega)|exact get32 (by omega)|exact(flat_part hlB hqi (by decide)).trans oA) (by simp) U ?_
  refine op_addU (b:=1) (aY U U U) U U U (cL (nxsl U U U U) (.cons U (.cons U (.cons U .nil))) (NNonce (y:=w.no+1) hU had (by omega) (by omega)) (F:= [NAI,N,R,NB2]) Tryz.func13 U U aV (by simp) U ?_)
  rintro _ _ ⟨Nu,rfl,hU⟩
  show At _ _ _ [Nu,NAI,N,R,NB2] _
  refine At.sNil (aS (s_34 (aB fun _ s_35=>aA (bA U U (bA U U (bA U U (dA aI se22 U U sB (show _=(((i:Nat)):Int)from by omega) (by omega) U ?_)))))))
  refine cG aI fl43_0 U (by first|rfl|assumption) U ?_
  refine op_loadAggE (ds:=u8s w.ad) aI ag33 U sB (by exact(flat_partA hlB hqi (by decide)).trans (accC_ad had)) (by exact hkl) (by omega) (by simp) U ?_
  refine op_buildA (out:= [_,_,.int .u64 0,.int .u64 0]) aI ze36 ae36 (.cons U (.cons U .nil)) U U (op_buildA (out:= [_,.int .u64 0,.int .u64 0,.int .u64 0]) aI ze36 ae36 (.cons U .nil) U U (cL nxQ (.cons U (.cons U (.cons U (.cons U .nil)))) (NSlot (x:=KW9) (y:=1) hU ⟨had,KW9_lt⟩ (by decide) (by omega) (by omega)) (F:= [NAI,N,R,NB2]) Tryz.func14 U U aV (by simp) U ?_))
  rintro _ _ ⟨Nu,rfl,hU⟩
  show At _ _ _ [Nu,NAI,N,R,NB2] _
  refine aC (s_35 (aB fun _ s_36=>aA (bA U U (bA U U (bA U U (dA aI se22 U U sB (show _=(((i:Nat)):Int)from by omega) (by omega) U ?_))))))
  refine cG aI fl43_0 U (by first|rfl|assumption) U ?_
  refine op_loadAggE (ds:=u8s w.ad) aI ag33 U sB (by exact(flat_partA hlB hqi (by decide)).trans (accC_ad had)) (by exact hkl) (by omega) (by simp) U ?_
  refine op_buildA (out:= [_,_,.int .u64 0,.int .u64 0]) aI ze36 ae36 (.cons U (.cons U .nil)) U U (op_buildA (out:= [.int .u64 0,.int .u64 0,.int .u64 0,.int .u64 0]) aI ze36 ae36 .nil U U (cL nxQ (.cons U (.cons U (.cons U (.cons U .nil)))) (NSlot (x:=KW9) (y:=0) hU ⟨had,KW9_lt⟩ (by decide) (by omega) (by omega)) (F:= [NAI,N,R,NB2]) Tryz.func14 U U aV (by simp) U ?_))
  rintro _ _ ⟨Nu,rfl,hU⟩
  show At _ _ _ [Nu,NAI,N,R,NB2] _
  rw [turn_turn,turn_turn]at hU
  refine aC (s_36 (aB fun _ s_37=>aB fun _ s_38=>aA (bP U U (aC (s_38 (bR ?_))))))
  obtain⟨c4,o4,hc4,ho4,hU⟩: ∃c4 o4,c4≤2500*i+12∧o4≤1000000000*i+4000000∧StN Nu su c4 o4 (turnA w.ad (fun x=>slotsS (w.sl.take 0) (((x.setNo (w.no+1)).setSl KW9 1).setSl KW9 0)) M0):=⟨_,_,by omega,by omega,hU⟩
  refine bE (bE (bE (bD (bD (At.loop (fun fr_ hp_ ms_=> ∃(k cv ov:Nat) (Nu:Heaplet),fr_= [(7,.pointer (some ⟨sp,0,none⟩)),(11,.slice a66 n2 p66),(12,.int .i64 (n2:Int)),(18,.pointer (some ⟨su,0,none⟩)),(19,.int .i64 (i:Int)),(20,.int .i64 (k:Int))]∧hp_= [Nu,NB2,NAI,N,R]∧w.sl.length- k=ms_∧(k≤w.sl.length)∧(StN Nu su cv ov (turnA w.ad (fun x=>slotsS (w.sl.take k) (((x.setNo (w.no+1)).setSl KW9 1).setSl KW9 0)) M0))∧(cv≤2500*i+12+4*k)∧(ov≤1000000000*i+4000000+1000000*k)) ?_ aV ⟨0,c4,o4,Nu,rfl,rfl,rfl,Nat.zero_le _,hU,by omega,by omega⟩ ?_)))))
  ·repeat first|apply cS|exact .nil|exact lkI rfl (by omega)|rfl
  rintro _ _ _ ⟨k,cv,ov,Nu,rfl,rfl,rfl,hk,hU,hcv,hov⟩
  refine aB fun _ s_39=>aB fun _ s_40=>aA (bA U U (bA U U (bA U U (dA aI se22 U U sB (show _=(((i:Nat)):Int)from by omega) (by omega) U ?_))))
  refine cG aI fl43_4 U (by first|rfl|assumption) U ?_
  refine op_loadE aI sc41 U sB (by first|exact get8 (by omega)|exact get64 (by omega)|exact get32 (by omega)|exact(flat_part hlB hqi (by decide)).trans tA) (by simp) U ?_
  refine cY aI se41 U U (op_lss aI U U U (aC (s_40 (bT U (fun c188=>?_) (fun c188=>?_)))))
  ·obtain⟨s,hsk⟩: ∃s,w.sl[k]? =some s:=⟨_,List.getElem?_eq_getElem (by omega)⟩
   have hks:=hkv s (List.mem_of_getElem? hsk)
   have gA: ∀q∈w.sl,(slotC q).length=8:=fun q _=>slotC_len q
   have hpl:okPl (w.ad,s.1):=⟨had,hks.1⟩
   have his:ii.sa.isSome=true:=hsl.isSome (by omega)
   refine bY (aS (s_39 (aB fun _ s_41=>bR (bF (bF (bD (bD (bD (cO [NB2,NAI] [24] [] [0,1,2,3,4,5,6,7,8,9,10,11,12,13,14,15,16,17,18,19,20,21,22,23,24] (by kernel_rfl) (by kernel_rfl) (.cons _ (.cons _ (.cons _ (.refl _)))) (aN (aY U U U) U U (aN (aY U U U) U U (aN (aY U U U) U U (dA (aY U U U) se22 U U sB (show _=(((i:Nat)):Int)from by omega) (by omega) U ?_)))))))))))))
   refine cG (aY U U U) fl43_0 U (by first|rfl|assumption) U ?_
   refine op_loadAggE (ds:=u8s w.ad) (aY U U U) ag33 U sB (by exact(flat_partA hlB hqi (by decide)).trans (accC_ad had)) (by exact hkl) (by omega) (by simp) U ?_
   refine aN (aY U U U) U U (aN (aY U U U) U U (dA (aY U U U) se22 U U sB (show _=(((i:Nat)):Int)from by omega) (by omega) U ?_))
   refine cG (aY U U U) fl43_4 U (by first|rfl|assumption) U ?_
   refine op_loadE (aY U U U) sc41 U sB (by first|exact get8 (by omega)|exact get64 (by omega)|exact get32 (by omega)|exact(flat_part hlB hqi (by decide)).trans tA) (by simp) U ?_
   refine aN (aY U U U) U U (dA (aY U U U) se41 U U hsl (show _=(((k:Nat)):Int)from by omega) (by omega) U ?_)
   refine cG (aY U U U) fl52_0 U (by first|rfl|assumption) U ?_
   refine op_loadAggE (ds:=u64s (wl s.1)) (aY U U U) ag36 U hsl (by exact(flat_partA gA hsk (by decide)).trans U) (by exact cD _) (by omega) (by simp) U ?_
   refine aN (aY U U U) U U (aN (aY U U U) U U (dA (aY U U U) se22 U U sB (show _=(((i:Nat)):Int)from by omega) (by omega) U ?_))
   refine cG (aY U U U) fl43_4 U (by first|rfl|assumption) U ?_
   refine op_loadE (aY U U U) sc41 U sB (by first|exact get8 (by omega)|exact get64 (by omega)|exact get32 (by omega)|exact(flat_part hlB hqi (by decide)).trans tA) (by simp) U ?_
   refine aN (aY U U U) U U (dA (aY U U U) se41 U U hsl (show _=(((k:Nat)):Int)from by omega) (by omega) U ?_)
   refine cG (aY U U U) fl52_1 U (by first|rfl|assumption) U ?_
   refine op_loadAggE (ds:=u64s (wl s.2)) (aY U U U) ag36 U hsl (by exact(flat_partA gA hsk (by decide)).trans U) (by exact cD _) (by omega) (by simp) U ?_
   refine cL (nxsl U U U U) (.cons U (.cons U (.cons U (.cons U .nil)))) (NSlot (x:=s.1) (y:=s.2) hU hpl hks.2 (by omega) (by omega)) (F:= [N,R,NB2,NAI]) Tryz.func14 U U aV (by simp) U ?_
   rintro _ _ ⟨Nu,rfl,hU⟩
   show At _ _ _ [Nu,N,R,NB2,NAI] _
   rw [turn_turn]at hU
   refine At.sNil (bX (aS (s_41 (aA (bA U U (cV aI U U (by omega) (by omega) U (bP U U (aC (bF (bF (bD (bD (bD ?_)))))))))))))
   refine At.back ?_ aV ⟨k+1,cv+4,ov+cv+4,Nu,rfl,rfl,rfl,by omega,by rw [take_nextS hsk,slots_fun];exact hU,by omega,by omega⟩ ?_
   ·repeat first|apply cS|exact .nil|exact lkI rfl (by omega)|rfl
   ·omega
  refine At.exit (bB (bB (cZ (aS (s_37 (aB fun _ s_42=>?_))))))
  have hkk:k=w.sl.length:=by omega
  rw [hkk,List.take_length]at hU
  refine cK (bD (bD (bD (bD (cO [NB2] [11] [] [0,1,2,3,4,5,6,7,8,9,10,11] (by kernel_rfl) (by kernel_rfl) (.cons _ (.cons _ (.cons _ (.cons _ (.refl _))))) (aN (aY U U U) U U (aN (aY U U U) U U (aN (aY U U U) U U (dA (aY U U U) se22 U U sB (show _=(((i:Nat)):Int)from by omega) (by omega) U ?_)))))))))
  refine cG (aY U U U) fl43_0 U (by first|rfl|assumption) U ?_
  refine op_loadAggE (ds:=u8s w.ad) (aY U U U) ag33 U sB (by exact(flat_partA hlB hqi (by decide)).trans (accC_ad had)) (by exact hkl) (by omega) (by simp) U ?_
  refine aN (aY U U U) U U (aN (aY U U U) U U (dA (aY U U U) se22 U U sB (show _=(((i:Nat)):Int)from by omega) (by omega) U ?_))
  refine cG (aY U U U) fl43_3 U (by first|rfl|assumption) U ?_
  refine op_loadE (aY U U U) sc37 U sB (by first|exact get8 (by omega)|exact get64 (by omega)|exact get32 (by omega)|exact(flat_part hlB hqi (by decide)).trans cA) (by simp) U ?_
  refine cL (nxsl U U U U) (.cons U (.cons U (.cons U .nil))) (NCode hU had hw.co hcl (by omega) (by omega)) (F:= [NAI,N,R,NB2]) Tryz.func15 U U aV (by simp) U ?_
  rintro _ _ ⟨Nu,rfl,hU⟩
  show At _ _ _ [Nu,NAI,N,R,NB2] _
  refine At.sNil (aS (s_42 (aB fun _ s_43=>cO [NB2] [11] [] [0,1,2,3,4,5,6,7,8,9,10,11] (by kernel_rfl) (by kernel_rfl) (.cons _ (.cons _ (.cons _ (.cons _ (.refl _))))) (aN (aY U U U) U U (aN (aY U U U) U U (aN (aY U U U) U U (dA (aY U U U) se22 U U sB (show _=(((i:Nat)):Int)from by omega) (by omega) U ?_)))))))
  refine cG (aY U U U) fl43_0 U (by first|rfl|assumption) U ?_
  refine op_loadAggE (ds:=u8s w.ad) (aY U U U) ag33 U sB (by exact(flat_partA hlB hqi (by decide)).trans (accC_ad had)) (by exact hkl) (by omega) (by simp) U ?_
  refine aN (aY U U U) U U (aN (aY U U U) U U (dA (aY U U U) se22 U U sB (show _=(((i:Nat)):Int)from by omega) (by omega) U ?_))
  refine cG (aY U U U) fl43_2 U (by first|rfl|assumption) U ?_
  refine op_loadAggE (ds:=u64s (wl w.ba)) (aY U U U) ag36 U sB (by exact(flat_partA hlB hqi (by decide)).trans (accC_ba had)) (by exact cD _) (by omega) (by simp) U ?_
  refine cL (nxsl U U U U) (.cons U (.cons U (.cons U .nil))) (NBal hU had hwb (by omega) (by omega)) (F:= [NAI,N,R,NB2]) Tryz.func16 U U aV (by simp) U ?_
  rintro _ _ ⟨Nu,rfl,hU⟩
  show At _ _ _ [Nu,NAI,N,R,NB2] _
  refine At.sNil (aS (s_43 (cO [NB2] [11] [] [0,1,2,3,4,5,6,7,8,9,10,11] (by kernel_rfl) (by kernel_rfl) (.cons _ (.cons _ (.cons _ (.cons _ (.refl _))))) (aN (aY U U U) U U (aN (aY U U U) U U (aN (aY U U U) U U (dA (aY U U U) se22 U U sB (show _=(((i:Nat)):Int)from by omega) (by omega) U ?_)))))))
  refine cG (aY U U U) fl43_0 U (by first|rfl|assumption) U ?_
  refine op_loadAggE (ds:=u8s w.ad) (aY U U U) ag33 U sB (by exact(flat_partA hlB hqi (by decide)).trans (accC_ad had)) (by exact hkl) (by omega) (by simp) U ?_
  refine aN (aY U U U) U U (aN (aY U U U) U U (dA (aY U U U) se22 U U sB (show _=(((i:Nat)):Int)from by omega) (by omega) U ?_))
  refine cG (aY U U U) fl43_1 U (by first|rfl|assumption) U ?_
  refine op_loadE (aY U U U) sc34 U sB (by first|exact get8 (by omega)|exact get64 (by omega)|exact get32 (by omega)|exact(flat_part hlB hqi (by decide)).trans oA) (by simp) U ?_
  refine cL (nxsl U U U U) (.cons U (.cons U (.cons U .nil))) (NNonce (y:=w.no) hU had (by omega) (by omega)) (F:= [NAI,N,R,NB2]) Tryz.func13 U U aV (by simp) U ?_
  rintro _ _ ⟨Nu,rfl,hU⟩
  show At _ _ _ [Nu,NAI,N,R,NB2] _
  rw [turn_turn,turn_turn,turn_turn, ←hM0]at hU
  refine At.sNil (bX (aS (s_33 (aA (bA U U (cV aI U U (by omega) (by omega) U (bP U U (aC (bE (bE (bE (bD (bD ?_)))))))))))))
  refine At.back ?_ aV ⟨i+1,cv+4+4+4,ov+cv+4+(cv+4)+4+(cv+4+4)+4,Nu,rfl,rfl,rfl,by omega,by rw [take_nextS hbi,writeL_snoc];exact hU,by omega,by omega⟩ ?_
  ·repeat first|apply cS|exact .nil|exact lkI rfl (by omega)|rfl
  ·omega
 refine At.exit (bB (bB (cZ (aS (s_29 (aB fun _ s_44=>?_))))))
 have hin2:i=n2:=by omega
 rw [hin2,List.take_of_length_le (by rw [List.length_map];omega)]at hU
 refine aA (bA U U (bM bQ (.cons U .nil) (NRoot hU (by omega)) Tryz.func10 U U (by simp) U ?_))
 rintro _ _ ⟨rfl,rfl⟩
 show At _ _ _ [Nu,NB2,NAI,N,R] _
 rw [hwr2,hz]
 refine bA U U (bM bQ (.cons U .nil) (NRoot hS (by decide)) Tryz.func10 U U (by simp) U ?_)
 rintro _ _ ⟨rfl,rfl⟩
 show At _ _ _ [Nu,NB2,NAI,N,R] _
 rw [hz]
 refine op_eqW8 (a:=z) (b:=z) aI ae45 Tryz.underlying5 (by kernel_rfl) U U hzl hzl U (bP U U (aC (s_44 (cI ((dropAt3 (dropAt2 (cQ (dropAt0 (cC (L1:= []) U (.tmp U .nil) (.refl _) aV ?_))))))))))
 exact⟨by simp,rfl⟩
end Go.Proofs.YtalmjkcapecpiaaGreat
