/- Several texts in one: see the remarks ahead of each part. No condition but those told there. -/
import Derived.Test.YtalmjkcapecpiaaGreatX1
import Derived.Test.YtalmjkcapecpiaaGreatX23
import Derived.Test.YtalmjkcapecpiaaGreatX18
import Derived.Test.YtalmjkcapecpiaaGreatX20
set_option linter.unusedSimpArgs false
set_option linter.unusedVariables false
namespace Go.Proofs.YtalmjkcapecpiaaGreat
open Go Go.RowKit
set_option maxRecDepth 100000
structure QV (K:Heaplet) (x:FxP) (c oc:Nat) (J:JS) (lo:List UInt8×Nat→Option Nat) (tl:Int) (la:Option Addr) (lc:Nat) (u k:Value) (ls:List Value) (DF DT DM DW DD DP DQ DO:DataW Value):Prop where
 S:Blk K x.sp 85 (stK x.ma x.mt x.mm x.mw x.md x.ws x.tr x.og J.rf (.slice la J.lg.length lc) u k tl)
 F:MapV Tryz.prog 33 K x.ma c DF
 T:MapV Tryz.prog 33 K x.mt c DT
 M:MapV Tryz.prog 33 K x.mm c DM
 W:MapV Tryz.prog 33 K x.mw c DW
 D:MapV Tryz.prog 33 K x.md c DD
 P:MapV Tryz.prog 105 K x.ws c DP
 Q:MapV Tryz.prog 105 K x.tr c DQ
 G:MapV Tryz.prog 105 K x.og oc DO
 aF:MapF keyA okAd ptrN DF J.ac
 aT:MapF keyA okAd unitV DT J.lt
 aM:MapF keyA okAd unitV DM J.lm
 aW:MapF keyA okAd unitV DW J.lw
 aD:MapF keyA okAd unitV DD J.ld
 aP:MapF keyPP okPl unitV DP J.lp
 aQ:MapF keyPP okPl wordV DQ J.lq
 aG:MapF keyPP okPl wordV DO lo
 L:RSl K 22 la J.lg.length lc ls
 lg:LogsN K J.lg ls
 ob: ∀p o,J.ob p=some o→ ∃D,ObO K K K c p D o
 wf:JWf J
 bL:J.lg.length≤c
theorem QV.le {K K':Heaplet} {x:FxP} {c oc:Nat} {J:JS} {lo:List UInt8×Nat→Option Nat} {tl:Int} {la:Option Addr} {lc:Nat} {u k:Value} {ls:List Value} {DF DT DM DW DD DP DQ DO:DataW Value} (h:QV K x c oc J lo tl la lc u k ls DF DT DM DW DD DP DQ DO) (l:K.le K'):QV K' x c oc J lo tl la lc u k ls DF DT DM DW DD DP DQ DO:=
 ⟨h.S.le l,h.F.le l,h.T.le l,h.M.le l,h.W.le l,h.D.le l,h.P.le l,h.Q.le l,h.G.le l,h.aF,h.aT,h.aM,h.aW,h.aD,h.aP,h.aQ,h.aG,h.L.le l,h.lg.le l,fun p o hp=>let ⟨D,z⟩:=h.ob p o hp;⟨D,z.B.le l,z.M.le l,z.A,z.C.le l,z.ln,z.ba,z.st⟩,h.wf,h.bL⟩
theorem QO.see {x:FxP} {g:QG} {n c oc:Nat} {lo:List UInt8×Nat→Option Nat} {tl:Int} {NS NF NT NM NW ND NP NQ NO NL NU NK NB NJ:Heaplet} (q:QO x g n c oc lo tl NS NF NT NM NW ND NP NQ NO NL NU NK NB NJ) (hap: [NS,NF,NT,NM,NW,ND,NP,NQ,NO,NL,NU,NK,NB,NJ].Pairwise Apart):QV (joinL [NS,NF,NT,NM,NW,ND,NP,NQ,NO,NL,NU,NK,NB,NJ]) x c oc g.J lo tl g.la g.lc g.u g.k g.ls g.DF g.DT g.DM g.DW g.DD g.DP g.DQ g.DO:=by
 have l: ∀X∈ [NS,NF,NT,NM,NW,ND,NP,NQ,NO,NL,NU,NK,NB,NJ],X.le (joinL [NS,NF,NT,NM,NW,ND,NP,NQ,NO,NL,NU,NK,NB,NJ]):=fun X hX=>le_joinL hap hX
 have o:=q.O
 have lB:=l NB (by simp)
 have lJ:=l NJ (by simp)
 exact⟨o.S.le (l _ (by simp)),o.F.le (l _ (by simp)),o.T.le (l _ (by simp)),o.M.le (l _ (by simp)),o.W.le (l _ (by simp)),o.D.le (l _ (by simp)),o.P.le (l _ (by simp)),o.Q.le (l _ (by simp)),q.G.le (l _ (by simp)),o.aF,o.aT,o.aM,o.aW,o.aD,o.aP,o.aQ,q.aG,o.L.rsl.le (l _ (by simp)),o.lg.le lJ,fun p ob hp=>by
  obtain⟨NX,NMx,D,h1,h2,z⟩:=o.B.see hp
  exact⟨D,z.B.le (Heaplet.le_trans h1 lB),z.M.le (Heaplet.le_trans h2 lB),z.A,z.C.le lJ,z.ln,z.ba,z.st⟩,o.wf,o.bL⟩
theorem StQ.see {sp n c oc:Nat} {V:Vw} {lo:List UInt8×Nat→Option Nat} {ms:List (Int×Vw)} {tl:Int} {N:Heaplet} (h:StQ sp n c oc V lo ms tl N): ∃x J la lc u k ls DF DT DM DW DD DP DQ DO,x.sp=sp∧J.v=V∧QV N x c oc J lo tl la lc u k ls DF DT DM DW DD DP DQ DO:=by
 obtain⟨z,g,NS,NF,NT,NM,NW,ND,NP,NQ,NO,NL,NU,NK,NB,NJ,rfl,hap,q,rfl,rfl,rfl⟩:=h
 exact⟨z,g.J,_,_,_,_,_,_,_,_,_,_,_,_,_,rfl,rfl,q.see hap⟩
theorem op_lookupNil {P:Program} {n d:Nat} {l:List (Nat×Value)} {E:World} {L:List Heaplet} {x m:Operand} {t k e ty:TypeId} {X Y:Act→World→Prop} {pos:String} {aft:Array Edge} {g:Option (Nat×Bool)} {key z:Value} {kl:Lit} (s:NxA P n l E L ⟨some d,.lookup t m x false,ty,pos,aft,g⟩ X Y) (K:Maps.Keyed P k) (ht:P.underlying t=some (.map k e)) (hz: ∀w,(zeroValue e).run P w=.ok z w) (hm:ev l m=some (.map none)) (hx:ev l x=some key) (hk:keyOf P k key=some kl) (hn:Nat.ble (d+1) n=true)
 (h:At n ((d,z)::l) E L Y):At n l E L X:=by
 refine op_new s (fun x L'=>x=z∧L'=L) (fun a w hf hw=>⟨_,w,L,?_,fun _ _=>rfl,hw,rfl,rfl⟩) rfl hn (fun x L' ⟨hx',hL'⟩=>by subst hx';subst hL';exact h)
 simp only [execOp,hf.eval hm,hf.eval hx,Sem.run_bind,Maps.look_nil false K ht (hz w) hk,Result.andThen_ok]
 rfl
section
variable {K : Heaplet} {x : FxP} {c oc xp : Nat} {J : JS} {lo : List UInt8 × Nat → Option Nat} {tl : Int} {la : Option Addr} {lc : Nat} {u k : Value} {ls : List Value} {DF DT DM DW DD DP DQ DO : DataW Value} {a : List UInt8} {kx : Nat}
theorem VRefund (h:QV K x c oc J lo tl la lc u k ls DF DT DM DW DD DP DQ DO):Fn Tryz.prog 19 #[.pointer (some ⟨x.sp,0,none⟩)] [] [K] (fun v L=>v=.int .u64 (J.rf.toNat:Int)∧L= []):=by
 have hB:=h.S
 refine Fn.enter (vs:= [.pointer (some ⟨x.sp,0,none⟩)]) Tryz.func19 U U U ?_
 intro E R hR
 have BR:=hB.le (hR K (by simp))
 change At _ _ E [R] _
 refine aH fun _ s_1=>aB (bV U U (aI (s_1 (aH fun _ s_2=>aB (bC U U (bH aN U U (aJ aN fl85_1 U U (aJ aN fl83_7 U U (aU aN sc34 U BR U cO U ?_)))))))))
 refine bV U U (aI (s_2 (cK ((cF (L1:= []) U (.tmp U .nil) (.refl _) aZ ?_)))))
 exact⟨rfl,rfl⟩
theorem VWarm (h:QV K x c oc J lo tl la lc u k ls DF DT DM DW DD DP DQ DO) (hk:okAd a):Fn Tryz.prog 22 #[.pointer (some ⟨x.sp,0,none⟩),.agg (u8s a).toArray] [] [K] (fun v L=>v=.bool (J.lw a).isSome∧L= []):=by
 have hul:=len_A hk
 refine Fn.enter (vs:= [.pointer (some ⟨x.sp,0,none⟩),.agg (u8s a).toArray]) Tryz.func22 U U U ?_
 intro E R hR
 have h:=h.le (hR K (by simp))
 have BR:=h.S
 change At _ _ E [R] _
 refine aH fun _ s_1=>aB (cU bT U U U (fun N3 b3 B3=>bV U U (aI (s_1 (aH fun _ s_2=>cS [N3,R] [6] [] [0,1,2,3,4,5,6,7] (by kernel_rfl) (by kernel_rfl) (.refl _) (aR (bB U U U) U U (bH (bB U U U) U U (aJ (bB U U U) fl85_1 U U (aJ (bB U U U) fl83_2 U U (aU (bB U U U) sc76 U BR U dG U ?_))))))))))
 refine aK (ds:=u8s a) (bB U U U) ag33 U B3 (by exact bJ hul) (by exact hul) cO U ?_
 refine bG (Nx.agree (nxss U U U U)) (.cons U (.cons U .nil)) (h.aW.hasA h.W hk) Tryz.func60 U U (by simp) U ?_
 rintro _ _ ⟨rfl,rfl⟩
 show At _ _ _ [N3,R] _
 refine At.anyS (.refl _) (cZ (bB U U U) U U (dH (aS (s_2 (cK ((dropAt0 (cF (L1:= []) U (.tmp U .nil) (.refl _) aZ ?_))))))))
 exact⟨rfl,rfl⟩
theorem VDestroyed (h:QV K x c oc J lo tl la lc u k ls DF DT DM DW DD DP DQ DO) (hk:okAd a):Fn Tryz.prog 25 #[.pointer (some ⟨x.sp,0,none⟩),.agg (u8s a).toArray] [] [K] (fun v L=>v=.bool (J.ld a).isSome∧L= []):=by
 have hul:=len_A hk
 refine Fn.enter (vs:= [.pointer (some ⟨x.sp,0,none⟩),.agg (u8s a).toArray]) Tryz.func25 U U U ?_
 intro E R hR
 have h:=h.le (hR K (by simp))
 have BR:=h.S
 change At _ _ E [R] _
 refine aH fun _ s_1=>aB (cU bT U U U (fun N3 b3 B3=>bV U U (aI (s_1 (aH fun _ s_2=>cS [N3,R] [6] [] [0,1,2,3,4,5,6,7] (by kernel_rfl) (by kernel_rfl) (.refl _) (aR (bB U U U) U U (bH (bB U U U) U U (aJ (bB U U U) fl85_1 U U (aJ (bB U U U) fl83_3 U U (aU (bB U U U) sc76 U BR U dG U ?_))))))))))
 refine aK (ds:=u8s a) (bB U U U) ag33 U B3 (by exact bJ hul) (by exact hul) cO U ?_
 refine bG (Nx.agree (nxss U U U U)) (.cons U (.cons U .nil)) (h.aD.hasA h.D hk) Tryz.func60 U U (by simp) U ?_
 rintro _ _ ⟨rfl,rfl⟩
 show At _ _ _ [N3,R] _
 refine At.anyS (.refl _) (cZ (bB U U U) U U (dH (aS (s_2 (cK ((dropAt0 (cF (L1:= []) U (.tmp U .nil) (.refl _) aZ ?_))))))))
 exact⟨rfl,rfl⟩
theorem VMade (h:QV K x c oc J lo tl la lc u k ls DF DT DM DW DD DP DQ DO) (hk:okAd a):Fn Tryz.prog 26 #[.pointer (some ⟨x.sp,0,none⟩),.agg (u8s a).toArray] [] [K] (fun v L=>v=.bool (J.lm a).isSome∧L= []):=by
 have hul:=len_A hk
 refine Fn.enter (vs:= [.pointer (some ⟨x.sp,0,none⟩),.agg (u8s a).toArray]) Tryz.func26 U U U ?_
 intro E R hR
 have h:=h.le (hR K (by simp))
 have BR:=h.S
 change At _ _ E [R] _
 refine aH fun _ s_1=>aB (cU bT U U U (fun N3 b3 B3=>bV U U (aI (s_1 (aH fun _ s_2=>cS [N3,R] [6] [] [0,1,2,3,4,5,6,7] (by kernel_rfl) (by kernel_rfl) (.refl _) (aR (bB U U U) U U (bH (bB U U U) U U (aJ (bB U U U) fl85_1 U U (aJ (bB U U U) fl83_1 U U (aU (bB U U U) sc76 U BR U dG U ?_))))))))))
 refine aK (ds:=u8s a) (bB U U U) ag33 U B3 (by exact bJ hul) (by exact hul) cO U ?_
 refine bG (Nx.agree (nxss U U U U)) (.cons U (.cons U .nil)) (h.aM.hasA h.M hk) Tryz.func60 U U (by simp) U ?_
 rintro _ _ ⟨rfl,rfl⟩
 show At _ _ _ [N3,R] _
 refine At.anyS (.refl _) (cZ (bB U U U) U U (dH (aS (s_2 (cK ((dropAt0 (cF (L1:= []) U (.tmp U .nil) (.refl _) aZ ?_))))))))
 exact⟨rfl,rfl⟩
set_option maxHeartbeats 1000000 in
theorem VTransient (h:QV K x c oc J lo tl la lc u k ls DF DT DM DW DD DP DQ DO) (hk:okPl (a,kx)):Fn Tryz.prog 23 #[.pointer (some ⟨x.sp,0,none⟩),.agg (u8s a).toArray,.agg (u64s (wl kx)).toArray] [] [K] (fun v L=>v=wordV ((J.lq (a,kx)).getD 0)∧L= []):=by
 have hul:=len_A hk.1
 have hlk:DQ.atKey (keyP a kx) (.held (wordV 0))=.held (wordV ((J.lq (a,kx)).getD 0)):=by
  rw [show keyP a kx=keyPP (a,kx)from rfl,h.aQ.look hk]
  cases J.lq (a,kx)<;>rfl
 obtain⟨w,hw⟩: ∃w,(J.lq (a,kx)).getD 0=w:=⟨_,rfl⟩
 rw [hw]at hlk⊢
 refine Fn.enter (vs:= [.pointer (some ⟨x.sp,0,none⟩),.agg (u8s a).toArray,.agg (u64s (wl kx)).toArray]) Tryz.func23 U U U ?_
 intro E R hR
 have h:=h.le (hR K (by simp))
 have BR:=h.S
 change At _ _ E [R] _
 refine aH fun _ s_1=>aB (cU bT U U U (fun N4 b4 B4=>cU bT U U U (fun N5 b5 B5=>bZ bT ze36 U (fun N6 b6 B6=>?_))))
 change Blk N6 b6 _ [.int .u64 0,.int .u64 0,.int .u64 0,.int .u64 0]at B6
 refine aI (s_1 (aH fun _ s_2=>bI (bF (bI (bI (cS [N4,N5,R] [8,9] [] [0,1,2,3,4,5,6,7,8,9] (by kernel_rfl) (by kernel_rfl) (.cons _ (.refl _)) (aR (bB U U U) U U (bH (bB U U U) U U (aJ (bB U U U) fl85_1 U U (aJ (bB U U U) fl83_5 U U (aU (bB U U U) sc79 U BR U mem2 U ?_)))))))))))
 refine aK (ds:=u8s a) (bB U U U) ag33 U B4 (by exact bJ hul) (by exact hul) cO U ?_
 refine aK (ds:=u64s (wl kx)) (bB U U U) ag36 U B5 (by exact bJ (bQ kx)) (by exact bQ kx) dG U ?_
 refine op_build (out:=u8s a++u64s (wl kx)) (bB U U U) ze105 pl105 (.cons U (.cons U .nil)) (fill_place hk.1 _ U) U (op_lookupV1 (Nx.agree (nxss U U U U)) kd105 Tryz.underlying79 (fun _=>by first|rfl|kernel_rfl) U U h.Q (keyP_spec hk.1 kx) (hlk) (by simp) U ?_)
 refine At.anyS (.refl _) ?_
 refine bP (nxsl U U U U) sz36 U U U (bQ w) (one_wl w) B6 (by rw [bQ];decide) sel0 (fun N6 B6=>?_)
 rw [setL_full (by rw [bQ];rfl)]at B6
 refine dH (aS (s_2 (cK ((dropAt2 (cT (cF (L1:= []) U (.cell U (res_agg (ds:=u64s (wl w)) ag36 B6 (bJ (bQ w)) (bQ w) cO) .nil) (.cons _ (.refl _)) aZ ?_)))))))
 exact⟨rfl,rfl⟩
theorem JAtT {NS NF:Heaplet} {sp ma:Nat} {cs:List Value} {f:List UInt8→Option Nat} (BS:Blk NS sp 85 (.map (some ma)::cs)) (hM:MapV Tryz.prog 33 NF ma c DF) (hA:MapF keyA okAd ptrN DF f) (hk:okAd a) (hg:f a=some xp):Fn Tryz.prog 65 #[.pointer (some ⟨sp,0,none⟩),.agg (u8s a).toArray] [] [NS,NF] (fun v L=>v=.pointer (some ⟨xp,0,none⟩)∧L= []):=by
 have hul:=len_A hk
 have hlk:=ptr_lookF hA hk
 rw [hg]at hlk
 refine Fn.enter (vs:= [.pointer (some ⟨sp,0,none⟩),.agg (u8s a).toArray]) Tryz.func65 U U U ?_
 intro E R hR
 have BR:=BS.le (hR NS (by simp))
 have hM:=hM.le (hR NF (by simp))
 change At _ _ E [R] _
 refine aH fun _ s_1=>aB (cU bT U U U (fun N3 b3 B3=>bV U U (aI (s_1 (aH fun _ s_2=>aH fun _ s_3=>cS [N3,R] [5] [] [0,1,2,3,4,5,6] (by kernel_rfl) (by kernel_rfl) (.refl _) (aR (bB U U U) U U (bH (bB U U U) U U (aJ (bB U U U) fl85_0 U U (aU (bB U U U) sc74 U BR U dG U ?_)))))))))
 refine aK (ds:=u8s a) (bB U U U) ag33 U B3 (by exact bJ hul) (by exact hul) cO U ?_
 refine op_lookupV1 (Nx.agree (nxss U U U U)) kd33 Tryz.underlying74 (fun _=>by first|rfl|kernel_rfl) U U hM (keyA_spec hk) (hlk) (by simp) U ?_
 refine At.anyS (.refl _) (cZ (bB U U U) U U (dH (aS (s_3 (aH fun _ s_4=>aB (bC U U (op_nePO aN Tryz.underlying67 U U (aI (s_4 (At.condT U (aH fun _ s_5=>aB (bC U U (bV U U (aI (s_5 (cK (dC ((dropAt0 (cF (L1:= []) U (.tmp U .nil) (.refl _) aZ ?_))))))))))))))))))))
 exact⟨rfl,rfl⟩
theorem JAtF {NS NF:Heaplet} {sp ma:Nat} {cs:List Value} {f:List UInt8→Option Nat} (BS:Blk NS sp 85 (.map (some ma)::cs)) (hM:MapV Tryz.prog 33 NF ma c DF) (hA:MapF keyA okAd ptrN DF f) (hk:okAd a) (hg:f a=none):Fn Tryz.prog 65 #[.pointer (some ⟨sp,0,none⟩),.agg (u8s a).toArray] [] [NS,NF] (fun v L=> ∃N b,v=.pointer (some ⟨b,0,none⟩)∧L= [N]∧Blk N b 71 [.int .u64 0,.int .u64 0,.int .u64 0,.int .u64 0,.int .u64 0,.slice none 0 0,.map none]):=by
 have hul:=len_A hk
 have hlk:=ptr_lookF hA hk
 rw [hg]at hlk
 refine Fn.enter (vs:= [.pointer (some ⟨sp,0,none⟩),.agg (u8s a).toArray]) Tryz.func65 U U U ?_
 intro E R hR
 have BR:=BS.le (hR NS (by simp))
 have hM:=hM.le (hR NF (by simp))
 change At _ _ E [R] _
 refine aH fun _ s_1=>aB (cU bT U U U (fun N3 b3 B3=>bV U U (aI (s_1 (aH fun _ s_2=>aH fun _ s_3=>cS [N3,R] [5] [] [0,1,2,3,4,5,6] (by kernel_rfl) (by kernel_rfl) (.refl _) (aR (bB U U U) U U (bH (bB U U U) U U (aJ (bB U U U) fl85_0 U U (aU (bB U U U) sc74 U BR U dG U ?_)))))))))
 refine aK (ds:=u8s a) (bB U U U) ag33 U B3 (by exact bJ hul) (by exact hul) cO U ?_
 refine op_lookupV1 (Nx.agree (nxss U U U U)) kd33 Tryz.underlying74 (fun _=>by first|rfl|kernel_rfl) U U hM (keyA_spec hk) (hlk) (by simp) U ?_
 refine At.anyS (.refl _) (cZ (bB U U U) U U (dH (aS (s_3 (aH fun _ s_4=>aB (bC U U (op_nePO aN Tryz.underlying67 U U (aI (s_4 (At.condF U (cG (aS (s_2 (aH fun _ s_5=>aB (op_build (out:= [.int .u64 0,.int .u64 0,.int .u64 0,.int .u64 0,.int .u64 0,.slice none 0 0,.map none]) aN ze71 pl71 .nil U U (cU bT U U U (fun N16 b16 B16=>bV U U (aI (s_5 (cK ((cT (cF (L1:= [N16]) U (.tmp U .nil) (.refl _) aZ ?_)))))))))))))))))))))))
 exact⟨N16,b16,rfl,rfl,B16⟩
set_option maxHeartbeats 1000000 in
theorem VSlotT {o:Ob} (h:QV K x c oc J lo tl la lc u k ls DF DT DM DW DD DP DQ DO) (hk:okPl (a,kx)) (hg:J.ac a=some xp) (ho:J.ob xp=some o):Fn Tryz.prog 61 #[.pointer (some ⟨x.sp,0,none⟩),.agg (u8s a).toArray,.agg (u64s (wl kx)).toArray] [] [K] (fun v L=>v=wordV ((o.st kx).getD 0)∧L= []):=by
 have hul:=len_A hk.1
 obtain⟨DX,hX⟩:=h.ob xp o ho
 have hlk:DX.atKey (keyW kx) (.held (wordV 0))=.held (wordV ((o.st kx).getD 0)):=by
  rw [hX.A.look hk.2]
  cases o.st kx<;>rfl
 obtain⟨w,hw⟩: ∃w,(o.st kx).getD 0=w:=⟨_,rfl⟩
 rw [hw]at hlk⊢
 have hB:=hX.B
 unfold acK at hB
 refine Fn.enter (vs:= [.pointer (some ⟨x.sp,0,none⟩),.agg (u8s a).toArray,.agg (u64s (wl kx)).toArray]) Tryz.func61 U U U ?_
 intro E R hR
 have h:=h.le (hR K (by simp))
 have BR:=h.S
 have BX:=hB.le (hR K (by simp))
 have hM:=hX.M.le (hR K (by simp))
 change At _ _ E [R] _
 refine aH fun _ s_1=>aB (cU bT U U U (fun N4 b4 B4=>cU bT U U U (fun N5 b5 B5=>bZ bT ze36 U (fun N6 b6 B6=>?_))))
 change Blk N6 b6 _ [.int .u64 0,.int .u64 0,.int .u64 0,.int .u64 0]at B6
 refine aI (s_1 (aH fun _ s_2=>bI (bF (bI (bI (cS [N4,N5,R] [7,8] [] [0,1,6,2,3,4,5,7,8] (by kernel_rfl) (by kernel_rfl) (.cons _ (.refl _)) (aR (bB U U U) U U (aK (ds:=u8s a) (bB U U U) ag33 U B4 (by exact bJ hul) (by exact hul) cO U ?_))))))))
 refine aK (ds:=u64s (wl kx)) (bB U U U) ag36 U B5 (by exact bJ (bQ kx)) (by exact bQ kx) dG U ?_
 refine bG (Nx.agree (nxsm U U U)) (.cons U (.cons U .nil)) (JAtT h.S h.F h.aF hk.1 hg) Tryz.func65 U U (by simp) U ?_
 rintro _ _ ⟨rfl,rfl⟩
 show At _ _ _ [N6,N4,N5,R] _
 refine At.moreS (Lst:= [N4,N5,R]) (Lst':= [N4,N5,R]) (.refl _) (.cons _ (.refl _)) (bH (bB U U U) U U (aJ (bB U U U) fl71_3 U U (aU (bB U U U) sc69 U BX U mem2 U ?_)))
 refine op_lookupV1 (Nx.agree (nxss U U U U)) kd36 Tryz.underlying69 (fun _=>by first|rfl|kernel_rfl) U U hM (keyW_spec kx) (hlk) (by simp) U ?_
 refine At.anyS (.refl _) ?_
 refine bP (nxsl U U U U) sz36 U U U (bQ w) (one_wl w) B6 (by rw [bQ];decide) sel0 (fun N6 B6=>?_)
 rw [setL_full (by rw [bQ];rfl)]at B6
 refine dH (aS (s_2 (cK ((dropAt2 (cT (cF (L1:= []) U (.cell U (res_agg (ds:=u64s (wl w)) ag36 B6 (bJ (bQ w)) (bQ w) cO) .nil) (.cons _ (.refl _)) aZ ?_)))))))
 exact⟨rfl,rfl⟩
end
section
variable {K : Heaplet} {x : FxP} {c oc xp : Nat} {J : JS} {lo : List UInt8 × Nat → Option Nat} {tl : Int} {la : Option Addr} {lc : Nat} {u k : Value} {ls : List Value} {DF DT DM DW DD DP DQ DO : DataW Value} {a : List UInt8} {kx : Nat}
set_option maxHeartbeats 1000000 in
theorem VSlotF (h:QV K x c oc J lo tl la lc u k ls DF DT DM DW DD DP DQ DO) (hk:okPl (a,kx)) (hg:J.ac a=none):Fn Tryz.prog 61 #[.pointer (some ⟨x.sp,0,none⟩),.agg (u8s a).toArray,.agg (u64s (wl kx)).toArray] [] [K] (fun v L=>v=wordV 0∧L= []):=by
 have hul:=len_A hk.1
 refine Fn.enter (vs:= [.pointer (some ⟨x.sp,0,none⟩),.agg (u8s a).toArray,.agg (u64s (wl kx)).toArray]) Tryz.func61 U U U ?_
 intro E R hR
 have h:=h.le (hR K (by simp))
 have BR:=h.S
 change At _ _ E [R] _
 refine aH fun _ s_1=>aB (cU bT U U U (fun N4 b4 B4=>cU bT U U U (fun N5 b5 B5=>bZ bT ze36 U (fun N6 b6 B6=>?_))))
 change Blk N6 b6 _ [.int .u64 0,.int .u64 0,.int .u64 0,.int .u64 0]at B6
 refine aI (s_1 (aH fun _ s_2=>bI (bF (bI (bI (cS [N4,N5,R] [7,8] [] [0,1,6,2,3,4,5,7,8] (by kernel_rfl) (by kernel_rfl) (.cons _ (.refl _)) (aR (bB U U U) U U (aK (ds:=u8s a) (bB U U U) ag33 U B4 (by exact bJ hul) (by exact hul) cO U ?_))))))))
 refine aK (ds:=u64s (wl kx)) (bB U U U) ag36 U B5 (by exact bJ (bQ kx)) (by exact bQ kx) dG U ?_
 refine bG (Nx.agree (nxsm U U U)) (.cons U (.cons U .nil)) (JAtF h.S h.F h.aF hk.1 hg) Tryz.func65 U U (by simp) U ?_
 rintro _ _ ⟨NY,bY,rfl,rfl,BY⟩
 show At _ _ _ [NY,N6,N4,N5,R] _
 refine bA (bA (bA (bI (bA (At.moreS (Lst:= [N4,N5,R]) (Lst':= [NY,N4,N5,R]) (.cons _ (.refl _)) (.cons _ (.refl _)) (bH (bB U U U) U U (aJ (bB U U U) fl71_3 U U (aU (bB U U U) sc69 U BY U cO U ?_))))))))
 refine op_lookupNil (z:=wordV 0) (Nx.agree (nxss U U U U)) kd36 Tryz.underlying69 (fun _=>by first|rfl|kernel_rfl) U U (keyW_spec kx) U ?_
 refine At.anyS (.refl _) ?_
 refine bP (nxsl U U U U) sz36 U U U (bQ 0) (one_wl 0) B6 (by rw [bQ];decide) sel0 (fun N6 B6=>?_)
 rw [setL_full (by rw [bQ];rfl)]at B6
 refine dH (aS (s_2 (cK ((dropAt3 (dropAt2 (cT (cF (L1:= []) U (.cell U (res_agg (ds:=u64s (wl 0)) ag36 B6 (bJ (bQ 0)) (bQ 0) cO) .nil) (.cons _ (.refl _)) aZ ?_))))))))
 exact⟨rfl,rfl⟩
theorem slot_none {J:JS} {a:List UInt8} {kx:Nat} (h:J.ac a=none):slotV J.v (a,kx)=none:=by
 show(((J.ac a).bind J.ob).map Ob.v).bind _=none
 rw [h];rfl
theorem slot_some {J:JS} {a:List UInt8} {kx xp:Nat} {o:Ob} (h:J.ac a=some xp) (ho:J.ob xp=some o):slotV J.v (a,kx)=o.st kx:=by
 show(J.v.ac a).bind _=_
 rw [at_v h ho];rfl
theorem VSlot (h:QV K x c oc J lo tl la lc u k ls DF DT DM DW DD DP DQ DO) (hk:okPl (a,kx)):Fn Tryz.prog 61 #[.pointer (some ⟨x.sp,0,none⟩),.agg (u8s a).toArray,.agg (u64s (wl kx)).toArray] [] [K] (fun v L=>v=wordV ((slotV J.v (a,kx)).getD 0)∧L= []):=by
 cases hg:J.ac a with
 |none=>rw [slot_none hg];exact VSlotF h hk hg
 |some xp=>
  obtain⟨o,ho,_⟩:=h.wf a xp hg
  rw [slot_some hg ho];exact VSlotT h hk hg ho
def origV (V:Vw) (lo:List UInt8×Nat→Option Nat) (p:List UInt8×Nat):Nat:=if (V.lm p.1).isSome=true then 0 else (lo p).getD ((slotV V p).getD 0)
set_option maxHeartbeats 1000000 in
theorem VOriginal (h:QV K x c oc J lo tl la lc u k ls DF DT DM DW DD DP DQ DO) (hk:okPl (a,kx)):Fn Tryz.prog 24 #[.pointer (some ⟨x.sp,0,none⟩),.agg (u8s a).toArray,.agg (u64s (wl kx)).toArray] [] [K] (fun v L=>v=wordV (origV J.v lo (a,kx))∧L= []):=by
 have hul:=len_A hk.1
 have hlk:DO.atKey (keyP a kx) (.held (wordV 0))=.held (wordV ((lo (a,kx)).getD 0)):=by
  rw [show keyP a kx=keyPP (a,kx)from rfl,h.aG.look hk]
  cases lo (a,kx)<;>rfl
 have hh:=h.aG.has (k:=(a,kx)) hk
 obtain⟨w,hw⟩: ∃w,(lo (a,kx)).getD 0=w:=⟨_,rfl⟩
 rw [hw]at hlk
 obtain⟨b,hb⟩: ∃b,(lo (a,kx)).isSome=b:=⟨_,rfl⟩
 rw [hb]at hh
 obtain⟨md,hmd⟩: ∃md,(J.lm a).isSome=md:=⟨_,rfl⟩
 obtain⟨r,hr⟩: ∃r,(slotV J.v (a,kx)).getD 0=r:=⟨_,rfl⟩
 have ho:origV J.v lo (a,kx)=if md=true then 0 else if b=true then w else r:=by
  unfold origV
  show(if (J.lm a).isSome=true then 0 else _)=_
  rw [hmd,hr, ←hw]
  cases hl:lo (a,kx)with
  |none=>rw [hl]at hb;rw [←hb];rfl
  |some z=>rw [hl]at hb;rw [←hb];rfl
 refine Fn.enter (vs:= [.pointer (some ⟨x.sp,0,none⟩),.agg (u8s a).toArray,.agg (u64s (wl kx)).toArray]) Tryz.func24 U U U ?_
 intro E R hR
 have h:=h.le (hR K (by simp))
 have BR:=h.S
 change At _ _ E [R] _
 refine aH fun _ s_1=>aB (cU bT U U U (fun N4 b4 B4=>cU bT U U U (fun N5 b5 B5=>bZ bT ze36 U (fun N6 b6 B6=>?_))))
 change Blk N6 b6 _ [.int .u64 0,.int .u64 0,.int .u64 0,.int .u64 0]at B6
 refine aI (s_1 (aH fun _ s_2=>aH fun _ s_3=>aB (bC U U (aK (ds:=u8s a) aN ag33 U B4 (by exact bJ hul) (by exact hul) mem2 U ?_))))
 refine bG bT (.cons U (.cons U .nil)) (VMade h hk.1) Tryz.func26 U U (by simp) U ?_
 rintro _ _ ⟨rfl,rfl⟩
 show At _ _ _ [N6,N5,N4,R] _
 rw [hmd]
 refine aI (s_3 (At.condB U (fun c11=>?_) (fun c11=>?_)))
 ·refine aH fun _ s_4=>aB (op_buildA (out:= [.int .u64 0,.int .u64 0,.int .u64 0,.int .u64 0]) aN ze36 ae36 .nil U U (bP nxQ sz36 U U U U U B6 (by simp) sel0 (fun N6 B6=>?_)))
  simp only [setL,List.set]at B6
  refine aI (s_4 (cK (dC ((dropAt2 (cT (cF (L1:= []) U (.cell U (res_agg (ds:= [_,_,_,_]) ag36 B6 U U cO) .nil) (.cons _ (.refl _)) aZ ?_)))))))
  exact⟨by first|(rw [ho,c11,if_pos rfl];rfl)|(rw [ho,c11,c25,if_neg (by decide),if_pos rfl];rfl)|(rw [ho,c11,c25,if_neg (by decide),if_neg (by decide)];rfl),rfl⟩
 refine cG (aS (s_2 (aH fun _ s_5=>aH fun _ s_6=>bI (cH (bF (bI (At.planS [N4,N5,N6,R] (.take 0 (.take 1 (.take 2 (.take 3 (.take 4 (.take 5 (.take 6 (.take 7 (.fork 8 true (.take 9 (.take 10 (.take 11 (.fork 12 false (.fork 13 false (.take 14 .done) .nofork) .nofork)))) (.fork 12 false (.fork 8 false (.take 9 (.take 10 (.take 11 (.fork 13 false (.take 14 .done) .nofork)))) .nofork) .nofork)))))))))) (by kernel_rfl) (by kernel_rfl) (.refl _) (aR (nxpf U U) U U (bH (nxpf U U) U U (aJ (nxpf U U) fl85_1 U U (aJ (nxpf U U) fl83_6 U U (aU (nxpf U U) sc79 U BR U mem3 U ?_))))))))))))
 refine aK (ds:=u8s a) (nxpf U U) ag33 U B4 (by exact bJ hul) (by exact hul) cO U ?_
 refine aK (ds:=u64s (wl kx)) (nxpf U U) ag36 U B5 (by exact bJ (bQ kx)) (by exact bQ kx) dG U ?_
 refine op_build (out:=u8s a++u64s (wl kx)) (nxpf U U) ze105 pl105 (.cons U (.cons U .nil)) (fill_place hk.1 _ U) U (At.fork ?_ ?_)
 rotate_left
 ·refine At.fork ?_ ?_
  rotate_left
  ·exact At.pNo
  refine bZ (Nx.agree (nxpa U U)) ze36 U (fun N7 b7 B7=>?_)
  change Blk N7 b7 _ [.int .u64 0,.int .u64 0,.int .u64 0,.int .u64 0]at B7
  refine At.andS (.cons _ (.refl _)) (At.fork ?_ ?_)
  rotate_left
  ·exact At.pNo
  refine op_lookupV (Nx.agree (nxpa U U)) kd105 Tryz.underlying79 (fun _=>by first|rfl|kernel_rfl) U U h.G (keyP_spec hk.1 kx) (hlk) (by simp) U ?_
  refine At.andS (.cons _ (.refl _)) ?_
  rw [show Maps.has DO (keyP a kx)=b from hh]
  refine aR (nxpf U U) U U (bW (nxpf U U) U U U (bW (nxpf U U) U U U (At.fork ?_ ?_)))
  rotate_left
  ·exact At.pNo
  refine bP (nxpa U U) sz36 U U U (bQ w) (one_wl w) B7 (by rw [bQ];decide) sel0 (fun N7 B7=>?_)
  rw [setL_full (by rw [bQ];rfl)]at B7
  refine At.andS (.cons _ (.refl _)) (cZ (nxpf U U) U U (At.pDone (aS (s_6 (aH fun _ s_7=>aB (bC U U (aI (s_7 (At.condB U (fun c25=>?_) (fun c25=>?_))))))))))
  ·refine aH fun _ s_8=>aB (aK (ds:=u64s (wl w)) aN ag36 U B7 (by exact bJ (bQ w)) (by exact bQ w) cO U ?_)
   refine bP nxQ sz36 U U U (bQ w) (one_wl w) B6 (by rw [bQ];decide) sel3 (fun N6 B6=>?_)
   rw [setL_full (by rw [bQ];rfl)]at B6
   refine aI (s_8 (cK (dC ((dropAt3 (dropAt2 (cT (cF (L1:= []) U (.cell U (res_agg (ds:= [_,_,_,_]) ag36 B6 U U cO) .nil) (.cons _ (.refl _)) aZ ?_))))))))
   exact⟨by first|(rw [ho,c11,if_pos rfl];rfl)|(rw [ho,c11,c25,if_neg (by decide),if_pos rfl];rfl)|(rw [ho,c11,c25,if_neg (by decide),if_neg (by decide)];rfl),rfl⟩
  refine cG (aS (s_5 (aH fun _ s_9=>aB (bC U U (aK (ds:=u8s a) aN ag33 U B4 (by exact bJ hul) (by exact hul) dG U ?_)))))
  refine aK (ds:=u64s (wl kx)) aN ag36 U B5 (by exact bJ (bQ kx)) (by exact bQ kx) mem2 U ?_
  refine bG bT (.cons U (.cons U (.cons U .nil))) (VSlot h hk) Tryz.func61 U U (by simp) U ?_
  rintro _ _ ⟨rfl,rfl⟩
  show At _ _ _ [N7,N4,N5,N6,R] _
  rw [hr]
  refine bP nxQ sz36 U U U (bQ r) (one_wl r) B6 (by rw [bQ];decide) sel3 (fun N6 B6=>?_)
  rw [setL_full (by rw [bQ];rfl)]at B6
  refine aI (s_9 (cK ((dropAt3 (dropAt2 (cT (cF (L1:= []) U (.cell U (res_agg (ds:= [_,_,_,_]) ag36 B6 U U cO) .nil) (.cons _ (.refl _)) aZ ?_)))))))
  exact⟨by first|(rw [ho,c11,if_pos rfl];rfl)|(rw [ho,c11,c25,if_neg (by decide),if_pos rfl];rfl)|(rw [ho,c11,c25,if_neg (by decide),if_neg (by decide)];rfl),rfl⟩
 refine op_lookupV (Nx.agree (nxpa U U)) kd105 Tryz.underlying79 (fun _=>by first|rfl|kernel_rfl) U U h.G (keyP_spec hk.1 kx) (hlk) (by simp) U ?_
 refine At.andS (.refl _) ?_
 rw [show Maps.has DO (keyP a kx)=b from hh]
 refine aR (nxpf U U) U U (bW (nxpf U U) U U U (bW (nxpf U U) U U U (At.fork ?_ ?_)))
 rotate_left
 ·exact At.pNo
 refine bZ (Nx.agree (nxpa U U)) ze36 U (fun N7 b7 B7=>?_)
 change Blk N7 b7 _ [.int .u64 0,.int .u64 0,.int .u64 0,.int .u64 0]at B7
 refine At.andS (.cons _ (.refl _)) (At.fork ?_ ?_)
 rotate_left
 ·exact At.pNo
 refine bP (nxpa U U) sz36 U U U (bQ w) (one_wl w) B7 (by rw [bQ];decide) sel0 (fun N7 B7=>?_)
 rw [setL_full (by rw [bQ];rfl)]at B7
 refine At.andS (.cons _ (.refl _)) (cZ (nxpf U U) U U (At.pDone (aS (s_6 (aH fun _ s_10=>aB (bC U U (aI (s_10 (At.condB U (fun c25=>?_) (fun c25=>?_))))))))))
 ·refine aH fun _ s_11=>aB (aK (ds:=u64s (wl w)) aN ag36 U B7 (by exact bJ (bQ w)) (by exact bQ w) cO U ?_)
  refine bP nxQ sz36 U U U (bQ w) (one_wl w) B6 (by rw [bQ];decide) sel3 (fun N6 B6=>?_)
  rw [setL_full (by rw [bQ];rfl)]at B6
  refine aI (s_11 (cK (dC ((dropAt3 (dropAt2 (cT (cF (L1:= []) U (.cell U (res_agg (ds:= [_,_,_,_]) ag36 B6 U U cO) .nil) (.cons _ (.refl _)) aZ ?_))))))))
  exact⟨by first|(rw [ho,c11,if_pos rfl];rfl)|(rw [ho,c11,c25,if_neg (by decide),if_pos rfl];rfl)|(rw [ho,c11,c25,if_neg (by decide),if_neg (by decide)];rfl),rfl⟩
 refine cG (aS (s_5 (aH fun _ s_12=>aB (bC U U (aK (ds:=u8s a) aN ag33 U B4 (by exact bJ hul) (by exact hul) dG U ?_)))))
 refine aK (ds:=u64s (wl kx)) aN ag36 U B5 (by exact bJ (bQ kx)) (by exact bQ kx) mem2 U ?_
 refine bG bT (.cons U (.cons U (.cons U .nil))) (VSlot h hk) Tryz.func61 U U (by simp) U ?_
 rintro _ _ ⟨rfl,rfl⟩
 show At _ _ _ [N7,N4,N5,N6,R] _
 rw [hr]
 refine bP nxQ sz36 U U U (bQ r) (one_wl r) B6 (by rw [bQ];decide) sel3 (fun N6 B6=>?_)
 rw [setL_full (by rw [bQ];rfl)]at B6
 refine aI (s_12 (cK ((dropAt3 (dropAt2 (cT (cF (L1:= []) U (.cell U (res_agg (ds:= [_,_,_,_]) ag36 B6 U U cO) .nil) (.cons _ (.refl _)) aZ ?_)))))))
 exact⟨by first|(rw [ho,c11,if_pos rfl];rfl)|(rw [ho,c11,c25,if_neg (by decide),if_pos rfl];rfl)|(rw [ho,c11,c25,if_neg (by decide),if_neg (by decide)];rfl),rfl⟩
def LogT (lg:List LgM) (v:Value) (L:List Heaplet):Prop:= ∃NB NI a n cp ls,v=.slice a n cp∧L= [NB,NI]∧n=lg.length∧RSl NB 22 a n cp ls∧LogsN NI lg ls
theorem logF_len {K:Heaplet} {p:LgM×LgI} (h:LogR K p):(logF p).length=22:=logC_len h.ad _ _
theorem logs_len: ∀ {qs:List (LgM×LgI)},(∀p∈qs,(logF p).length=22)→(qs.flatMap logF).length=qs.length*22
 | [],_=>by simp
 |p::r,h=>by
  rw [List.flatMap_cons,List.length_append,logs_len fun q hq=>h q (List.mem_cons_of_mem _ hq),h p (by simp),List.length_cons,Nat.succ_mul,Nat.add_comm]
theorem logs_set {qs:List (LgM×LgI)} {T C:List Value} {i n:Nat} {g:LgM×LgI} (hq:qs.length=i) (hT:T.length=(n- i)*22) (hi:i<n) (hC:C.length=22) (hl: ∀p∈qs,(logF p).length=22) (hg:logF g=C):setL (qs.flatMap logF++T) (i*22) C=(qs++ [g]).flatMap logF++T.drop 22:=by
 have e:T=T.take 22++T.drop 22:=(List.take_append_drop 22 T).symm
 rw [List.flatMap_append,List.flatMap_cons,List.flatMap_nil,List.append_nil,hg,List.append_assoc]
 conv=>lhs;rw [e]
 exact setL_appS (by rw [logs_len hl,hq]) (by rw [hC,List.length_take,hT];omega)
set_option maxHeartbeats 1000000 in
theorem VLogs (h:QV K x c oc J lo tl la lc u k ls DF DT DM DW DD DP DQ DO) (hc:c≤1000000):Fn Tryz.prog 21 #[.pointer (some ⟨x.sp,0,none⟩)] [] [K] (LogT J.lg):=by
 obtain⟨ps,hp1,hp2,hp3⟩:=h.lg
 have hn:=h.bL
 obtain⟨n,hnn⟩: ∃n,J.lg.length=n:=⟨_,rfl⟩
 have hpn:ps.length=n:=by rw [←hnn, ←hp1,List.length_map]
 have hB:=h.S
 have hL:=h.L
 rw [hnn]at hn hB hL
 rw [hp2]at hL
 have hcp:=hL.cap63
 refine Fn.enter (vs:= [.pointer (some ⟨x.sp,0,none⟩)]) Tryz.func21 U U U ?_
 intro E R hR
 have hle:=hR K (by simp)
 have BR:=hB.le hle
 have hL:=hL.le hle
 have hp3: ∀p∈ps,LogR R p:=fun p hp=>(hp3 p hp).le hle
 have hpl: ∀p∈ps,(logF p).length=22:=fun p hp=>logF_len (hp3 p hp)
 change At _ _ E [R] _
 refine aH fun _ s_1=>aB (bV U U (aI (s_1 (aH fun _ s_2=>aB (bC U U (bH aN U U (aJ aN fl85_1 U U (aJ aN fl83_8 U U (aU aN sc60 U BR U cO U ?_)))))))))
 refine dB aN se60 U U ?_
 refine op_make bT Tryz.underlying60 te93 U U (show _=(((n:Nat)):Int)from by omega) (show _=(((n:Nat)):Int)from by omega) (by omega) (by unfold maxLen;omega) U (fun N12 a12 r12=>?_)
 skip
 have s12:=r12.rsl
 refine bV U U (aI (s_2 (aH fun _ s_3=>aH fun _ s_4=>aB (bC U U (bH aN U U (aJ aN fl85_1 U U (aJ aN fl83_8 U U (aU aN sc60 U BR U dG U ?_))))))))
 refine dB aN se60 U U (bC U U (aI (s_4 (bX (At.empty (bF (cH (bF (At.loop (fun fr_ hp_ ms_=> ∃(i:Nat) (qs:List (LgM×LgI)) (T:List Value) (Na NJ:Heaplet),fr_= [(0,.pointer (some ⟨x.sp,0,none⟩)),(3,.slice a12 n n),(17,.slice la n lc),(18,.int .i64 (n:Int)),(19,.int .i64 (i:Int))]∧hp_= [Na,NJ,R]∧n- i=ms_∧(i≤n)∧(Row Na 93 22 a12 n n (qs.flatMap logF++T))∧(qs.length=i)∧(T.length=(n- i)*22)∧(qs.map Prod.fst=J.lg.take i)∧(∀p∈qs,LogR NJ p)) ?_ aZ ⟨0,[],_,N12,nilH,rfl,rfl,rfl,Nat.zero_le _,r12,rfl,by rw [r12.1,Nat.sub_zero],rfl,fun p hp=>absurd hp List.not_mem_nil⟩ ?_)))))))))
 ·repeat first|apply cW|exact .nil|exact lkI rfl (by omega)|rfl
 rintro _ _ _ ⟨i,qs,T,Na,NJ,rfl,rfl,rfl,hi,ra,hql,hT,hqs,hrd⟩
 refine aH fun _ s_5=>aB (op_lss aN U U U (aI (s_5 (aH fun _ s_6=>cD U (fun c20=>?_) (fun c20=>?_)))))
 ·obtain⟨g,hgi⟩: ∃g,ps[i]? =some g:=⟨_,List.getElem?_eq_getElem (by omega)⟩
  have hgr:=hp3 g (List.mem_of_getElem? hgi)
  have hgl:=hpl g (List.mem_of_getElem? hgi)
  have hgi2:J.lg[i]? =some g.1:=by rw [←hp1,List.getElem?_map,hgi];rfl
  refine cG (aS (s_6 (aH fun _ s_7=>bX (aH fun _ s_8=>aB (bC U U (op_idxE aN se60 U U hL (show _=(((i:Nat)):Int)from by omega) (by omega) U ?_))))))
  refine op_loadAggE (ds:=logF g) aN ag93 U hL (by exact flat_atS logF hpl hgi) (by exact hgl) (by omega) (by simp) U ?_
  refine bZ bT ze93 U (fun N5 b5 B5=>?_)
  change Blk N5 b5 _ [.int .u8 0,.int .u8 0,.int .u8 0,.int .u8 0,.int .u8 0,.int .u8 0,.int .u8 0,.int .u8 0,.int .u8 0,.int .u8 0,.int .u8 0,.int .u8 0,.int .u8 0,.int .u8 0,.int .u8 0,.int .u8 0,.int .u8 0,.int .u8 0,.int .u8 0,.int .u8 0,.slice none 0 0,.slice none 0 0]at B5
  refine bV U U ?_
  refine bP nxQ sz93 U U U hgl (logC_one U U) B5 (by rw [hgl];decide) sel0 (fun N5 B5=>?_)
  rw [setL_full (by rw [hgl];rfl)]at B5
  refine aI (s_8 (aB (bC U U (bC U U (aK (ds:=logF g) aN ag93 U B5 (by exact bJ hgl) (by exact hgl) cO U ?_)))))
  refine bG bT (.cons U .nil) (FTwinL hgr) Tryz.func59 U U (by simp) U ?_
  rintro v27 L27 ⟨N27,t1,t2,t3,t4,rfl,rfl,hv2⟩
  show At _ _ _ [N27,N5,Na,NJ,R] _
  refine op_idxE aN se60 U U ra.rsl (show _=(((i:Nat)):Int)from by omega) (by omega) U ?_
  refine op_storeE nxQ sz93 U U U (logC_len hgr.ad _ _) (logC_one U U) ra (by rw [logC_len hgr.ad,ra.1];omega) (by rw [logC_len hgr.ad];decide) sel2 (fun Na ra=>?_)
  rw [logs_set (g:=(g.1,⟨t1,t2,t3,t4⟩)) hql hT (by omega) (logC_len hgr.ad _ _) (fun p hp=>logF_len (hrd p hp)) rfl]at ra
  have sa:=ra.rsl
  refine cE (cJ (aS (s_7 (aB (dD aN U U (by omega) (by omega) U (bC U U (aI (bA (bI (bF (bI (bA (cV (fun Jn Jn1 Jn2=>dropAt2 (bF (cH (bF ?_)))))))))))))))))
  refine At.back ?_ aZ ⟨i+1,qs++ [(g.1,⟨t1,t2,t3,t4⟩)],T.drop 22,Na,Jn,rfl,rfl,rfl,by omega,ra,by rw [List.length_append,hql];rfl,by rw [List.length_drop,hT];omega,by rw [List.map_append,hqs,take_nextS hgi2];rfl,fun p hp=>(List.mem_append.1 hp).elim (fun h2=>(hrd p h2).le Jn1) fun h2=>by rw [List.mem_singleton.1 h2];exact LogR.le (p:=(g.1,⟨t1,t2,t3,t4⟩)) hv2 Jn2⟩ ?_
  ·repeat first|apply cW|exact .nil|exact lkI rfl (by omega)|rfl
  ·omega
 refine At.exit (bD (bD (dE (aS (s_3 (aH fun _ s_9=>aB (bC U U (bV U U (aI (s_9 (cK ((cF (L1:= [Na,NJ]) U (.tmp U .nil) (.refl _) aZ ?_)))))))))))))
 have hin:i=n:=by omega
 subst hin
 have hT0:T= []:=List.eq_nil_of_length_eq_zero (by rw [hT];simp)
 rw [hT0,List.append_nil]at ra
 exact⟨Na,NJ,a12,_,_,_,rfl,rfl,hnn.symm,ra.rsl,qs,by rw [hqs,List.take_of_length_le (by omega)],rfl,hrd⟩
end
theorem getA_mapv {α β γ:Type} [DecidableEq α] {k:α} {f:β→γ} : ∀ {l:List (α×β)},getA k (l.map fun q=>(q.1,f q.2))=(getA k l).map f
 | []=>rfl
 |p::r=>by
  rw [List.map_cons,getA,getA]
  split
  ·rfl
  ·exact getA_mapv
structure RepV (M:AcL) (A:List UInt8→Option AcV):Prop where
 dis:DisA M
 sd: ∀p∈M,DisA p.2.st
 has: ∀a,(getA a M).isSome=(A a).isSome
 eq: ∀a x y,getA a M=some x→A a=some y→x.no=y.no∧x.ba=y.ba∧x.co=y.co∧ ∀k,getA k x.st=y.st k
theorem RepV.same {M M':AcL} {A:List UInt8→Option AcV} (h:RepV M A) (h':RepV M' A):acC M=acC M':=by
 have e:srtB M=srtB M':=sort_same h.dis h'.dis (fun a=>by rw [mem_keys,mem_keys,h.has a,h'.has a]) leB_tr leB_tot leB_as
 unfold acC
 rw [e]
 refine List.map_congr_left fun a _=>?_
 cases hA:A a with
 |none=>
  have h1:=h.has a
  have h2:=h'.has a
  rw [hA]at h1 h2
  cases g1:getA a M with
  |some x=>rw [g1]at h1;cases h1
  |none=>
   cases g2:getA a M' with
   |some x=>rw [g2]at h2;cases h2
   |none=>rfl
 |some y=>
  have h1:=h.has a
  have h2:=h'.has a
  rw [hA]at h1 h2
  obtain⟨x,g1⟩:=Option.isSome_iff_exists.1 h1
  obtain⟨x',g2⟩:=Option.isSome_iff_exists.1 h2
  obtain⟨a1,a2,a3,a4⟩:=h.eq a x y g1 hA
  obtain⟨b1,b2,b3,b4⟩:=h'.eq a x' y g2 hA
  have hs:=stC_same (h.sd _ (getA_mem g1)) (h'.sd _ (getA_mem g2)) fun k=>(a4 k).trans (b4 k).symm
  rw [g1,g2]
  simp only [Option.getD_some,AcS.told,a1,a2,a3,b1,b2,b3,hs]
section
variable {α β γ : Type} [DecidableEq α] {κ : α → Lit} {ok : α → Prop} {val : β → Value} {val' : γ → Value} {D : DataW Value} {l : List (α × β)} {l' : List (α × γ)}
theorem MapA.reval (h:MapA κ ok val D l) (e:l'.map (fun q=>(q.1,val' q.2))=l.map fun q=>(q.1,val q.2)):MapA κ ok val' D l':=by
 have ek:l'.map Prod.fst=l.map Prod.fst:=by
  have:=congrArg (List.map Prod.fst) e
  rwa [List.map_map,List.map_map]at this
 have hs: ∀k,(getA k l').isSome=(getA k l).isSome:=fun k=>by
  rw [Bool.eq_iff_iff, ←mem_keys, ←mem_keys,ek]
 have hm: ∀p∈l', ∃q∈l,q.1=p.1∧val q.2=val' p.2:=fun p hp=>by
  have:(p.1,val' p.2)∈l.map fun q=>(q.1,val q.2):=e▸List.mem_map.2 ⟨p,hp,rfl⟩
  obtain⟨q,hq,eq⟩:=List.mem_map.1 this
  exact⟨q,hq,(Prod.mk.inj eq).1,(Prod.mk.inj eq).2⟩
 refine⟨by unfold DisA;rw [ek];exact h.dis,h.tidy,?_,fun p hp=>?_,fun k hk=>by rw [hs];exact h.has k hk,fun p hp z=>?_⟩
 ·have:=congrArg List.length ek
  rw [List.length_map,List.length_map]at this
  rw [h.size,this]
 ·obtain⟨q,hq,e1,_⟩:=hm p hp
  exact e1▸h.key q hq
 ·obtain⟨q,hq,e1,e2⟩:=hm p hp
  rw [←e1, ←e2];exact h.val q hq z
end
def AcsV (K:Heaplet) (sp c:Nat) (A:List UInt8→Option AcV):Prop:= ∃ma DF l cs M,StV K sp ma c DF l cs∧MdEq l M∧RepV M A
theorem AcsV.mono {K:Heaplet} {sp c:Nat} {A B:List UInt8→Option AcV} (h:AcsV K sp c A) (e: ∀a,A a=B a):AcsV K sp c B:=by
 rw [←funext e];exact h
theorem acl_build {K:Heaplet} {c:Nat} {ob:Nat→Option Ob} (hob: ∀p o,ob p=some o→ ∃D,ObO K K K c p D o): ∀ {lF:List (List UInt8×Nat)},(∀q∈lF, ∃o,ob q.2=some o)→ ∃l:AcR,l.map (fun q=>(q.1,q.2.1))=lF∧ ∀q∈l,AccV K c q.2.1 q.2.2∧DisA q.2.2.st∧ ∃o,ob q.2.1=some o∧q.2.2.no=o.no∧q.2.2.ba=o.ba∧q.2.2.co=o.co∧ ∀k,getA k q.2.2.st=o.st k
 | [],_=>⟨[],rfl,fun _ h=>absurd h List.not_mem_nil⟩
 |(a,p)::r,h=>by
  obtain⟨l,h1,h2⟩:=acl_build hob (lF:=r) fun q hq=>h q (List.mem_cons_of_mem _ hq)
  obtain⟨o,ho⟩:=h (a,p) (by simp)
  obtain⟨D,z⟩:=hob p o ho
  obtain⟨st,s1,s2⟩:=z.A
  refine⟨(a,(p,⟨o.no,o.ba,o.co,st⟩))::l,by rw [List.map_cons,h1],fun q hq=>?_⟩
  rcases List.mem_cons.1 hq with rfl|hq
  ·refine⟨⟨o.mb,o.ca,o.cc,D,z.B,z.M,s1,z.C,z.ln,z.ba,fun w hw=>z.st w.1 w.2 ?_⟩,s1.dis,o,ho,rfl,rfl,rfl,s2⟩
   rw [←s2]
   exact getA_of s1.dis hw
  ·exact h2 q hq
theorem accs_of {K:Heaplet} {sp ma c:Nat} {cs:List Value} {DF:DataW Value} {ac:List UInt8→Option Nat} {ob:Nat→Option Ob} (B:Blk K sp 85 (.map (some ma)::cs)) (F:MapV Tryz.prog 33 K ma c DF) (aF:MapF keyA okAd ptrN DF ac) (hob: ∀p o,ob p=some o→ ∃D,ObO K K K c p D o) (hac: ∀a p,ac a=some p→ ∃o,ob p=some o):AcsV K sp c (fun a=>((ac a).bind ob).map Ob.v):=by
 obtain⟨lF,hA,hF⟩:=aF
 obtain⟨l,h1,h2⟩:=acl_build hob (lF:=lF) fun q hq=>hac q.1 q.2 ((hF q.1).symm.trans (getA_of hA.dis hq))
 have hl:MapA keyA okAd ptrV DF l:=hA.reval (by rw [←h1,List.map_map];rfl)
 have hg: ∀a,(getA a l).map (fun v=>v.1)=ac a:=fun a=>by
  rw [←hF a, ←h1];exact getA_mapv.symm
 have hm: ∀a,(getA a l).map Prod.snd=getA a (l.map fun q=>(q.1,q.2.2)):=fun a=>(getA_mapv (f:=fun v:Nat×AcS=>v.2)).symm
 obtain⟨M,hMd⟩: ∃M:AcL,M=l.map fun q=>(q.1,q.2.2):=⟨_,rfl⟩
 rw [←hMd]at hm
 refine⟨ma,DF,l,cs,M,⟨B,F,hl,fun k v hk=>(h2 (k,v) (getA_mem hk)).1⟩,hm,⟨?_,fun p hp=>?_,fun a=>?_,fun a x y hx hy=>?_⟩⟩
 ·have:=hl.dis
  rw [hMd]
  unfold DisA at this⊢
  rwa [List.map_map]
 ·rw [hMd]at hp
  obtain⟨q,hq,rfl⟩:=List.mem_map.1 hp
  exact(h2 q hq).2.1
 ·rw [←hm, ←hg]
  cases h:getA a l with
  |none=>rfl
  |some v=>
   obtain⟨_,_,o,ho,_⟩:=h2 (a,v) (getA_mem h)
   show true=((some v.1).bind ob |>.map Ob.v).isSome
   rw [Option.bind_some,ho];rfl
 ·rw [←hm]at hx
  rw [←hg]at hy
  cases h:getA a l with
  |none=>rw [h]at hx;cases hx
  |some v=>
   obtain⟨_,_,o,ho,a1,a2,a3,a4⟩:=h2 (a,v) (getA_mem h)
   rw [h]at hx hy
   obtain rfl:=Option.some.inj hx
   rw [Option.map_some,Option.bind_some,ho]at hy
   obtain rfl:=Option.some.inj hy
   exact⟨a1,a2,a3,a4⟩
theorem QV.accs {K:Heaplet} {x:FxP} {c oc:Nat} {J:JS} {lo:List UInt8×Nat→Option Nat} {tl:Int} {la:Option Addr} {lc:Nat} {u k:Value} {ls:List Value} {DF DT DM DW DD DP DQ DO:DataW Value} (h:QV K x c oc J lo tl la lc u k ls DF DT DM DW DD DP DQ DO):AcsV K x.sp c J.v.ac:=accs_of h.S h.F h.aF h.ob fun a p hp=>let ⟨o,ho,_⟩:=h.wf a p hp;⟨o,ho⟩
theorem AcsV.two {K K':Heaplet} {sp sp' c c':Nat} {A:List UInt8→Option AcV} (h:AcsV K sp c A) (h':AcsV K' sp' c' A) (hc:c≤1000000) (hc':c'≤1000000): ∃b z,z.length=32∧Fn Tryz.prog 9 #[.pointer (some ⟨sp,0,none⟩)] [] [K] (TellP b c)∧Fn Tryz.prog 9 #[.pointer (some ⟨sp',0,none⟩)] [] [K'] (TellP b c')∧Fn Tryz.prog 10 #[.pointer (some ⟨sp,0,none⟩)] [] [K] (fun v L=>v=.agg (u8s z).toArray∧L= [])∧Fn Tryz.prog 10 #[.pointer (some ⟨sp',0,none⟩)] [] [K'] (fun v L=>v=.agg (u8s z).toArray∧L= []):=by
 obtain⟨ma,DF,l,cs,M,hV,hM,hR⟩:=h
 obtain⟨ma',DF',l',cs',M',hV',hM',hR'⟩:=h'
 have e:=hR.same hR'
 refine⟨acC M,acRoot (acC M),acRoot_len _,FAlloc hV hM hR.dis hc,?_,FRootS hV hM hR.dis hc,?_⟩
 ·rw [e];exact FAlloc hV' hM' hR'.dis hc'
 ·rw [e];exact FRootS hV' hM' hR'.dis hc'
def emptyO (o:Option AcV):Bool:=decide ((o.getD AcV.z).no=0)&&(decide ((o.getD AcV.z).ba=0)&&decide ((o.getD AcV.z).co.length=0))
section
variable {NS NF NX : Heaplet} {sp ma c xp : Nat} {cs : List Value} {f : List UInt8 → Option Nat} {DF : DataW Value} {a : List UInt8}
set_option maxHeartbeats 1000000 in
theorem JEmptyT {o:Ob} (BS:Blk NS sp 85 (.map (some ma)::cs)) (hM:MapV Tryz.prog 33 NF ma c DF) (hA:MapF keyA okAd ptrN DF f) (hk:okAd a) (hg:f a=some xp) (hX:Blk NX xp 71 (acK o.no o.ba o.ca o.co.length o.cc o.mb)) (hb:o.ba<WW):Fn Tryz.prog 64 #[.pointer (some ⟨sp,0,none⟩),.agg (u8s a).toArray] [] [NS,NF,NX] (fun v L=>v=.bool (emptyO (some o.v))∧L= []):=by
 have hul:=len_A hk
 unfold acK at hX
 have he:emptyO (some o.v)=(decide (o.no=0)&&(decide (o.ba=0)&&decide (o.co.length=0))):=rfl
 have hno:((o.no.toNat:Int)=0)↔o.no=0:=⟨fun h=>UInt64.toNat_inj.1 (by rw [UInt64.toNat_zero];exact Int.ofNat.inj h),fun h=>by rw [h];rfl⟩
 refine Fn.enter (vs:= [.pointer (some ⟨sp,0,none⟩),.agg (u8s a).toArray]) Tryz.func64 U U U ?_
 intro E R hR
 have BR:=BS.le (hR NS (by simp))
 have BX:=hX.le (hR NX (by simp))
 have hM:=hM.le (hR NF (by simp))
 change At _ _ E [R] _
 refine aH fun _ s_1=>aB (cU bT U U U (fun N3 b3 B3=>bV U U (aI (s_1 (aH fun _ s_2=>aB (bC U U (aK (ds:=u8s a) aN ag33 U B3 (by exact bJ hul) (by exact hul) cO U ?_)))))))
 refine bG bT (.cons U (.cons U .nil)) (JAtT BR hM hA hk hg) Tryz.func65 U U (by simp) U ?_
 rintro _ _ ⟨rfl,rfl⟩
 show At _ _ _ [N3,R] _
 refine bV U U (aI (s_2 (aH fun _ s_3=>aB (bC U U (bH aN U U (aJ aN fl71_0 U U (aU aN sc34 U BX U dG U ?_)))))))
 refine op_eql aN U U U (bC U U (At.partP (d:=14) U (fun g14=>?_) (fun g14=>?_)))
 ·refine aR (nxgf U U U U) U U (bH (nxgf U U U U) U U (aJ (nxgf U U U U) fl71_1 U U (aK (ds:=u64s (wl o.ba)) (nxgf U U U U) ag36 U BX (by rfl) (by rfl) dG U ?_)))
  refine op_buildA (out:= [.int .u64 0,.int .u64 0,.int .u64 0,.int .u64 0]) (nxgf U U U U) ze36 ae36 .nil U U (op_eqW (a:=wl o.ba) (b:= [0,0,0,0]) (nxgf U U U U) ae36 Tryz.underlying34 (by kernel_rfl) U U U U U (op_pickT aN U U U (bC U U (At.partP (d:=22) U (fun g22=>?_) (fun g22=>?_)))))
  ·refine aR (nxgf U U U U) U U (bH (nxgf U U U U) U U (aJ (nxgf U U U U) fl71_2 U U (aU (nxgf U U U U) sc37 U BX U dG U ?_)))
   refine dB (nxgf U U U U) se37 U U (op_eql (nxgf U U U U) U U U (op_pickT aN U U U (bV U U (aI (s_3 (cK ((dropAt0 (cF (L1:= []) U (.tmp U .nil) (.refl _) aZ ?_)))))))))
   exact⟨by first|(have e1:=hno.1 g14;have e2:=(wl_zero4 hb).1 g22;rw [he];simp [e1,e2])|(have e2: ¬o.ba=0:=fun h=>g22 ((wl_zero4 hb).2 h);rw [he];simp [e2])|(have e1: ¬o.no=0:=fun h=>g14 (hno.2 h);rw [he];simp [e1]),rfl⟩
  refine dF U U U U U U U (dF U U U U U U U (dF U U U U U U U (dF U U U U U U U (dF U U U U U U U (dF U U U U U U U (op_pickF aN U U U (bV U U (aI (s_3 (cK ((dropAt0 (cF (L1:= []) U (.tmp U .nil) (.refl _) aZ ?_)))))))))))))
  exact⟨by first|(have e1:=hno.1 g14;have e2:=(wl_zero4 hb).1 g22;rw [he];simp [e1,e2])|(have e2: ¬o.ba=0:=fun h=>g22 ((wl_zero4 hb).2 h);rw [he];simp [e2])|(have e1: ¬o.no=0:=fun h=>g14 (hno.2 h);rw [he];simp [e1]),rfl⟩
 refine dF U U U U U U U (dF U U U U U U U (dF U U U U U U U (dF U U U U U U U (dF U U U U U U U (dF U U U U U U U (op_pickF aN U U U (bC U U (dF U U U U U U U (dF U U U U U U U (dF U U U U U U U (dF U U U U U U U (dF U U U U U U U (dF U U U U U U U (op_pickF aN U U U (bV U U (aI (s_3 (cK ((dropAt0 (cF (L1:= []) U (.tmp U .nil) (.refl _) aZ ?_)))))))))))))))))))))
 exact⟨by first|(have e1:=hno.1 g14;have e2:=(wl_zero4 hb).1 g22;rw [he];simp [e1,e2])|(have e2: ¬o.ba=0:=fun h=>g22 ((wl_zero4 hb).2 h);rw [he];simp [e2])|(have e1: ¬o.no=0:=fun h=>g14 (hno.2 h);rw [he];simp [e1]),rfl⟩
set_option maxHeartbeats 1000000 in
theorem JEmptyF (BS:Blk NS sp 85 (.map (some ma)::cs)) (hM:MapV Tryz.prog 33 NF ma c DF) (hA:MapF keyA okAd ptrN DF f) (hk:okAd a) (hg:f a=none):Fn Tryz.prog 64 #[.pointer (some ⟨sp,0,none⟩),.agg (u8s a).toArray] [] [NS,NF] (fun v L=>v=.bool true∧L= []):=by
 have hul:=len_A hk
 refine Fn.enter (vs:= [.pointer (some ⟨sp,0,none⟩),.agg (u8s a).toArray]) Tryz.func64 U U U ?_
 intro E R hR
 have BR:=BS.le (hR NS (by simp))
 have hM:=hM.le (hR NF (by simp))
 change At _ _ E [R] _
 refine aH fun _ s_1=>aB (cU bT U U U (fun N3 b3 B3=>bV U U (aI (s_1 (aH fun _ s_2=>aB (bC U U (aK (ds:=u8s a) aN ag33 U B3 (by exact bJ hul) (by exact hul) cO U ?_)))))))
 refine bG bT (.cons U (.cons U .nil)) (JAtF BR hM hA hk hg) Tryz.func65 U U (by simp) U ?_
 rintro _ _ ⟨NY,bY,rfl,rfl,BY⟩
 show At _ _ _ [NY,N3,R] _
 refine bV U U (aI (s_2 (aH fun _ s_3=>aB (bC U U (bH aN U U (aJ aN fl71_0 U U (aU aN sc34 U BY U cO U ?_)))))))
 refine op_eql aN U U U (bC U U (At.partP (d:=14) U (fun g14=>?_) (fun g14=>?_)))
 ·refine aR (nxgf U U U U) U U (bH (nxgf U U U U) U U (aJ (nxgf U U U U) fl71_1 U U (aK (ds:= [_,_,_,_]) (nxgf U U U U) ag36 U BY U U cO U (op_buildA (out:= [.int .u64 0,.int .u64 0,.int .u64 0,.int .u64 0]) (nxgf U U U U) ze36 ae36 .nil U U (op_eqW (a:= [0,0,0,0]) (b:= [0,0,0,0]) (nxgf U U U U) ae36 Tryz.underlying34 (by kernel_rfl) U U U U U (op_pickT aN U U U (bC U U (At.partP (d:=22) U (fun g22=>?_) (fun g22=>?_)))))))))
  ·refine aR (nxgf U U U U) U U (bH (nxgf U U U U) U U (aJ (nxgf U U U U) fl71_2 U U (aU (nxgf U U U U) sc37 U BY U cO U ?_)))
   refine dB (nxgf U U U U) se37 U U (op_eql (nxgf U U U U) U U U (op_pickT aN U U U (bV U U (aI (s_3 (cK ((cT (dropAt0 (cF (L1:= []) U (.tmp U .nil) (.refl _) aZ ?_))))))))))
   exact⟨by first|rfl|exact absurd rfl g22|exact absurd rfl g14,rfl⟩
  refine dF U U U U U U U (dF U U U U U U U (dF U U U U U U U (dF U U U U U U U (dF U U U U U U U (dF U U U U U U U (op_pickF aN U U U (bV U U (aI (s_3 (cK ((cT (dropAt0 (cF (L1:= []) U (.tmp U .nil) (.refl _) aZ ?_))))))))))))))
  exact⟨by first|rfl|exact absurd rfl g22|exact absurd rfl g14,rfl⟩
 refine dF U U U U U U U (dF U U U U U U U (dF U U U U U U U (dF U U U U U U U (dF U U U U U U U (dF U U U U U U U (op_pickF aN U U U (bC U U (dF U U U U U U U (dF U U U U U U U (dF U U U U U U U (dF U U U U U U U (dF U U U U U U U (dF U U U U U U U (op_pickF aN U U U (bV U U (aI (s_3 (cK ((cT (dropAt0 (cF (L1:= []) U (.tmp U .nil) (.refl _) aZ ?_))))))))))))))))))))))
 exact⟨by first|rfl|exact absurd rfl g22|exact absurd rfl g14,rfl⟩
theorem JEmpty {ob:Nat→Option Ob} (BS:Blk NS sp 85 (.map (some ma)::cs)) (hM:MapV Tryz.prog 33 NF ma c DF) (hA:MapF keyA okAd ptrN DF f) (hk:okAd a) (hob: ∀p o,ob p=some o→Blk NX p 71 (acK o.no o.ba o.ca o.co.length o.cc o.mb)∧o.ba<WW) (hac: ∀p,f a=some p→ ∃o,ob p=some o):Fn Tryz.prog 64 #[.pointer (some ⟨sp,0,none⟩),.agg (u8s a).toArray] [] [NS,NF,NX] (fun v L=>v=.bool (emptyO (((f a).bind ob).map Ob.v))∧L= []):=by
 cases hg:f a with
 |none=>exact(JEmptyF BS hM hA hk hg).more (by simp)
 |some p=>
  obtain⟨o,ho⟩:=hac p hg
  obtain⟨h1,h2⟩:=hob p o ho
  rw [Option.bind_some,ho]
  exact JEmptyT BS hM hA hk hg h1 h2
end
def goneF (f:List UInt8→Option Nat) (pre:List (List UInt8)):List UInt8→Option Nat:=fun a=>if a∈pre then none else f a
theorem goneF_nil {f:List UInt8→Option Nat} :goneF f []=f:=funext fun a=>if_neg List.not_mem_nil
theorem goneF_step {f:List UInt8→Option Nat} {pre:List (List UInt8)} {k:List UInt8} :updF (goneF f pre) k none=goneF f (pre++ [k]):=funext fun a=>by
 unfold updF goneF
 by_cases e:a=k
 ·rw [if_pos e,if_pos (by rw [e];simp)]
 ·rw [if_neg e]
  by_cases h:a∈pre
  ·rw [if_pos h,if_pos (List.mem_append_left _ h)]
  ·rw [if_neg h,if_neg fun h2=>(List.mem_append.1 h2).elim h fun h3=>e (List.mem_singleton.1 h3)]
def goneE (f:List UInt8→Option Nat) (em:List UInt8→Bool) (pre:List (List UInt8)):List UInt8→Option Nat:=fun a=>if a∈pre∧em a=true then none else f a
theorem goneE_nil {f:List UInt8→Option Nat} {em:List UInt8→Bool} :goneE f em []=f:=funext fun a=>if_neg fun h=>List.not_mem_nil h.1
theorem goneE_at {f:List UInt8→Option Nat} {em:List UInt8→Bool} {pre:List (List UInt8)} {k:List UInt8} (h:k∉pre):goneE f em pre k=f k:=if_neg fun h2=>h h2.1
theorem goneE_step {f:List UInt8→Option Nat} {em:List UInt8→Bool} {pre:List (List UInt8)} {k:List UInt8} (he:em k=true):updF (goneE f em pre) k none=goneE f em (pre++ [k]):=funext fun a=>by
 unfold updF goneE
 by_cases e:a=k
 ·rw [if_pos e,if_pos ⟨by rw [e];simp,by rw [e];exact he⟩]
 ·rw [if_neg e]
  by_cases h:a∈pre∧em a=true
  ·rw [if_pos h,if_pos ⟨List.mem_append_left _ h.1,h.2⟩]
  ·rw [if_neg h,if_neg fun h2=>(List.mem_append.1 h2.1).elim (fun h3=>h ⟨h3,h2.2⟩) fun h3=>e (List.mem_singleton.1 h3)]
theorem goneE_keep {f:List UInt8→Option Nat} {em:List UInt8→Bool} {pre:List (List UInt8)} {k:List UInt8} (he:em k=false):goneE f em pre=goneE f em (pre++ [k]):=funext fun a=>by
 unfold goneE
 by_cases h:a∈pre∧em a=true
 ·rw [if_pos h,if_pos ⟨List.mem_append_left _ h.1,h.2⟩]
 ·rw [if_neg h,if_neg fun h2=>(List.mem_append.1 h2.1).elim (fun h3=>h ⟨h3,h2.2⟩) fun h3=>by rw [List.mem_singleton.1 h3,he]at h2;cases h2.2]
def endA (V:Vw):List UInt8→Option AcV:=fun a=>if (V.ld a).isSome=true then none else if (V.lt a).isSome=true∧emptyO (V.ac a)=true then none else V.ac a
theorem end_law {J:JS} {f1:List UInt8→Option Nat} {pre:List (List UInt8)} {a:List UInt8} (hp:f1 a=if (J.ld a).isSome=true then none else J.ac a) (hi:a∈pre↔(J.lt a).isSome=true):((goneE f1 (fun a=>emptyO (((f1 a).bind J.ob).map Ob.v)) pre a).bind J.ob).map Ob.v=endA J.v a:=by
 have hv:J.v.ac a=((J.ac a).bind J.ob).map Ob.v:=rfl
 unfold goneE endA
 by_cases h1:(J.ld a).isSome=true
 ·rw [if_pos h1]at hp
  rw [if_pos (show(J.v.ld a).isSome=true from h1),hp]
  split<;>rfl
 ·rw [if_neg h1]at hp
  rw [if_neg (show ¬(J.v.ld a).isSome=true from h1),hv]
  by_cases h2:a∈pre∧emptyO (((f1 a).bind J.ob).map Ob.v)=true
  ·rw [if_pos h2,if_pos ⟨hi.1 h2.1,by rw [←hp];exact h2.2⟩];rfl
  ·rw [if_neg h2,if_neg fun h3=>h2 ⟨hi.2 h3.1,by rw [hp];exact h3.2⟩,hp]
section
variable {NS NF NT ND NB NJ : Heaplet} {x : FxP} {lg mk un : Value} {tl : Int} {DT DF DD : DataW Value} {c : Nat} {J : JS}
set_option maxHeartbeats 4000000 in
theorem JEnd (BS:Blk NS x.sp 85 (stK x.ma x.mt x.mm x.mw x.md x.ws x.tr x.og J.rf lg un mk tl)) (hF:MapV Tryz.prog 33 NF x.ma c DF) (aF:MapF keyA okAd ptrN DF J.ac) (hT:MapV Tryz.prog 33 NT x.mt c DT) (aT:MapF keyA okAd unitV DT J.lt) (hD:MapV Tryz.prog 33 ND x.md c DD) (aD:MapF keyA okAd unitV DD J.ld) (hB:ObF NB NJ c J.ob) (hw:JWf J):Fn Tryz.prog 28 #[.pointer (some ⟨x.sp,0,none⟩),.bool true] [NS,NF] [NT,ND,NB] (fun v L=> ∃(NS NF:Heaplet) (DF:DataW Value) (cs:List Value) (f:List UInt8→Option Nat),v=.tuple #[]∧L= [NS,NF]∧Blk NS x.sp 85 (.map (some x.ma)::cs)∧MapV Tryz.prog 33 NF x.ma c DF∧MapF keyA okAd ptrN DF f∧(∀a p,f a=some p→J.ac a=some p)∧ ∀a,((f a).bind J.ob).map Ob.v=endA J.v a):=by
 obtain⟨lt,mT,fT⟩:=aT
 obtain⟨ld,mD,fD⟩:=aD
 have hob: ∀p o,J.ob p=some o→Blk NB p 71 (acK o.no o.ba o.ca o.co.length o.cc o.mb)∧o.ba<WW:=fun p o ho=>by
  obtain⟨NX,NM,D,h1,h2,z⟩:=hB.see ho
  exact⟨z.B.le h1,z.ba⟩
 unfold stK at BS
 refine Fn.enter (vs:= [.pointer (some ⟨x.sp,0,none⟩),.bool true]) Tryz.func28 U U U ?_
 intro E R hR
 have hT:=hT.le (hR NT (by simp))
 have hD:=hD.le (hR ND (by simp))
 have hob: ∀p o,J.ob p=some o→Blk R p 71 (acK o.no o.ba o.ca o.co.length o.cc o.mb)∧o.ba<WW:=fun p o ho=>⟨(hob p o ho).1.le (hR NB (by simp)),(hob p o ho).2⟩
 change At _ _ E [NS,NF,R] _
 refine aH fun _ s_1=>aH fun _ s_2=>aB (bC U U (bH aN U U (aJ aN fl85_1 U U (aJ aN fl83_3 U U (aU aN sc76 U BS U cO U ?_)))))
 refine op_range bT kd33 Tryz.underlying76 U hD (by simp) U (fun N11 b11 g11=>aI (s_2 (bX (bI (bF (bI (bI ?_)))))))
 refine At.loop (fun fr_ hp_ ms_=> ∃(pre:List (List UInt8)) (left:Lit→Bool) (cnt:Nat) (NG NFi:Heaplet) (Di:DataW Value),fr_= [(0,.pointer (some ⟨x.sp,0,none⟩)),(1,.bool true),(11,.pointer (some ⟨b11,0,none⟩))]∧hp_= [NG,NFi,NS,R]∧cnt=ms_∧(RngN Tryz.prog 33 NG b11 R x.md c DD left cnt)∧(KeysIn keyA okAd ld left pre)∧(MapV Tryz.prog 33 NFi x.ma c Di)∧(MapF keyA okAd ptrN Di (goneF J.ac pre))) ?_ aZ ⟨[],_,_,N11,NF,DF,rfl,rfl,rfl,g11,KeysIn.start mD,hF,by rw [goneF_nil];exact aF⟩ ?_
 ·repeat first|apply cW|exact .nil|exact lkI rfl (by omega)|rfl
 rintro _ _ _ ⟨pre,left,cnt,NG,NFi,Di,rfl,rfl,rfl,hg,hK,hFi,aFi⟩
 refine aH fun _ s_3=>aB (op_next nxQ kd33 U hg sel0 (by simp) U (fun z12 e12=>?_) (fun k12 v12 q12 N12 n12 ke12 lf12 at12 g12 lt12 en12=>?_))
 ·show At _ _ _ [NG,NFi,NS,R] _
  refine bW aN U U U (aI (s_3 (aH fun _ s_4=>At.condF U (At.exit (bD (bD (dE (aS (s_1 (aH fun _ s_5=>aH fun _ s_6=>aB (bC U U (bH aN U U (aJ aN fl85_1 U U (aJ aN fl83_0 U U (aU aN sc76 U BS U mem2 U ?_)))))))))))))))
  refine op_range bT kd33 Tryz.underlying76 U hT (by simp) U (fun N26 b26 g26=>aI (s_6 (bX ?_)))
  have hpre: ∀a,goneF J.ac pre a=if (J.ld a).isSome=true then none else J.ac a:=fun a=>by
   have hp:=hK.fin mD.dis mD.key e12
   have hi:a∈pre↔(J.ld a).isSome=true:=by rw [hp.mem_iff,mem_keys,fD]
   unfold goneF
   by_cases h:a∈pre
   ·rw [if_pos h,if_pos (hi.1 h)]
   ·rw [if_neg h,if_neg fun h2=>h (hi.2 h2)]
  obtain⟨f1,hf1⟩: ∃f1,f1=goneF J.ac pre:=⟨_,rfl⟩
  rw [←hf1]at aFi
  have hsub: ∀a p,f1 a=some p→J.ac a=some p:=fun a p hp=>by
   rw [hf1,hpre]at hp
   split at hp
   ·cases hp
   ·exact hp
  refine cT ?_
  refine At.loop (fun fr_ hp_ ms_=> ∃(pre2:List (List UInt8)) (left:Lit→Bool) (cnt:Nat) (NG NFi:Heaplet) (Di:DataW Value),fr_= [(0,.pointer (some ⟨x.sp,0,none⟩)),(1,.bool true),(26,.pointer (some ⟨b26,0,none⟩))]∧hp_= [NG,NFi,NS,R]∧cnt=ms_∧(RngN Tryz.prog 33 NG b26 R x.mt c DT left cnt)∧(KeysIn keyA okAd lt left pre2)∧(MapV Tryz.prog 33 NFi x.ma c Di)∧(MapF keyA okAd ptrN Di (goneE f1 (fun a=>emptyO (((f1 a).bind J.ob).map Ob.v)) pre2))) ?_ aZ ⟨[],_,_,N26,NFi,Di,rfl,rfl,rfl,g26,KeysIn.start mT,hFi,by rw [goneE_nil];exact aFi⟩ ?_
  ·repeat first|apply cW|exact .nil|exact lkI rfl (by omega)|rfl
  rintro _ _ _ ⟨pre2,left,cnt,NG,NFi,Di,rfl,rfl,rfl,hg,hK2,hFi,aFi⟩
  refine aH fun _ s_7=>aB (op_next nxQ kd33 U hg sel0 (by simp) U (fun z27 e27=>?_) (fun k27 v27 q27 N27 n27 ke27 lf27 at27 g27 lt27 en27=>?_))
  ·show At _ _ _ [NG,NFi,NS,R] _
   refine bW aN U U U (aI (s_7 (aH fun _ s_8=>At.condF U (At.exit (bD (bD (dE (aS (s_5 (aB (bC U U (bI (bF (bF (bI (cR nxQ (.cons U .nil) (FBeginX BS) (F:= [NG,NFi,R]) Tryz.func49 U U aZ (by simp) U ?_))))))))))))))))
   rintro _ _ ⟨NS9,NT9,mt9,mm9,mw9,md9,ws9,tr9,og9,rfl,rfl,BS9,hT9⟩
   show At _ _ _ [NS9,NT9,NG,NFi,R] _
   skip
   refine cE (dropAt2 (cT (cQ (L1:= [NS9,NFi]) U .nil U (.refl _) aZ (⟨NS9,NFi,Di,_,_,rfl,rfl,BS9,hFi,aFi,fun a p hp=>?_,fun a=>?_⟩))))
   ·unfold goneE at hp
    split at hp
    ·cases hp
    ·exact hsub a p hp
   ·have hp:=hK2.fin mT.dis mT.key e27
    have hi:a∈pre2↔(J.lt a).isSome=true:=by rw [hp.mem_iff,mem_keys,fT]
    exact end_law (by rw [hf1];exact hpre a) hi
  show At _ _ _ [N27,NFi,NS,R] _
  obtain⟨kk,hok,rfl,rfl⟩:=keyA_inv ke27
  have hul:=len_A hok
  obtain⟨_,hnk⟩:=(hK2.left kk hok).1 lf27
  obtain⟨bb,hem⟩: ∃bb,emptyO (((f1 kk).bind J.ob).map Ob.v)=bb:=⟨_,rfl⟩
  have hgk:goneE f1 (fun a=>emptyO (((f1 a).bind J.ob).map Ob.v)) pre2 kk=f1 kk:=goneE_at hnk
  refine bW aN U U U (aI (s_7 (aH fun _ s_9=>At.condT U (cG (aS (s_9 (bX (aH fun _ s_10=>aB (op_entry aN U en27 (by simp) (by simp) U (bW aN U U U (bZ bT ze33 U (fun N5 b5 B5=>?_))))))))))))
  change Blk N5 b5 _ [.int .u8 0,.int .u8 0,.int .u8 0,.int .u8 0,.int .u8 0,.int .u8 0,.int .u8 0,.int .u8 0,.int .u8 0,.int .u8 0,.int .u8 0,.int .u8 0,.int .u8 0,.int .u8 0,.int .u8 0,.int .u8 0,.int .u8 0,.int .u8 0,.int .u8 0,.int .u8 0]at B5
  refine bP nxQ sz33 U U U hul len_A1 B5 (by rw [hul];decide) sel0 (fun N5 B5=>?_)
  rw [setL_full hul]at B5
  refine aI (s_10 (aH fun _ s_11=>aB (bC U U (bC U U (aR (nxgf U U U U) U U (aK (ds:=u8s kk) (nxgf U U U U) ag33 U B5 (by exact bJ hul) (by exact hul) cO U ?_))))))
  refine bG (nxga rfl rfl rfl rfl) (.cons rfl (.cons rfl .nil)) ((JEmpty (NX:=R) (ob:=J.ob) BS hFi aFi hok hob (fun p hp=>by rw [hgk]at hp;obtain⟨o,ho,_⟩:=hw kk p (hsub kk p hp);exact⟨o,ho⟩))) Tryz.func64 rfl rfl (by simp) rfl ?_
  rintro _ _ ⟨rfl,rfl⟩
  show At _ _ _ [N5,N27,NFi,NS,R] _
  rw [hgk,hem]
  refine op_pickT aN U U U (aI (s_11 (At.condB U (fun c36=>?_) (fun c36=>?_))))
  ·refine bI (cH (bI (bA (bA (cS [NFi,N5,NS] [5] [] [0,1,2,3,4,5] (by kernel_rfl) (by kernel_rfl) (.cons _ (.cons _ (.refl _))) (aR (bB U U U) U U (bH (bB U U U) U U (aJ (bB U U U) fl85_0 U U (aU (bB U U U) sc74 U BS U mem2 U ?_)))))))))
   refine aK (ds:=u8s kk) (bB U U U) ag33 U B5 (by exact bJ hul) (by exact hul) dG U ?_
   refine op_deleteV (nxsl U U U U) kd33 Tryz.underlying74 U U hFi (keyA_spec hok) sel2 (fun NF4 hF4 hoF4=>dH (cJ (aS (dropAt3 (bF (bI (bF (bI ?_))))))))
   refine At.back ?_ aZ ⟨pre2++ [kk],_,n27,N27,NF4,_,rfl,rfl,rfl,g27,hK2.step keE_A hok lf27,hF4,by rw [←goneE_step (em:=fun a=>emptyO (((f1 a).bind J.ob).map Ob.v)) (k:=kk) (hem.trans c36)];exact aFi.del keE_A hok⟩ ?_
   ·repeat first|apply cW|exact .nil|exact lkI rfl (by omega)|rfl
   ·omega
  refine cG (cJ (aS (dropAt0 ?_)))
  refine At.back ?_ aZ ⟨pre2++ [kk],_,n27,N27,NFi,Di,rfl,rfl,rfl,g27,hK2.step keE_A hok lf27,hFi,by rw [←goneE_keep (em:=fun a=>emptyO (((f1 a).bind J.ob).map Ob.v)) (k:=kk) (hem.trans c36)];exact aFi⟩ ?_
  ·repeat first|apply cW|exact .nil|exact lkI rfl (by omega)|rfl
  ·omega
 show At _ _ _ [N12,NFi,NS,R] _
 obtain⟨kk,hok,rfl,rfl⟩:=keyA_inv ke12
 have hul:=len_A hok
 refine bW aN U U U (aI (s_3 (aH fun _ s_12=>At.condT U (cG (aS (s_12 (bX (aH fun _ s_13=>aB (op_entry aN U en12 (by simp) (by simp) U (bW aN U U U (bZ bT ze33 U (fun N4 b4 B4=>?_))))))))))))
 change Blk N4 b4 _ [.int .u8 0,.int .u8 0,.int .u8 0,.int .u8 0,.int .u8 0,.int .u8 0,.int .u8 0,.int .u8 0,.int .u8 0,.int .u8 0,.int .u8 0,.int .u8 0,.int .u8 0,.int .u8 0,.int .u8 0,.int .u8 0,.int .u8 0,.int .u8 0,.int .u8 0,.int .u8 0]at B4
 refine bP nxQ sz33 U U U hul len_A1 B4 (by rw [hul];decide) sel0 (fun N4 B4=>?_)
 rw [setL_full hul]at B4
 refine aI (s_13 (bI (cH (bI (bA (bA (cS [NFi,N4,NS] [5] [] [0,1,2,3,4,5] (by kernel_rfl) (by kernel_rfl) (.cons _ (.cons _ (.refl _))) (aR (bB U U U) U U (bH (bB U U U) U U (aJ (bB U U U) fl85_0 U U (aU (bB U U U) sc74 U BS U mem2 U ?_)))))))))))
 refine aK (ds:=u8s kk) (bB U U U) ag33 U B4 (by exact bJ hul) (by exact hul) dG U ?_
 refine op_deleteV (nxsl U U U U) kd33 Tryz.underlying74 U U hFi (keyA_spec hok) sel2 (fun NF3 hF3 hoF3=>dH (cJ (aS (dropAt3 (bF (bI (bF (bI ?_))))))))
 refine At.back ?_ aZ ⟨pre++ [kk],_,n12,N12,NF3,_,rfl,rfl,rfl,g12,hK.step keE_A hok lf12,hF3,by rw [←goneF_step];exact aFi.del keE_A hok⟩ ?_
 ·repeat first|apply cW|exact .nil|exact lkI rfl (by omega)|rfl
 ·omega
end
end Go.Proofs.YtalmjkcapecpiaaGreat
