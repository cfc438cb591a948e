/- Several texts in one: see the remarks ahead of each part. No condition but those told there. -/
import Derived.Test.YtalmjkcapecpiaaGreatX1
import Derived.Test.YtalmjkcapecpiaaGreatX21
import Derived.Test.YtalmjkcapecpiaaGreatX10
set_option linter.unusedSimpArgs false
set_option linter.unusedVariables false
namespace Go.Proofs.YtalmjkcapecpiaaGreat
open Go Go.RowKit
set_option maxRecDepth 100000
theorem MapF.hasA {N:Heaplet} {mb c:Nat} {D:DataW Value} {f:List UInt8→Option Unit} {k:List UInt8} (hM:MapV Tryz.prog 33 N mb c D) (h:MapF keyA okAd unitV D f) (hk:okAd k):Fn Tryz.prog 60 #[.map (some mb),.agg (u8s k).toArray] [] [N] (fun v L=>v=.bool (f k).isSome∧L= []):=by
 obtain⟨l,h1,h2⟩:=h
 rw [←h2];exact FHasA hM h1 hk
theorem MapF.hasP {N:Heaplet} {mb c:Nat} {D:DataW Value} {f:List UInt8×Nat→Option Unit} {p:List UInt8×Nat} (hM:MapV Tryz.prog 105 N mb c D) (h:MapF keyPP okPl unitV D f) (hk:okPl p):Fn Tryz.prog 62 #[.map (some mb),.agg (u8s p.1++u64s (wl p.2)).toArray] [] [N] (fun v L=>v=.bool (f p).isSome∧L= []):=by
 obtain⟨l,h1,h2⟩:=h
 rw [←h2];exact FHasP hM h1 hk
section
variable {NS NU Nm : Heaplet} {sp ma mt mm mw md ws tr og : Nat} {rf : UInt64} {lg mk : Value} {tl : Int} {ua : Option Addr} {un uc : Nat} {us : List Value} {D : DataW Value} {c : Nat} {k : List UInt8} {x : Nat} {f : List UInt8 → Option Unit} {fp : List UInt8 × Nat → Option Unit} {fq : List UInt8 × Nat → Option Nat}
set_option maxHeartbeats 1000000 in
theorem JTouch (BS:Blk NS sp 85 (stK ma mt mm mw md ws tr og rf lg (.slice ua un uc) mk tl)) (r:Row NU 1 1 ua un uc us) (hu:un≤1099511627770) (hM:MapV Tryz.prog 33 Nm mt c D) (hA:MapF keyA okAd unitV D f) (hk:okAd k) (hc:c≤1099511627776):Fn Tryz.prog 38 #[.pointer (some ⟨sp,0,none⟩),.agg (u8s k).toArray] [NS,Nm,NU] [] (fun w L=> ∃(NS Nm NU NB:Heaplet) (a:Option Addr) (c':Nat) (D:DataW Value) (bs:List Nat),w=.tuple #[]∧L= [NS,Nm,NU,NB]∧Blk NS sp 85 (stK ma mt mm mw md ws tr og rf lg (.slice a (un+1) c') mk tl)∧Row NU 1 1 a (un+1) c' (us++ [cloV 92 bs])∧MapV Tryz.prog 33 Nm mt (c+1) D∧MapF keyA okAd unitV D (updF f k (some ()))∧CapM NB 75 115 33 bs mt (u8s k) (f k).isSome []):=by
 have hul:=len_A hk
 refine Fn.enter (vs:= [.pointer (some ⟨sp,0,none⟩),.agg (u8s k).toArray]) Tryz.func38 U U U ?_
 intro E R hR
 change At _ _ E [NS,Nm,NU,R] _
 refine aH fun _ s_1=>aB (cU bT U U U (fun N3 b3 B3=>aI (s_1 (permSel0 (cH (bA (bA (bA (cS [NS,N3] [8] [] [0,1,2,3,4,5,6,7,8] (by kernel_rfl) (by kernel_rfl) (.cons _ (.cons _ (.cons _ (.refl _)))) (aR (bB U U U) U U (aR (bB U U U) U U (bH (bB U U U) U U (aJ (bB U U U) fl85_1 U U (aJ (bB U U U) fl83_0 U U (aU (bB U U U) sc76 U BS U cO U ?_)))))))))))))))
 refine aK (ds:=u8s k) (bB U U U) ag33 U B3 (by exact bJ hul) (by exact hul) dG U ?_
 refine op_build (out:= []) (bB U U U) ze115 pl115 .nil U U (bA (bI (bI (bI (bA (cR (nxsl U U U U) (.cons U (.cons U (.cons U (.cons U .nil)))) (PutAU () BS r (by omega) hM hA hk hc) (F:= [R,N3]) Tryz.func67 U U aZ (by simp) U ?_))))))
 rintro _ _ ⟨NS,Nm,NU,NB,a2,c2,D2,bs,rfl,rfl,BS,r2,hM,hA,hC⟩
 show At _ _ _ [NS,Nm,NU,NB,R,N3] _
 skip
 refine dH (dropAt5 (cQ (L1:= [NS,Nm,NU,NB]) U .nil U (.refl _) aZ ?_))
 exact⟨NS,Nm,NU,NB,a2,c2,D2,bs,rfl,rfl,BS,r2,hM,hA,hC⟩
set_option maxHeartbeats 1000000 in
theorem JDestroy (BS:Blk NS sp 85 (stK ma mt mm mw md ws tr og rf lg (.slice ua un uc) mk tl)) (r:Row NU 1 1 ua un uc us) (hu:un≤1099511627770) (hM:MapV Tryz.prog 33 Nm md c D) (hA:MapF keyA okAd unitV D f) (hk:okAd k) (hc:c≤1099511627776):Fn Tryz.prog 44 #[.pointer (some ⟨sp,0,none⟩),.agg (u8s k).toArray] [NS,Nm,NU] [] (fun w L=> ∃(NS Nm NU NB:Heaplet) (a:Option Addr) (c':Nat) (D:DataW Value) (bs:List Nat),w=.tuple #[]∧L= [NS,Nm,NU,NB]∧Blk NS sp 85 (stK ma mt mm mw md ws tr og rf lg (.slice a (un+1) c') mk tl)∧Row NU 1 1 a (un+1) c' (us++ [cloV 92 bs])∧MapV Tryz.prog 33 Nm md (c+1) D∧MapF keyA okAd unitV D (updF f k (some ()))∧CapM NB 75 115 33 bs md (u8s k) (f k).isSome []):=by
 have hul:=len_A hk
 refine Fn.enter (vs:= [.pointer (some ⟨sp,0,none⟩),.agg (u8s k).toArray]) Tryz.func44 U U U ?_
 intro E R hR
 change At _ _ E [NS,Nm,NU,R] _
 refine aH fun _ s_1=>aB (cU bT U U U (fun N3 b3 B3=>aI (s_1 (permSel0 (cH (bA (bA (bA (cS [NS,N3] [8] [] [0,1,2,3,4,5,6,7,8] (by kernel_rfl) (by kernel_rfl) (.cons _ (.cons _ (.cons _ (.refl _)))) (aR (bB U U U) U U (aR (bB U U U) U U (bH (bB U U U) U U (aJ (bB U U U) fl85_1 U U (aJ (bB U U U) fl83_3 U U (aU (bB U U U) sc76 U BS U cO U ?_)))))))))))))))
 refine aK (ds:=u8s k) (bB U U U) ag33 U B3 (by exact bJ hul) (by exact hul) dG U ?_
 refine op_build (out:= []) (bB U U U) ze115 pl115 .nil U U (bA (bI (bI (bI (bA (cR (nxsl U U U U) (.cons U (.cons U (.cons U (.cons U .nil)))) (PutAU () BS r (by omega) hM hA hk hc) (F:= [R,N3]) Tryz.func67 U U aZ (by simp) U ?_))))))
 rintro _ _ ⟨NS,Nm,NU,NB,a2,c2,D2,bs,rfl,rfl,BS,r2,hM,hA,hC⟩
 show At _ _ _ [NS,Nm,NU,NB,R,N3] _
 skip
 refine dH (dropAt5 (cQ (L1:= [NS,Nm,NU,NB]) U .nil U (.refl _) aZ ?_))
 exact⟨NS,Nm,NU,NB,a2,c2,D2,bs,rfl,rfl,BS,r2,hM,hA,hC⟩
set_option maxHeartbeats 1000000 in
theorem JHeat (BS:Blk NS sp 85 (stK ma mt mm mw md ws tr og rf lg (.slice ua un uc) mk tl)) (r:Row NU 1 1 ua un uc us) (hu:un≤1099511627770) (hM:MapV Tryz.prog 33 Nm mw c D) (hA:MapF keyA okAd unitV D f) (hk:okAd k) (hc:c≤1099511627776):Fn Tryz.prog 39 #[.pointer (some ⟨sp,0,none⟩),.agg (u8s k).toArray] [NS,Nm,NU] [] (fun w L=> ∃(NS Nm NU NB:Heaplet) (a:Option Addr) (c':Nat) (D:DataW Value) (bs:List Nat),w=.bool (f k).isSome∧L= [NS,Nm,NU,NB]∧Blk NS sp 85 (stK ma mt mm mw md ws tr og rf lg (.slice a (un+1) c') mk tl)∧Row NU 1 1 a (un+1) c' (us++ [cloV 92 bs])∧MapV Tryz.prog 33 Nm mw (c+1) D∧MapF keyA okAd unitV D (updF f k (some ()))∧CapM NB 75 115 33 bs mw (u8s k) (f k).isSome []):=by
 have hul:=len_A hk
 refine Fn.enter (vs:= [.pointer (some ⟨sp,0,none⟩),.agg (u8s k).toArray]) Tryz.func39 U U U ?_
 intro E R hR
 change At _ _ E [NS,Nm,NU,R] _
 refine aH fun _ s_1=>aB (cU bT U U U (fun N3 b3 B3=>bV U U (aI (s_1 (aH fun _ s_2=>permSel0 (cH (bA (bA (bA (cS [NS,N3] [6] [] [0,1,2,3,4,5,6,7] (by kernel_rfl) (by kernel_rfl) (.cons _ (.cons _ (.cons _ (.refl _)))) (aR (bB U U U) U U (bH (bB U U U) U U (aJ (bB U U U) fl85_1 U U (aJ (bB U U U) fl83_2 U U (aU (bB U U U) sc76 U BS U cO U ?_)))))))))))))))
 refine aK (ds:=u8s k) (bB U U U) ag33 U B3 (by exact bJ hul) (by exact hul) dG U ?_
 refine bG (Nx.agree (nxss U U U U)) (.cons U (.cons U .nil)) (hA.hasA hM hk) Tryz.func60 U U (by simp) U ?_
 rintro _ _ ⟨rfl,rfl⟩
 show At _ _ _ [Nm,NU,R,NS,N3] _
 refine At.anyS (.refl _) (cZ (bB U U U) U U (dH (aS (s_2 (aH fun _ s_3=>cS [NS,N3] [8] [] [0,1,2,3,4,5,6,7,8] (by kernel_rfl) (by kernel_rfl) (.cons _ (.cons _ (.cons _ (.refl _)))) (aR (bB U U U) U U (aR (bB U U U) U U (bH (bB U U U) U U (aJ (bB U U U) fl85_1 U U (aJ (bB U U U) fl83_2 U U (aU (bB U U U) sc76 U BS U cO U ?_)))))))))))
 refine aK (ds:=u8s k) (bB U U U) ag33 U B3 (by exact bJ hul) (by exact hul) dG U ?_
 refine op_build (out:= []) (bB U U U) ze115 pl115 .nil U U (bA (bI (bI (bI (bA (cR (nxsl U U U U) (.cons U (.cons U (.cons U (.cons U .nil)))) (PutAU () BS r (by omega) hM hA hk hc) (F:= [R,N3]) Tryz.func67 U U aZ (by simp) U ?_))))))
 rintro _ _ ⟨NS,Nm,NU,NB,a2,c2,D2,bs,rfl,rfl,BS,r2,hM,hA,hC⟩
 show At _ _ _ [NS,Nm,NU,NB,R,N3] _
 skip
 refine dH (aS (s_3 (aH fun _ s_4=>aB (bC U U (bV U U (aI (s_4 (cK ((dropAt5 (cF (L1:= [NS,Nm,NU,NB]) U (.tmp U .nil) (.refl _) aZ ?_)))))))))))
 exact⟨NS,Nm,NU,NB,a2,c2,D2,bs,rfl,rfl,BS,r2,hM,hA,hC⟩
set_option maxHeartbeats 1000000 in
theorem JHeatSlot (BS:Blk NS sp 85 (stK ma mt mm mw md ws tr og rf lg (.slice ua un uc) mk tl)) (r:Row NU 1 1 ua un uc us) (hu:un≤1099511627770) (hM:MapV Tryz.prog 105 Nm ws c D) (hA:MapF keyPP okPl unitV D fp) (hk:okPl (k,x)) (hc:c≤1099511627776):Fn Tryz.prog 27 #[.pointer (some ⟨sp,0,none⟩),.agg (u8s k).toArray,.agg (u64s (wl x)).toArray] [NS,Nm,NU] [] (fun w L=> ∃(NS Nm NU NB:Heaplet) (a:Option Addr) (c':Nat) (D:DataW Value) (bs:List Nat),w=.bool (fp (k,x)).isSome∧L= [NS,Nm,NU,NB]∧Blk NS sp 85 (stK ma mt mm mw md ws tr og rf lg (.slice a (un+1) c') mk tl)∧Row NU 1 1 a (un+1) c' (us++ [cloV 90 bs])∧MapV Tryz.prog 105 Nm ws (c+1) D∧MapF keyPP okPl unitV D (updF fp (k,x) (some ()))∧CapM NB 77 115 105 bs ws (u8s k++u64s (wl x)) (fp (k,x)).isSome []):=by
 have hul:(u8s k).length=20:=by rw [cY,hk.1]
 refine Fn.enter (vs:= [.pointer (some ⟨sp,0,none⟩),.agg (u8s k).toArray,.agg (u64s (wl x)).toArray]) Tryz.func27 U U U ?_
 intro E R hR
 change At _ _ E [NS,Nm,NU,R] _
 refine aH fun _ s_1=>aB (cU bT U U U (fun N4 b4 B4=>cU bT U U U (fun N5 b5 B5=>bV U U (aI (s_1 (aH fun _ s_2=>permSel0 (cH (bF (bS (bS (bS (cS [NS,N4,N5] [8] [] [0,1,2,3,4,5,6,7,8,9] (by kernel_rfl) (by kernel_rfl) (.cons _ (.cons _ (.cons _ (.refl _)))) (aR (bB U U U) U U (bH (bB U U U) U U (aJ (bB U U U) fl85_1 U U (aJ (bB U U U) fl83_4 U U (aU (bB U U U) sc78 U BS U cO U ?_)))))))))))))))))
 refine aK (ds:=u8s k) (bB U U U) ag33 U B4 (by exact bJ hul) (by exact hul) dG U ?_
 refine aK (ds:=u64s (wl x)) (bB U U U) ag36 U B5 (by exact bJ (bQ x)) (by exact bQ x) mem2 U ?_
 refine op_build (out:=u8s k++u64s (wl x)) (bB U U U) ze105 pl105 (.cons U (.cons U .nil)) (fill_place hk.1 _ U) U (bG (Nx.agree (nxss U U U U)) (.cons U (.cons U .nil)) (hA.hasP (p:=(k,x)) hM hk) Tryz.func62 U U (by simp) U ?_)
 rintro _ _ ⟨rfl,rfl⟩
 show At _ _ _ [Nm,NU,R,NS,N4,N5] _
 refine At.anyS (.refl _) (cZ (bB U U U) U U (dH (aS (s_2 (aH fun _ s_3=>cS [NS,N4,N5] [10] [] [0,1,2,3,4,5,6,7,8,9,10] (by kernel_rfl) (by kernel_rfl) (.cons _ (.cons _ (.cons _ (.refl _)))) (aR (bB U U U) U U (aR (bB U U U) U U (bH (bB U U U) U U (aJ (bB U U U) fl85_1 U U (aJ (bB U U U) fl83_4 U U (aU (bB U U U) sc78 U BS U cO U ?_)))))))))))
 refine aK (ds:=u8s k) (bB U U U) ag33 U B4 (by exact bJ hul) (by exact hul) dG U ?_
 refine aK (ds:=u64s (wl x)) (bB U U U) ag36 U B5 (by exact bJ (bQ x)) (by exact bQ x) mem2 U ?_
 refine op_build (out:=u8s k++u64s (wl x)) (bB U U U) ze105 pl105 (.cons U (.cons U .nil)) (fill_place hk.1 _ U) U (op_build (out:= []) (bB U U U) ze115 pl115 .nil U U (bS (bS (bA (bA (bA (bS (cR (nxsl U U U U) (.cons U (.cons U (.cons U (.cons U .nil)))) (PutPU (k:=(k,x)) () BS r (by omega) hM hA hk hc) (F:= [R,N4,N5]) Tryz.func63 U U aZ (by simp) U ?_))))))))
 rintro _ _ ⟨NS,Nm,NU,NB,a2,c2,D2,bs,rfl,rfl,BS,r2,hM,hA,hC⟩
 show At _ _ _ [NS,Nm,NU,NB,R,N4,N5] _
 skip
 refine dH (aS (s_3 (aH fun _ s_4=>aB (bC U U (bV U U (aI (s_4 (cK ((dropAt6 (dropAt5 (cF (L1:= [NS,Nm,NU,NB]) U (.tmp U .nil) (.refl _) aZ ?_))))))))))))
 exact⟨NS,Nm,NU,NB,a2,c2,D2,bs,rfl,rfl,BS,r2,hM,hA,hC⟩
set_option maxHeartbeats 1000000 in
theorem JTrans {y:Nat} (BS:Blk NS sp 85 (stK ma mt mm mw md ws tr og rf lg (.slice ua un uc) mk tl)) (r:Row NU 1 1 ua un uc us) (hu:un≤1099511627770) (hM:MapV Tryz.prog 105 Nm tr c D) (hA:MapF keyPP okPl wordV D fq) (hk:okPl (k,x)) (hc:c≤1099511627776):Fn Tryz.prog 37 #[.pointer (some ⟨sp,0,none⟩),.agg (u8s k).toArray,.agg (u64s (wl x)).toArray,.agg (u64s (wl y)).toArray] [NS,Nm,NU] [] (fun w L=> ∃(NS Nm NU NB:Heaplet) (a:Option Addr) (c':Nat) (D:DataW Value) (bs:List Nat),w=.tuple #[]∧L= [NS,Nm,NU,NB]∧Blk NS sp 85 (stK ma mt mm mw md ws tr og rf lg (.slice a (un+1) c') mk tl)∧Row NU 1 1 a (un+1) c' (us++ [cloV 93 bs])∧MapV Tryz.prog 105 Nm tr (c+1) D∧MapF keyPP okPl wordV D (updF fq (k,x) (some y))∧CapM NB 79 36 105 bs tr (u8s k++u64s (wl x)) (fq (k,x)).isSome (u64s (wl ((fq (k,x)).getD 0)))):=by
 have hul:(u8s k).length=20:=by rw [cY,hk.1]
 refine Fn.enter (vs:= [.pointer (some ⟨sp,0,none⟩),.agg (u8s k).toArray,.agg (u64s (wl x)).toArray,.agg (u64s (wl y)).toArray]) Tryz.func37 U U U ?_
 intro E R hR
 change At _ _ E [NS,Nm,NU,R] _
 refine aH fun _ s_1=>aB (cU bT U U U (fun N5 b5 B5=>cU bT U U U (fun N6 b6 B6=>cU bT U U U (fun N7 b7 B7=>aI (s_1 (permSel0 (cH (bF (bI (aY (aY (aY (cS [NS,N5,N6,N7] [10] [] [0,1,2,3,4,5,6,7,8,9,10] (by kernel_rfl) (by kernel_rfl) (.cons _ (.cons _ (.cons _ (.refl _)))) (aR (bB U U U) U U (aR (bB U U U) U U (bH (bB U U U) U U (aJ (bB U U U) fl85_1 U U (aJ (bB U U U) fl83_5 U U (aU (bB U U U) sc79 U BS U cO U ?_)))))))))))))))))))
 refine aK (ds:=u8s k) (bB U U U) ag33 U B5 (by exact bJ hul) (by exact hul) dG U ?_
 refine aK (ds:=u64s (wl x)) (bB U U U) ag36 U B6 (by exact bJ (bQ x)) (by exact bQ x) mem2 U ?_
 refine op_build (out:=u8s k++u64s (wl x)) (bB U U U) ze105 pl105 (.cons U (.cons U .nil)) (fill_place hk.1 _ U) U (aK (ds:=u64s (wl y)) (bB U U U) ag36 U B7 (by exact bJ (bQ y)) (by exact bQ y) mem3 U ?_)
 refine aY (aY (aY (bS (bS (bS (aY (cR (nxsl U U U U) (.cons U (.cons U (.cons U (.cons U .nil)))) (PutPW (k:=(k,x)) y BS r (by omega) hM hA hk hc) (F:= [R,N5,N6,N7]) Tryz.func68 U U aZ (by simp) U ?_)))))))
 rintro _ _ ⟨NS,Nm,NU,NB,a2,c2,D2,bs,rfl,rfl,BS,r2,hM,hA,hC⟩
 show At _ _ _ [NS,Nm,NU,NB,R,N5,N6,N7] _
 skip
 refine dH (dropAt7 (dropAt6 (dropAt5 (cQ (L1:= [NS,Nm,NU,NB]) U .nil U (.refl _) aZ ?_))))
 exact⟨NS,Nm,NU,NB,a2,c2,D2,bs,rfl,rfl,BS,r2,hM,hA,hC⟩
set_option maxHeartbeats 1000000 in
theorem JRefunded {y:UInt64} (BS:Blk NS sp 85 (stK ma mt mm mw md ws tr og rf lg (.slice ua un uc) mk tl)) (r:Row NU 1 1 ua un uc us) (hu:un≤1099511627770):Fn Tryz.prog 70 #[.pointer (some ⟨sp,0,none⟩),.int .u64 (y.toNat:Int)] [NS,NU] [] (fun w L=> ∃(NS NU NB:Heaplet) (a:Option Addr) (c':Nat) (bs:List Nat),w=.tuple #[]∧L= [NS,NU,NB]∧Blk NS sp 85 (stK ma mt mm mw md ws tr og y lg (.slice a (un+1) c') mk tl)∧Row NU 1 1 a (un+1) c' (us++ [cloV 94 bs])∧CapR NB bs rf sp):=by
 refine Fn.enter (vs:= [.pointer (some ⟨sp,0,none⟩),.int .u64 (y.toNat:Int)]) Tryz.func70 U U U ?_
 intro E R hR
 change At _ _ E [NS,NU,R] _
 refine aH fun _ s_1=>aB (cU bT U U U (fun N2 b2 B2=>aI (s_1 (aH fun _ s_2=>aB (aU aN sc25 U B2 U cO U ?_)))))
 refine bH aN U U (aJ aN fl85_1 U U (aJ aN fl83_7 U U (aU aN sc34 U BS U dG U ?_)))
 refine bZ bT ze34 U (fun N4 b4 B4=>?_)
 change Blk N4 b4 _ [.int .u64 0]at B4
 refine bP nxQ sz34 U U U U U B4 (by simp) sel0 (fun N4 B4=>?_)
 simp only [setL,List.set]at B4
 refine aI (s_2 (aH fun _ s_3=>aB (aU aN sc25 U B2 U dG U ?_)))
 refine bC U U (bH aN U U (aJ aN fl85_1 U U (aJ aN fl83_7 U U (bP nxQ sz34 U U U U U BS (by exact show 0+1+7+1≤13 by decide) sel2 (fun NS BS=>?_)))))
 rw [st_rf]at BS
 refine aI (s_3 (aB (aU aN sc25 U B2 U mem2 U ?_)))
 refine op_mkF aN .nil (.cons U (.cons U .nil)) U (bA (bI (bI (bA (bA (cR nxQ (.cons U (.cons U .nil)) (FUndoableX BS r (by omega)) (F:= [N4,N2,R]) Tryz.func51 U U aZ (by simp) U ?_))))))
 rintro _ _ ⟨NS,NU,a2,c2,rfl,rfl,BS,r2⟩
 show At _ _ _ [NS,NU,N4,N2,R] _
 skip
 refine cE (bA (bF (bF (bA (bA (cV (fun Q Q1 Q2=>bI (cH (bI (bI (cQ (L1:= [NS,NU,Q]) U .nil U (.refl _) aZ ?_)))))))))))
 exact⟨NS,NU,Q,a2,c2,[b4,b2],rfl,rfl,BS,r2,b4,b2,rfl,B4.le Q1,B2.le Q2⟩
set_option maxHeartbeats 1000000 in
theorem JAdd {y:UInt64} (BS:Blk NS sp 85 (stK ma mt mm mw md ws tr og rf lg (.slice ua un uc) mk tl)) (r:Row NU 1 1 ua un uc us) (hu:un≤1099511627770):Fn Tryz.prog 40 #[.pointer (some ⟨sp,0,none⟩),.int .u64 (y.toNat:Int)] [NS,NU] [] (fun w L=> ∃(NS NU NB:Heaplet) (a:Option Addr) (c':Nat) (bs:List Nat),w=.tuple #[]∧L= [NS,NU,NB]∧Blk NS sp 85 (stK ma mt mm mw md ws tr og (addR rf y) lg (.slice a (un+1) c') mk tl)∧Row NU 1 1 a (un+1) c' (us++ [cloV 94 bs])∧CapR NB bs rf sp):=by
 refine Fn.enter (vs:= [.pointer (some ⟨sp,0,none⟩),.int .u64 (y.toNat:Int)]) Tryz.func40 U U U ?_
 intro E R hR
 change At _ _ E [NS,NU,R] _
 refine aH fun _ s_1=>aB (bC U U (bH aN U U (aJ aN fl85_1 U U (aJ aN fl83_7 U U (aU aN sc34 U BS U cO U ?_)))))
 refine bC U U (op_ext bT (.cons U (.cons U (.cons U .nil))) (fun w=>Add64_x rf y 0 (by decide) w) U (bC U U (bW aN U U U (bW aN U U U (bV U U (bV U U (aI (s_1 (aB (bC U U (bC U U (bC U U (op_negU aN U U (op_orU aN U U U (cR nxQ (.cons U (.cons U .nil)) (JRefunded (y:=addR rf y) BS r hu) (F:= [R]) Tryz.func70 U U aZ (by simp) U ?_)))))))))))))))
 rintro _ _ ⟨NS,NU,NB,a2,c2,bs,rfl,rfl,BS,r2,hC⟩
 show At _ _ _ [NS,NU,NB,R] _
 skip
 refine cE (cQ (L1:= [NS,NU,NB]) U .nil U (.refl _) aZ ?_)
 exact⟨NS,NU,NB,a2,c2,bs,rfl,rfl,BS,r2,hC⟩
set_option maxHeartbeats 1000000 in
theorem JSub {y:UInt64} (BS:Blk NS sp 85 (stK ma mt mm mw md ws tr og rf lg (.slice ua un uc) mk tl)) (r:Row NU 1 1 ua un uc us) (hu:un≤1099511627770):Fn Tryz.prog 41 #[.pointer (some ⟨sp,0,none⟩),.int .u64 (y.toNat:Int)] [NS,NU] [] (fun w L=> ∃(NS NU NB:Heaplet) (a:Option Addr) (c':Nat) (bs:List Nat),w=.tuple #[]∧L= [NS,NU,NB]∧Blk NS sp 85 (stK ma mt mm mw md ws tr og (rf- minV y rf) lg (.slice a (un+1) c') mk tl)∧Row NU 1 1 a (un+1) c' (us++ [cloV 94 bs])∧CapR NB bs rf sp):=by
 refine Fn.enter (vs:= [.pointer (some ⟨sp,0,none⟩),.int .u64 (y.toNat:Int)]) Tryz.func41 U U U ?_
 intro E R hR
 change At _ _ E [NS,NU,R] _
 refine permSel0 (bF (bF (cS [NS] [14] [0,1] [0,1,2,3,4,5,6,7,8,9,10,11,12,13,14] (by kernel_rfl) (by kernel_rfl) (.cons _ (.cons _ (.refl _))) (aR (bB U U U) U U (aR (bB U U U) U U (bH (bB U U U) U U (aJ (bB U U U) fl85_1 U U (aJ (bB U U U) fl83_7 U U (aU (bB U U U) sc34 U BS U cO U ?_)))))))))
 refine aR (bB U U U) U U (aR (bB U U U) U U (bH (bB U U U) U U (aJ (bB U U U) fl85_1 U U (aJ (bB U U U) fl83_7 U U (aU (bB U U U) sc34 U BS U cO U ?_)))))
 refine op_minV (Nx.float (nxsm U U U)) U U U (At.moreS (Lst:= [NS]) (Lst':= [NS]) (.refl _) (.cons _ (.cons _ (.refl _))) (op_subU (bB U U U) U U U (cH (cH (bF (cR (nxsl U U U U) (.cons U (.cons U .nil)) (JRefunded (y:=rf- minV y rf) BS r hu) (F:= [R]) Tryz.func70 U U (.refl _) (by simp) U ?_))))))
 rintro _ _ ⟨NS,NU,NB,a2,c2,bs,rfl,rfl,BS,r2,hC⟩
 show At _ _ _ [NS,NU,NB,R] _
 skip
 refine dH (cQ (L1:= [NS,NU,NB]) U .nil U (.refl _) aZ ?_)
 exact⟨NS,NU,NB,a2,c2,bs,rfl,rfl,BS,r2,hC⟩
set_option maxHeartbeats 1000000 in
theorem JLog {K NL:Heaplet} {la:Option Addr} {ln lc:Nat} {ls:List Value} {g:LgM} {i:LgI} (BS:Blk NS sp 85 (stK ma mt mm mw md ws tr og rf (.slice la ln lc) (.slice ua un uc) mk tl)) (r:Row NU 1 1 ua un uc us) (hu:un≤1099511627770) (rl:Row NL 93 22 la ln lc ls) (hls: ∀u∈ls,u.oneCell'=true) (hln:ln≤1099511627770) (hg:LogR K (g,i)):Fn Tryz.prog 42 #[.pointer (some ⟨sp,0,none⟩),.agg (logF (g,i)).toArray] [NS,NL,NU] [K] (fun w L=> ∃(NS NL NU NB NG:Heaplet) (a la:Option Addr) (c' lc:Nat) (bs:List Nat) (i:LgI),w=.tuple #[]∧L= [NS,NL,NU,NB,NG]∧Blk NS sp 85 (stK ma mt mm mw md ws tr og rf (.slice la (ln+1) lc) (.slice a (un+1) c') mk tl)∧Row NU 1 1 a (un+1) c' (us++ [cloV 71 bs])∧Row NL 93 22 la (ln+1) lc (ls++logF (g,i))∧CapL NB bs ln sp∧LogR NG (g,i)):=by
 have hl:=logC_len (show g.a.length=20 from hg.ad)
 have hT:=FTwinL hg
 refine Fn.enter (vs:= [.pointer (some ⟨sp,0,none⟩),.agg (logC g.a (.slice i.ta g.tn i.tc) (.slice i.da g.d.length i.dc)).toArray]) Tryz.func42 U U U ?_
 intro E R hR
 change At _ _ E [NS,NL,NU,R] _
 refine aH fun _ s_1=>aB (cU bT U U U (fun N2 b2 B2=>cU bT U U U (fun N3 b3 B3=>aI (s_1 (aH fun _ s_2=>aB (aU aN sc25 U B2 U dG U ?_))))))
 refine bH aN U U (aJ aN fl85_1 U U (aJ aN fl83_8 U U (aU aN sc60 U BS U mem2 U ?_)))
 refine dB aN se60 U U (bZ bT ze3 U (fun N4 b4 B4=>?_))
 change Blk N4 b4 _ [.int .i64 0]at B4
 refine bP nxQ sz3 U U U U U B4 (by simp) sel0 (fun N4 B4=>?_)
 simp only [setL,List.set]at B4
 refine aI (s_2 (aH fun _ s_3=>aY (bF (bI (bA (aY (aY (aY (cS [NS,N2,N3,R] [13] [] [0,1,2,3,4,5,6,7,8,9,10,11,12,13] (by kernel_rfl) (by kernel_rfl) (.cons _ (.cons _ (.cons _ (.refl _)))) (aU (bB U U U) sc25 U B2 U dG U ?_))))))))))
 refine aU (bB U U U) sc25 U B2 U dG U ?_
 refine bH (bB U U U) U U (aJ (bB U U U) fl85_1 U U (aJ (bB U U U) fl83_8 U U (aU (bB U U U) sc60 U BS U cO U ?_)))
 refine aK (ds:=logC g.a (.slice i.ta g.tn i.tc) (.slice i.da g.d.length i.dc)) (bB U U U) ag93 U B3 (by exact bJ (hl _ _)) (by exact hl _ _) mem2 U ?_
 refine bG (Nx.agree (nxsm U U U)) (.cons U .nil) (hT.liftQ hR) Tryz.func59 U U (by simp) U ?_
 rintro _ _ ⟨N18,ta2,tc2,da2,dc2,rfl,rfl,hv2⟩
 show At _ _ _ [N18,N4,NL,NU,NS,N2,N3,R] _
 refine bM (bM (bM (bM (bA (bM (bM (bM (At.moreS (Lst:= [NS,N2,N3,R]) (Lst':= [N18,NS,N2,N3,R]) (.cons _ (.refl _)) (.cons _ (.cons _ (.cons _ (.refl _)))) (op_lit (Nx.agree (nxsm U U U)) Tryz.underlying60 ze93 sz93 (.cons U .nil) U U (by simp [Value.cells,hl]) U U U (fun N19 a19 r19=>?_))))))))))
 simp only [flatV,List.flatMap_cons,List.flatMap_nil,Value.cells,List.append_nil,List.cons_append,List.nil_append]at r19
 have s19:=r19.rsl
 refine a6 (a6 (a6 (a6 (a6 (bS (a6 (a6 (a6 (At.moreS (Lst:= [N18,NS,N2,N3,R]) (Lst':= [N19,N18,NS,N2,N3,R]) (.cons _ (.refl _)) (.cons _ (.cons _ (.cons _ (.refl _)))) ?_)))))))))
 change Row N19 _ 22 a19 1 1 (logC g.a (.slice ta2 g.tn tc2) (.slice da2 g.d.length dc2))at r19
 have s19:=r19.rsl
 refine op_append (nxsm U U U) Tryz.underlying60 Tryz.underlying60 te93 U U rl s19 (by simp) (List.all_eq_true.1 (logC_one U U)) (by omega) (by omega) sel1 U (fun N20 a20 p20 r20=>?_)
 have s20:=r20.rsl
 refine a6 (a6 (a6 (a6 (a6 (a6 (aY (a6 (a6 (At.moreS (Lst:= [N19,N18,NS,N2,N3,R]) (Lst':= [N20,N19,N18,NS,N2,N3,R]) (.cons _ (.refl _)) (.cons _ (.cons _ (.refl _))) (bH (bB U U U) U U (aJ (bB U U U) fl85_1 U U (aJ (bB U U U) fl83_8 U U (bP (nxsl U U U U) sz60 U U U U U BS (by exact show 0+1+8+1≤13 by decide) sel5 (fun NS BS=>?_))))))))))))))
 rw [st_lg]at BS
 refine dH (aS (s_3 (aB (aU aN sc25 U B2 U mem6 U ?_))))
 refine op_mkF aN .nil (.cons U (.cons U .nil)) U (a6 (a6 (a6 (a6 (a6 (a6 (bM (a6 (a6 (cR nxQ (.cons U (.cons U .nil)) (FUndoableX BS r (by omega)) (F:= [N4,N20,N19,N18,N2,N3,R]) Tryz.func51 U U aZ (by simp) U ?_))))))))))
 rintro _ _ ⟨NS,NU,a2,c2,rfl,rfl,BS,r2⟩
 show At _ _ _ [NS,NU,N4,N20,N19,N18,N2,N3,R] _
 skip
 refine cE (a6 (a6 (bM (bM (bM (aY (aY (bM (a6 (cV (fun Q Q1 Q2=>dropAt6 (dropAt4 (bS (bS (bF (bA (bS (bS (cQ (L1:= [NS,N20,NU,Q,N18]) U .nil U (.refl _) aZ ?_)))))))))))))))))))
 exact⟨NS,N20,NU,Q,N18,a2,a20,c2,p20,[b2,b4],⟨ta2,tc2,da2,dc2⟩,rfl,rfl,BS,r2,r20,⟨b2,b4,rfl,B2.le Q1,B4.le Q2⟩,hv2⟩
end
def JWf (J:JS):Prop:= ∀a p,J.ac a=some p→ ∃o,J.ob p=some o∧o.ad=a
inductive Hst (x:FxP) (NJ:Heaplet):List (Value×JS)→JS→Prop
 |nil (J:JS):Hst x NJ [] J
 |snoc {H:List (Value×JS)} {J J':JS} (f:FuncId) (bs:List Nat) (e:UnE) (h:Hst x NJ H J) (hc:CapE x NJ f bs e) (hf:e.Fit J') (hr:e.run J'=J) (hw:JWf J):Hst x NJ (H++ [(cloV f bs,J)]) J'
theorem Hst.le {x:FxP} {NJ K:Heaplet} {H:List (Value×JS)} {J:JS} (h:Hst x NJ H J) (hl:NJ.le K):Hst x K H J:=by
 induction h with
 |nil J=>exact .nil J
 |snoc f bs e _ hc hf hr hw ih=>exact .snoc f bs e ih (hc.le hl) hf hr hw
def addOb (xp:Nat) (z:Ob) (J:JS):JS:= { J with ob:=updF J.ob xp (some z) }
theorem ob_map_some {f:Nat→Option Ob} {q p:Nat} {g:Ob→Ob} :(updF f q ((f q).map g) p).isSome=(f p).isSome:=by
 unfold updF
 split
 ·rename_i e
  rw [e]
  cases f q<;>rfl
 ·rfl
theorem run_dom (e:UnE) (J:JS) (p:Nat):((e.run J).ob p).isSome=(J.ob p).isSome:=by
 cases e<;>first|rfl|exact ob_map_some
theorem upd_comm {f:Nat→Option Ob} {q xp:Nat} {v w:Option Ob} (h:q≠xp):updF (updF f xp w) q v=updF (updF f q v) xp w:=funext fun j=>by
 unfold updF
 by_cases e1:j=q
 ·rw [if_pos e1,if_neg fun h2=>h (e1.symm.trans h2),if_pos e1]
 ·rw [if_neg e1,if_neg e1]
theorem obF_add {J:JS} {q xp:Nat} {z:Ob} {g:Ob→Ob} (h:q≠xp):obF (addOb xp z J) q g=addOb xp z (obF J q g):=by
 unfold obF addOb
 simp only [JS.mk.injEq,true_and]
 rw [updF_ne h,upd_comm h]
theorem fit_ne {J:JS} {q xp:Nat} (hz:J.ob xp=none) (h: ∃o,J.ob q=some o):q≠xp:=fun e=>by
 obtain⟨o,ho⟩:=h
 rw [e,hz]at ho;cases ho
theorem add_ob {J:JS} {q xp:Nat} {z:Ob} (h:q≠xp):(addOb xp z J).ob q=J.ob q:=updF_ne h
theorem run_add {e:UnE} {J:JS} {xp:Nat} {z:Ob} (hz:J.ob xp=none) (hf:e.Fit J):e.Fit (addOb xp z J)∧e.run (addOb xp z J)=addOb xp z (e.run J):=by
 cases e with
 |lt _ _=>exact⟨trivial,rfl⟩
 |lm _ _=>exact⟨trivial,rfl⟩
 |lw _ _=>exact⟨trivial,rfl⟩
 |ld _ _=>exact⟨trivial,rfl⟩
 |lp _ _=>exact⟨trivial,rfl⟩
 |lq _ _=>exact⟨trivial,rfl⟩
 |rf _=>exact⟨trivial,rfl⟩
 |lg _=>exact⟨hf,rfl⟩
 |ac q old=>
  refine⟨fun p hp=>?_,rfl⟩
  obtain⟨o,h1,h2⟩:=hf p hp
  exact⟨o,(add_ob (fit_ne hz ⟨o,h1⟩)).trans h1,h2⟩
 |sl q mb k old=>
  obtain⟨o,ho,hm⟩:=hf
  have hn:=fit_ne hz ⟨o,ho⟩
  exact⟨⟨o,(add_ob hn).trans ho,hm⟩,obF_add hn⟩
 |no q old=>
  have hn:=fit_ne hz hf
  obtain⟨o,ho⟩:=hf
  exact⟨⟨o,(add_ob hn).trans ho⟩,obF_add hn⟩
 |ba q old=>
  have hn:=fit_ne hz hf
  obtain⟨o,ho⟩:=hf
  exact⟨⟨o,(add_ob hn).trans ho⟩,obF_add hn⟩
 |co q _ _ _=>
  have hn:=fit_ne hz hf
  obtain⟨o,ho⟩:=hf
  exact⟨⟨o,(add_ob hn).trans ho⟩,obF_add hn⟩
theorem JWf.add {J:JS} (h:JWf J) {xp:Nat} (z:Ob) (hz:J.ob xp=none):JWf (addOb xp z J):=fun a p hp=>by
 obtain⟨o,h1,h2⟩:=h a p hp
 exact⟨o,(add_ob (fit_ne hz ⟨o,h1⟩)).trans h1,h2⟩
def addH (xp:Nat) (z:Ob) (H:List (Value×JS)):List (Value×JS):=H.map fun q=>(q.1,addOb xp z q.2)
theorem addH_fst {xp:Nat} {z:Ob} {H:List (Value×JS)} :(addH xp z H).map Prod.fst=H.map Prod.fst:=by
 unfold addH
 rw [List.map_map];rfl
theorem Hst.born {x:FxP} {NJ:Heaplet} {H:List (Value×JS)} {J:JS} {xp:Nat} (z:Ob) (h:Hst x NJ H J) (hz:J.ob xp=none):Hst x NJ (addH xp z H) (addOb xp z J):=by
 induction h with
 |nil J=>exact .nil _
 | @snoc H J J' f bs e h hc hf hr hw ih=>
  have hn:J.ob xp=none:=by
   have:=run_dom e J' xp
   rw [hr,hz]at this
   cases h0:J.ob xp with
   |none=>rfl
   |some o=>rw [h0]at this;cases this
  obtain⟨h1,h2⟩:=run_add (z:=z) hz hf
  have e1:addH xp z (H++ [(cloV f bs,J)])=addH xp z H++ [(cloV f bs,addOb xp z J)]:=by simp [addH]
  rw [e1]
  exact .snoc f bs e (ih hn) hc h1 (by rw [h2,hr]) (hw.add z hn)
structure AcV where
 no:UInt64
 ba:Nat
 co:List UInt8
 st:Nat→Option Nat
structure Vw where
 lt:List UInt8→Option Unit
 lm:List UInt8→Option Unit
 lw:List UInt8→Option Unit
 ld:List UInt8→Option Unit
 lp:List UInt8×Nat→Option Unit
 lq:List UInt8×Nat→Option Nat
 rf:UInt64
 lg:List LgM
 ac:List UInt8→Option AcV
def Ob.v (o:Ob):AcV:=⟨o.no,o.ba,o.co,o.st⟩
def JS.v (J:JS):Vw:=⟨J.lt,J.lm,J.lw,J.ld,J.lp,J.lq,J.rf,J.lg,fun a=>((J.ac a).bind J.ob).map Ob.v⟩
theorem add_v {J:JS} {xp:Nat} {z:Ob} (hw:JWf J) (hz:J.ob xp=none):(addOb xp z J).v=J.v:=by
 unfold JS.v
 simp only [Vw.mk.injEq,addOb,true_and]
 funext a
 cases h:J.ac a with
 |none=>rfl
 |some p=>
  obtain⟨o,hp,_⟩:=hw a p h
  have hn:p≠xp:=fit_ne hz ⟨o,hp⟩
  simp only [Option.bind_some]
  rw [updF_ne hn]
theorem Hst.views {x:FxP} {NJ:Heaplet} {H:List (Value×JS)} {J:JS} {xp:Nat} {z:Ob} (h:Hst x NJ H J) (hz:J.ob xp=none):(addH xp z H).map (fun q=>q.2.v)=H.map fun q=>q.2.v:=by
 induction h with
 |nil J=>rfl
 | @snoc H J J' f bs e h hc hf hr hw ih=>
  have hn:J.ob xp=none:=by
   have:=run_dom e J' xp
   rw [hr,hz]at this
   cases h0:J.ob xp with
   |none=>rfl
   |some o=>rw [h0]at this;cases this
  have e1:addH xp z (H++ [(cloV f bs,J)])=addH xp z H++ [(cloV f bs,addOb xp z J)]:=by simp [addH]
  rw [e1,List.map_append,List.map_append,ih hn]
  simp only [List.map_cons,List.map_nil]
  rw [add_v hw hn]
def lev (H:List (Value×JS)) (J:JS) (i:Nat):JS:=(H[i]?.map Prod.snd).getD J
theorem lev_end {H:List (Value×JS)} {J:JS} {i:Nat} (h:H.length≤i):lev H J i=J:=by
 unfold lev
 rw [List.getElem?_eq_none h];rfl
theorem lev_app {H H2:List (Value×JS)} {J J':JS} {i:Nat} (h:i≤H.length) (h0:H2[0]?.map Prod.snd=some J):lev (H++H2) J' i=lev H J i:=by
 unfold lev
 rcases Nat.lt_or_ge i H.length with hi|hi
 ·rw [List.getElem?_append_left hi,List.getElem?_eq_getElem hi];rfl
 ·have e:i=H.length:=by omega
  rw [e,List.getElem?_append_right (Nat.le_refl _),Nat.sub_self,h0,List.getElem?_eq_none (Nat.le_refl _)];rfl
theorem Hst.step {x:FxP} {NJ:Heaplet} {H:List (Value×JS)} {J:JS} (h:Hst x NJ H J): ∀i,i<H.length→ ∃f bs e,(H.map Prod.fst)[i]? =some (cloV f bs)∧CapE x NJ f bs e∧e.Fit (lev H J (i+1))∧e.run (lev H J (i+1))=lev H J i:=by
 induction h with
 |nil J=>intro i hi;simp at hi
 | @snoc H J J' f bs e h hc hf hr hw ih=>
  intro i hi
  rw [List.length_append]at hi
  simp only [List.length_cons,List.length_nil]at hi
  rcases Nat.lt_or_ge i H.length with hlt|hge
  ·obtain⟨f',bs',e',h1,h2,h3,h4⟩:=ih i hlt
   refine⟨f',bs',e',?_,h2,?_,?_⟩
   ·rw [List.map_append,List.getElem?_append_left (by rw [List.length_map];exact hlt)];exact h1
   ·rw [lev_app (J:=J) (by omega) rfl];exact h3
   ·rw [lev_app (J:=J) (by omega) rfl,lev_app (J:=J) (by omega) rfl];exact h4
  ·have ei:i=H.length:=by omega
   subst ei
   refine⟨f,bs,e,?_,hc,?_,?_⟩
   ·rw [List.map_append,List.getElem?_append_right (by rw [List.length_map];exact Nat.le_refl _),List.length_map,Nat.sub_self];rfl
   ·rw [lev_end (by rw [List.length_append];exact Nat.le_refl _)];exact hf
   ·rw [lev_end (by rw [List.length_append];exact Nat.le_refl _),lev_app (J:=J) (Nat.le_refl _) rfl,lev_end (Nat.le_refl _)];exact hr
theorem Hst.take {x:FxP} {NJ:Heaplet} {H:List (Value×JS)} {J:JS} (h:Hst x NJ H J): ∀i,i≤H.length→Hst x NJ (H.take i) (lev H J i):=by
 induction h with
 |nil J=>
  intro i hi
  rw [show i=0 by simpa using hi]
  exact .nil _
 | @snoc H J J' f bs e h hc hf hr hw ih=>
  intro i hi
  rw [List.length_append]at hi
  simp only [List.length_cons,List.length_nil]at hi
  rcases Nat.lt_or_ge H.length i with hlt|hge
  ·have ei:i=H.length+1:=by omega
   rw [List.take_of_length_le (by rw [List.length_append];simp only [List.length_cons,List.length_nil];omega),lev_end (by rw [List.length_append];simp only [List.length_cons,List.length_nil];omega)]
   exact .snoc f bs e h hc hf hr hw
  ·rw [List.take_append_of_le_length hge,lev_app (J:=J) hge rfl]
   exact ih i hge
theorem Hst.wf {x:FxP} {NJ:Heaplet} {H:List (Value×JS)} {J:JS} (h:Hst x NJ H J) (hJ:JWf J): ∀i,JWf (lev H J i):=by
 induction h with
 |nil J=>intro i;rw [lev_end (Nat.zero_le _)];exact hJ
 | @snoc H J J' f bs e h hc hf hr hw ih=>
  intro i
  rcases Nat.lt_or_ge H.length i with hlt|hge
  ·rw [lev_end (by rw [List.length_append];simp only [List.length_cons,List.length_nil];omega)];exact hJ
  ·rw [lev_app (J:=J) hge rfl]
   exact ih hw i
def Ext (x:FxP) (N0 NX:Heaplet) (J:JS) (us2:List Value) (J2:JS):Prop:= ∀(NJ K:Heaplet) (H:List (Value×JS)),N0.le K→NJ.le K→NX.le K→Hst x NJ H J→ ∃H2,Hst x K H2 J2∧H2.map Prod.fst=H.map Prod.fst++us2∧ ∀i,i≤H.length→(lev H2 J2 i).v=(lev H J i).v
theorem Ext.one {x:FxP} {N0 NX:Heaplet} {J J2:JS} {f:FuncId} {bs:List Nat} {e:UnE} (hc:CapE x NX f bs e) (hf:e.Fit J2) (hr:e.run J2=J) (hw:JWf J):Ext x N0 NX J [cloV f bs] J2:=fun NJ K H _ h1 h2 h=>
 ⟨H++ [(cloV f bs,J)],.snoc f bs e (h.le h1) (hc.le h2) hf hr hw,by simp,fun i hi=>by rw [lev_app (J:=J) hi rfl]⟩
theorem Ext.oneK {x:FxP} {N0 NX:Heaplet} {J J2:JS} {f:FuncId} {bs:List Nat} {e:UnE} (hc: ∀K,N0.le K→NX.le K→CapE x K f bs e) (hf:e.Fit J2) (hr:e.run J2=J) (hw:JWf J):Ext x N0 NX J [cloV f bs] J2:=fun NJ K H h0 h1 h2 h=>
 ⟨H++ [(cloV f bs,J)],.snoc f bs e (h.le h1) (hc K h0 h2) hf hr hw,by simp,fun i hi=>by rw [lev_app (J:=J) hi rfl]⟩
theorem Ext.born {x:FxP} {N0 NX:Heaplet} {J:JS} {xp:Nat} {z:Ob} (hz:J.ob xp=none) (hw:JWf J):Ext x N0 NX J [] (addOb xp z J):=fun NJ K H _ h1 h2 h=>
 ⟨addH xp z H,(h.le h1).born z hz,by rw [addH_fst,List.append_nil],fun i hi=>by
  have hv:=h.views (z:=z) hz
  unfold lev
  rcases Nat.lt_or_ge i H.length with hlt|hge
  ·have e1:=congrArg (fun l=>l[i]?) hv
   simp only [List.getElem?_map,List.getElem?_eq_getElem hlt]at e1
   rw [List.getElem?_eq_getElem hlt]
   cases h0:(addH xp z H)[i]? with
   |none=>rw [h0]at e1;cases e1
   |some q=>rw [h0]at e1;exact Option.some.inj e1
  ·rw [List.getElem?_eq_none (by rw [addH,List.length_map];exact hge),List.getElem?_eq_none hge]
   exact add_v hw hz⟩
theorem Ext.trans {x:FxP} {N0 NX:Heaplet} {J J1 J2:JS} {u1 u2:List Value} (h1:Ext x N0 NX J u1 J1) (h2:Ext x N0 NX J1 u2 J2):Ext x N0 NX J (u1++u2) J2:=fun NJ K H z a b h=>by
 obtain⟨H1,k1,k2,k3⟩:=h1 NJ K H z a b h
 obtain⟨H2,l1,l2,l3⟩:=h2 K K H1 z (Heaplet.le_refl K) b k1
 have hlen:H1.length=H.length+u1.length:=by
  have:=congrArg List.length k2
  rw [List.length_map,List.length_append,List.length_map]at this
  exact this
 exact⟨H2,l1,by rw [l2,k2,List.append_assoc],fun i hi=>(l3 i (by omega)).trans (k3 i hi)⟩
theorem Ext.le {x:FxP} {N0 NX NY:Heaplet} {J J2:JS} {us2:List Value} (h:Ext x N0 NX J us2 J2) (hl:NX.le NY):Ext x N0 NY J us2 J2:=fun NJ K H z a b hh=>h NJ K H z a (Heaplet.le_trans hl b) hh
theorem Ext.nil {x:FxP} {N0 NX:Heaplet} {J:JS} :Ext x N0 NX J [] J:=fun NJ K H _ a b h=>⟨H,h.le a,(List.append_nil _).symm,fun _ _=>rfl⟩
theorem ObF.fresh {X N NJ:Heaplet} {c xp:Nat} {f:Nat→Option Ob} {e:TypeId} {cs:List Value} (h:ObF N NJ c f) (ha:Apart X N) (hB:Blk X xp e cs):f xp=none:=by
 cases h0:f xp with
 |none=>rfl
 |some o=>
  obtain⟨NX,NM,D,h1,_,hO⟩:=h.see h0
  have k1:=h1 xp _ hO.B
  rcases ha xp with h2|h2
  ·rw [Blk,h2]at hB;cases hB
  ·rw [h2]at k1;cases k1
theorem ptr_lookF {DF:DataW Value} {f:List UInt8→Option Nat} (hA:MapF keyA okAd ptrN DF f) {k:List UInt8} (hk:okAd k):DF.atKey (keyA k) (.held (.pointer none))=.held (.pointer ((f k).map fun p=>⟨p,0,none⟩)):=by
 rw [hA.look hk]
 cases f k<;>rfl
section
variable {NS NU NT NF NB NJ : Heaplet} {x : FxP} {lg mk : Value} {tl : Int} {ua : Option Addr} {un uc : Nat} {us : List Value} {DT DF : DataW Value} {c xp : Nat} {k : List UInt8} {J : JS}
theorem JExists {cs:List Value} {ma sp:Nat} {f:List UInt8→Option Nat} (BS:Blk NS sp 85 (.map (some ma)::cs)) (hM:MapV Tryz.prog 33 NF ma c DF) (hA:MapF keyA okAd ptrN DF f) (hk:okAd k) {b:Bool} (hb:(f k).isSome=b):
 Fn Tryz.prog 29 #[.pointer (some ⟨sp,0,none⟩),.agg (u8s k).toArray] [] [NS,NF] (fun v L=>v=.bool b∧L= []):=by
 have hul:=len_A hk
 have hlk:=ptr_lookF hA hk
 have e:((f k).map fun p=>(⟨p,0,none⟩:Addr)).isSome=b:=by rw [←hb];cases f k<;>rfl
 refine Fn.enter (vs:= [.pointer (some ⟨sp,0,none⟩),.agg (u8s k).toArray]) Tryz.func29 U U U ?_
 intro E R hR
 have BR:=BS.le (hR NS (by simp))
 have hM:=hM.le (hR NF (by simp))
 change At _ _ E [R] _
 refine aH fun _ s_1=>aB (cU bT U U U (fun N3 b3 B3=>bV U U (aI (s_1 (aH fun _ s_2=>cS [N3,R] [5] [] [0,1,2,3,4,5,6,7] (by kernel_rfl) (by kernel_rfl) (.refl _) (aR (bB U U U) U U (bH (bB U U U) U U (aJ (bB U U U) fl85_0 U U (aU (bB U U U) sc74 U BR U dG U ?_)))))))))
 refine aK (ds:=u8s k) (bB U U U) ag33 U B3 (by exact bJ hul) (by exact hul) cO U ?_
 refine op_lookupV1 (Nx.agree (nxss U U U U)) kd33 Tryz.underlying74 (fun _=>by first|rfl|kernel_rfl) U U hM (keyA_spec hk) (hlk) (by simp) U ?_
 refine At.anyS (.refl _) (op_nePO (bB U U U) Tryz.underlying67 U U (cZ (bB U U U) U U (dH (aS (s_2 (cK ((dropAt0 (cF (L1:= []) U (.tmp U .nil) (.refl _) aZ ?_)))))))))
 exact⟨by rw [e],rfl⟩
def tchJ (k:List UInt8) (J:JS):JS:= { J with lt:=updF J.lt k (some ()) }
def pacJ (k:List UInt8) (p:Nat) (J:JS):JS:= { J with ac:=updF J.ac k (some p) }
def Ob.z (k:List UInt8) (mb:Nat):Ob:=⟨0,0,none,0,[],mb,fun _=>none,k⟩
def OpnJ (x:FxP) (NJ:Heaplet) (c:Nat) (J:JS) (lg mk:Value) (tl:Int) (un:Nat) (us:List Value) (k:List UInt8) (v:Value) (L:List Heaplet):Prop:= ∃(NS NF NT NU NB NX:Heaplet) (a:Option Addr) (cu:Nat) (DF DT:DataW Value) (xp:Nat) (o:Ob) (J2:JS) (us2:List Value),v=ptrN xp∧L= [NS,NF,NT,NU,NB,NX]∧Blk NS x.sp 85 (stK x.ma x.mt x.mm x.mw x.md x.ws x.tr x.og J.rf lg (.slice a (un+us2.length) cu) mk tl)∧Row NU 1 1 a (un+us2.length) cu (us++us2)∧MapV Tryz.prog 33 NF x.ma (c+1) DF∧MapF keyA okAd ptrN DF J2.ac∧MapV Tryz.prog 33 NT x.mt (c+1) DT∧MapF keyA okAd unitV DT J2.lt∧ObF NB NJ (c+1) J2.ob∧J2.ob xp=some o∧J2.ac k=some xp∧us2.length≤2∧JWf J2∧Ext x NJ NX J us2 J2∧((J2=tchJ k J∧us2.length=1)∨ ∃mb,o=Ob.z k mb∧J.ac k=none∧J.ob xp=none∧J2=pacJ k xp (addOb xp o (tchJ k J)))
set_option maxHeartbeats 1000000 in
theorem JOpenT (BS:Blk NS x.sp 85 (stK x.ma x.mt x.mm x.mw x.md x.ws x.tr x.og J.rf lg (.slice ua un uc) mk tl)) (r:Row NU 1 1 ua un uc us) (hu:un≤1099511627760) (hF:MapV Tryz.prog 33 NF x.ma c DF) (aF:MapF keyA okAd ptrN DF J.ac) (hT:MapV Tryz.prog 33 NT x.mt c DT) (aT:MapF keyA okAd unitV DT J.lt) (hB:ObF NB NJ c J.ob) (hw:JWf J) (hk:okAd k) (hc:c≤1099511627760) (hg:J.ac k=some xp):Fn Tryz.prog 50 #[.pointer (some ⟨x.sp,0,none⟩),.agg (u8s k).toArray] [NS,NF,NT,NU,NB] [] (OpnJ x NJ c J lg mk tl un us k):=by
 have hul:=len_A hk
 have hlk:=ptr_lookF aF hk
 rw [hg]at hlk
 refine Fn.enter (vs:= [.pointer (some ⟨x.sp,0,none⟩),.agg (u8s k).toArray]) Tryz.func50 U U U ?_
 intro E R hR
 change At _ _ E [NS,NF,NT,NU,NB,R] _
 refine aH fun _ s_1=>aB (cU bT U U U (fun N3 b3 B3=>bV U U (aI (s_1 (aH fun _ s_2=>aB (bC U U (aK (ds:=u8s k) aN ag33 U B3 (by exact bJ hul) (by exact hul) cO U ?_)))))))
 refine aY (aY (bA (bI (aY (aY (aY (cR nxQ (.cons U (.cons U .nil)) (JTouch BS r (by omega) hT aT hk (by omega)) (F:= [N3,NF,NB,R]) Tryz.func38 U U aZ (by simp) U ?_)))))))
 rintro _ _ ⟨NS2,NT2,NU2,NX,a2,c2,D2,bs,rfl,rfl,BS2,r2,hT2,aT2,hC2⟩
 show At _ _ _ [NS2,NT2,NU2,NX,N3,NF,NB,R] _
 skip
 refine aI (s_2 (aH fun _ s_3=>aH fun _ s_4=>aB (bC U U (aK (ds:=u8s k) aN ag33 U B3 (by exact bJ hul) (by exact hul) mem4 U ?_))))
 refine bG bT (.cons U (.cons U .nil)) (JExists BS2 hF aF hk (b:=true) (by rw [hg];rfl)) Tryz.func29 U U (by simp) U ?_
 rintro _ _ ⟨rfl,rfl⟩
 show At _ _ _ [NS2,NT2,NU2,NX,N3,NF,NB,R] _
 refine op_not aN U U (aI (s_4 (At.condF U (cG (aS (s_3 (aH fun _ s_5=>bA (bS (bF (bM (bM (bM (bM (bM (cS [NS2,NF,N3] [5] [] [0,1,2,3,4,5,6] (by kernel_rfl) (by kernel_rfl) (.cons _ (.cons _ (.cons _ (.cons _ (.cons _ (.refl _)))))) (aR (bB U U U) U U (bH (bB U U U) U U (aJ (bB U U U) fl85_0 U U (aU (bB U U U) sc74 U BS2 U cO U ?_)))))))))))))))))))
 refine aK (ds:=u8s k) (bB U U U) ag33 U B3 (by exact bJ hul) (by exact hul) mem2 U ?_
 refine op_lookupV1 (Nx.agree (nxss U U U U)) kd33 Tryz.underlying74 (fun _=>by first|rfl|kernel_rfl) U U hF (keyA_spec hk) (hlk) (by simp) U ?_
 refine At.anyS (.refl _) (cZ (bB U U U) U U (dH (aS (s_5 (cK ((dropAt7 (bA (bI (bA (bA (bA (aY (aY (cF (L1:= [NS2,NF,NT2,NU2,NB,NX]) U (.tmp U .nil) (.refl _) aZ ?_)))))))))))))))
 obtain⟨o,ho,_⟩:=hw k xp hg
 exact⟨NS2,NF,NT2,NU2,NB,NX,a2,c2,DF,D2,xp,o,tchJ k J,[cloV 92 bs],rfl,rfl,BS2,r2,hF.mono (Nat.le_succ _),aF,hT2,aT2,hB.mono (Nat.le_succ _) (Heaplet.le_refl _),ho,hg,(by decide:1≤2),hw,Ext.one (e:=.lt k (J.lt k)) ⟨rfl,hk,hC2⟩ trivial (by show({ tchJ k J with lt:=updF (updF J.lt k (some ())) k (J.lt k) } :JS)=J;rw [updF_back rfl];rfl) hw,.inl ⟨rfl,rfl⟩⟩
set_option maxHeartbeats 1000000 in
theorem JOpenF (BS:Blk NS x.sp 85 (stK x.ma x.mt x.mm x.mw x.md x.ws x.tr x.og J.rf lg (.slice ua un uc) mk tl)) (r:Row NU 1 1 ua un uc us) (hu:un≤1099511627760) (hF:MapV Tryz.prog 33 NF x.ma c DF) (aF:MapF keyA okAd ptrN DF J.ac) (hT:MapV Tryz.prog 33 NT x.mt c DT) (aT:MapF keyA okAd unitV DT J.lt) (hB:ObF NB NJ c J.ob) (hw:JWf J) (hk:okAd k) (hc:c≤1099511627760) (hg:J.ac k=none):Fn Tryz.prog 50 #[.pointer (some ⟨x.sp,0,none⟩),.agg (u8s k).toArray] [NS,NF,NT,NU,NB] [] (OpnJ x NJ c J lg mk tl un us k):=by
 have hul:=len_A hk
 refine Fn.enter (vs:= [.pointer (some ⟨x.sp,0,none⟩),.agg (u8s k).toArray]) Tryz.func50 U U U ?_
 intro E R hR
 change At _ _ E [NS,NF,NT,NU,NB,R] _
 refine aH fun _ s_1=>aB (cU bT U U U (fun N3 b3 B3=>bV U U (aI (s_1 (aH fun _ s_2=>aB (bC U U (aK (ds:=u8s k) aN ag33 U B3 (by exact bJ hul) (by exact hul) cO U ?_)))))))
 refine aY (aY (bA (bI (aY (aY (aY (cR nxQ (.cons U (.cons U .nil)) (JTouch BS r (by omega) hT aT hk (by omega)) (F:= [N3,NF,NB,R]) Tryz.func38 U U aZ (by simp) U ?_)))))))
 rintro _ _ ⟨NS2,NT2,NU2,NX1,a2,c2,D2,bs1,rfl,rfl,BS2,r2,hT2,aT2,hC2⟩
 show At _ _ _ [NS2,NT2,NU2,NX1,N3,NF,NB,R] _
 skip
 refine aI (s_2 (aH fun _ s_3=>aH fun _ s_4=>aB (bC U U (aK (ds:=u8s k) aN ag33 U B3 (by exact bJ hul) (by exact hul) mem4 U ?_))))
 refine bG bT (.cons U (.cons U .nil)) (JExists BS2 hF aF hk (b:=false) (by rw [hg];rfl)) Tryz.func29 U U (by simp) U ?_
 rintro _ _ ⟨rfl,rfl⟩
 show At _ _ _ [NS2,NT2,NU2,NX1,N3,NF,NB,R] _
 refine op_not aN U U (aI (s_4 (At.condT U (bA (cH (bM (bM (bM (bM (bM (bM (cS [NS2,N3] [9] [0,1] [0,1,2,3,4,5,6,7,8,9] (by kernel_rfl) (by kernel_rfl) (.cons _ (.cons _ (.cons _ (.cons _ (.cons _ (.cons _ (.refl _))))))) (aR (bB U U U) U U (aR (bB U U U) U U (bH (bB U U U) U U (aJ (bB U U U) fl85_0 U U (aU (bB U U U) sc74 U BS2 U cO U ?_)))))))))))))))))
 refine aK (ds:=u8s k) (bB U U U) ag33 U B3 (by exact bJ hul) (by exact hul) dG U ?_
 refine op_makeMapV 36 (Nx.agree (nxsm U U U)) U (fun N18 b18 M18=>a6 (a6 (bF (a6 (a6 (a6 (a6 (a6 (a6 (At.moreS (Lst:= [NS2,N3]) (Lst':= [N18,NS2,N3]) (.cons _ (.refl _)) (.cons _ (.cons _ (.cons _ (.cons _ (.cons _ (.cons _ (.refl _))))))) (op_build (out:= [.int .u64 0,.int .u64 0,.int .u64 0,.int .u64 0,.int .u64 0,.slice none 0 0,_]) (bB U U U) ze71 pl71 (.cons U .nil) U U (cU (Nx.agree (nxsm U U U)) U U U (fun N20 b20 B20=>bR (bR (bR (bI (bR (bR (bR (bR (bR (bR (At.moreS (Lst:= [N18,NS2,N3]) (Lst':= [N20,N18,NS2,N3]) (.cons _ (.refl _)) (.cons _ (.cons _ (.cons _ (.cons _ (.cons _ (.cons _ (.refl _))))))) (bR (a6 (a6 (a6 (a6 (bM (aY (bM (a6 (bR (cR (nxsl U U U U) (.cons U (.cons U (.cons U (.cons U .nil)))) (PutAP b20 BS2 r2 (by omega) hF aF hk (by omega)) (F:= [NT2,NX1,NB,R,N20,N18,N3]) Tryz.func66 U U (.refl _) (by simp) U ?_))))))))))))))))))))))))))))))))))
 rintro _ _ ⟨NS3,NF3,NU3,NX2,a3,c3,D3,bs2,rfl,rfl,BS3,r3,hF3,aF3,hC3⟩
 show At _ _ _ [NS3,NF3,NU3,NX2,NT2,NX1,NB,R,N20,N18,N3] _
 skip
 have hlk:D3.atKey (keyA k) (.held (.pointer none))=.held (.pointer (some ⟨b20,0,none⟩)):=by
  rw [ptr_lookF aF3 hk,updF_at];rfl
 refine dH (aS (s_3 (aH fun _ s_5=>bO (bF (bF (bO (bO (bO (bO (bO (bO (bO (bO (cS [NS3,NF3,N3] [5] [] [0,1,2,3,4,5,6] (by kernel_rfl) (by kernel_rfl) (.cons _ (.cons _ (.cons _ (.cons _ (.cons _ (.cons _ (.cons _ (.cons _ (.refl _))))))))) (aR (bB U U U) U U (bH (bB U U U) U U (aJ (bB U U U) fl85_0 U U (aU (bB U U U) sc74 U BS3 U cO U ?_))))))))))))))))))
 refine aK (ds:=u8s k) (bB U U U) ag33 U B3 (by exact bJ hul) (by exact hul) mem2 U ?_
 refine bO (bO (bO (a6 (a6 (a6 (a6 (a6 (a6 (bO (bO (At.pack (As:= [N20,N18]) (fun hANX=>?_))))))))))))
 obtain⟨NX,eNX⟩: ∃N,N=joinL [N20,N18]:=⟨_,rfl⟩
 rw [←eNX]
 refine op_lookupV1 (Nx.agree (nxss U U U U)) kd33 Tryz.underlying74 (fun _=>by first|rfl|kernel_rfl) U U hF3 (keyA_spec hk) (hlk) (by simp) U ?_
 refine At.anyS (.refl _) (cZ (bB U U U) U U (dH (aS (s_5 (cK ((bR (bR (bR (bR (a6 (a6 (a6 (a6 (bR (bR (At.merge (fun hap=>a6 (a6 (a6 (a6 (bM (aY (aY (bM (a6 (cV (fun Q Q1 Q2=>dropAt7 (bA (cH (bF (bI (bA (aY (aY (cF (L1:= [NS3,NF3,NT2,NU3,(join2 NX NB),Q]) U (.tmp U .nil) (.refl _) aZ ?_))))))))))))))))))))))))))))))))))))
 have hbx:Blk NX b20 71 (acK 0 0 none 0 0 b18):=by rw [eNX];exact B20.le (le_joinL hANX (by simp))
 have hz:J.ob b20=none:=hB.fresh hap hbx
 have hb0:Blk N20 b20 71 (acK 0 0 none 0 0 b18):=B20
 have hX:ObN NX NJ (c+1) b20 (Ob.z k b18):=⟨N20,N18,.map [],hANX,eNX,⟨hb0,M18.mono (Nat.zero_le _),MapF.nil,(Row.nil NJ 0 1).rsl,Nat.zero_le _,(show(0:Nat)<WW from by decide),fun _ _ h=>by cases h⟩⟩
 have hob:=ObF.put hap hX (hB.mono (Nat.le_succ c) (Heaplet.le_refl _)) hz
 have hw1:JWf (tchJ k J):=hw
 have hw2:JWf (addOb b20 (Ob.z k b18) (tchJ k J)):=hw1.add _ hz
 have hE1:Ext x NJ Q J [cloV 92 bs1] (tchJ k J):=Ext.one (e:=.lt k (J.lt k)) ⟨rfl,hk,hC2.le Q1⟩ trivial (by show({ tchJ k J with lt:=updF (updF J.lt k (some ())) k (J.lt k) } :JS)=J;rw [updF_back rfl];rfl) hw
 have hE2:Ext x NJ Q (tchJ k J) [] (addOb b20 (Ob.z k b18) (tchJ k J)):=Ext.born hz hw1
 have hE3:Ext x NJ Q (addOb b20 (Ob.z k b18) (tchJ k J)) [cloV 91 bs2] (pacJ k b20 (addOb b20 (Ob.z k b18) (tchJ k J))):=Ext.one (e:=.ac k (J.ac k)) ⟨rfl,hk,hC3.le Q2⟩ (fun p hp=>by rw [hg]at hp;cases hp) (by show({ pacJ k b20 (addOb b20 (Ob.z k b18) (tchJ k J))with ac:=updF (updF J.ac k (some b20)) k (J.ac k) } :JS)=_;rw [updF_back rfl];rfl) hw2
 rw [List.append_assoc]at r3
 refine⟨NS3,NF3,NT2,NU3,_,Q,a3,c3,D3,D2,b20,Ob.z k b18,pacJ k b20 (addOb b20 (Ob.z k b18) (tchJ k J)),[cloV 92 bs1,cloV 91 bs2],rfl,rfl,BS3,r3,hF3,aF3,hT2,aT2,hob,updF_at,updF_at,(by decide:2≤2),?_,(hE1.trans hE2).trans hE3,.inr ⟨b18,rfl,hg,hz,rfl⟩⟩
 exact fun a p hp=>by
  change updF J.ac k (some b20) a=some p at hp
  show ∃o,updF J.ob b20 (some (Ob.z k b18)) p=some o∧o.ad=a
  unfold updF at hp
  split at hp
  ·rename_i e
   cases hp
   exact⟨_,updF_at,e.symm⟩
  ·obtain⟨o,h1,h2⟩:=hw a p hp
   exact⟨o,(updF_ne (fit_ne hz ⟨o,h1⟩)).trans h1,h2⟩
theorem JOpened (BS:Blk NS x.sp 85 (stK x.ma x.mt x.mm x.mw x.md x.ws x.tr x.og J.rf lg (.slice ua un uc) mk tl)) (r:Row NU 1 1 ua un uc us) (hu:un≤1099511627760) (hF:MapV Tryz.prog 33 NF x.ma c DF) (aF:MapF keyA okAd ptrN DF J.ac) (hT:MapV Tryz.prog 33 NT x.mt c DT) (aT:MapF keyA okAd unitV DT J.lt) (hB:ObF NB NJ c J.ob) (hw:JWf J) (hk:okAd k) (hc:c≤1099511627760):Fn Tryz.prog 50 #[.pointer (some ⟨x.sp,0,none⟩),.agg (u8s k).toArray] [NS,NF,NT,NU,NB] [] (OpnJ x NJ c J lg mk tl un us k):=by
 cases hg:J.ac k with
 |none=>exact JOpenF BS r hu hF aF hT aT hB hw hk hc hg
 |some p=>exact JOpenT BS r hu hF aF hT aT hB hw hk hc hg
end
theorem obF_back {J:JS} {xp:Nat} {o:Ob} {g h:Ob→Ob} (ho:J.ob xp=some o) (hb:h (g o)=o):obF (obF J xp g) xp h=J:=by
 unfold obF
 simp only [updF_at,updF_updF,ho,Option.map_some,hb]
 rw [←ho,updF_self]
def AcV.z:AcV:=⟨0,0,[],fun _=>none⟩
def setV (k:List UInt8) (G:AcV→AcV) (V:Vw):Vw:= { V with lt:=updF V.lt k (some ()),ac:=updF V.ac k (some (G ((V.ac k).getD AcV.z))) }
theorem JWf.pac {J:JS} {k:List UInt8} {xp:Nat} {z:Ob} (hw:JWf J) (hz:J.ob xp=none) (hk:z.ad=k):JWf (pacJ k xp (addOb xp z J)):=fun a p hp=>by
 change updF J.ac k (some xp) a=some p at hp
 show ∃o,updF J.ob xp (some z) p=some o∧o.ad=a
 unfold updF at hp
 split at hp
 ·rename_i e
  cases hp
  exact⟨_,updF_at,hk.trans e.symm⟩
 ·obtain⟨o,h1,h2⟩:=hw a p hp
  exact⟨o,(updF_ne (fit_ne hz ⟨o,h1⟩)).trans h1,h2⟩
theorem pac_v {J:JS} {k:List UInt8} {xp:Nat} {z:Ob} (hw:JWf J) (hz:J.ob xp=none):(pacJ k xp (addOb xp z J)).v= { J.v with ac:=updF J.v.ac k (some z.v) } :=by
 unfold JS.v
 simp only [Vw.mk.injEq,pacJ,addOb,true_and]
 funext a
 by_cases e:a=k
 ·subst e
  rw [updF_at,updF_at]
  show(updF J.ob xp (some z) xp).map Ob.v=_
  rw [updF_at];rfl
 ·rw [updF_ne e,updF_ne e]
  cases h:J.ac a with
  |none=>rfl
  |some p=>
   obtain⟨o,hp,_⟩:=hw a p h
   simp only [Option.bind_some]
   rw [updF_ne (fit_ne hz ⟨o,hp⟩)]
theorem at_v {J:JS} {k:List UInt8} {xp:Nat} {o:Ob} (ha:J.ac k=some xp) (ho:J.ob xp=some o):J.v.ac k=some o.v:=by
 show((J.ac k).bind J.ob).map Ob.v=_
 rw [ha]
 show(J.ob xp).map Ob.v=_
 rw [ho];rfl
theorem open_v {J J2:JS} {k:List UInt8} {xp:Nat} {o:Ob} {n:Nat} (hw:JWf J) (ha:J2.ac k=some xp) (ho:J2.ob xp=some o) (h:(J2=tchJ k J∧n=1)∨ ∃mb,o=Ob.z k mb∧J.ac k=none∧J.ob xp=none∧J2=pacJ k xp (addOb xp o (tchJ k J))):J2.v=setV k id J.v:=by
 rcases h with ⟨rfl,_⟩|⟨mb,rfl,hn,hz,rfl⟩
 ·have h1:J.v.ac k=some o.v:=at_v (J:=J) ha ho
  unfold setV
  rw [h1]
  show _=({ J.v with lt:=updF J.v.lt k (some ()),ac:=updF J.v.ac k (some o.v) } :Vw)
  rw [←h1,updF_self];rfl
 ·have hw1:JWf (tchJ k J):=hw
  rw [pac_v hw1 hz]
  unfold setV
  have h1:J.v.ac k=none:=by
   show((J.ac k).bind J.ob).map Ob.v=_
   rw [hn];rfl
  rw [h1];rfl
theorem ob_v {J:JS} {k:List UInt8} {xp:Nat} {o:Ob} {g:Ob→Ob} {G:AcV→AcV} {V:Vw} (hw:JWf J) (ha:J.ac k=some xp) (ho:J.ob xp=some o) (hg:(g o).v=G o.v) (hv:J.v=setV k id V):(obF J xp g).v=setV k G V:=by
 have h1:=at_v ha ho
 have e:(obF J xp g).v= { J.v with ac:=updF J.v.ac k (some (G o.v)) } :=by
  unfold JS.v
  simp only [Vw.mk.injEq,obF,true_and]
  funext a
  by_cases e:a=k
  ·subst e
   rw [ha,updF_at]
   show(updF J.ob xp _ xp).map Ob.v=_
   rw [updF_at,ho]
   exact congrArg some hg
  ·rw [updF_ne e]
   cases h:J.ac a with
   |none=>rfl
   |some p=>
    obtain⟨q,hq,hqa⟩:=hw a p h
    obtain⟨q2,hq2,hk2⟩:=hw k xp ha
    have hne:p≠xp:=fun e2=>e (by rw [e2,hq2]at hq;rw [←hqa, ←Option.some.inj hq,hk2])
    simp only [Option.bind_some]
    rw [updF_ne hne]
 have h2:(V.ac k).getD AcV.z=o.v:=by
  rw [hv]at h1
  exact Option.some.inj ((updF_at (f:=V.ac)).symm.trans h1)
 rw [e,hv]
 unfold setV
 simp only [updF_updF,h2]
def EndJ (x:FxP) (NJ:Heaplet) (c:Nat) (J:JS) (lg mk:Value) (tl:Int) (un:Nat) (us:List Value) (V2:Vw) (v:Value) (L:List Heaplet):Prop:= ∃(NS NF NT NU NB NX:Heaplet) (a:Option Addr) (cu:Nat) (DF DT:DataW Value) (J2:JS) (us2:List Value),v=.tuple #[]∧L= [NS,NF,NT,NU,NB,NX]∧Blk NS x.sp 85 (stK x.ma x.mt x.mm x.mw x.md x.ws x.tr x.og J.rf lg (.slice a (un+us2.length) cu) mk tl)∧Row NU 1 1 a (un+us2.length) cu (us++us2)∧MapV Tryz.prog 33 NF x.ma (c+4) DF∧MapF keyA okAd ptrN DF J2.ac∧MapV Tryz.prog 33 NT x.mt (c+4) DT∧MapF keyA okAd unitV DT J2.lt∧(∀K,NJ.le K→NX.le K→ObF NB K (c+4) J2.ob)∧us2.length≤4∧JWf J2∧Ext x NJ NX J us2 J2∧J2.v=V2
section
variable {NS NU NT NF NB NJ : Heaplet} {x : FxP} {lg mk : Value} {tl : Int} {ua : Option Addr} {un uc : Nat} {us : List Value} {DT DF : DataW Value} {c : Nat} {k : List UInt8} {J : JS}
set_option maxHeartbeats 16000000 in
theorem JOpen (BS:Blk NS x.sp 85 (stK x.ma x.mt x.mm x.mw x.md x.ws x.tr x.og J.rf lg (.slice ua un uc) mk tl)) (r:Row NU 1 1 ua un uc us) (hu:un≤1099511627760) (hF:MapV Tryz.prog 33 NF x.ma c DF) (aF:MapF keyA okAd ptrN DF J.ac) (hT:MapV Tryz.prog 33 NT x.mt c DT) (aT:MapF keyA okAd unitV DT J.lt) (hB:ObF NB NJ c J.ob) (hw:JWf J) (hk:okAd k) (hc:c≤1099511627760):Fn Tryz.prog 35 #[.pointer (some ⟨x.sp,0,none⟩),.agg (u8s k).toArray] [NS,NF,NT,NU,NB] [] (EndJ x NJ c J lg mk tl un us (setV k id J.v)):=by
 have hul:=len_A hk
 refine Fn.enter (vs:= [.pointer (some ⟨x.sp,0,none⟩),.agg (u8s k).toArray]) Tryz.func35 U U U ?_
 intro E R hR
 change At _ _ E [NS,NF,NT,NU,NB,R] _
 refine aH fun _ s_1=>aB (cU bT U U U (fun N3 b3 B3=>aI (s_1 (aB (bC U U (aK (ds:=u8s k) aN ag33 U B3 (by exact bJ hul) (by exact hul) cO U ?_))))))
 refine aY (cH (aY (aY (aY (aY (aY (cR nxQ (.cons U (.cons U .nil)) (JOpened BS r hu hF aF hT aT hB hw hk (by omega)) (F:= [N3,R]) Tryz.func50 U U aZ (by simp) U ?_)))))))
 rintro _ _ ⟨NS2,NF2,NT2,NU2,NB2,NX1,a2,cu2,DF2,DT2,xp,o,J1,us1,rfl,rfl,BS2,r2,hF2,aF2,hT2,aT2,hB2,ho,hac,hl1,hw1,hE1,hcs⟩
 show At _ _ _ [NS2,NF2,NT2,NU2,NB2,NX1,N3,R] _
 skip
 refine cE (dropAt6 (cQ (L1:= [NS2,NF2,NT2,NU2,NB2,NX1]) U .nil U (.refl _) aZ ?_))
 exact⟨NS2,NF2,NT2,NU2,NB2,NX1,a2,cu2,DF2,DT2,J1,us1,rfl,rfl,BS2,r2,hF2.mono (by omega),aF2,hT2.mono (by omega),aT2,fun K h1 _=>hB2.mono (by omega) h1,by omega,hw1,hE1,open_v hw hac ho hcs⟩
set_option maxHeartbeats 16000000 in
theorem JNonce (BS:Blk NS x.sp 85 (stK x.ma x.mt x.mm x.mw x.md x.ws x.tr x.og J.rf lg (.slice ua un uc) mk tl)) (r:Row NU 1 1 ua un uc us) (hu:un≤1099511627760) (hF:MapV Tryz.prog 33 NF x.ma c DF) (aF:MapF keyA okAd ptrN DF J.ac) (hT:MapV Tryz.prog 33 NT x.mt c DT) (aT:MapF keyA okAd unitV DT J.lt) (hB:ObF NB NJ c J.ob) (hw:JWf J) (hk:okAd k) (hc:c≤1099511627760) {y:UInt64} :Fn Tryz.prog 13 #[.pointer (some ⟨x.sp,0,none⟩),.agg (u8s k).toArray,.int .u64 (y.toNat:Int)] [NS,NF,NT,NU,NB] [] (EndJ x NJ c J lg mk tl un us (setV k (fun a=> { a with no:=y }) J.v)):=by
 have hul:=len_A hk
 refine Fn.enter (vs:= [.pointer (some ⟨x.sp,0,none⟩),.agg (u8s k).toArray,.int .u64 (y.toNat:Int)]) Tryz.func13 U U U ?_
 intro E R hR
 change At _ _ E [NS,NF,NT,NU,NB,R] _
 refine aH fun _ s_1=>aB (cU bT U U U (fun N4 b4 B4=>aI (s_1 (aH fun _ s_2=>aB (bC U U (aK (ds:=u8s k) aN ag33 U B4 (by exact bJ hul) (by exact hul) cO U ?_))))))
 refine aY (cH (aY (aY (aY (aY (aY (cR nxQ (.cons U (.cons U .nil)) (JOpened BS r hu hF aF hT aT hB hw hk (by omega)) (F:= [N4,R]) Tryz.func50 U U aZ (by simp) U ?_)))))))
 rintro _ _ ⟨NS2,NF2,NT2,NU2,NB2,NX1,a2,cu2,DF2,DT2,xp,o,J1,us1,rfl,rfl,BS2,r2,hF2,aF2,hT2,aT2,hB2,ho,hac,hl1,hw1,hE1,hcs⟩
 show At _ _ _ [NS2,NF2,NT2,NU2,NB2,NX1,N4,R] _
 skip
 have hv1:=open_v hw hac ho hcs
 obtain⟨XB,RB,aXR,eNB,⟨NX,NM,DX,aX,eX,hX⟩,hRR⟩:=hB2.take ho
 have BX:=hX.B
 refine bZ bT ze67 U (fun N6 b6 B6=>?_)
 change Blk N6 b6 _ [.pointer none]at B6
 refine bP nxQ sz67 U U U U U B6 (by simp) sel0 (fun N6 B6=>?_)
 simp only [setL,List.set]at B6
 refine aI (s_2 (aH fun _ s_3=>a6 (a6 (a6 (bM (bM (bM (bM (bM (a6 ?_))))))))))
 rw [eNB,eX];refine At.unjoin (by rw [←eX];exact aXR) ?_;refine At.unpack (As:= [NX,NM]) aX ?_
 refine aB (aU aN sc67 U B6 U mem3 U ?_)
 refine bH aN U U (aJ aN fl71_0 U U (aU aN sc34 U BX U cO U ?_))
 refine bZ bT ze34 U (fun N7 b7 B7=>?_)
 change Blk N7 b7 _ [.int .u64 0]at B7
 refine bP nxQ sz34 U U U U U B7 (by simp) sel0 (fun N7 B7=>?_)
 simp only [setL,List.set]at B7
 refine aI (s_3 (aH fun _ s_4=>aB (aU aN sc67 U B6 U mem4 U ?_)))
 refine bC U U (bH aN U U (aJ aN fl71_0 U U (bP nxQ sz34 U U U U U BX (by exact show 0+0+1≤7 by decide) sel1 (fun NX BX=>?_))))
 change Blk NX xp _ (acK y o.ba o.ca o.co.length o.cc o.mb)at BX
 refine aI (s_4 (aB (bC U U (op_mkF aN .nil (.cons U (.cons U .nil)) U (bE (bE (bE (bE (bE (bE (bE (bE (bE (bO (bE (bE (At.pack (As:= [NX,NM]) (fun hANPA=>?_))))))))))))))))))
 obtain⟨NPA,eNPA⟩: ∃N,N=joinL [NX,NM]:=⟨_,rfl⟩
 rw [←eNPA]
 refine bO (bO (bO (bR (bR (a6 (a6 (a6 (a6 (bO (bO (cR nxQ (.cons U (.cons U .nil)) (FUndoableX BS2 r2 (by omega)) (F:= [NPA,N7,RB,N6,NF2,NT2,NX1,N4,R]) Tryz.func51 U U aZ (by simp) U ?_)))))))))))
 rintro _ _ ⟨NS3,NU3,a3,c3,rfl,rfl,BS3,r3⟩
 show At _ _ _ [NS3,NU3,NPA,N7,RB,N6,NF2,NT2,NX1,N4,R] _
 skip
 refine cE (bO (bO (bO (bO (bO (bO (bR (a6 (a6 (bO (bO (At.merge (fun hap=>bR (bR (bR (bR (bR (bM (bM (bM (bR (bR (cV (fun Qa Qa1 Qa2=>a6 (a6 (bM (bM (bM (bM (bM (bM (a6 (cV (fun Q Q1 Q2=>dropAt6 (aY (cH (bF (bA (aY (aY ?_))))))))))))))))))))))))))))))))))))))))
 refine aY (cQ (L1:= [NS3,NF2,NT2,NU3,(join2 NPA RB),Q]) U .nil U (.refl _) aZ ?_)
 have aXE:=hANPA
 subst eNPA
 have ho2:(obF J1 xp (fun z=> { z with no:=y })).ob xp=some (((fun z=> { z with no:=y })) o):=by show updF J1.ob xp ((J1.ob xp).map _) xp=_;rw [updF_at,ho];rfl
 have hob: ∀K,NJ.le K→Q.le K→ObF _ K (c+4) (obF J1 xp (fun z=> { z with no:=y })).ob:=fun K h1 h2=>by
  show ObF _ K (c+4) (updF J1.ob xp ((J1.ob xp).map _))
  rw [ho]
  exact ObF.turn hap ⟨NX,NM,DX,aXE,rfl,⟨BX,hX.M.mono (by omega),hX.A,hX.C.le h1,hX.ln,hX.ba,hX.st⟩⟩ (hRR.mono (by omega) h1)
 have hE2:Ext x NJ Q J1 [cloV 52 [b7,b6]] (obF J1 xp (fun z=> { z with no:=y })):=Ext.one (e:=.no xp o.no) ⟨rfl,b7,b6,rfl,B7.le (Heaplet.le_trans Qa1 Q2),B6.le (Heaplet.le_trans Qa2 Q2)⟩ ⟨_,ho2⟩ (obF_back ho rfl) hw1
 rw [List.append_assoc]at r3
 exact⟨NS3,NF2,NT2,NU3,_,Q,a3,c3,DF2,DT2,obF J1 xp (fun z=> { z with no:=y }),us1++ [cloV 52 [b7,b6]],rfl,rfl,by rw [List.length_append, ←Nat.add_assoc];exact BS3,by rw [List.length_append, ←Nat.add_assoc];exact r3,hF2.mono (by omega),aF2,hT2.mono (by omega),aT2,hob,by rw [List.length_append];exact Nat.le_trans (Nat.add_le_add_right hl1 1) (by decide),wf_ob hw1 ho rfl,(hE1.le Q1).trans hE2,ob_v hw1 hac ho rfl hv1⟩
set_option maxHeartbeats 16000000 in
theorem JBalance (BS:Blk NS x.sp 85 (stK x.ma x.mt x.mm x.mw x.md x.ws x.tr x.og J.rf lg (.slice ua un uc) mk tl)) (r:Row NU 1 1 ua un uc us) (hu:un≤1099511627760) (hF:MapV Tryz.prog 33 NF x.ma c DF) (aF:MapF keyA okAd ptrN DF J.ac) (hT:MapV Tryz.prog 33 NT x.mt c DT) (aT:MapF keyA okAd unitV DT J.lt) (hB:ObF NB NJ c J.ob) (hw:JWf J) (hk:okAd k) (hc:c≤1099511627760) {y:Nat} (hy:y<WW):Fn Tryz.prog 16 #[.pointer (some ⟨x.sp,0,none⟩),.agg (u8s k).toArray,.agg (u64s (wl y)).toArray] [NS,NF,NT,NU,NB] [] (EndJ x NJ c J lg mk tl un us (setV k (fun a=> { a with ba:=y }) J.v)):=by
 have hul:=len_A hk
 refine Fn.enter (vs:= [.pointer (some ⟨x.sp,0,none⟩),.agg (u8s k).toArray,.agg (u64s (wl y)).toArray]) Tryz.func16 U U U ?_
 intro E R hR
 change At _ _ E [NS,NF,NT,NU,NB,R] _
 refine aH fun _ s_1=>aB (cU bT U U U (fun N4 b4 B4=>cU bT U U U (fun N5 b5 B5=>aI (s_1 (aH fun _ s_2=>aB (bC U U (aK (ds:=u8s k) aN ag33 U B4 (by exact bJ hul) (by exact hul) dG U ?_)))))))
 refine bM (bF (bF (bM (bM (bM (bM (bM (cR nxQ (.cons U (.cons U .nil)) (JOpened BS r hu hF aF hT aT hB hw hk (by omega)) (F:= [N5,N4,R]) Tryz.func50 U U aZ (by simp) U ?_))))))))
 rintro _ _ ⟨NS2,NF2,NT2,NU2,NB2,NX1,a2,cu2,DF2,DT2,xp,o,J1,us1,rfl,rfl,BS2,r2,hF2,aF2,hT2,aT2,hB2,ho,hac,hl1,hw1,hE1,hcs⟩
 show At _ _ _ [NS2,NF2,NT2,NU2,NB2,NX1,N5,N4,R] _
 skip
 have hv1:=open_v hw hac ho hcs
 obtain⟨XB,RB,aXR,eNB,⟨NX,NM,DX,aX,eX,hX⟩,hRR⟩:=hB2.take ho
 have BX:=hX.B
 refine bZ bT ze67 U (fun N6 b6 B6=>?_)
 change Blk N6 b6 _ [.pointer none]at B6
 refine bP nxQ sz67 U U U U U B6 (by simp) sel0 (fun N6 B6=>?_)
 simp only [setL,List.set]at B6
 refine aI (s_2 (aH fun _ s_3=>bR (bR (bR (bR (a6 (a6 (a6 (a6 (a6 (bR ?_)))))))))))
 rw [eNB,eX];refine At.unjoin (by rw [←eX];exact aXR) ?_;refine At.unpack (As:= [NX,NM]) aX ?_
 refine aB (aU aN sc67 U B6 U mem3 U ?_)
 refine bH aN U U (aJ aN fl71_1 U U (aK (ds:=u64s (wl o.ba)) aN ag36 U BX (by rfl) (by rfl) cO U ?_))
 refine bZ bT ze36 U (fun N7 b7 B7=>?_)
 change Blk N7 b7 _ [.int .u64 0,.int .u64 0,.int .u64 0,.int .u64 0]at B7
 refine bP nxQ sz36 U U U (bQ o.ba) (one_wl o.ba) B7 (by simp) sel0 (fun N7 B7=>?_)
 skip
 refine aI (s_3 (aH fun _ s_4=>aB (aU aN sc67 U B6 U mem4 U ?_)))
 refine aK (ds:=u64s (wl y)) aN ag36 U B5 (by exact bJ (bQ y)) (by exact bQ y) mem10 U ?_
 refine bH aN U U (aJ aN fl71_1 U U (bP nxQ sz36 U U U (bQ y) (one_wl y) BX (by exact show 0+1+4≤7 by decide) sel1 (fun NX BX=>?_)))
 change Blk NX xp _ (acK o.no y o.ca o.co.length o.cc o.mb)at BX
 refine aI (s_4 (aB (bC U U (op_mkF aN .nil (.cons U (.cons U .nil)) U (aV (aV (aV (aV (aV (aV (aV (aV (aV (aV (bE (aV (aV (At.pack (As:= [NX,NM]) (fun hANPA=>?_)))))))))))))))))))
 obtain⟨NPA,eNPA⟩: ∃N,N=joinL [NX,NM]:=⟨_,rfl⟩
 rw [←eNPA]
 refine bE (bE (bE (bE (bO (bO (bR (bR (bR (bR (bE (bE (cR nxQ (.cons U (.cons U .nil)) (FUndoableX BS2 r2 (by omega)) (F:= [NPA,N7,RB,N6,NF2,NT2,NX1,N5,N4,R]) Tryz.func51 U U aZ (by simp) U ?_))))))))))))
 rintro _ _ ⟨NS3,NU3,a3,c3,rfl,rfl,BS3,r3⟩
 show At _ _ _ [NS3,NU3,NPA,N7,RB,N6,NF2,NT2,NX1,N5,N4,R] _
 skip
 refine cE (bE (bE (bE (bE (bE (bE (bE (bO (bR (bR (bE (bE (At.merge (fun hap=>bO (bO (bO (bO (bO (bO (a6 (a6 (a6 (bO (bO (cV (fun Qa Qa1 Qa2=>bR (bR (bR (a6 (a6 (a6 (a6 (a6 (a6 (bR (cV (fun Q Q1 Q2=>dropAt7 (dropAt6 (aY (cH (bF ?_)))))))))))))))))))))))))))))))))))))))))
 refine bA (aY (aY (aY (cQ (L1:= [NS3,NF2,NT2,NU3,(join2 NPA RB),Q]) U .nil U (.refl _) aZ ?_))))
 have aXE:=hANPA
 subst eNPA
 have ho2:(obF J1 xp (fun z=> { z with ba:=y })).ob xp=some (((fun z=> { z with ba:=y })) o):=by show updF J1.ob xp ((J1.ob xp).map _) xp=_;rw [updF_at,ho];rfl
 have hob: ∀K,NJ.le K→Q.le K→ObF _ K (c+4) (obF J1 xp (fun z=> { z with ba:=y })).ob:=fun K h1 h2=>by
  show ObF _ K (c+4) (updF J1.ob xp ((J1.ob xp).map _))
  rw [ho]
  exact ObF.turn hap ⟨NX,NM,DX,aXE,rfl,⟨BX,hX.M.mono (by omega),hX.A,hX.C.le h1,hX.ln,hy,hX.st⟩⟩ (hRR.mono (by omega) h1)
 have hE2:Ext x NJ Q J1 [cloV 56 [b7,b6]] (obF J1 xp (fun z=> { z with ba:=y })):=Ext.one (e:=.ba xp o.ba) ⟨rfl,hX.ba,b7,b6,rfl,B7.le (Heaplet.le_trans Qa1 Q2),B6.le (Heaplet.le_trans Qa2 Q2)⟩ ⟨_,ho2⟩ (obF_back ho rfl) hw1
 rw [List.append_assoc]at r3
 exact⟨NS3,NF2,NT2,NU3,_,Q,a3,c3,DF2,DT2,obF J1 xp (fun z=> { z with ba:=y }),us1++ [cloV 56 [b7,b6]],rfl,rfl,by rw [List.length_append, ←Nat.add_assoc];exact BS3,by rw [List.length_append, ←Nat.add_assoc];exact r3,hF2.mono (by omega),aF2,hT2.mono (by omega),aT2,hob,by rw [List.length_append];exact Nat.le_trans (Nat.add_le_add_right hl1 1) (by decide),wf_ob hw1 ho rfl,(hE1.le Q1).trans hE2,ob_v hw1 hac ho rfl hv1⟩
set_option maxHeartbeats 16000000 in
theorem JCode (BS:Blk NS x.sp 85 (stK x.ma x.mt x.mm x.mw x.md x.ws x.tr x.og J.rf lg (.slice ua un uc) mk tl)) (r:Row NU 1 1 ua un uc us) (hu:un≤1099511627760) (hF:MapV Tryz.prog 33 NF x.ma c DF) (aF:MapF keyA okAd ptrN DF J.ac) (hT:MapV Tryz.prog 33 NT x.mt c DT) (aT:MapF keyA okAd unitV DT J.lt) (hB:ObF NB NJ c J.ob) (hw:JWf J) (hk:okAd k) (hc:c≤1099511627760) {NI:Heaplet} {ao:Option Addr} {n cap:Nat} {y:List UInt8} (hy:RSl NI 1 ao n cap (u8s y)) (hyl:y.length=n) (hyn:n≤1099511627776):Fn Tryz.prog 15 #[.pointer (some ⟨x.sp,0,none⟩),.agg (u8s k).toArray,.slice ao n cap] [NS,NF,NT,NU,NB] [NI] (EndJ x NJ c J lg mk tl un us (setV k (fun a=> { a with co:=y }) J.v)):=by
 have hul:=len_A hk
 refine Fn.enter (vs:= [.pointer (some ⟨x.sp,0,none⟩),.agg (u8s k).toArray,.slice ao n cap]) Tryz.func15 U U U ?_
 intro E R hR
 have hyR:=hy.le (hR NI (by simp))
 change At _ _ E [NS,NF,NT,NU,NB,R] _
 refine aH fun _ s_1=>aB (cU bT U U U (fun N4 b4 B4=>aI (s_1 (aH fun _ s_2=>aB (bC U U (aK (ds:=u8s k) aN ag33 U B4 (by exact bJ hul) (by exact hul) cO U ?_))))))
 refine aY (cH (aY (aY (aY (aY (aY (cR nxQ (.cons U (.cons U .nil)) (JOpened BS r hu hF aF hT aT hB hw hk (by omega)) (F:= [N4,R]) Tryz.func50 U U aZ (by simp) U ?_)))))))
 rintro _ _ ⟨NS2,NF2,NT2,NU2,NB2,NX1,a2,cu2,DF2,DT2,xp,o,J1,us1,rfl,rfl,BS2,r2,hF2,aF2,hT2,aT2,hB2,ho,hac,hl1,hw1,hE1,hcs⟩
 show At _ _ _ [NS2,NF2,NT2,NU2,NB2,NX1,N4,R] _
 skip
 have hv1:=open_v hw hac ho hcs
 obtain⟨XB,RB,aXR,eNB,⟨NX,NM,DX,aX,eX,hX⟩,hRR⟩:=hB2.take ho
 have BX:=hX.B
 refine bZ bT ze67 U (fun N6 b6 B6=>?_)
 change Blk N6 b6 _ [.pointer none]at B6
 refine bP nxQ sz67 U U U U U B6 (by simp) sel0 (fun N6 B6=>?_)
 simp only [setL,List.set]at B6
 refine aI (s_2 (aH fun _ s_3=>a6 (a6 (a6 (bM (bM (bM (bM (bM (a6 ?_))))))))))
 rw [eNB,eX];refine At.unjoin (by rw [←eX];exact aXR) ?_;refine At.unpack (As:= [NX,NM]) aX ?_
 refine aB (aU aN sc67 U B6 U mem3 U ?_)
 refine bH aN U U (aJ aN fl71_2 U U (aU aN sc37 U BX U cO U ?_))
 refine bZ bT ze37 U (fun N7 b7 B7=>?_)
 change Blk N7 b7 _ [.slice none 0 0]at B7
 refine bP nxQ sz37 U U U U U B7 (by simp) sel0 (fun N7 B7=>?_)
 simp only [setL,List.set]at B7
 refine aI (s_3 (aH fun _ s_4=>bS (bS (bI (bE (bE (bE (bE (bE (bE (bE (bE (bE (cS [NX,N6,NS2] [5] [] [0,1,2,3,4,5] (by kernel_rfl) (by kernel_rfl) (.cons _ (.cons _ (.cons _ (.cons _ (.cons _ (.cons _ (.cons _ (.cons _ (.cons _ (.refl _)))))))))) (aU (bB U U U) sc67 U B6 U dG U ?_)))))))))))))))
 refine aR (bB U U U) U U (bG (Nx.agree (nxsm U U U)) (.cons U .nil) ((FBClone hyR hyl hyn)) Tryz.func30 U U (by simp) U ?_)
 rintro _ _ ⟨NI2,a17,c17,rfl,rfl,hI2⟩
 show At _ _ _ [NI2,N7,NM,RB,NF2,NT2,NU2,NX1,N4,R,NX,N6,NS2] _
 refine aV (aV (aV (bI (aV (aV (aV (aV (aV (aV (aV (aV (aV (At.moreS (Lst:= [NX,N6,NS2]) (Lst':= [NI2,NX,N6,NS2]) (.cons _ (.refl _)) (.cons _ (.cons _ (.cons _ (.cons _ (.cons _ (.cons _ (.cons _ (.cons _ (.cons _ (.refl _)))))))))) (bH (bB U U U) U U (aJ (bB U U U) fl71_2 U U (bP (nxsl U U U U) sz37 U U U U U BX (by exact show 0+5+1≤7 by decide) sel10 (fun NX BX=>?_)))))))))))))))))
 change Blk NX xp _ (acK o.no o.ba a17 n c17 o.mb)at BX;rw [←hyl]at BX hI2
 refine dH (aS (s_4 (aB (bC U U (op_mkF aN .nil (.cons U (.cons U .nil)) U (aV (aV (aV (aV (aV (aV (aV (aV (aV (aV (bE (aV (aV (At.pack (As:= [NX,NM]) (fun hANPA=>?_))))))))))))))))))))
 obtain⟨NPA,eNPA⟩: ∃N,N=joinL [NX,NM]:=⟨_,rfl⟩
 rw [←eNPA]
 refine bO (bO (bO (bO (bO (bR (bR (bR (bR (bR (bO (bE (cR nxQ (.cons U (.cons U .nil)) (FUndoableX BS2 r2 (by omega)) (F:= [NPA,N7,RB,NF2,NT2,NX1,N4,R,NI2,N6]) Tryz.func51 U U aZ (by simp) U ?_))))))))))))
 rintro _ _ ⟨NS3,NU3,a3,c3,rfl,rfl,BS3,r3⟩
 show At _ _ _ [NS3,NU3,NPA,N7,RB,NF2,NT2,NX1,N4,R,NI2,N6] _
 skip
 refine cE (bE (bE (bE (bE (bE (bE (bE (bO (bR (bR (bE (bE (At.merge (fun hap=>bR (bR (bR (bR (bR (bR (a6 (a6 (a6 (bO (bO (cV (fun Qa Qa1 Qa2=>bR (bR (bR (a6 (a6 (a6 (a6 (a6 (a6 (bR (cV (fun Qb Qb1 Qb2=>bM (bM (bM (bM ?_))))))))))))))))))))))))))))))))))))))))
 refine bM (bM (bM (bM (a6 (cV (fun Q Q1 Q2=>dropAt6 (aY (cH (bF (bA (aY (aY (aY (cQ (L1:= [NS3,NF2,NT2,NU3,(join2 NPA RB),Q]) U .nil U (.refl _) aZ ?_))))))))))))))
 have aXE:=hANPA
 subst eNPA
 have ho2:(obF J1 xp (fun z=> { z with ca:=a17,cc:=c17,co:=y })).ob xp=some (((fun z=> { z with ca:=a17,cc:=c17,co:=y })) o):=by show updF J1.ob xp ((J1.ob xp).map _) xp=_;rw [updF_at,ho];rfl
 have hob: ∀K,NJ.le K→Q.le K→ObF _ K (c+4) (obF J1 xp (fun z=> { z with ca:=a17,cc:=c17,co:=y })).ob:=fun K h1 h2=>by
  show ObF _ K (c+4) (updF J1.ob xp ((J1.ob xp).map _))
  rw [ho]
  exact ObF.turn hap ⟨NX,NM,DX,aXE,rfl,⟨BX,hX.M.mono (by omega),hX.A,hI2.le (Heaplet.le_trans Q1 h2),(by show y.length≤_;omega),hX.ba,hX.st⟩⟩ (hRR.mono (by omega) h1)
 have hE2:Ext x NJ Q J1 [cloV 55 [b7,b6]] (obF J1 xp (fun z=> { z with ca:=a17,cc:=c17,co:=y })):=Ext.oneK (e:=.co xp o.ca o.cc o.co) (fun K h0 hq=>⟨rfl,hX.C.le h0,hX.ln,b7,b6,rfl,B7.le (Heaplet.le_trans (Heaplet.le_trans Qa1 (Heaplet.le_trans Qb2 Q2)) hq),B6.le (Heaplet.le_trans (Heaplet.le_trans Qa2 (Heaplet.le_trans Qb2 Q2)) hq)⟩) ⟨_,ho2⟩ (obF_back ho rfl) hw1
 rw [List.append_assoc]at r3
 exact⟨NS3,NF2,NT2,NU3,_,Q,a3,c3,DF2,DT2,obF J1 xp (fun z=> { z with ca:=a17,cc:=c17,co:=y }),us1++ [cloV 55 [b7,b6]],rfl,rfl,by rw [List.length_append, ←Nat.add_assoc];exact BS3,by rw [List.length_append, ←Nat.add_assoc];exact r3,hF2.mono (by omega),aF2,hT2.mono (by omega),aT2,hob,by rw [List.length_append];exact Nat.le_trans (Nat.add_le_add_right hl1 1) (by decide),wf_ob hw1 ho rfl,(hE1.le (Heaplet.le_trans Qb1 Q2)).trans hE2,ob_v hw1 hac ho rfl hv1⟩
end
end Go.Proofs.YtalmjkcapecpiaaGreat
