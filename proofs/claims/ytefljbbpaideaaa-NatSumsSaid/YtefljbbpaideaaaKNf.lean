/- quarrylaw02.NatSums answers true. No condition. -/
import Derived.Test.YtefljbbpaideaaaKNd
namespace Go.Proofs.Ytefljbbpaideaaa
set_option linter.unusedVariables false
set_option linter.unusedSimpArgs false
open Go Go.RowKit
section
variable {N : Heaplet} {ao bo mo : Option Addr} {n m k ca cb cm : Nat} {a b l : List UInt8} {I W : Int}
theorem cmpI_ge {x y : Nat} : 0 ≤ cmpI x y ↔ y ≤ x := by
  have := cmpI_lt (x := x) (y := y)
  constructor
  · intro h
    rcases Nat.lt_or_ge x y with h1 | h1
    · have := this.2 h1; omega
    · exact h1
  · intro h
    by_cases h1 : cmpI x y < 0
    · have := this.1 h1; omega
    · omega
theorem digs_add {X Y n : Nat} (hx : (digsOf X).length ≤ n) (hy : (digsOf Y).length ≤ n) : (digsOf (X + Y)).length ≤ n + 1 := by
  rw [length_digsOf]
  refine digLen_le.2 ?_
  have h1 : X < 2 ^ (32 * n) := digLen_le.1 (by rw [← length_digsOf]; exact hx)
  have h2 : Y < 2 ^ (32 * n) := digLen_le.1 (by rw [← length_digsOf]; exact hy)
  rw [pow32]
  omega
set_option maxRecDepth 100000 in
set_option maxHeartbeats 2000000 in
theorem NatSums_ge (ha : RSl N 1 ao n ca (u8s a)) (hb : RSl N 1 bo m cb (u8s b)) (hc : be (b.take 600) ≤ be (a.take 600)) :
    Fn Try.prog 15 #[.agg #[.slice ao n ca, .slice bo m cb, .slice mo k cm, .int .i64 I, .int .i64 W]] [] [N] (fun v L => v = .bool true ∧ L = []) := by
  have ha6 : (a.take 600).length ≤ 600 := by rw [List.length_take]; omega
  have hb6 : (b.take 600).length ≤ 600 := by rw [List.length_take]; omega
  have hda := digs_be_len (a.take 600)
  have hdb := digs_be_len (b.take 600)
  have hmul := digs_mul (X := be (a.take 600)) (Y := be (b.take 600)) (n := 1000) (by omega) (by omega)
  have hsub : (digsOf (be (a.take 600) - be (b.take 600))).length ≤ (digsOf (be (a.take 600))).length := digs_mono (Nat.sub_le _ _)
  have hadd := digs_add (X := be (a.take 600)) (Y := be (b.take 600)) (n := 1000) (by omega) (by omega)
  refine Fn.enter (vs := [.agg #[.slice ao n ca, .slice bo m cb, .slice mo k cm, .int .i64 I, .int .i64 W]]) Try.func15 rfl rfl rfl ?_
  intro E R hR
  have ha := ha.le (hR N (by simp))
  have hb := hb.le (hR N (by simp))
  change At _ _ E [R] _
  refine At.seq fun K1 hk_1 => ?_
  refine At.region ?_
  refine op_box (nxla rfl) rfl rfl rfl (fun N1 b1 B1 => ?_)
  refine op_assign (nxlf rfl) rfl rfl ?_
  refine At.opsNil ?_
  refine At.norm (hk_1 ?_)
  refine At.seq fun K2 hk_2 => ?_
  refine At.region ?_
  refine op_fieldAddr (nxlf rfl) fl36_0 rfl rfl ?_
  refine op_loadB (nxlf rfl) sc34 rfl B1 (by first | rfl) mem0 rfl ?_
  refine op_callA (nxla rfl) (.cons rfl .nil) (few_f ha) Try.func38 rfl rfl (by simp) rfl ?_
  rintro v9 L9 ⟨M9, a9, p9, rfl, rfl, r9⟩
  change At _ _ _ [M9, N1, R] _
  have s9 := r9.rsl
  refine op_callA (nxla rfl) (.cons rfl .nil) (rFrom_f s9 (by omega)) Try.func37 rfl rfl (by simp) rfl ?_
  rintro v10 L10 ⟨M10, a10, p10, rfl, rfl, s10⟩
  change At _ _ _ [M10, M9, N1, R] _
  refine op_assign (nxlf rfl) rfl rfl ?_
  refine At.opsNil ?_
  refine At.norm (hk_2 ?_)
  refine At.seq fun K3 hk_3 => ?_
  refine At.region ?_
  refine op_fieldAddr (nxlf rfl) fl36_1 rfl rfl ?_
  refine op_loadB (nxlf rfl) sc34 rfl B1 (by first | rfl) mem2 rfl ?_
  refine op_callA (nxla rfl) (.cons rfl .nil) (few_f hb) Try.func38 rfl rfl (by simp) rfl ?_
  rintro v13 L13 ⟨M13, a13, p13, rfl, rfl, r13⟩
  change At _ _ _ [M13, M10, M9, N1, R] _
  have s13 := r13.rsl
  refine op_callA (nxla rfl) (.cons rfl .nil) (rFrom_f s13 (by omega)) Try.func37 rfl rfl (by simp) rfl ?_
  rintro v14 L14 ⟨M14, a14, p14, rfl, rfl, s14⟩
  change At _ _ _ [M14, M13, M10, M9, N1, R] _
  refine op_assign (nxlf rfl) rfl rfl ?_
  refine At.opsNil ?_
  refine At.norm (hk_3 ?_)
  refine At.seq fun K4 hk_4 => ?_
  refine At.perm sel5 ?_
  refine At.perm sel3 ?_
  refine At.perm sel2 ?_
  refine At.perm sel5 ?_
  refine At.perm sel5 ?_
  refine At.perm sel5 ?_
  refine At.drawnS [N1, M14, M10, R] [5,6] [] [0,1,3,4,2,5,6,7,8,9,10,11] (by kernel_rfl) (by kernel_rfl) (.cons _ (.cons _ (.refl _))) ?_
  refine op_fieldAddr (nxsf rfl rfl rfl) fl36_0 rfl rfl ?_
  refine op_loadB (nxsf rfl rfl rfl) sc34 rfl B1 (by first | rfl) mem0 rfl ?_
  refine op_fieldAddr (nxsf rfl rfl rfl) fl36_1 rfl rfl ?_
  refine op_loadB (nxsf rfl rfl rfl) sc34 rfl B1 (by first | rfl) mem0 rfl ?_
  refine op_callA (Nx.agree (nxsm rfl rfl rfl)) (.cons rfl .nil) (few_f ha) Try.func38 rfl rfl (by simp) rfl ?_
  rintro v18 L18 ⟨M18, a18, p18, rfl, rfl, r18⟩
  change At _ _ _ [M18, M13, M9, N1, M14, M10, R] _
  have s18 := r18.rsl
  refine At.perm sel6 ?_
  refine At.perm sel6 ?_
  refine At.perm sel6 ?_
  refine At.perm sel6 ?_
  refine At.perm sel4 ?_
  refine At.perm sel6 ?_
  refine At.perm sel6 ?_
  refine At.moreS (Lst := [N1, M14, M10, R]) (Lst' := [M18, N1, M14, M10, R]) (.cons _ (.refl _)) (.cons _ (.cons _ (.refl _))) ?_
  refine op_callA (Nx.agree (nxss rfl rfl rfl rfl)) (.cons rfl .nil) (few_f hb) Try.func38 rfl rfl (by simp) rfl ?_
  rintro v21 L21 ⟨M21, a21, p21, rfl, rfl, r21⟩
  change At _ _ _ [M21, M13, M9, M18, N1, M14, M10, R] _
  have s21 := r21.rsl
  refine At.anyS (.refl _) ?_
  refine op_callA (Nx.agree (nxss rfl rfl rfl rfl)) (.cons rfl (.cons rfl .nil)) (NSub_f s18 s21 (by omega) (by omega)) Try.func94 rfl rfl (by simp) rfl ?_
  rintro v22 L22 ⟨M22, a22, p22, rfl, rfl, r22⟩
  change At _ _ _ [M22, M21, M13, M9, M18, N1, M14, M10, R] _
  have s22 := r22.rsl
  refine At.anyS (.refl _) ?_
  rw [decide_eq_true hc]
  refine op_move (nxsf rfl rfl rfl) rfl rfl ?_
  refine op_extract (nxsf rfl rfl rfl) rfl rfl rfl ?_
  refine op_extract (nxsf rfl rfl rfl) rfl rfl rfl ?_
  refine op_assign (nxsf rfl rfl rfl) rfl rfl ?_
  refine op_assign (nxsf rfl rfl rfl) rfl rfl ?_
  refine At.sNil ?_
  refine At.norm (hk_4 ?_)
  refine At.seq fun K5 hk_5 => ?_
  refine At.seq fun K6 hk_6 => ?_
  refine At.perm sel8 ?_
  refine At.perm sel8 ?_
  refine At.perm sel8 ?_
  refine At.perm sel3 ?_
  refine At.perm sel8 ?_
  refine At.perm sel8 ?_
  refine At.perm sel8 ?_
  refine At.perm sel8 ?_
  refine At.perm sel8 ?_
  refine At.drawnS [N1, M22, M14, M10, R] [3] [0,9] [0,1,2,3,4,5,6,7,8,9,10,11,12,13,14,15,16,17,18,19,20,21,22,23,24,25,26,27] (by kernel_rfl) (by kernel_rfl) (.cons _ (.cons _ (.cons _ (.cons _ (.refl _))))) ?_
  refine op_move (nxsf rfl rfl rfl) rfl rfl ?_
  refine op_move (nxsf rfl rfl rfl) rfl rfl ?_
  refine op_move (nxsf rfl rfl rfl) rfl rfl ?_
  refine op_callA (Nx.agree (nxss rfl rfl rfl rfl)) (.cons rfl (.cons rfl .nil)) (Cmp32_f s10 s14) Try.func76 rfl rfl (by simp) rfl ?_
  rintro v28 L28 ⟨rfl, rfl⟩
  change At _ _ _ [M21, M13, M9, M18, N1, M22, M14, M10, R] _
  refine At.anyS (.refl _) ?_
  refine op_geq (nxsf rfl rfl rfl) rfl rfl rfl ?_
  rw [decide_eq_true (cmpI_ge.2 hc)]
  refine op_neB (nxsf rfl rfl rfl) Try.underlying4 rfl rfl rfl ?_
  refine op_move (nxsf rfl rfl rfl) rfl rfl ?_
  refine op_move (nxsgf rfl rfl rfl rfl rfl rfl) rfl rfl ?_
  refine op_move (nxsgf rfl rfl rfl rfl rfl rfl) rfl rfl ?_
  refine op_move (nxsgf rfl rfl rfl rfl rfl rfl) rfl rfl ?_
  refine op_str (nxsgf rfl rfl rfl rfl rfl rfl) Try.underlying34 Try.underlying5 Try.underlying9 rfl (by assumption) (by first | exact mem0 | exact mem1 | exact mem2 | exact mem3 | exact mem4 | exact mem5 | exact mem6 | exact mem7 | exact mem8 | exact mem9) rfl ?_
  refine op_move (nxsgf rfl rfl rfl rfl rfl rfl) rfl rfl ?_
  refine op_move (nxsgf rfl rfl rfl rfl rfl rfl) rfl rfl ?_
  refine op_callA (Nx.agree (nxsgm rfl rfl rfl rfl rfl rfl)) (.cons rfl (.cons rfl .nil)) (rSub_f s10 s14 (by omega) (digs_mono hc) (by rw [v32_digsOf, v32_digsOf]; exact hc)) Try.func95 rfl rfl (by simp) rfl ?_
  rintro v38 L38 ⟨M38, a38, p38, rfl, rfl, s38⟩
  change At _ _ _ [M38, M21, M13, M9, M18, N1, M22, M14, M10, R] _
  rw [v32_digsOf, v32_digsOf] at s38 ⊢
  refine At.moreS (Lst := [M21, M13, M9, M18, N1, M22, M14, M10, R]) (Lst' := [M38, M21, M13, M9, M18, N1, M22, M14, M10, R]) (.cons _ (.refl _)) (.refl _) ?_
  refine op_callA (Nx.agree (nxsgm rfl rfl rfl rfl rfl rfl)) (.cons rfl .nil) (or_bytes (N := R) (.inl s38) (by omega)) Try.func42 rfl rfl (by simp) rfl ?_
  rintro v39 L39 ⟨M39, a39, p39, rfl, rfl, r39⟩
  change At _ _ _ [M39, M38, M21, M13, M9, M18, N1, M22, M14, M10, R] _
  have s39 := r39.rsl
  refine At.moreS (Lst := [M38, M21, M13, M9, M18, N1, M22, M14, M10, R]) (Lst' := [M39, M38, M21, M13, M9, M18, N1, M22, M14, M10, R]) (.cons _ (.refl _)) (.refl _) ?_
  refine op_str (nxsgf rfl rfl rfl rfl rfl rfl) Try.underlying34 Try.underlying5 Try.underlying9 rfl (by assumption) (by first | exact mem0 | exact mem1 | exact mem2 | exact mem3 | exact mem4 | exact mem5 | exact mem6 | exact mem7 | exact mem8 | exact mem9 | exact mem10) rfl ?_
  refine op_neS (nxsgf rfl rfl rfl rfl rfl rfl) rfl rfl rfl ?_
  refine op_pickT (nxsgf rfl rfl rfl rfl rfl rfl) rfl rfl rfl ?_
  refine op_pickF (nxsf rfl rfl rfl) rfl rfl rfl ?_
  refine op_move (nxsf rfl rfl rfl) rfl rfl ?_
  refine At.partP (d := 44) rfl (fun g44 => ?_) (fun g44 => ?_)
  · exact absurd rfl g44
  · refine op_move (nxsgf rfl rfl rfl rfl rfl rfl) rfl rfl ?_
    refine op_not (nxsgf rfl rfl rfl rfl rfl rfl) rfl rfl ?_
    refine op_move (nxsgf rfl rfl rfl rfl rfl rfl) rfl rfl ?_
    refine op_sskip rfl rfl rfl rfl rfl rfl rfl rfl ?_
    refine op_sskip rfl rfl rfl rfl rfl rfl rfl rfl ?_
    refine op_sskip rfl rfl rfl rfl rfl rfl rfl rfl ?_
    refine op_pickF (nxsgf rfl rfl rfl rfl rfl rfl) rfl rfl rfl ?_
    refine op_pickF (nxsf rfl rfl rfl) rfl rfl rfl ?_
    refine At.sNil ?_
    refine At.norm (hk_6 ?_)
    refine At.condF rfl ?_
    refine At.skip ?_
    refine At.norm (hk_5 ?_)
    refine At.seq fun K7 hk_7 => ?_
    refine At.drawnS [N1, M22, M14, M10, R] [5,6,20,21,31] [8,9,23,24] [0,1,3,4,8,9,2,5,6,7,10,11,12,13,14,15,16,18,19,23,24,17,20,21,22,25,26,27,28,29,30,31,32,33] (by kernel_rfl) (by kernel_rfl) (.cons _ (.cons _ (.cons _ (.cons _ (.cons _ (.cons _ (.refl _))))))) ?_
    refine op_fieldAddr (nxsf rfl rfl rfl) fl36_0 rfl rfl ?_
    refine op_loadB (nxsf rfl rfl rfl) sc34 rfl B1 (by first | rfl) mem0 rfl ?_
    refine op_fieldAddr (nxsf rfl rfl rfl) fl36_1 rfl rfl ?_
    refine op_loadB (nxsf rfl rfl rfl) sc34 rfl B1 (by first | rfl) mem0 rfl ?_
    refine op_move (nxsf rfl rfl rfl) rfl rfl ?_
    refine op_move (nxsf rfl rfl rfl) rfl rfl ?_
    refine op_callA (Nx.agree (nxsm rfl rfl rfl)) (.cons rfl .nil) (few_f ha) Try.func38 rfl rfl (by simp) rfl ?_
    rintro v55 L55 ⟨M55, a55, p55, rfl, rfl, r55⟩
    change At _ _ _ [M55, M39, M38, M21, M13, M9, M18, N1, M22, M14, M10, R] _
    have s55 := r55.rsl
    refine At.perm sel11 ?_
    refine At.perm sel11 ?_
    refine At.perm sel11 ?_
    refine At.perm sel11 ?_
    refine At.perm sel11 ?_
    refine At.perm sel5 ?_
    refine At.perm sel11 ?_
    refine At.perm sel11 ?_
    refine At.perm sel11 ?_
    refine At.perm sel11 ?_
    refine At.perm sel11 ?_
    refine At.perm sel11 ?_
    refine At.moreS (Lst := [N1, M22, M14, M10, R]) (Lst' := [M55, N1, M22, M14, M10, R]) (.cons _ (.refl _)) (.cons _ (.cons _ (.cons _ (.cons _ (.cons _ (.cons _ (.refl _))))))) ?_
    refine op_callA (Nx.agree (nxss rfl rfl rfl rfl)) (.cons rfl .nil) (few_f hb) Try.func38 rfl rfl (by simp) rfl ?_
    rintro v58 L58 ⟨M58, a58, p58, rfl, rfl, r58⟩
    change At _ _ _ [M58, M39, M38, M21, M13, M9, M18, M55, N1, M22, M14, M10, R] _
    have s58 := r58.rsl
    refine At.anyS (.refl _) ?_
    refine op_callA (Nx.agree (nxss rfl rfl rfl rfl)) (.cons rfl (.cons rfl .nil)) (NAdd_f s55 s58 (by omega) (by omega)) Try.func70 rfl rfl (by simp) rfl ?_
    rintro v59 L59 ⟨M59, a59, p59, rfl, rfl, r59⟩
    change At _ _ _ [M59, M58, M39, M38, M21, M13, M9, M18, M55, N1, M22, M14, M10, R] _
    have s59 := r59.rsl
    refine At.anyS (.refl _) ?_
    refine op_str (nxsf rfl rfl rfl) Try.underlying34 Try.underlying5 Try.underlying9 rfl (by assumption) (by first | exact mem0 | exact mem1 | exact mem2 | exact mem3 | exact mem4 | exact mem5 | exact mem6 | exact mem7 | exact mem8 | exact mem9 | exact mem10 | exact mem11 | exact mem12 | exact mem13) rfl ?_
    refine op_callA (Nx.agree (nxsm rfl rfl rfl)) (.cons rfl (.cons rfl .nil)) (rAdd_f s10 s14 (by omega) (by omega)) Try.func96 rfl rfl (by simp) rfl ?_
    rintro v63 L63 ⟨M63, a63, p63, rfl, rfl, s63⟩
    change At _ _ _ [M63, M59, M58, M39, M38, M21, M13, M9, M18, M55, N1, M22, M14, M10, R] _
    rw [v32_digsOf, v32_digsOf] at s63 ⊢
    refine At.moreS (Lst := [M59, M58, M39, M38, M21, M13, M9, M18, M55, N1, M22, M14, M10, R]) (Lst' := [M63, M59, M58, M39, M38, M21, M13, M9, M18, M55, N1, M22, M14, M10, R]) (.cons _ (.refl _)) (.refl _) ?_
    refine op_callA (Nx.agree (nxsm rfl rfl rfl)) (.cons rfl .nil) (or_bytes (N := R) (.inl s63) (by omega)) Try.func42 rfl rfl (by simp) rfl ?_
    rintro v64 L64 ⟨M64, a64, p64, rfl, rfl, r64⟩
    change At _ _ _ [M64, M63, M59, M58, M39, M38, M21, M13, M9, M18, M55, N1, M22, M14, M10, R] _
    have s64 := r64.rsl
    refine At.moreS (Lst := [M63, M59, M58, M39, M38, M21, M13, M9, M18, M55, N1, M22, M14, M10, R]) (Lst' := [M64, M63, M59, M58, M39, M38, M21, M13, M9, M18, M55, N1, M22, M14, M10, R]) (.cons _ (.refl _)) (.refl _) ?_
    refine op_str (nxsf rfl rfl rfl) Try.underlying34 Try.underlying5 Try.underlying9 rfl (by assumption) (by first | exact mem0 | exact mem1 | exact mem2 | exact mem3 | exact mem4 | exact mem5 | exact mem6 | exact mem7 | exact mem8 | exact mem9 | exact mem10 | exact mem11 | exact mem12 | exact mem13 | exact mem14 | exact mem15) rfl ?_
    refine op_eqS (nxsf rfl rfl rfl) rfl rfl rfl ?_
    refine op_move (nxsf rfl rfl rfl) rfl rfl ?_
    refine At.partP (d := 67) rfl (fun g67 => ?_) (fun g67 => ?_)
    · refine op_fieldAddr (nxsgf rfl rfl rfl rfl rfl rfl) fl36_0 rfl rfl ?_
      refine op_loadB (nxsgf rfl rfl rfl rfl rfl rfl) sc34 rfl B1 (by first | rfl) mem11 rfl ?_
      refine op_fieldAddr (nxsgf rfl rfl rfl rfl rfl rfl) fl36_1 rfl rfl ?_
      refine op_loadB (nxsgf rfl rfl rfl rfl rfl rfl) sc34 rfl B1 (by first | rfl) mem11 rfl ?_
      refine op_move (nxsgf rfl rfl rfl rfl rfl rfl) rfl rfl ?_
      refine op_move (nxsgf rfl rfl rfl rfl rfl rfl) rfl rfl ?_
      refine op_callA (Nx.agree (nxsgm rfl rfl rfl rfl rfl rfl)) (.cons rfl .nil) (few_f ha) Try.func38 rfl rfl (by simp) rfl ?_
      rintro v70 L70 ⟨M70, a70, p70, rfl, rfl, r70⟩
      change At _ _ _ [M70, M64, M63, M59, M58, M39, M38, M21, M13, M9, M18, M55, N1, M22, M14, M10, R] _
      have s70 := r70.rsl
      refine At.moreS (Lst := [M64, M63, M59, M58, M39, M38, M21, M13, M9, M18, M55, N1, M22, M14, M10, R]) (Lst' := [M70, M64, M63, M59, M58, M39, M38, M21, M13, M9, M18, M55, N1, M22, M14, M10, R]) (.cons _ (.refl _)) (.refl _) ?_
      refine op_callA (Nx.agree (nxsgs rfl rfl rfl rfl rfl rfl rfl)) (.cons rfl .nil) (few_f hb) Try.func38 rfl rfl (by simp) rfl ?_
      rintro v73 L73 ⟨M73, a73, p73, rfl, rfl, r73⟩
      change At _ _ _ [M73, M70, M64, M63, M59, M58, M39, M38, M21, M13, M9, M18, M55, N1, M22, M14, M10, R] _
      have s73 := r73.rsl
      refine At.anyS (.refl _) ?_
      refine op_callA (Nx.agree (nxsgs rfl rfl rfl rfl rfl rfl rfl)) (.cons rfl (.cons rfl .nil)) (NMul_f s70 s73 (by omega) (by omega)) Try.func69 rfl rfl (by simp) rfl ?_
      rintro v74 L74 ⟨M74, a74, p74, rfl, rfl, r74⟩
      change At _ _ _ [M74, M73, M70, M64, M63, M59, M58, M39, M38, M21, M13, M9, M18, M55, N1, M22, M14, M10, R] _
      have s74 := r74.rsl
      refine At.anyS (.refl _) ?_
      refine op_str (nxsgf rfl rfl rfl rfl rfl rfl) Try.underlying34 Try.underlying5 Try.underlying9 rfl (by assumption) (by first | exact mem0 | exact mem1 | exact mem2 | exact mem3 | exact mem4 | exact mem5 | exact mem6 | exact mem7 | exact mem8 | exact mem9 | exact mem10 | exact mem11 | exact mem12 | exact mem13 | exact mem14 | exact mem15 | exact mem16 | exact mem17 | exact mem18) rfl ?_
      refine op_callA (Nx.agree (nxsgm rfl rfl rfl rfl rfl rfl)) (.cons rfl (.cons rfl .nil)) (rMul_f s10 s14 (by omega) (by omega)) Try.func97 rfl rfl (by simp) rfl ?_
      rintro v78 L78 ⟨M78, a78, p78, rfl, rfl, s78⟩
      change At _ _ _ [M78, M74, M73, M70, M64, M63, M59, M58, M39, M38, M21, M13, M9, M18, M55, N1, M22, M14, M10, R] _
      rw [v32_digsOf, v32_digsOf] at s78 ⊢
      refine At.moreS (Lst := [M74, M73, M70, M64, M63, M59, M58, M39, M38, M21, M13, M9, M18, M55, N1, M22, M14, M10, R]) (Lst' := [M78, M74, M73, M70, M64, M63, M59, M58, M39, M38, M21, M13, M9, M18, M55, N1, M22, M14, M10, R]) (.cons _ (.refl _)) (.refl _) ?_
      refine op_callA (Nx.agree (nxsgm rfl rfl rfl rfl rfl rfl)) (.cons rfl .nil) (or_bytes (N := R) (.inl s78) (by omega)) Try.func42 rfl rfl (by simp) rfl ?_
      rintro v79 L79 ⟨M79, a79, p79, rfl, rfl, r79⟩
      change At _ _ _ [M79, M78, M74, M73, M70, M64, M63, M59, M58, M39, M38, M21, M13, M9, M18, M55, N1, M22, M14, M10, R] _
      have s79 := r79.rsl
      refine At.moreS (Lst := [M78, M74, M73, M70, M64, M63, M59, M58, M39, M38, M21, M13, M9, M18, M55, N1, M22, M14, M10, R]) (Lst' := [M79, M78, M74, M73, M70, M64, M63, M59, M58, M39, M38, M21, M13, M9, M18, M55, N1, M22, M14, M10, R]) (.cons _ (.refl _)) (.refl _) ?_
      refine op_str (nxsgf rfl rfl rfl rfl rfl rfl) Try.underlying34 Try.underlying5 Try.underlying9 rfl (by assumption) (by first | exact mem0 | exact mem1 | exact mem2 | exact mem3 | exact mem4 | exact mem5 | exact mem6 | exact mem7 | exact mem8 | exact mem9 | exact mem10 | exact mem11 | exact mem12 | exact mem13 | exact mem14 | exact mem15 | exact mem16 | exact mem17 | exact mem18 | exact mem19 | exact mem20) rfl ?_
      refine op_eqS (nxsgf rfl rfl rfl rfl rfl rfl) rfl rfl rfl ?_
      refine op_pickT (nxsf rfl rfl rfl) rfl rfl rfl ?_
      refine op_move (nxsf rfl rfl rfl) rfl rfl ?_
      refine At.partP (d := 83) rfl (fun g83 => ?_) (fun g83 => ?_)
      · refine op_callA (Nx.agree (nxsgs rfl rfl rfl rfl rfl rfl rfl)) .nil (Nwakes_f) Try.func40 rfl rfl (by simp) rfl ?_
        rintro v84 L84 ⟨rfl, rfl⟩
        change At _ _ _ [M79, M78, M74, M73, M70, M64, M63, M59, M58, M39, M38, M21, M13, M9, M18, M55, N1, M22, M14, M10, R] _
        refine At.anyS (.refl _) ?_
        refine op_pickT (nxsf rfl rfl rfl) rfl rfl rfl ?_
        refine op_assign (nxsf rfl rfl rfl) rfl rfl ?_
        refine At.sNil ?_
        refine At.norm (hk_7 ?_)
        refine At.ret (?_)
        refine At.sub (L' := [R]) (.cons _ (.cons _ (.cons _ (.cons _ (.cons _ (.cons _ (.cons _ (.cons _ (.cons _ (.cons _ (.cons _ (.cons _ (.cons _ (.cons _ (.cons _ (.cons _ (.cons _ (.cons _ (.cons _ (.cons _ (.cons_cons _ (.slnil)))))))))))))))))))))) ?_
        refine At.ret1 (L1 := []) rfl (.tmp rfl .nil) (.refl _) (.refl _) ?_
        exact ⟨rfl, rfl⟩
      · exact absurd rfl g83
    · exact absurd rfl g67
set_option maxRecDepth 100000 in
set_option maxHeartbeats 2000000 in
theorem NatSums_lt (ha : RSl N 1 ao n ca (u8s a)) (hb : RSl N 1 bo m cb (u8s b)) (hc : be (a.take 600) < be (b.take 600)) :
    Fn Try.prog 15 #[.agg #[.slice ao n ca, .slice bo m cb, .slice mo k cm, .int .i64 I, .int .i64 W]] [] [N] (fun v L => v = .bool true ∧ L = []) := by
  have ha6 : (a.take 600).length ≤ 600 := by rw [List.length_take]; omega
  have hb6 : (b.take 600).length ≤ 600 := by rw [List.length_take]; omega
  have hda := digs_be_len (a.take 600)
  have hdb := digs_be_len (b.take 600)
  have hmul := digs_mul (X := be (a.take 600)) (Y := be (b.take 600)) (n := 1000) (by omega) (by omega)
  have hsub : (digsOf (be (a.take 600) - be (b.take 600))).length ≤ (digsOf (be (a.take 600))).length := digs_mono (Nat.sub_le _ _)
  have hadd := digs_add (X := be (a.take 600)) (Y := be (b.take 600)) (n := 1000) (by omega) (by omega)
  refine Fn.enter (vs := [.agg #[.slice ao n ca, .slice bo m cb, .slice mo k cm, .int .i64 I, .int .i64 W]]) Try.func15 rfl rfl rfl ?_
  intro E R hR
  have ha := ha.le (hR N (by simp))
  have hb := hb.le (hR N (by simp))
  change At _ _ E [R] _
  refine At.seq fun K1 hk_1 => ?_
  refine At.region ?_
  refine op_box (nxla rfl) rfl rfl rfl (fun N1 b1 B1 => ?_)
  refine op_assign (nxlf rfl) rfl rfl ?_
  refine At.opsNil ?_
  refine At.norm (hk_1 ?_)
  refine At.seq fun K2 hk_2 => ?_
  refine At.region ?_
  refine op_fieldAddr (nxlf rfl) fl36_0 rfl rfl ?_
  refine op_loadB (nxlf rfl) sc34 rfl B1 (by first | rfl) mem0 rfl ?_
  refine op_callA (nxla rfl) (.cons rfl .nil) (few_f ha) Try.func38 rfl rfl (by simp) rfl ?_
  rintro v9 L9 ⟨M9, a9, p9, rfl, rfl, r9⟩
  change At _ _ _ [M9, N1, R] _
  have s9 := r9.rsl
  refine op_callA (nxla rfl) (.cons rfl .nil) (rFrom_f s9 (by omega)) Try.func37 rfl rfl (by simp) rfl ?_
  rintro v10 L10 ⟨M10, a10, p10, rfl, rfl, s10⟩
  change At _ _ _ [M10, M9, N1, R] _
  refine op_assign (nxlf rfl) rfl rfl ?_
  refine At.opsNil ?_
  refine At.norm (hk_2 ?_)
  refine At.seq fun K3 hk_3 => ?_
  refine At.region ?_
  refine op_fieldAddr (nxlf rfl) fl36_1 rfl rfl ?_
  refine op_loadB (nxlf rfl) sc34 rfl B1 (by first | rfl) mem2 rfl ?_
  refine op_callA (nxla rfl) (.cons rfl .nil) (few_f hb) Try.func38 rfl rfl (by simp) rfl ?_
  rintro v13 L13 ⟨M13, a13, p13, rfl, rfl, r13⟩
  change At _ _ _ [M13, M10, M9, N1, R] _
  have s13 := r13.rsl
  refine op_callA (nxla rfl) (.cons rfl .nil) (rFrom_f s13 (by omega)) Try.func37 rfl rfl (by simp) rfl ?_
  rintro v14 L14 ⟨M14, a14, p14, rfl, rfl, s14⟩
  change At _ _ _ [M14, M13, M10, M9, N1, R] _
  refine op_assign (nxlf rfl) rfl rfl ?_
  refine At.opsNil ?_
  refine At.norm (hk_3 ?_)
  refine At.seq fun K4 hk_4 => ?_
  refine At.perm sel5 ?_
  refine At.perm sel3 ?_
  refine At.perm sel2 ?_
  refine At.perm sel5 ?_
  refine At.perm sel5 ?_
  refine At.perm sel5 ?_
  refine At.drawnS [N1, M14, M10, R] [5,6] [] [0,1,3,4,2,5,6,7,8,9,10,11] (by kernel_rfl) (by kernel_rfl) (.cons _ (.cons _ (.refl _))) ?_
  refine op_fieldAddr (nxsf rfl rfl rfl) fl36_0 rfl rfl ?_
  refine op_loadB (nxsf rfl rfl rfl) sc34 rfl B1 (by first | rfl) mem0 rfl ?_
  refine op_fieldAddr (nxsf rfl rfl rfl) fl36_1 rfl rfl ?_
  refine op_loadB (nxsf rfl rfl rfl) sc34 rfl B1 (by first | rfl) mem0 rfl ?_
  refine op_callA (Nx.agree (nxsm rfl rfl rfl)) (.cons rfl .nil) (few_f ha) Try.func38 rfl rfl (by simp) rfl ?_
  rintro v18 L18 ⟨M18, a18, p18, rfl, rfl, r18⟩
  change At _ _ _ [M18, M13, M9, N1, M14, M10, R] _
  have s18 := r18.rsl
  refine At.perm sel6 ?_
  refine At.perm sel6 ?_
  refine At.perm sel6 ?_
  refine At.perm sel6 ?_
  refine At.perm sel4 ?_
  refine At.perm sel6 ?_
  refine At.perm sel6 ?_
  refine At.moreS (Lst := [N1, M14, M10, R]) (Lst' := [M18, N1, M14, M10, R]) (.cons _ (.refl _)) (.cons _ (.cons _ (.refl _))) ?_
  refine op_callA (Nx.agree (nxss rfl rfl rfl rfl)) (.cons rfl .nil) (few_f hb) Try.func38 rfl rfl (by simp) rfl ?_
  rintro v21 L21 ⟨M21, a21, p21, rfl, rfl, r21⟩
  change At _ _ _ [M21, M13, M9, M18, N1, M14, M10, R] _
  have s21 := r21.rsl
  refine At.anyS (.refl _) ?_
  refine op_callA (Nx.agree (nxss rfl rfl rfl rfl)) (.cons rfl (.cons rfl .nil)) (NSub_f s18 s21 (by omega) (by omega)) Try.func94 rfl rfl (by simp) rfl ?_
  rintro v22 L22 ⟨M22, a22, p22, rfl, rfl, r22⟩
  change At _ _ _ [M22, M21, M13, M9, M18, N1, M14, M10, R] _
  have s22 := r22.rsl
  refine At.anyS (.refl _) ?_
  rw [decide_eq_false (by omega)]
  rw [show be (a.take 600) - be (b.take 600) = 0 by omega, show (bytesOf 0).length = 0 from rfl]
  refine op_move (nxsf rfl rfl rfl) rfl rfl ?_
  refine op_extract (nxsf rfl rfl rfl) rfl rfl rfl ?_
  refine op_extract (nxsf rfl rfl rfl) rfl rfl rfl ?_
  refine op_assign (nxsf rfl rfl rfl) rfl rfl ?_
  refine op_assign (nxsf rfl rfl rfl) rfl rfl ?_
  refine At.sNil ?_
  refine At.norm (hk_4 ?_)
  refine At.seq fun K5 hk_5 => ?_
  refine At.seq fun K6 hk_6 => ?_
  refine At.perm sel8 ?_
  refine At.perm sel8 ?_
  refine At.perm sel8 ?_
  refine At.perm sel3 ?_
  refine At.perm sel8 ?_
  refine At.perm sel8 ?_
  refine At.perm sel8 ?_
  refine At.perm sel8 ?_
  refine At.perm sel8 ?_
  refine At.drawnS [N1, M22, M14, M10, R] [3] [0,9] [0,1,2,3,4,5,6,7,8,9,10,11,12,13,14,15,16,17,18,19,20,21,22,23,24,25,26,27] (by kernel_rfl) (by kernel_rfl) (.cons _ (.cons _ (.cons _ (.cons _ (.refl _))))) ?_
  refine op_move (nxsf rfl rfl rfl) rfl rfl ?_
  refine op_move (nxsf rfl rfl rfl) rfl rfl ?_
  refine op_move (nxsf rfl rfl rfl) rfl rfl ?_
  refine op_callA (Nx.agree (nxss rfl rfl rfl rfl)) (.cons rfl (.cons rfl .nil)) (Cmp32_f s10 s14) Try.func76 rfl rfl (by simp) rfl ?_
  rintro v28 L28 ⟨rfl, rfl⟩
  change At _ _ _ [M21, M13, M9, M18, N1, M22, M14, M10, R] _
  refine At.anyS (.refl _) ?_
  refine op_geq (nxsf rfl rfl rfl) rfl rfl rfl ?_
  rw [decide_eq_false (fun h => absurd (cmpI_ge.1 h) (by omega))]
  refine op_neB (nxsf rfl rfl rfl) Try.underlying4 rfl rfl rfl ?_
  refine op_move (nxsf rfl rfl rfl) rfl rfl ?_
  refine op_move (nxsgf rfl rfl rfl rfl rfl rfl) rfl rfl ?_
  refine op_move (nxsgf rfl rfl rfl rfl rfl rfl) rfl rfl ?_
  refine op_sskip rfl rfl rfl rfl rfl rfl rfl rfl ?_
  refine op_sskip rfl rfl rfl rfl rfl rfl rfl rfl ?_
  refine op_sskip rfl rfl rfl rfl rfl rfl rfl rfl ?_
  refine op_sskip rfl rfl rfl rfl rfl rfl rfl rfl ?_
  refine op_sskip rfl rfl rfl rfl rfl rfl rfl rfl ?_
  refine op_sskip rfl rfl rfl rfl rfl rfl rfl rfl ?_
  refine op_sskip rfl rfl rfl rfl rfl rfl rfl rfl ?_
  refine op_sskip rfl rfl rfl rfl rfl rfl rfl rfl ?_
  refine op_pickF (nxsgf rfl rfl rfl rfl rfl rfl) rfl rfl rfl ?_
  refine op_pickF (nxsf rfl rfl rfl) rfl rfl rfl ?_
  refine op_move (nxsf rfl rfl rfl) rfl rfl ?_
  refine op_move (nxsgf rfl rfl rfl rfl rfl rfl) rfl rfl ?_
  refine op_not (nxsgf rfl rfl rfl rfl rfl rfl) rfl rfl ?_
  refine op_move (nxsgf rfl rfl rfl rfl rfl rfl) rfl rfl ?_
  refine op_move (nxsgf rfl rfl rfl rfl rfl rfl) rfl rfl ?_
  refine op_lenS (nxsgf rfl rfl rfl rfl rfl rfl) se34 rfl rfl ?_
  refine op_neq (nxsgf rfl rfl rfl rfl rfl rfl) rfl rfl rfl ?_
  refine op_pickT (nxsgf rfl rfl rfl rfl rfl rfl) rfl rfl rfl ?_
  refine op_pickF (nxsf rfl rfl rfl) rfl rfl rfl ?_
  refine At.sNil ?_
  refine At.norm (hk_6 ?_)
  refine At.condF rfl ?_
  refine At.skip ?_
  refine At.norm (hk_5 ?_)
  refine At.seq fun K7 hk_7 => ?_
  refine At.drawnS [N1, M22, M14, M10, R] [5,6,20,21,31] [8,9,23,24] [0,1,3,4,8,9,2,5,6,7,10,11,12,13,14,15,16,18,19,23,24,17,20,21,22,25,26,27,28,29,30,31,32,33] (by kernel_rfl) (by kernel_rfl) (.cons _ (.cons _ (.cons _ (.cons _ (.refl _))))) ?_
  refine op_fieldAddr (nxsf rfl rfl rfl) fl36_0 rfl rfl ?_
  refine op_loadB (nxsf rfl rfl rfl) sc34 rfl B1 (by first | rfl) mem0 rfl ?_
  refine op_fieldAddr (nxsf rfl rfl rfl) fl36_1 rfl rfl ?_
  refine op_loadB (nxsf rfl rfl rfl) sc34 rfl B1 (by first | rfl) mem0 rfl ?_
  refine op_move (nxsf rfl rfl rfl) rfl rfl ?_
  refine op_move (nxsf rfl rfl rfl) rfl rfl ?_
  refine op_callA (Nx.agree (nxsm rfl rfl rfl)) (.cons rfl .nil) (few_f ha) Try.func38 rfl rfl (by simp) rfl ?_
  rintro v55 L55 ⟨M55, a55, p55, rfl, rfl, r55⟩
  change At _ _ _ [M55, M21, M13, M9, M18, N1, M22, M14, M10, R] _
  have s55 := r55.rsl
  refine At.perm sel9 ?_
  refine At.perm sel9 ?_
  refine At.perm sel9 ?_
  refine At.perm sel9 ?_
  refine At.perm sel9 ?_
  refine At.perm sel5 ?_
  refine At.perm sel9 ?_
  refine At.perm sel9 ?_
  refine At.perm sel9 ?_
  refine At.perm sel9 ?_
  refine At.moreS (Lst := [N1, M22, M14, M10, R]) (Lst' := [M55, N1, M22, M14, M10, R]) (.cons _ (.refl _)) (.cons _ (.cons _ (.cons _ (.cons _ (.refl _))))) ?_
  refine op_callA (Nx.agree (nxss rfl rfl rfl rfl)) (.cons rfl .nil) (few_f hb) Try.func38 rfl rfl (by simp) rfl ?_
  rintro v58 L58 ⟨M58, a58, p58, rfl, rfl, r58⟩
  change At _ _ _ [M58, M21, M13, M9, M18, M55, N1, M22, M14, M10, R] _
  have s58 := r58.rsl
  refine At.anyS (.refl _) ?_
  refine op_callA (Nx.agree (nxss rfl rfl rfl rfl)) (.cons rfl (.cons rfl .nil)) (NAdd_f s55 s58 (by omega) (by omega)) Try.func70 rfl rfl (by simp) rfl ?_
  rintro v59 L59 ⟨M59, a59, p59, rfl, rfl, r59⟩
  change At _ _ _ [M59, M58, M21, M13, M9, M18, M55, N1, M22, M14, M10, R] _
  have s59 := r59.rsl
  refine At.anyS (.refl _) ?_
  refine op_str (nxsf rfl rfl rfl) Try.underlying34 Try.underlying5 Try.underlying9 rfl (by assumption) (by first | exact mem0 | exact mem1 | exact mem2 | exact mem3 | exact mem4 | exact mem5 | exact mem6 | exact mem7 | exact mem8 | exact mem9 | exact mem10 | exact mem11) rfl ?_
  refine op_callA (Nx.agree (nxsm rfl rfl rfl)) (.cons rfl (.cons rfl .nil)) (rAdd_f s10 s14 (by omega) (by omega)) Try.func96 rfl rfl (by simp) rfl ?_
  rintro v63 L63 ⟨M63, a63, p63, rfl, rfl, s63⟩
  change At _ _ _ [M63, M59, M58, M21, M13, M9, M18, M55, N1, M22, M14, M10, R] _
  rw [v32_digsOf, v32_digsOf] at s63 ⊢
  refine At.moreS (Lst := [M59, M58, M21, M13, M9, M18, M55, N1, M22, M14, M10, R]) (Lst' := [M63, M59, M58, M21, M13, M9, M18, M55, N1, M22, M14, M10, R]) (.cons _ (.refl _)) (.refl _) ?_
  refine op_callA (Nx.agree (nxsm rfl rfl rfl)) (.cons rfl .nil) (or_bytes (N := R) (.inl s63) (by omega)) Try.func42 rfl rfl (by simp) rfl ?_
  rintro v64 L64 ⟨M64, a64, p64, rfl, rfl, r64⟩
  change At _ _ _ [M64, M63, M59, M58, M21, M13, M9, M18, M55, N1, M22, M14, M10, R] _
  have s64 := r64.rsl
  refine At.moreS (Lst := [M63, M59, M58, M21, M13, M9, M18, M55, N1, M22, M14, M10, R]) (Lst' := [M64, M63, M59, M58, M21, M13, M9, M18, M55, N1, M22, M14, M10, R]) (.cons _ (.refl _)) (.refl _) ?_
  refine op_str (nxsf rfl rfl rfl) Try.underlying34 Try.underlying5 Try.underlying9 rfl (by assumption) (by first | exact mem0 | exact mem1 | exact mem2 | exact mem3 | exact mem4 | exact mem5 | exact mem6 | exact mem7 | exact mem8 | exact mem9 | exact mem10 | exact mem11 | exact mem12 | exact mem13) rfl ?_
  refine op_eqS (nxsf rfl rfl rfl) rfl rfl rfl ?_
  refine op_move (nxsf rfl rfl rfl) rfl rfl ?_
  refine At.partP (d := 67) rfl (fun g67 => ?_) (fun g67 => ?_)
  · refine op_fieldAddr (nxsgf rfl rfl rfl rfl rfl rfl) fl36_0 rfl rfl ?_
    refine op_loadB (nxsgf rfl rfl rfl rfl rfl rfl) sc34 rfl B1 (by first | rfl) mem9 rfl ?_
    refine op_fieldAddr (nxsgf rfl rfl rfl rfl rfl rfl) fl36_1 rfl rfl ?_
    refine op_loadB (nxsgf rfl rfl rfl rfl rfl rfl) sc34 rfl B1 (by first | rfl) mem9 rfl ?_
    refine op_move (nxsgf rfl rfl rfl rfl rfl rfl) rfl rfl ?_
    refine op_move (nxsgf rfl rfl rfl rfl rfl rfl) rfl rfl ?_
    refine op_callA (Nx.agree (nxsgm rfl rfl rfl rfl rfl rfl)) (.cons rfl .nil) (few_f ha) Try.func38 rfl rfl (by simp) rfl ?_
    rintro v70 L70 ⟨M70, a70, p70, rfl, rfl, r70⟩
    change At _ _ _ [M70, M64, M63, M59, M58, M21, M13, M9, M18, M55, N1, M22, M14, M10, R] _
    have s70 := r70.rsl
    refine At.moreS (Lst := [M64, M63, M59, M58, M21, M13, M9, M18, M55, N1, M22, M14, M10, R]) (Lst' := [M70, M64, M63, M59, M58, M21, M13, M9, M18, M55, N1, M22, M14, M10, R]) (.cons _ (.refl _)) (.refl _) ?_
    refine op_callA (Nx.agree (nxsgs rfl rfl rfl rfl rfl rfl rfl)) (.cons rfl .nil) (few_f hb) Try.func38 rfl rfl (by simp) rfl ?_
    rintro v73 L73 ⟨M73, a73, p73, rfl, rfl, r73⟩
    change At _ _ _ [M73, M70, M64, M63, M59, M58, M21, M13, M9, M18, M55, N1, M22, M14, M10, R] _
    have s73 := r73.rsl
    refine At.anyS (.refl _) ?_
    refine op_callA (Nx.agree (nxsgs rfl rfl rfl rfl rfl rfl rfl)) (.cons rfl (.cons rfl .nil)) (NMul_f s70 s73 (by omega) (by omega)) Try.func69 rfl rfl (by simp) rfl ?_
    rintro v74 L74 ⟨M74, a74, p74, rfl, rfl, r74⟩
    change At _ _ _ [M74, M73, M70, M64, M63, M59, M58, M21, M13, M9, M18, M55, N1, M22, M14, M10, R] _
    have s74 := r74.rsl
    refine At.anyS (.refl _) ?_
    refine op_str (nxsgf rfl rfl rfl rfl rfl rfl) Try.underlying34 Try.underlying5 Try.underlying9 rfl (by assumption) (by first | exact mem0 | exact mem1 | exact mem2 | exact mem3 | exact mem4 | exact mem5 | exact mem6 | exact mem7 | exact mem8 | exact mem9 | exact mem10 | exact mem11 | exact mem12 | exact mem13 | exact mem14 | exact mem15 | exact mem16) rfl ?_
    refine op_callA (Nx.agree (nxsgm rfl rfl rfl rfl rfl rfl)) (.cons rfl (.cons rfl .nil)) (rMul_f s10 s14 (by omega) (by omega)) Try.func97 rfl rfl (by simp) rfl ?_
    rintro v78 L78 ⟨M78, a78, p78, rfl, rfl, s78⟩
    change At _ _ _ [M78, M74, M73, M70, M64, M63, M59, M58, M21, M13, M9, M18, M55, N1, M22, M14, M10, R] _
    rw [v32_digsOf, v32_digsOf] at s78 ⊢
    refine At.moreS (Lst := [M74, M73, M70, M64, M63, M59, M58, M21, M13, M9, M18, M55, N1, M22, M14, M10, R]) (Lst' := [M78, M74, M73, M70, M64, M63, M59, M58, M21, M13, M9, M18, M55, N1, M22, M14, M10, R]) (.cons _ (.refl _)) (.refl _) ?_
    refine op_callA (Nx.agree (nxsgm rfl rfl rfl rfl rfl rfl)) (.cons rfl .nil) (or_bytes (N := R) (.inl s78) (by omega)) Try.func42 rfl rfl (by simp) rfl ?_
    rintro v79 L79 ⟨M79, a79, p79, rfl, rfl, r79⟩
    change At _ _ _ [M79, M78, M74, M73, M70, M64, M63, M59, M58, M21, M13, M9, M18, M55, N1, M22, M14, M10, R] _
    have s79 := r79.rsl
    refine At.moreS (Lst := [M78, M74, M73, M70, M64, M63, M59, M58, M21, M13, M9, M18, M55, N1, M22, M14, M10, R]) (Lst' := [M79, M78, M74, M73, M70, M64, M63, M59, M58, M21, M13, M9, M18, M55, N1, M22, M14, M10, R]) (.cons _ (.refl _)) (.refl _) ?_
    refine op_str (nxsgf rfl rfl rfl rfl rfl rfl) Try.underlying34 Try.underlying5 Try.underlying9 rfl (by assumption) (by first | exact mem0 | exact mem1 | exact mem2 | exact mem3 | exact mem4 | exact mem5 | exact mem6 | exact mem7 | exact mem8 | exact mem9 | exact mem10 | exact mem11 | exact mem12 | exact mem13 | exact mem14 | exact mem15 | exact mem16 | exact mem17 | exact mem18) rfl ?_
    refine op_eqS (nxsgf rfl rfl rfl rfl rfl rfl) rfl rfl rfl ?_
    refine op_pickT (nxsf rfl rfl rfl) rfl rfl rfl ?_
    refine op_move (nxsf rfl rfl rfl) rfl rfl ?_
    refine At.partP (d := 83) rfl (fun g83 => ?_) (fun g83 => ?_)
    · refine op_callA (Nx.agree (nxsgs rfl rfl rfl rfl rfl rfl rfl)) .nil (Nwakes_f) Try.func40 rfl rfl (by simp) rfl ?_
      rintro v84 L84 ⟨rfl, rfl⟩
      change At _ _ _ [M79, M78, M74, M73, M70, M64, M63, M59, M58, M21, M13, M9, M18, M55, N1, M22, M14, M10, R] _
      refine At.anyS (.refl _) ?_
      refine op_pickT (nxsf rfl rfl rfl) rfl rfl rfl ?_
      refine op_assign (nxsf rfl rfl rfl) rfl rfl ?_
      refine At.sNil ?_
      refine At.norm (hk_7 ?_)
      refine At.ret (?_)
      refine At.sub (L' := [R]) (.cons _ (.cons _ (.cons _ (.cons _ (.cons _ (.cons _ (.cons _ (.cons _ (.cons _ (.cons _ (.cons _ (.cons _ (.cons _ (.cons _ (.cons _ (.cons _ (.cons _ (.cons _ (.cons_cons _ (.slnil)))))))))))))))))))) ?_
      refine At.ret1 (L1 := []) rfl (.tmp rfl .nil) (.refl _) (.refl _) ?_
      exact ⟨rfl, rfl⟩
    · exact absurd rfl g83
  · exact absurd rfl g67
theorem NatSums_f (ha : RSl N 1 ao n ca (u8s a)) (hb : RSl N 1 bo m cb (u8s b)) :
    Fn Try.prog 15 #[.agg #[.slice ao n ca, .slice bo m cb, .slice mo k cm, .int .i64 I, .int .i64 W]] [] [N] (fun v L => v = .bool true ∧ L = []) := by
  rcases Nat.lt_or_ge (be (a.take 600)) (be (b.take 600)) with h | h
  · exact NatSums_lt ha hb h
  · exact NatSums_ge ha hb h
end
end Go.Proofs.Ytefljbbpaideaaa
