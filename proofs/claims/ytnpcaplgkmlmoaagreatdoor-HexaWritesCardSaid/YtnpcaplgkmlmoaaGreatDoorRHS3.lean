/- quarrylaw04.HexaWrites answers true. No condition. -/
import Derived.Test.YtnpcaplgkmlmoaaGreatDoorR14
namespace Go.Proofs.YtnpcaplgkmlmoaaGreatDoor
set_option linter.unusedVariables false
set_option linter.unusedSimpArgs false
open Go Go.RowKit
set_option maxRecDepth 100000 in
set_option maxHeartbeats 1000000 in
theorem HexaWrites_f {N : Heaplet} {ao : Option Addr} {n cap : Nat} {l a : List UInt8} {x : Nat} (h : RSl N 1 ao n cap (u8s l)) (hx : x < WW) (ha : a.length = 20) : Fn Tryz.prog 3 #[.slice ao n cap, wo x, .agg (u8s a).toArray] [] [N] (fun v L => v = .bool true ∧ L = []) := by
  obtain ⟨y, hy⟩ : ∃ y, l.take 500 = y := ⟨_, rfl⟩
  have hyl : y.length ≤ 500 := by rw [← hy, List.length_take]; omega
  have hyt : y.take 500 = y := List.take_of_length_le hyl
  refine Fn.enter (vs := [.slice ao n cap, wo x, .agg (u8s a).toArray]) Tryz.func3 rfl rfl rfl ?_
  intro E R hR
  have h := h.le (hR N (by simp))
  change At _ _ E [R] _
  refine At.seq fun K1 hk_1 => ?_
  refine At.region ?_
  refine op_box (nxla rfl) rfl rfl rfl (fun N4 b4 B4 => ?_)
  change Blk N4 b4 _ (u64s (wl x)) at B4
  refine op_box (nxla rfl) rfl rfl rfl (fun N5 b5 B5 => ?_)
  refine op_assign (nxlf rfl) rfl rfl ?_
  refine At.opsNil ?_
  refine At.norm (hk_1 ?_)
  refine At.seq fun K2 hk_2 => ?_
  refine At.region ?_
  refine op_move (nxlf rfl) rfl rfl ?_
  refine op_callA (nxla rfl) (.cons rfl (.cons rfl .nil)) (KTwin_f h 500 500 rfl (by decide)) Tryz.func4 rfl rfl (by simp) rfl ?_
  rintro v9 L9 ⟨N9, p9, c9, rfl, rfl, r9⟩
  change At _ _ _ [N9, N5, N4, R] _
  rw [hy] at r9 ⊢; have s9 := r9.rsl
  refine op_assign (nxlf rfl) rfl rfl ?_
  refine At.opsNil ?_
  refine At.norm (hk_2 ?_)
  refine At.seq fun K3 hk_3 => ?_
  refine At.drawn [4,10,17,24,28] [0,3,1,2,4,5,6,7,9,8,10,11,12,13,14,16,15,17,18,19,20,21,23,22,24,25,26,27,28,29,30] (by kernel_rfl) (by kernel_rfl) ?_
  refine op_move (nxof rfl rfl rfl (by kernel_rfl)) rfl rfl ?_
  refine op_move (nxof rfl rfl rfl (by kernel_rfl)) rfl rfl ?_
  refine op_callA (nxoa rfl rfl rfl) (.cons rfl (.cons rfl .nil)) (KTwin_f s9 500 500 rfl (by decide)) Tryz.func4 rfl rfl (by simp) rfl ?_
  rintro v11 L11 ⟨N11, p11, c11, rfl, rfl, r11⟩
  change At _ _ _ [N11, N9, N5, N4, R] _
  rw [hyt] at r11 ⊢; have s11 := r11.rsl
  refine op_callA (nxoa rfl rfl rfl) (.cons rfl .nil) (FText_f s11 (by omega)) Tryz.func5 rfl rfl (by simp) rfl ?_
  rintro v12 L12 ⟨rfl, rfl⟩
  change At _ _ _ [N11, N9, N5, N4, R] _
  refine op_callA (nxosa rfl rfl rfl rfl) (.cons rfl .nil) (rText_f s9 (by omega)) Tryz.func6 rfl rfl (by simp) rfl ?_
  rintro v14 L14 ⟨rfl, rfl⟩
  change At _ _ _ [N11, N9, N5, N4, R] _
  refine op_eqS (nxof rfl rfl rfl (by kernel_rfl)) rfl rfl rfl ?_
  rw [decide_eq_true (rfl : hexT y = hexT y)]
  refine op_move (nxof rfl rfl rfl (by kernel_rfl)) rfl rfl ?_
  refine op_loadAggB (ds := u64s (wl x)) (nxogf rfl rfl rfl rfl rfl rfl (by kernel_rfl)) ag25 rfl B4 (by first | (rw [List.drop_zero, List.take_of_length_le (by first | (simp; done) | (simp; omega))]; done) | rfl) (by first | (simp; done) | (simp; omega)) mem3 rfl ?_
  refine op_loadAggB (ds := u64s (wl x)) (nxogf rfl rfl rfl rfl rfl rfl (by kernel_rfl)) ag25 rfl B4 (by first | (rw [List.drop_zero, List.take_of_length_le (by first | (simp; done) | (simp; omega))]; done) | rfl) (by first | (simp; done) | (simp; omega)) mem3 rfl ?_
  refine op_callA (nxoga rfl rfl rfl rfl rfl rfl) (.cons rfl .nil) (FQuant_f hx) Tryz.func7 rfl rfl (by simp) rfl ?_
  rintro v18 L18 ⟨rfl, rfl⟩
  change At _ _ _ [N11, N9, N5, N4, R] _
  refine op_callA (Nx.agree (nxogs rfl rfl rfl rfl rfl rfl rfl)) (.cons rfl .nil) (rQuant_f hx) Tryz.func8 rfl rfl (by simp) rfl ?_
  rintro v20 L20 ⟨rfl, rfl⟩
  change At _ _ _ [N11, N9, N5, N4, R] _
  refine op_eqS (nxogf rfl rfl rfl rfl rfl rfl (by kernel_rfl)) rfl rfl rfl ?_
  rw [decide_eq_true (rfl : quantT x = quantT x)]
  refine op_pickT (nxof rfl rfl rfl (by kernel_rfl)) rfl rfl rfl ?_
  refine op_move (nxof rfl rfl rfl (by kernel_rfl)) rfl rfl ?_
  refine op_loadAggB (ds := u64s (wl x)) (nxogf rfl rfl rfl rfl rfl rfl (by kernel_rfl)) ag25 rfl B4 (by first | (rw [List.drop_zero, List.take_of_length_le (by first | (simp; done) | (simp; omega))]; done) | rfl) (by first | (simp; done) | (simp; omega)) mem3 rfl ?_
  refine op_loadAggB (ds := u64s (wl x)) (nxogf rfl rfl rfl rfl rfl rfl (by kernel_rfl)) ag25 rfl B4 (by first | (rw [List.drop_zero, List.take_of_length_le (by first | (simp; done) | (simp; omega))]; done) | rfl) (by first | (simp; done) | (simp; omega)) mem3 rfl ?_
  refine op_callA (nxoga rfl rfl rfl rfl rfl rfl) (.cons rfl .nil) (FDecimal_f hx) Tryz.func9 rfl rfl (by simp) rfl ?_
  rintro v25 L25 ⟨rfl, rfl⟩
  change At _ _ _ [N11, N9, N5, N4, R] _
  refine op_callA (Nx.agree (nxogs rfl rfl rfl rfl rfl rfl rfl)) (.cons rfl .nil) (rDecimal_f hx) Tryz.func10 rfl rfl (by simp) rfl ?_
  rintro v27 L27 ⟨rfl, rfl⟩
  change At _ _ _ [N11, N9, N5, N4, R] _
  refine op_eqS (nxogf rfl rfl rfl rfl rfl rfl (by kernel_rfl)) rfl rfl rfl ?_
  rw [decide_eq_true (rfl : Lib.decDigits x = Lib.decDigits x)]
  refine op_pickT (nxof rfl rfl rfl (by kernel_rfl)) rfl rfl rfl ?_
  refine op_move (nxof rfl rfl rfl (by kernel_rfl)) rfl rfl ?_
  refine op_loadAggB (ds := u8s a) (nxogf rfl rfl rfl rfl rfl rfl (by kernel_rfl)) ag27 rfl B5 (by first | (rw [List.drop_zero, List.take_of_length_le (by first | (simp; done) | (simp; omega))]; done) | rfl) (by first | (simp; done) | (simp; omega)) mem2 rfl ?_
  refine op_loadAggB (ds := u8s a) (nxogf rfl rfl rfl rfl rfl rfl (by kernel_rfl)) ag27 rfl B5 (by first | (rw [List.drop_zero, List.take_of_length_le (by first | (simp; done) | (simp; omega))]; done) | rfl) (by first | (simp; done) | (simp; omega)) mem2 rfl ?_
  refine op_callA (nxoga rfl rfl rfl rfl rfl rfl) (.cons rfl .nil) (FMixed_f ha) Tryz.func11 rfl rfl (by simp) rfl ?_
  rintro v32 L32 ⟨rfl, rfl⟩
  change At _ _ _ [N11, N9, N5, N4, R] _
  refine op_callA (Nx.agree (nxogs rfl rfl rfl rfl rfl rfl rfl)) (.cons rfl .nil) (rMixed_f ha) Tryz.func12 rfl rfl (by simp) rfl ?_
  rintro v34 L34 ⟨rfl, rfl⟩
  change At _ _ _ [N11, N9, N5, N4, R] _
  refine op_eqS (nxogf rfl rfl rfl rfl rfl rfl (by kernel_rfl)) rfl rfl rfl ?_
  rw [decide_eq_true (rfl : (48 :: 120 :: mixL a) = 48 :: 120 :: mixL a)]
  refine op_pickT (nxof rfl rfl rfl (by kernel_rfl)) rfl rfl rfl ?_
  refine op_move (nxof rfl rfl rfl (by kernel_rfl)) rfl rfl ?_
  refine op_callA (Nx.agree (nxogs rfl rfl rfl rfl rfl rfl rfl)) .nil (HWakes_f) Tryz.func13 rfl rfl (by simp) rfl ?_
  rintro v38 L38 ⟨rfl, rfl⟩
  change At _ _ _ [N11, N9, N5, N4, R] _
  refine op_pickT (nxof rfl rfl rfl (by kernel_rfl)) rfl rfl rfl ?_
  refine op_assign (nxof rfl rfl rfl (by kernel_rfl)) rfl rfl ?_
  refine At.oneNil ?_
  refine At.norm (hk_3 ?_)
  refine At.ret (?_)
  refine At.sub (L' := [R]) (.cons _ (.cons _ (.cons _ (.cons _ (.cons_cons _ (.slnil)))))) ?_
  refine At.ret1 (L1 := []) rfl (.tmp rfl .nil) (.refl _) (.refl _) ?_
  exact ⟨rfl, rfl⟩
end Go.Proofs.YtnpcaplgkmlmoaaGreatDoor
