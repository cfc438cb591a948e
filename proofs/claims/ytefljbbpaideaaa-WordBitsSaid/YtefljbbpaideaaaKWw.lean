/- quarrylaw01.wakes holds. No condition. -/
import Derived.Test.YtefljbbpaideaaaKWr1
namespace Go.Proofs.Ytefljbbpaideaaa
set_option linter.unusedVariables false
set_option linter.unusedSimpArgs false
open Go Go.RowKit
set_option maxRecDepth 100000 in
theorem Wwakes_f : Fn Try.prog 26 #[] [] [] (fun v L => v = .bool true ∧ L = []) := by
  have e7 : wl 7 = [7, 0, 0, 0] := wl_small 7
  have e3 : wl 3 = [3, 0, 0, 0] := wl_small 3
  have e1 : wl (0 + WW - 1) = [18446744073709551615, 18446744073709551615, 18446744073709551615, 18446744073709551615] := (wl_of rfl (by decide +kernel)).symm
  have hsm : ∀ n : Nat, n < 100 → n < WW := fun n h => Nat.lt_trans h (by decide +kernel)
  refine Fn.enter (vs := []) Try.func26 rfl rfl rfl ?_
  intro E R hR
  change At _ _ E [R] _
  refine At.seq fun K1 hk_1 => ?_
  refine At.region ?_
  refine op_assign (nxlf rfl) rfl rfl ?_
  refine At.opsNil ?_
  refine At.norm (hk_1 ?_)
  refine At.seq fun K2 hk_2 => ?_
  refine At.region ?_
  refine op_callA (nxla rfl) (.cons rfl .nil) (WOf_f 3) Try.func36 rfl rfl (by simp) rfl ?_
  rintro v1 L1 ⟨rfl, rfl⟩
  change At _ _ _ [R] _
  refine op_callA (nxla rfl) (.cons rfl .nil) (WOf_f 4) Try.func36 rfl rfl (by simp) rfl ?_
  rintro v2 L2 ⟨rfl, rfl⟩
  change At _ _ _ [R] _
  refine op_callA (nxla rfl) (.cons rfl (.cons rfl .nil)) (WAdd_f (x := 3) (y := 4) (hsm 3 (by decide)) (hsm 4 (by decide))) Try.func29 rfl rfl (by simp) rfl ?_
  rintro v3 L3 ⟨rfl, rfl⟩
  change At _ _ _ [R] _
  refine op_buildA (out := [_, .int .u64 0, .int .u64 0, .int .u64 0]) (nxlf rfl) ze24 ae24 (.cons rfl .nil) rfl rfl ?_
  refine op_eqW (a := wl (3 + 4)) (b := [7, 0, 0, 0]) (nxlf rfl) ae24 Try.underlying22 (by kernel_rfl) rfl rfl rfl rfl rfl ?_
  refine op_move (nxlf rfl) rfl rfl ?_
  refine At.partP (d := 6) rfl (fun g6 => ?_) (fun g6 => ?_)
  · refine op_buildA (out := [_, .int .u64 0, .int .u64 0, .int .u64 0]) (nxgf rfl rfl rfl rfl) ze24 ae24 (.cons rfl .nil) rfl rfl ?_
    refine op_buildA (out := [_, .int .u64 0, .int .u64 0, .int .u64 0]) (nxgf rfl rfl rfl rfl) ze24 ae24 (.cons rfl .nil) rfl rfl ?_
    refine op_callA (nxga rfl rfl rfl rfl) (.cons rfl (.cons rfl .nil)) (WDiv_f (x := 7) (y := 2) (hsm 7 (by decide)) (hsm 2 (by decide))) Try.func18 rfl rfl (by simp) rfl ?_
    rintro v9 L9 ⟨rfl, rfl⟩
    change At _ _ _ [R] _
    refine op_buildA (out := [_, .int .u64 0, .int .u64 0, .int .u64 0]) (nxgf rfl rfl rfl rfl) ze24 ae24 (.cons rfl .nil) rfl rfl ?_
    refine op_eqW (a := wl (7 / 2)) (b := [3, 0, 0, 0]) (nxgf rfl rfl rfl rfl) ae24 Try.underlying22 (by kernel_rfl) rfl rfl rfl rfl rfl ?_
    refine op_pickT (nxlf rfl) rfl rfl rfl ?_
    refine op_move (nxlf rfl) rfl rfl ?_
    refine At.partP (d := 13) rfl (fun g13 => ?_) (fun g13 => ?_)
    · refine op_buildA (out := [.int .u64 0, .int .u64 0, .int .u64 0, .int .u64 0]) (nxgf rfl rfl rfl rfl) ze24 ae24 .nil rfl rfl ?_
      refine op_buildA (out := [_, .int .u64 0, .int .u64 0, .int .u64 0]) (nxgf rfl rfl rfl rfl) ze24 ae24 (.cons rfl .nil) rfl rfl ?_
      refine op_callA (nxga rfl rfl rfl rfl) (.cons rfl (.cons rfl .nil)) (WSub_f (x := 0) (y := 1) WW_pos (hsm 1 (by decide))) Try.func31 rfl rfl (by simp) rfl ?_
      rintro v16 L16 ⟨rfl, rfl⟩
      change At _ _ _ [R] _
      refine op_buildA (out := [_, _, _, _]) (nxgf rfl rfl rfl rfl) ze24 ae24 (.cons rfl (.cons rfl (.cons rfl (.cons rfl .nil)))) rfl rfl ?_
      refine op_eqW (a := wl (0 + WW - 1)) (b := [18446744073709551615, 18446744073709551615, 18446744073709551615, 18446744073709551615]) (nxgf rfl rfl rfl rfl) ae24 Try.underlying22 (by kernel_rfl) rfl rfl rfl rfl rfl ?_
      refine op_pickT (nxlf rfl) rfl rfl rfl ?_
      refine op_assign (nxlf rfl) rfl rfl ?_
      refine At.opsNil ?_
      refine At.norm (hk_2 ?_)
      refine At.ret (?_)
      refine At.ret1 (L1 := []) rfl (.tmp rfl .nil) (.refl _) (.refl _) ?_
      exact ⟨by rw [decide_eq_true e1], rfl⟩
    · exact absurd e3 g13
  · exact absurd e7 g6
end Go.Proofs.Ytefljbbpaideaaa
