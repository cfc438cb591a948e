/- Layer 13: fork.Op. No condition but those told below. -/
import Derived.Test.YtdplcfineaikjaaDoorF1
namespace Go.Proofs.YtdplcfineaikjaaDoor
set_option linter.unusedVariables false
set_option linter.unusedSimpArgs false
open Go.RowKit

set_option maxRecDepth 100000 in
set_option maxHeartbeats 4000000 in
theorem op_c (w : World) (f op : Int) : Calls Tryd.prog 38 #[.int .i64 f, .int .i64 op] w fun e w' => e = .returned (.bool (opM f op)) ∧ w' = w := by
  have hs := fun w => since_c w op
  have hm : sinceM op = if firstM op = 99 then -1 else firstM op := rfl
  have h0 : 0 ≤ firstM op := by unfold firstM; repeat' split; all_goals omega
  have ho : opM f op = decide (0 ≤ f ∧ f ≤ 15 ∧ firstM op ≤ f) := rfl
  generalize firstM op = k at *
  generalize sinceM op = m at *
  generalize opM f op = o at *
  subst ho
  go_enter Tryd.func38, Tryd.ntmps38
  go_wp2_with (go_at_call 52; refine (hs _).mono ?_; rintro e w' ⟨rfl, rfl⟩)
  all_goals go_ret
  all_goals
    refine ⟨?_, rfl⟩
    refine congrArg (fun x => Ending.returned (Value.bool x)) ?_
    split at hm
    all_goals first | (simp; omega) | (rw [Bool.eq_iff_iff]; simp; omega)
end Go.Proofs.YtdplcfineaikjaaDoor
