/- Layer 13: the reference Op. No condition but those told below. -/
import Derived.Test.YtdplcfineaikjaaDoorF1
namespace Go.Proofs.YtdplcfineaikjaaDoor
set_option linter.unusedVariables false
set_option linter.unusedSimpArgs false
open Go.RowKit

set_option maxRecDepth 100000 in
set_option maxHeartbeats 4000000 in
theorem refop_c (w : World) (f op : Int) : Calls Tryd.prog 36 #[.int .i64 f, .int .i64 op] w fun e w' => e = .returned (.bool (opM f op)) ∧ w' = w := by
  go_enter Tryd.func36, Tryd.ntmps36
  go_wp2
  all_goals go_ret
  all_goals
    refine ⟨?_, rfl⟩
    simp only [beq_eq_false_iff_ne, ne_eq, beq_iff_eq] at *
    refine congrArg (fun x => Ending.returned (Value.bool x)) ?_
    unfold opM firstM
    rw [Bool.eq_iff_iff]
    repeat' split
    all_goals simp
    all_goals omega
end Go.Proofs.YtdplcfineaikjaaDoor
