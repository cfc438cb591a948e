/- Layer 13: fork.since and helps for the walks over forks. No condition but those told below. -/
import Derived.Test.YtdplcfineaikjaaDoorProg
import Derived.Test.YtdplcfineaikjaaDoorLib
import Derived.WalkKit
import Derived.WalkSpells
import Derived.WalkLawsBesides
import Derived.Lib.Hide
import Derived.Deep.DeepCutAuto
namespace Go.Proofs.YtdplcfineaikjaaDoor
set_option linter.unusedVariables false
set_option linter.unusedSimpArgs false
open Go.RowKit

theorem ret_of {w w' : World} {R : Value → World → Prop} {v : Value} (hR : R v w') (hb : Below w.heap.size w w') : Ret w R (.returned v) w' := ⟨v, rfl, hR, hb⟩

/-- The fork from which on there is an operation; 99: there is none. -/
def firstM (op : Int) : Int :=
  if (0 ≤ op ∧ op ≤ 11) ∨ (16 ≤ op ∧ op ≤ 26) ∨ op = 32 ∨ (48 ≤ op ∧ op ≤ 60) ∨ (64 ≤ op ∧ op ≤ 69) ∨ (80 ≤ op ∧ op ≤ 91) ∨ (96 ≤ op ∧ op ≤ 164) ∨ (240 ≤ op ∧ op ≤ 243) ∨ op = 255 then 0
  else if op = 244 then 1
  else if op = 61 ∨ op = 62 ∨ op = 250 ∨ op = 253 then 4
  else if (27 ≤ op ∧ op ≤ 29) ∨ op = 63 ∨ op = 245 then 5
  else if op = 70 ∨ op = 71 then 7
  else if op = 72 then 10
  else if op = 95 then 14
  else if op = 73 ∨ op = 74 ∨ (92 ≤ op ∧ op ≤ 94) then 15
  else 99
def sinceM (op : Int) : Int := if firstM op = 99 then -1 else firstM op

set_option maxRecDepth 100000 in
set_option maxHeartbeats 4000000 in
theorem since_c (w : World) (op : Int) : Calls Tryd.prog 52 #[.int .i64 op] w fun e w' => e = .returned (.int .i64 (sinceM op)) ∧ w' = w := by
  go_enter Tryd.func52, Tryd.ntmps52
  go_wp2
  all_goals go_ret
  all_goals
    refine ⟨?_, rfl⟩
    simp only [beq_eq_false_iff_ne, ne_eq, beq_iff_eq] at *
    refine congrArg (fun x => Ending.returned (Value.int IntKind.i64 x)) ?_
    unfold sinceM firstM
    repeat' split
    all_goals omega

def opM (f op : Int) : Bool := decide (0 ≤ f ∧ f ≤ 15 ∧ firstM op ≤ f)
end Go.Proofs.YtdplcfineaikjaaDoor
