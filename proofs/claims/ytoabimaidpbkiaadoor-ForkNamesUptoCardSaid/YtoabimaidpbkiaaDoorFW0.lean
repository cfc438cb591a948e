/- Layer 13: storing a struct in the midst of a walk. No condition but those told below. -/
import Derived.Test.YtoabimaidpbkiaaDoorF12
namespace Go.Proofs.YtoabimaidpbkiaaDoor
set_option linter.unusedVariables false
set_option linter.unusedSimpArgs false
open Go.RowKit
theorem wpl_value {P : Program} {ops : Array Oper} {rest : List Oper} {o : Oper} {a : Act} {w w' : World} {Q : Exit → Act → World → Prop} (hgd : o.guard = none) (v : Value)
    (hr : Sem.run P (execOp a.eval o) w = .ok (.value v) w') (h : wpList P ops Q rest (a.put o.dst v) w') : wpList P ops Q (o :: rest) a w :=
  wpList_plain hgd fun _ hK => by
    unfold Oper.wp
    rw [hr]
    exact hK _ _ h
theorem alloc_rules (w : World) : Sem.run Tryd.prog (Instr.alloc 24 true (.tuple #[])) w = .ok (.pointer (some ⟨w.heap.size, 0, none⟩)) (w.alloc (.cells zeroRules 24)) := by kernel_rfl
theorem wpl_alloc {ops : Array Oper} {rest : List Oper} {o : Oper} {a : Act} {w : World} {Q : Exit → Act → World → Prop} (hgd : o.guard = none) (ho : o.op = .alloc 24)
    (h : wpList Tryd.prog ops Q rest (a.put o.dst (.pointer (some ⟨w.heap.size, 0, none⟩))) (w.alloc (.cells zeroRules 24))) : wpList Tryd.prog ops Q (o :: rest) a w :=
  wpl_value hgd _ (by unfold execOp; simp only [ho, Sem.run_bind, alloc_rules, Result.andThen_ok, Sem.run_pure]) h
end Go.Proofs.YtoabimaidpbkiaaDoor
