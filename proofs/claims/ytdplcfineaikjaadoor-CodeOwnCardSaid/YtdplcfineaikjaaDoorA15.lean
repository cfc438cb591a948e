/- The engine: a region that draws its order, by a plan, where more may be read behind each act. For whatever program. No condition. -/
import Derived.Test.YtdplcfineaikjaaDoorDraw6
import Derived.Test.YtdplcfineaikjaaDoorG13
namespace Go.Proofs.YtdplcfineaikjaaDoor
set_option linter.unusedVariables false
set_option linter.unusedSimpArgs false
open Go Go.RowKit
section
variable {P : Program} {n : Nat} {l : List (Nat × Value)} {E : World} {L Lst : List Heaplet} {Q : Exit → Act → World → Prop} {ops : Array Oper} {o : Oper} {i : Nat}
theorem At.planG {id : Nat} {ops : List Oper} (Lst : List Heaplet) (p : Plan) (hm : P.follows .mixedOrders = true) (hB : planOKB .any ops.toArray p = true) (hs : Lst.Sublist L)
    (h : At n l E L (Sg.wpPlan P ops.toArray Q p (Hp E Lst))) : At n l E L ((Code.region id ops.toArray true).wp P Q) := fun a w hf hw => Sg.wp_plan p hm hB (hw.drew.drop hs) (h a w.drew hf hw.drew)
theorem At.gDone {S : World → Prop} (h : At n l E L (Q .normal)) : At n l E L (Sg.wpPlan P ops Q .done S) := h
theorem At.gNo {S : World → Prop} : At n l E L (Sg.wpPlan P ops Q .nofork S) := fun _ _ _ _ => trivial
theorem At.forkG {S : World → Prop} {i : Nat} {snk : Bool} {p rest : Plan} (h : At n l E L (Sg.wpFork P ops Q i snk p S)) (hr : At n l E L (Sg.wpPlan P ops Q rest S)) : At n l E L (Sg.wpPlan P ops Q (.fork i snk p rest) S) := fun a w hf hw => Sg.wpPlan_fork (h a w hf hw) (hr a w hf hw)
variable {pl : Plan} {snk : Bool}
theorem nxqf (ho : ops[i]? = some o) (hg : o.guard = none) : NxF P n l E L Lst o (Sg.wpPlan P ops Q (.take i pl) (Hp E Lst)) (Sg.wpPlan P ops Q pl (Hp E Lst)) := fun a w v hfr hw hr hy =>
  Sg.wpPlan_take ho (by simp [Region.wanted, hg]) hr hy
theorem nxqgf {j : Nat} {b : Bool} {oj : Oper} {d : Nat} (ho : ops[i]? = some o) (hg : o.guard = some (j, b)) (hj : ops[j]? = some oj) (hd : oj.dst = some d) (hv : lk l d = some (.bool b)) : NxF P n l E L Lst o (Sg.wpPlan P ops Q (.take i pl) (Hp E Lst)) (Sg.wpPlan P ops Q pl (Hp E Lst)) := fun a w v hfr hw hr hy =>
  Sg.wpPlan_take ho (by rw [wanted_of hfr hg hj hd hv]; simp) hr hy
theorem nxqa (ho : ops[i]? = some o) (hg : o.guard = none) : Nx P n l E L o (Sg.wpFork P ops Q i snk pl (Hp E Lst)) (fun a w => ∃ S' : World → Prop, (∀ u, S' u → Hp E Lst u) ∧ S' w ∧ Sg.wpPlan P ops Q pl S' a w) := fun a w hfr hw hx =>
  Sg.wpFork_act ho (by simp [Region.wanted, hg]) hx
theorem nxqga {j : Nat} {b : Bool} {oj : Oper} {d : Nat} (ho : ops[i]? = some o) (hg : o.guard = some (j, b)) (hj : ops[j]? = some oj) (hd : oj.dst = some d) (hv : lk l d = some (.bool b)) : Nx P n l E L o (Sg.wpFork P ops Q i snk pl (Hp E Lst)) (fun a w => ∃ S' : World → Prop, (∀ u, S' u → Hp E Lst u) ∧ S' w ∧ Sg.wpPlan P ops Q pl S' a w) := fun a w hfr hw hx =>
  Sg.wpFork_act ho (by rw [wanted_of hfr hg hj hd hv]; simp) hx
theorem nxql (ho : ops[i]? = some o) (hg : o.guard = none) : Nx P n l E L o (Sg.wpFork P ops Q i true .done (Hp E Lst)) (Sg.wpPlan P ops Q .done (Hp E Lst)) := fun a w hfr hw hx =>
  Sg.wpFork_last ho (by simp [Region.wanted, hg]) hx
theorem At.moreG {Lst Lst' : List Heaplet} (h1 : Lst.Sublist Lst') (hs : Lst'.Sublist L) (h : At n l E L (Sg.wpPlan P ops Q pl (Hp E Lst'))) : At n l E L (fun a w => ∃ S' : World → Prop, (∀ u, S' u → Hp E Lst u) ∧ S' w ∧ Sg.wpPlan P ops Q pl S' a w) := fun a w hf hw => ⟨Hp E Lst', fun _ hu => hu.drop h1, hw.drop hs, h a w hf hw⟩
theorem op_qskip {S : World → Prop} {j : Nat} {b c : Bool} {oj : Oper} {d e : Nat} (ho : ops[i]? = some o) (hg : o.guard = some (j, b)) (hj : ops[j]? = some oj) (hd : oj.dst = some d) (hv : lk l d = some (.bool c)) (hc : (c == b) = false) (he : o.dst = some e) (hn : Nat.ble (e + 1) n = true)
    (h : At n ((e, undef) :: l) E L (Sg.wpPlan P ops Q pl S)) : At n l E L (Sg.wpPlan P ops Q (.take i pl) S) := fun a w hf hw =>
  Sg.wpPlan_skip ho (by rw [wanted_of hf hg hj hd hv, hc]) (by rw [he]; exact h _ _ (hf.put (Nat.le_of_ble_eq_true hn)) hw)
theorem op_qpass {S : World → Prop} {j : Nat} {b c : Bool} {oj : Oper} {d e : Nat} (ho : ops[i]? = some o) (hg : o.guard = some (j, b)) (hj : ops[j]? = some oj) (hd : oj.dst = some d) (hv : lk l d = some (.bool c)) (hc : (c == b) = false) (he : o.dst = some e) (hn : Nat.ble (e + 1) n = true)
    (h : At n ((e, undef) :: l) E L (Sg.wpPlan P ops Q pl S)) : At n l E L (Sg.wpFork P ops Q i snk pl S) := fun a w hf hw =>
  Sg.wpFork_pass ho (by rw [wanted_of hf hg hj hd hv, hc]) (by rw [he]; exact h _ _ (hf.put (Nat.le_of_ble_eq_true hn)) hw)
theorem op_qskipU {S : World → Prop} {j : Nat} {b : Bool} {oj : Oper} {d e : Nat} (ho : ops[i]? = some o) (hg : o.guard = some (j, b)) (hj : ops[j]? = some oj) (hd : oj.dst = some d) (hv : lk l d = some undef) (he : o.dst = some e) (hn : Nat.ble (e + 1) n = true)
    (h : At n ((e, undef) :: l) E L (Sg.wpPlan P ops Q pl S)) : At n l E L (Sg.wpPlan P ops Q (.take i pl) S) := fun a w hf hw =>
  Sg.wpPlan_skip ho (unwanted_of hf hg hj hd hv) (by rw [he]; exact h _ _ (hf.put (Nat.le_of_ble_eq_true hn)) hw)
theorem op_qpassU {S : World → Prop} {j : Nat} {b : Bool} {oj : Oper} {d e : Nat} (ho : ops[i]? = some o) (hg : o.guard = some (j, b)) (hj : ops[j]? = some oj) (hd : oj.dst = some d) (hv : lk l d = some undef) (he : o.dst = some e) (hn : Nat.ble (e + 1) n = true)
    (h : At n ((e, undef) :: l) E L (Sg.wpPlan P ops Q pl S)) : At n l E L (Sg.wpFork P ops Q i snk pl S) := fun a w hf hw =>
  Sg.wpFork_pass ho (unwanted_of hf hg hj hd hv) (by rw [he]; exact h _ _ (hf.put (Nat.le_of_ble_eq_true hn)) hw)
end
end Go.Proofs.YtdplcfineaikjaaDoor
