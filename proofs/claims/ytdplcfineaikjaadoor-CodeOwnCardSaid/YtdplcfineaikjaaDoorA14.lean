/- The engine: a test that was made is known behind it; a byte of a string. For whatever program. No condition. -/
import Derived.Test.YtdplcfineaikjaaDoorG13
namespace Go.Proofs.YtdplcfineaikjaaDoor
set_option linter.unusedVariables false
set_option linter.unusedSimpArgs false
open Go Go.RowKit
section
variable {P : Program} {n : Nat} {l : List (Nat × Value)} {E : World} {L Ls : List Heaplet} {X Y : Act → World → Prop} {K : Act → World → Prop} {d : Nat} {t t' ty : TypeId} {x y : Operand}
theorem At.knowV {v : Value} (hl : lk l d = some v) (h : At n ((d, v) :: l) E L K) : At n l E L K := fun a w hf hw => h a w ⟨hf.defers, hf.size, fun i u hi => by
  unfold lk at hi
  by_cases e : d = i
  · subst e
    simp at hi
    subst hi
    exact hf.get d v hl
  · have : Nat.beq d i = false := beq_no e
    rw [this] at hi
    exact hf.get i u hi⟩ hw
theorem At.knowT {p : Prop} [Decidable p] (hl : lk l d = some (.bool (decide p))) (hp : p) (h : At n ((d, .bool true) :: l) E L K) : At n l E L K :=
  At.knowV (by rw [hl, decide_eq_true hp]) h
theorem At.knowF {p : Prop} [Decidable p] (hl : lk l d = some (.bool (decide p))) (hp : ¬ p) (h : At n ((d, .bool false) :: l) E L K) : At n l E L K :=
  At.knowV (by rw [hl, decide_eq_false hp]) h
theorem op_quo8 {p q : Int} {pos : _} {aft : _} {g : _} (s : NxF P n l E L Ls ⟨some d, .binOp .quo t x y t', ty, pos, aft, g⟩ X Y) (hx : ev l x = some (.int .u8 p)) (hy : ev l y = some (.int .u8 q)) (h1 : 0 ≤ p) (h2 : 0 < q) (h3 : p ≤ 255) (hn : Nat.ble (d + 1) n = true) (h : At n ((d, .int .u8 (p / q)) :: l) E L Y) : At n l E L X :=
  op_int s hx hy (fun w => by
    have e : q ≠ 0 := by omega
    have e2 : p / q ≤ p := Int.ediv_le_self _ h1
    have e3 : 0 ≤ p / q := Int.ediv_nonneg h1 (by omega)
    have e4 : IntKind.u8.wrap (p / q) = p / q := by rw [wrapU8]; omega
    simp [binOp, Op.intDiv, e, Int.tdiv_eq_ediv_of_nonneg h1, e4]) hn h
theorem op_idxS {bs : List UInt8} {k : IntKind} {p : Int} {j : Nat} {pos : _} {aft : _} {g : _} (s : NxF P n l E L Ls ⟨some d, .index t x y, ty, pos, aft, g⟩ X Y) (ht : P.underlying t = some .string) (hx : ev l x = some (str bs)) (hy : ev l y = some (.int k p)) (hj : p = (j : Int)) (hlt : j < bs.length) (hn : Nat.ble (d + 1) n = true) (h : At n ((d, .int .u8 ((bs.getD j 0).toNat : Int)) :: l) E L Y) : At n l E L X := by
  refine op_val s (fun a w hf hw => ?_) rfl hn h
  subst hj
  have e2 : (⟨bs.toArray⟩ : ByteArray).size = bs.length := rfl
  have e3 : (⟨bs.toArray⟩ : ByteArray)[j]? = some (bs.getD j 0) := by
    rw [getElem?_pos (⟨bs.toArray⟩ : ByteArray) j (by rw [e2]; exact hlt)]
    congr 1
    rw [List.getD_eq_getElem?_getD, List.getElem?_eq_getElem hlt]
    rfl
  simp only [execOp, hf.eval hx, hf.eval hy, str, Instr.index, asIntOf, Sem.run_bind, Sem.run_pure, Result.andThen_ok, run_underlying ht, Int.toNat_natCast]
  rw [if_pos (Int.natCast_nonneg j), e3]
  rfl
end
end Go.Proofs.YtdplcfineaikjaaDoor
