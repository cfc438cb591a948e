/- Codes: where they may be entered, in plain words. No condition. -/
import Derived.Test.YtdplcfineaikjaaDoorG13
namespace Go.Proofs.YtdplcfineaikjaaDoor
set_option linter.unusedVariables false
set_option linter.unusedSimpArgs false
open Go Go.RowKit
def ownB (b : UInt8) : Nat := if 96 ≤ b.toNat ∧ b.toNat ≤ 127 then b.toNat - 95 else 0
theorem ownB_le (b : UInt8) : ownB b ≤ 32 := by unfold ownB; split <;> omega
def jmpF : Nat → List UInt8 → Nat → List Nat
  | 0, _, _ => []
  | k + 1, l, p => if p < l.length then (if (l.getD p 0).toNat = 91 then [p] else []) ++ jmpF k l (p + 1 + ownB (l.getD p 0)) else []
theorem jmpF_end {k : Nat} {l : List UInt8} {p : Nat} (h : l.length ≤ p) : jmpF k l p = [] := by
  cases k with
  | zero => rfl
  | succ k => rw [jmpF, if_neg (by omega)]
theorem jmpF_fuel : ∀ (k m : Nat) (l : List UInt8) (p : Nat), l.length ≤ p + k → l.length ≤ p + m → jmpF k l p = jmpF m l p := by
  intro k
  induction k with
  | zero => intro m l p h1 h2; rw [jmpF_end (by omega), jmpF_end (by omega)]
  | succ k ih =>
    intro m l p h1 h2
    cases m with
    | zero => rw [jmpF_end (by omega), jmpF_end (by omega)]
    | succ m =>
      rw [jmpF, jmpF, ih m l (p + 1 + ownB (l.getD p 0)) (by omega) (by omega)]
/-- The places from p on that may be entered. -/
def jmpAt (l : List UInt8) (p : Nat) : List Nat := jmpF l.length l p
def jumpsOf (l : List UInt8) : List Nat := jmpAt l 0
theorem jmpAt_end {l : List UInt8} {p : Nat} (h : l.length ≤ p) : jmpAt l p = [] := jmpF_end h
theorem jmpAt_y {l : List UInt8} {p : Nat} (h : p < l.length) (hb : (l.getD p 0).toNat = 91) : jmpAt l p = p :: jmpAt l (p + 1 + ownB (l.getD p 0)) := by
  rw [jmpAt, jmpF_fuel l.length (l.length + 1) l p (by omega) (by omega), jmpF, if_pos h, if_pos hb]; rfl
theorem jmpAt_n {l : List UInt8} {p : Nat} (h : p < l.length) (hb : ¬ (l.getD p 0).toNat = 91) : jmpAt l p = jmpAt l (p + 1 + ownB (l.getD p 0)) := by
  rw [jmpAt, jmpF_fuel l.length (l.length + 1) l p (by omega) (by omega), jmpF, if_pos h, if_neg hb]; rfl
theorem jmpF_mem {x : Nat} : ∀ (k : Nat) (l : List UInt8) (p : Nat), x ∈ jmpF k l p → p ≤ x ∧ x < l.length ∧ (l.getD x 0).toNat = 91 := by
  intro k
  induction k with
  | zero => intro l p h; cases h
  | succ k ih =>
    intro l p h
    rw [jmpF] at h
    split at h
    · rcases List.mem_append.1 h with h | h
      · by_cases hb : (l.getD p 0).toNat = 91
        · rw [if_pos hb] at h
          obtain rfl := List.mem_singleton.1 h
          exact ⟨Nat.le_refl _, by assumption, hb⟩
        · rw [if_neg hb] at h; cases h
      · have := ih l _ h
        exact ⟨by omega, this.2⟩
    · cases h
theorem jmpF_sorted : ∀ (k : Nat) (l : List UInt8) (p : Nat), (jmpF k l p).Pairwise (· < ·) := by
  intro k
  induction k with
  | zero => intro l p; exact .nil
  | succ k ih =>
    intro l p
    rw [jmpF]
    split
    · rw [List.pairwise_append]
      refine ⟨?_, ih .., fun a ha b hb => ?_⟩
      · split
        · exact List.pairwise_singleton ..
        · exact .nil
      · split at ha
        · obtain rfl := List.mem_singleton.1 ha
          have := jmpF_mem _ _ _ hb
          omega
        · cases ha
    · exact .nil
theorem jmpF_len : ∀ (k : Nat) (l : List UInt8) (p : Nat), (jmpF k l p).length ≤ l.length - p := by
  intro k
  induction k with
  | zero => intro l p; exact Nat.zero_le _
  | succ k ih =>
    intro l p
    rw [jmpF]
    split
    · have := ih l (p + 1 + ownB (l.getD p 0))
      rw [List.length_append]
      split
      · rw [List.length_singleton]; omega
      · rw [List.length_nil]; omega
    · exact Nat.zero_le _
theorem jumps_mem {x : Nat} {l : List UInt8} (h : x ∈ jumpsOf l) : x < l.length ∧ (l.getD x 0).toNat = 91 := (jmpF_mem _ _ _ h).2
theorem jumps_sorted (l : List UInt8) : (jumpsOf l).Pairwise (· < ·) := jmpF_sorted ..
theorem jumps_len (l : List UInt8) : (jumpsOf l).length ≤ l.length := by
  have := jmpF_len l.length l 0
  exact this
/-- Numbers as cells. -/
def ints (l : List Nat) : List Value := l.map fun (x : Nat) => Value.int .i64 (x : Int)
theorem ints_len (l : List Nat) : (ints l).length = l.length := by simp [ints]
theorem ints_app (a b : List Nat) : ints (a ++ b) = ints a ++ ints b := by simp [ints]
theorem ints_get {l : List Nat} {j : Nat} (h : j < l.length) : (ints l)[j]? = some (.int .i64 ((l.getD j 0 : Nat) : Int)) := by
  simp [ints, List.getD_eq_getElem?_getD, List.getElem?_eq_getElem h]
theorem one_ints (l : List Nat) : ∀ u ∈ ints l, u.oneCell' = true := by
  intro u hu
  obtain ⟨x, _, rfl⟩ := List.mem_map.1 hu
  rfl
theorem getD_mem {l : List Nat} {j : Nat} (h : j < l.length) : l.getD j 0 ∈ l := by
  rw [List.getD_eq_getElem?_getD, List.getElem?_eq_getElem h]
  exact List.getElem_mem h
end Go.Proofs.YtdplcfineaikjaaDoor
