/- Plain law: the item that bytes tell. No condition. -/
import Derived.Test.YtohmmgggaegbbaaYC1
import Derived.Test.YtohmmgggaegbbaaYI1
namespace Go.Proofs.Ytohmmgggaegbbaa
set_option linter.unusedVariables false
set_option linter.unusedSimpArgs false
def exMap {α : Type} (f : List α → List α) : Except Nat (List α) → Except Nat (List α)
  | .ok l => .ok (f l)
  | .error e => .error e
/-- Items one behind the other. -/
def itemsF (dec : List UInt8 → Except Nat (It × List UInt8)) : Nat → List UInt8 → Except Nat (List It)
  | _, [] => .ok []
  | 0, _ :: _ => .error 2
  | f + 1, c :: b => match dec (c :: b) with
    | .error e => .error e
    | .ok (t, q) => exMap (t :: ·) (itemsF dec f q)
def itF (dec : List UInt8 → Except Nat (It × List UInt8)) (b : List UInt8) : Except Nat (List It) := itemsF dec b.length b
/-- The first item and what is behind it, or the error's number; k more lists may be nested. -/
def decF : Nat → List UInt8 → Except Nat (It × List UInt8)
  | 0, b => match cutF b with
    | none => .error 2
    | some (false, p, r) => .ok (.mk false p [], r)
    | some (true, _, _) => .error 7
  | k + 1, b => match cutF b with
    | none => .error 2
    | some (false, p, r) => .ok (.mk false p [], r)
    | some (true, p, r) => match itF (decF k) p with
      | .error e => .error e
      | .ok its => .ok (.mk true [] its, r)
theorem cutAt_len {b : List UInt8} {i n : Nat} (hi : i ≤ b.length) {l : Bool} {p r : List UInt8} (h : cutAt b i n = some (l, p, r)) : i + p.length + r.length = b.length := by
  unfold cutAt at h
  split at h
  · cases h
  · rename_i h1
    split at h
    · cases h; rw [List.length_take, List.length_drop, List.length_drop]; omega
    · split at h
      · cases h
      · cases h; rw [List.length_take, List.length_drop, List.length_drop]; omega
theorem cutF_len {b : List UInt8} {l : Bool} {p r : List UInt8} (h : cutF b = some (l, p, r)) : p.length ≤ b.length ∧ r.length < b.length := by
  unfold cutF at h
  split at h
  · cases h
  · rename_i h0
    split at h
    · cases h; rw [List.length_take, List.length_drop]; omega
    · split at h
      · have := cutAt_len (by omega) h; omega
      · rename_i h55
        split at h
        · cases h
        · rename_i h2
          split at h
          · cases h
          · have := cutAt_len (by omega) h; omega
theorem decF_lt {k : Nat} {b q : List UInt8} {t : It} (h : decF k b = .ok (t, q)) : q.length < b.length := by
  cases k with
  | zero =>
    unfold decF at h
    split at h
    · cases h
    · rename_i hc; cases h; exact (cutF_len hc).2
    · cases h
  | succ k =>
    unfold decF at h
    split at h
    · cases h
    · rename_i hc; cases h; exact (cutF_len hc).2
    · rename_i hc
      split at h
      · cases h
      · cases h; exact (cutF_len hc).2
theorem itemsF_fuel {dec : List UInt8 → Except Nat (It × List UInt8)} (hd : ∀ b t q, dec b = .ok (t, q) → q.length < b.length) : ∀ (f g : Nat) (b : List UInt8), b.length ≤ f → b.length ≤ g → itemsF dec f b = itemsF dec g b := by
  intro f
  induction f with
  | zero =>
    intro g b hf hg
    cases b with
    | nil => cases g <;> rfl
    | cons c b => simp at hf
  | succ f ih =>
    intro g b hf hg
    cases b with
    | nil => cases g <;> rfl
    | cons c b =>
      cases g with
      | zero => simp at hg
      | succ g =>
        simp only [itemsF]
        cases hc : dec (c :: b) with
        | error e => rfl
        | ok tq =>
          obtain ⟨t, q⟩ := tq
          have := hd _ _ _ hc
          simp only [List.length_cons] at this hf hg
          simp only
          rw [ih g q (by omega) (by omega)]
theorem itF_nil (dec : List UInt8 → Except Nat (It × List UInt8)) : itF dec [] = .ok [] := rfl
theorem itF_error {dec : List UInt8 → Except Nat (It × List UInt8)} {b : List UInt8} {e : Nat} (h0 : 0 < b.length) (h : dec b = .error e) : itF dec b = .error e := by
  cases b with
  | nil => simp at h0
  | cons c b => unfold itF; simp only [List.length_cons, itemsF, h]
theorem itF_ok {dec : List UInt8 → Except Nat (It × List UInt8)} (hd : ∀ b t q, dec b = .ok (t, q) → q.length < b.length) {b q : List UInt8} {t : It} (h0 : 0 < b.length) (h : dec b = .ok (t, q)) : itF dec b = exMap (t :: ·) (itF dec q) := by
  cases b with
  | nil => simp at h0
  | cons c b =>
    have := hd _ _ _ h
    simp only [List.length_cons] at this
    unfold itF
    simp only [List.length_cons, itemsF, h]
    rw [itemsF_fuel hd b.length q.length q (by omega) (Nat.le_refl _)]
theorem exMap_map {α : Type} (f g : List α → List α) (r : Except Nat (List α)) : exMap f (exMap g r) = exMap (fun l => f (g l)) r := by cases r <;> rfl
end Go.Proofs.Ytohmmgggaegbbaa
