/- Items: trees of byte strings, their forms, and how they lie in memory. No condition. -/
import Derived.Test.YtohmmgggaegbbaaY2
import Derived.Test.YtohmmgggaegbbaaYM1
namespace Go.Proofs.Ytohmmgggaegbbaa
set_option linter.unusedVariables false
set_option linter.unusedSimpArgs false
open Go Go.RowKit
/-- An item: whether it is a list, its bytes, its items. -/
inductive It where
  | mk (list : Bool) (bytes : List UInt8) (items : List It)
mutual
def It.form : It → List UInt8
  | .mk false bs _ => match bs with
    | [x] => if x < 128 then [x] else rlpHead 128 1 ++ [x]
    | bs => rlpHead 128 bs.length ++ bs
  | .mk true _ its => rlpHead 192 (It.forms its).length ++ It.forms its
def It.forms : List It → List UInt8
  | [] => []
  | t :: ts => It.form t ++ It.forms ts
end
mutual
def It.depth : It → Nat
  | .mk false _ _ => 0
  | .mk true _ its => It.depths its + 1
def It.depths : List It → Nat
  | [] => 0
  | t :: ts => max (It.depth t) (It.depths ts)
end
mutual
theorem It.ind_it {P : It → Prop} (h : ∀ l bs its, (∀ t ∈ its, P t) → P (.mk l bs its)) : ∀ t, P t
  | .mk l bs its => h l bs its (It.ind_its h its)
theorem It.ind_its {P : It → Prop} (h : ∀ l bs its, (∀ t ∈ its, P t) → P (.mk l bs its)) : ∀ its : List It, ∀ t ∈ its, P t
  | [], _, ht => by cases ht
  | x :: xs, t, ht => by
    rcases List.mem_cons.1 ht with e | ht
    · rw [e]; exact It.ind_it h x
    · exact It.ind_its h xs t ht
end
theorem forms_append (a b : List It) : It.forms (a ++ b) = It.forms a ++ It.forms b := by
  induction a with
  | nil => rfl
  | cons t ts ih => simp only [List.cons_append, It.forms, ih, List.append_assoc]
theorem forms_take_succ {its : List It} {k : Nat} {t : It} (h : its[k]? = some t) : It.forms (its.take (k + 1)) = It.forms (its.take k) ++ t.form := by
  obtain ⟨hlt, rfl⟩ := List.getElem?_eq_some_iff.1 h
  rw [List.take_succ_eq_append_getElem hlt, forms_append]
  simp [It.forms]
theorem forms_take_le (its : List It) (k : Nat) : (It.forms (its.take k)).length ≤ (It.forms its).length := by
  conv => rhs; rw [← List.take_append_drop k its]
  rw [forms_append, List.length_append]
  omega
theorem form_le {its : List It} {t : It} (h : t ∈ its) : t.form.length ≤ (It.forms its).length := by
  obtain ⟨a, b, rfl⟩ := List.append_of_mem h
  rw [forms_append, It.forms]
  simp
  omega
theorem depths_le {its : List It} {d : Nat} : It.depths its ≤ d ↔ ∀ t ∈ its, t.depth ≤ d := by
  induction its with
  | nil => simp [It.depths]
  | cons t ts ih => simp [It.depths, Nat.max_le, ih]
/-- One byte below 128. -/
def small : List UInt8 → Bool
  | [x] => decide (x < 128)
  | _ => false
theorem form_false (bs : List UInt8) (its : List It) : (It.mk false bs its).form = if small bs then bs else rlpHead 128 bs.length ++ bs := by
  cases bs with
  | nil => simp [It.form, small]
  | cons x xs =>
    cases xs with
    | nil => simp [It.form, small]
    | cons y ys => simp [It.form, small]
theorem form_true (bs : List UInt8) (its : List It) : (It.mk true bs its).form = rlpHead 192 (It.forms its).length ++ It.forms its := by simp [It.form]
theorem small_iff {bs : List UInt8} : small bs = true ↔ bs.length = 1 ∧ (bs.getD 0 0).toNat < 128 := by
  cases bs with
  | nil => simp [small]
  | cons x xs =>
    cases xs with
    | nil => simp [small, UInt8.lt_iff_toNat_lt]
    | cons y ys => simp [small]
theorem one_eq {bs : List UInt8} (h : bs.length = 1) : bs = [bs.getD 0 0] := by
  cases bs with
  | nil => simp at h
  | cons x xs => cases xs with
    | nil => rfl
    | cons y ys => simp at h
/-- An item's three values. -/
structure IV where
  l : Bool
  ab : Option Addr
  nb : Nat
  cb : Nat
  ai : Option Addr
  ni : Nat
  ci : Nat
def IV.cells (x : IV) : List Value := [.bool x.l, .slice x.ab x.nb x.cb, .slice x.ai x.ni x.ci]
def cellsI (xs : List IV) : List Value := xs.flatMap IV.cells
theorem length_cellsI (xs : List IV) : (cellsI xs).length = xs.length * 3 := by
  induction xs with
  | nil => rfl
  | cons x t ih => simp only [cellsI, List.flatMap_cons, List.length_append, List.length_cons] at ih ⊢; rw [ih]; simp [IV.cells]; omega
theorem cells_at {xs : List IV} {k : Nat} {x : IV} (h : xs[k]? = some x) : ((cellsI xs).drop (k * 3)).take 3 = [.bool x.l, .slice x.ab x.nb x.cb, .slice x.ai x.ni x.ci] := by
  induction xs generalizing k with
  | nil => simp at h
  | cons y t ih =>
    cases k with
    | zero => simp at h; subst h; simp [cellsI, IV.cells]
    | succ k =>
      have := ih (k := k) (by simpa using h)
      rw [← this]
      have e : cellsI (y :: t) = y.cells ++ cellsI t := by simp [cellsI]
      have hl : y.cells.length = 3 := rfl
      rw [e, show (k + 1) * 3 = y.cells.length + k * 3 from by rw [hl]; omega, List.drop_append, List.drop_eq_nil_of_le (by omega), List.nil_append, Nat.add_sub_cancel_left]
mutual
/-- The item's values read so in N. -/
def ItN (N : Heaplet) : It → IV → Prop
  | .mk l bs its, x => x.l = l ∧ RSl N 1 x.ab x.nb x.cb (u8s bs) ∧ ∃ xs, RSl N 3 x.ai x.ni x.ci (cellsI xs) ∧ ItsN N its xs
def ItsN (N : Heaplet) : List It → List IV → Prop
  | [], xs => xs = []
  | t :: ts, xs => ∃ x r, xs = x :: r ∧ ItN N t x ∧ ItsN N ts r
end
mutual
theorem ItN.le {N M : Heaplet} (hl : N.le M) : ∀ {t : It} {x : IV}, ItN N t x → ItN M t x
  | .mk l bs its, x, h => by
    simp only [ItN] at h ⊢
    obtain ⟨h1, h2, xs, h3, h4⟩ := h
    exact ⟨h1, h2.le hl, xs, h3.le hl, ItsN.le hl h4⟩
theorem ItsN.le {N M : Heaplet} (hl : N.le M) : ∀ {ts : List It} {xs : List IV}, ItsN N ts xs → ItsN M ts xs
  | [], xs, h => h
  | t :: ts, xs, h => by
    simp only [ItsN] at h ⊢
    obtain ⟨x, r, e, h1, h2⟩ := h
    exact ⟨x, r, e, ItN.le hl h1, ItsN.le hl h2⟩
end
theorem ItsN.length {N : Heaplet} : ∀ {ts : List It} {xs : List IV}, ItsN N ts xs → xs.length = ts.length
  | [], xs, h => by simp only [ItsN] at h; subst h; rfl
  | t :: ts, xs, h => by
    simp only [ItsN] at h
    obtain ⟨x, r, rfl, _, h2⟩ := h
    simp [h2.length]
theorem ItsN.get {N : Heaplet} : ∀ {ts : List It} {xs : List IV} {k : Nat} {t : It}, ItsN N ts xs → ts[k]? = some t → ∃ x, xs[k]? = some x ∧ ItN N t x
  | [], xs, k, t, _, h => by simp at h
  | t' :: ts, xs, 0, t, h, hk => by
    simp only [ItsN] at h
    obtain ⟨x, r, rfl, h1, _⟩ := h
    simp at hk; subst hk
    exact ⟨x, rfl, h1⟩
  | t' :: ts, xs, k + 1, t, h, hk => by
    simp only [ItsN] at h
    obtain ⟨x, r, rfl, _, h2⟩ := h
    obtain ⟨y, hy, hi⟩ := h2.get (k := k) (by simpa using hk)
    exact ⟨y, by simpa using hy, hi⟩
theorem ItsN.snoc {N : Heaplet} : ∀ {ts : List It} {xs : List IV} {t : It} {x : IV}, ItsN N ts xs → ItN N t x → ItsN N (ts ++ [t]) (xs ++ [x])
  | [], xs, t, x, h, hi => by simp only [ItsN] at h; subst h; exact ⟨x, [], rfl, hi, rfl⟩
  | t' :: ts, xs, t, x, h, hi => by
    simp only [ItsN] at h
    obtain ⟨y, r, rfl, h1, h2⟩ := h
    exact ⟨y, r ++ [x], rfl, h1, h2.snoc hi⟩
theorem ItN.mk {N : Heaplet} {l : Bool} {bs : List UInt8} {its : List It} {ab ai : Option Addr} {nb cb ni ci : Nat} {xs : List IV} (h1 : RSl N 1 ab nb cb (u8s bs)) (h2 : RSl N 3 ai ni ci (cellsI xs)) (h3 : ItsN N its xs) : ItN N (.mk l bs its) ⟨l, ab, nb, cb, ai, ni, ci⟩ := ⟨rfl, h1, xs, h2, h3⟩
end Go.Proofs.Ytohmmgggaegbbaa
