/- The engine, part 4: memory. For whatever program. No condition. -/
import Derived.Test.YtdplcfineaikjaaDoorG3
import Derived.Maps.AppendAt
namespace Go.Proofs.YtdplcfineaikjaaDoor
set_option linter.unusedVariables false
set_option linter.unusedSimpArgs false
open Go Go.RowKit

/-- In N the cells of block b from off on are cs. -/
def Rng (N : Heaplet) (b off : Nat) (cs : List Value) : Prop := ∀ i (h : i < cs.length), cellOf N b (off + i) = some cs[i]
/-- The slice reads as xs. -/
def RSl (N : Heaplet) (size : Nat) (ao : Option Addr) (n cap : Nat) (xs : List Value) : Prop :=
  xs.length = n * size ∧ n ≤ cap ∧ cap ≤ maxLen ∧ (0 < n → ∃ b off, ao = some ⟨b, off, none⟩ ∧ Rng N b off xs)
/-- The slice owns its block, or is nil. -/
def Row (N : Heaplet) (e : TypeId) (size : Nat) (ao : Option Addr) (n cap : Nat) (xs : List Value) : Prop :=
  xs.length = n * size ∧ n ≤ cap ∧ cap ≤ maxLen ∧ ((ao = none ∧ n = 0 ∧ cap = 0) ∨
    ∃ b cur, ao = some ⟨b, 0, none⟩ ∧ N b = some (.cells cur e (0, 0)) ∧ cur.size = cap * size ∧ cur.toList.take (n * size) = xs)
/-- The block holds just these cells. -/
def Blk (N : Heaplet) (b : Nat) (e : TypeId) (cs : List Value) : Prop := N b = some (.cells cs.toArray e (0, 0))
theorem Rng.le {N M : Heaplet} (hl : N.le M) {b off : Nat} {cs : List Value} (h : Rng N b off cs) : Rng M b off cs := fun i hi => cellOf_le hl (h i hi)
theorem RSl.le {N M : Heaplet} (hl : N.le M) {size : Nat} {ao : Option Addr} {n cap : Nat} {xs : List Value} (h : RSl N size ao n cap xs) : RSl M size ao n cap xs :=
  ⟨h.1, h.2.1, h.2.2.1, fun h0 => let ⟨b, off, e, hr⟩ := h.2.2.2 h0; ⟨b, off, e, hr.le hl⟩⟩
theorem Blk.le {N M : Heaplet} (hl : N.le M) {b : Nat} {e : TypeId} {cs : List Value} (h : Blk N b e cs) : Blk M b e cs := hl _ _ h
theorem Blk.rng {N : Heaplet} {b : Nat} {e : TypeId} {cs : List Value} (h : Blk N b e cs) : Rng N b 0 cs := fun i hi => by
  unfold cellOf; rw [h]; simp [hi]
theorem Row.rsl {N : Heaplet} {e : TypeId} {size : Nat} {ao : Option Addr} {n cap : Nat} {xs : List Value} (h : Row N e size ao n cap xs) : RSl N size ao n cap xs := by
  obtain ⟨h1, h2, h3, h4⟩ := h
  refine ⟨h1, h2, h3, fun h0 => ?_⟩
  rcases h4 with ⟨_, h5, _⟩ | ⟨b, cur, rfl, hN, hs, ht⟩
  · omega
  · refine ⟨b, 0, rfl, fun i hi => ?_⟩
    unfold cellOf
    rw [hN]
    simp only [Nat.zero_add]
    have : (cur.toList.take (n * size))[i]? = some xs[i] := by rw [ht]; exact List.getElem?_eq_getElem hi
    rw [List.getElem?_take] at this
    split at this
    · simpa using this
    · cases this
theorem RSl.nil (N : Heaplet) (size : Nat) : RSl N size none 0 0 [] := ⟨by simp, Nat.le_refl _, by unfold maxLen; omega, fun h => absurd h (by omega)⟩
theorem Row.nil (N : Heaplet) (e : TypeId) (size : Nat) : Row N e size none 0 0 [] := ⟨by simp, Nat.le_refl _, by unfold maxLen; omega, .inl ⟨rfl, rfl, rfl⟩⟩
theorem RSl.sl {N : Heaplet} {w : World} (hN : N.le (whole w)) {size : Nat} {ao : Option Addr} {n cap : Nat} {xs : List Value} (h : RSl N size ao n cap xs) : Sl w size ao n cap xs := by
  refine ⟨h.1, h.2.1, h.2.2.1, fun h0 => ?_⟩
  obtain ⟨b, off, e, hr⟩ := h.2.2.2 h0
  refine ⟨b, off, e, fun i hi => ?_⟩
  have h1 := cellOf_le hN (hr i hi)
  unfold cellOf whole at h1
  unfold World.cell?
  split at h1
  · rename_i e; rw [e]; simpa using h1
  · cases h1
theorem sl_rsl {w : World} {size : Nat} {ao : Option Addr} {n cap : Nat} {xs : List Value} (h : Sl w size ao n cap xs) : RSl (whole w) size ao n cap xs := by
  refine ⟨h.1, h.2.1, h.2.2.1, fun h0 => ?_⟩
  obtain ⟨b, off, e, hr⟩ := h.2.2.2 h0
  refine ⟨b, off, e, fun i hi => ?_⟩
  have h1 := hr i hi
  unfold World.cell? at h1
  unfold cellOf whole
  split at h1
  · rename_i e; rw [e]; simpa using h1
  · cases h1
/-- The address of a slice's element. -/
def eptr (ao : Option Addr) (j : Nat) : Value := .pointer (ao.map fun a => ⟨a.block, a.off + j, none⟩)
/-- Where a part of a slice begins: at the whole room's end the old address stays. -/
def sadr (ao : Option Addr) (lo m size : Nat) : Option Addr := if m = lo then ao else ao.map (·.add (lo * size))
theorem RSl.part {N : Heaplet} {size : Nat} {ao : Option Addr} {n cap : Nat} {xs : List Value} (h : RSl N size ao n cap xs) {lo hi m : Nat} (h1 : lo ≤ hi) (h2 : hi ≤ m) (h3 : m ≤ cap) (h4 : hi ≤ n) :
    RSl N size (sadr ao lo m size) (hi - lo) (m - lo) ((xs.drop (lo * size)).take ((hi - lo) * size)) := by
  obtain ⟨a1, a2, a3, a4⟩ := h
  refine ⟨?_, by omega, by omega, fun h0 => ?_⟩
  · rw [List.length_take, List.length_drop, a1, ← Nat.sub_mul, Nat.min_eq_left (Nat.mul_le_mul_right _ (by omega))]
  · obtain ⟨b, off, rfl, hr⟩ := a4 (by omega)
    have hne : ¬ m = lo := by omega
    refine ⟨b, off + lo * size, ?_, fun i hi' => ?_⟩
    · unfold sadr Addr.add
      rw [if_neg hne]
      simp only [Option.map_some, Option.some.injEq]
      split
      · rename_i hz; simp [hz]
      · rfl
    · have hlt : lo * size + i < xs.length := by rw [List.length_take, List.length_drop] at hi'; omega
      have := hr (lo * size + i) hlt
      rw [show off + lo * size + i = off + (lo * size + i) from by omega, this]
      simp [List.getElem_take, List.getElem_drop]
theorem RSl.get {N : Heaplet} {size : Nat} {ao : Option Addr} {n cap : Nat} {xs : List Value} (h : RSl N size ao n cap xs) {j : Nat} {v : Value} (hj : xs[j]? = some v) : ∃ b off, ao = some ⟨b, off, none⟩ ∧ cellOf N b (off + j) = some v := by
  obtain ⟨a1, a2, a3, a4⟩ := h
  obtain ⟨hlt, rfl⟩ := List.getElem?_eq_some_iff.1 hj
  have hn : 0 < n := by
    rcases Nat.eq_zero_or_pos n with h0 | h0
    · rw [h0, Nat.zero_mul] at a1; omega
    · exact h0
  obtain ⟨b, off, e, hr⟩ := a4 hn
  exact ⟨b, off, e, hr j hlt⟩
theorem RSl.len {N : Heaplet} {ao : Option Addr} {n cap : Nat} {xs : List Value} (h : RSl N 1 ao n cap xs) : xs.length = n := by have := h.1; omega
def scal (P : Program) (t : TypeId) : Bool := match P.underlying t with
  | some (.struct _) | some (.array _ _) | none => false
  | _ => true
def aggOf (P : Program) (t : TypeId) : Option Nat := match P.underlying t with
  | some (.struct _) | some (.array _ _) => (P.info? t).map (·.size)
  | _ => none
section
variable {P : Program} {w : World}
theorem run_isAgg_scal {t : TypeId} (h : scal P t = true) : (isAgg t).run P w = .ok false w := by
  unfold scal at h
  cases hu : P.underlying t with
  | none => rw [hu] at h; cases h
  | some d =>
    simp only [isAgg, Sem.run_bind, run_underlying hu, Result.andThen_ok]
    rw [hu] at h
    cases d <;> first | rfl | cases h
theorem run_isAgg_agg {t : TypeId} {k : Nat} (h : aggOf P t = some k) : (isAgg t).run P w = .ok true w ∧ (sizeOf t).run P w = .ok k w := by
  unfold aggOf at h
  cases hu : P.underlying t with
  | none => rw [hu] at h; cases h
  | some d =>
    simp only [isAgg, Sem.run_bind, run_underlying hu, Result.andThen_ok]
    rw [hu] at h
    cases d <;> first | (cases h; done) | skip
    all_goals
      simp only [Option.map_eq_some_iff] at h
      obtain ⟨i, hi, rfl⟩ := h
      exact ⟨rfl, by simp [sizeOf, typeInfo, hi]⟩
theorem run_load_scal {t : TypeId} (h : scal P t = true) {b off : Nat} {v : Value} (hc : w.cell? ⟨b, off, none⟩ = some v) : (loadVar t ⟨b, off, none⟩).run P w = .ok v w := by
  unfold loadVar
  rw [Sem.run_bind, run_isAgg_scal h]
  simp only [Result.andThen_ok, Bool.false_eq_true, if_false]
  simp [load, Sem.run, hc]
theorem addr_add (b off i : Nat) : (⟨b, off, none⟩ : Addr).add i = ⟨b, off + i, none⟩ := by
  unfold Addr.add
  split
  · rename_i h; subst h; rfl
  · rfl
theorem run_load_agg {t : TypeId} {k : Nat} (h : aggOf P t = some k) {b off : Nat} {cs : List Value} (hk : cs.length = k) (hc : ∀ i (h : i < cs.length), w.cell? ⟨b, off + i, none⟩ = some cs[i]) : (loadVar t ⟨b, off, none⟩).run P w = .ok (.agg cs.toArray) w := by
  unfold loadVar
  obtain ⟨h1, h2⟩ := run_isAgg_agg (w := w) h
  rw [Sem.run_bind, h1]
  simp only [Result.andThen_ok, if_true]
  rw [Sem.run_bind, h2]
  simp only [Result.andThen_ok]
  rw [Sem.run_bind, ← hk, run_loadCells_list w ⟨b, off, none⟩ cs (fun j u hu => ?_)]
  · rfl
  · obtain ⟨hj, rfl⟩ := List.getElem?_eq_some_iff.1 hu
    rw [addr_add]; exact hc j hj
end
/-- Cells put over cells. -/
def setL (cs : List Value) (off : Nat) : List Value → List Value
  | [] => cs
  | v :: t => setL (cs.set off v) (off + 1) t
theorem length_setL (vs : List Value) : ∀ (cs : List Value) (off : Nat), (setL cs off vs).length = cs.length := by
  induction vs with
  | nil => intro cs off; rfl
  | cons v t ih => intro cs off; rw [setL, ih, List.length_set]
theorem run_storeCells {P : Program} (vs : List Value) : ∀ (w : World) (b off i : Nat) (cs : List Value) (e : TypeId), w.heap[b]? = some (.cells cs.toArray e (0, 0)) → (∀ v ∈ vs, v.oneCell' = true) → off + i + vs.length ≤ cs.length →
    ∃ w', (storeCells ⟨b, off, none⟩ vs i).run P w = .ok () w' ∧ w'.os = w.os ∧ w'.tape = w.tape ∧ w'.output = w.output ∧ w'.heap[b]? = some (.cells (setL cs (off + i) vs).toArray e (0, 0)) ∧ ∀ k, k ≠ b → w'.heap[k]? = w.heap[k]? := by
  induction vs with
  | nil => intro w b off i cs e hb _ _; exact ⟨w, rfl, rfl, rfl, rfl, hb, fun _ _ => rfl⟩
  | cons v t ih =>
    intro w b off i cs e hb h1 hlen
    simp only [List.length_cons] at hlen
    have hcell : w.cell? ⟨b, off + i, none⟩ = some cs[off + i] := by
      unfold World.cell?
      rw [hb]
      simp
    have hfr : w.frozen? ⟨b, off + i, none⟩ = false := by
      unfold World.frozen?
      rw [hb]
      simp
    have hb' : (w.setCell ⟨b, off + i, none⟩ v).heap[b]? = some (.cells (cs.set (off + i) v).toArray e (0, 0)) := by
      unfold World.setCell
      simp only [Array.getElem?_modify, if_true, hb]
      simp
    obtain ⟨w', hr, h2, h3, h4, h5, h6⟩ := ih (w.setCell ⟨b, off + i, none⟩ v) b off (i + 1) (cs.set (off + i) v) e hb' (fun u hu => h1 u (List.mem_cons_of_mem _ hu)) (by simp; omega)
    refine ⟨w', ?_, h2, h3, h4, by simpa [setL, Nat.add_assoc] using h5, fun k hk => ?_⟩
    · unfold storeCells
      rw [Sem.run_bind, addr_add]
      have hst : (store ⟨b, off + i, none⟩ v).run P w = .ok () (w.setCell ⟨b, off + i, none⟩ v) := by
        have := h1 v (List.mem_cons_self ..)
        cases v <;> first | (cases this; done) | simp [store, Sem.run, hcell, hfr]
      rw [hst]
      exact hr
    · rw [h6 k hk]
      unfold World.setCell
      simp only [Array.getElem?_modify, if_neg (Ne.symm hk)]
end Go.Proofs.YtdplcfineaikjaaDoor
