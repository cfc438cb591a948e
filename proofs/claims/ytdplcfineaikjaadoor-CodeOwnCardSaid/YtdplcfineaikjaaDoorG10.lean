/- The engine, part 10: slice literals. For whatever program. No condition. -/
import Derived.Test.YtdplcfineaikjaaDoorG9
namespace Go.Proofs.YtdplcfineaikjaaDoor
set_option linter.unusedVariables false
set_option linter.unusedSimpArgs false
open Go Go.RowKit
/-- The heaplet that holds nothing. -/
def nilH : Heaplet := fun _ => none
theorem At.empty {n : Nat} {l : List (Nat × Value)} {E : World} {L : List Heaplet} {K : Act → World → Prop} (h : At n l E (nilH :: L) K) : At n l E L K := fun a w hf hw => h a w hf
  ⟨hw.os, hw.tape, hw.output, fun N hN => by
    rcases List.mem_cons.1 hN with rfl | hN
    · intro k o hk; cases hk
    · exact hw.sub N hN, by rw [List.pairwise_cons]; exact ⟨fun _ _ _ => .inl rfl, hw.sep⟩⟩
theorem At.mergeN {n : Nat} {l : List (Nat × Value)} {E : World} {L : List Heaplet} {K : Act → World → Prop} {A B : Heaplet} (h : ∀ J : Heaplet, A.le J → B.le J → At n l E (J :: L) K) : At n l E (A :: B :: L) K :=
  At.merge fun hap => h _ join2_left (join2_right hap)
theorem setL_append (vs : List Value) : ∀ (a b c : List Value), b.length = vs.length → setL (a ++ b ++ c) a.length vs = a ++ vs ++ c := by
  induction vs with
  | nil => intro a b c h; simp at h; subst h; simp [setL]
  | cons v t ih =>
    intro a b c h
    cases b with
    | nil => simp at h
    | cons x b =>
      rw [setL]
      have e : (a ++ x :: b ++ c).set a.length v = (a ++ [v]) ++ b ++ c := by simp
      rw [e]
      have := ih (a ++ [v]) b c (by simpa using h)
      rw [List.length_append, List.length_singleton] at this
      rw [this]; simp
def flatV (vs : List (Nat × Value)) : List Value := vs.flatMap fun p => p.2.cells.toList
theorem fillL_all (size m : Nat) : ∀ (vs : List (Nat × Value)) (k : Nat) (a zs : List Value), vs.map (·.1) = List.range' k vs.length → k + vs.length ≤ m → (∀ p ∈ vs, p.2.cells.toList.length = size) → a.length = k * size → zs.length = vs.length * size →
    fillL ((List.range m).map fun i => (i * size, size)) (a ++ zs) vs = some (a ++ flatV vs) := by
  intro vs
  induction vs with
  | nil => intro k a zs _ _ _ _ h; simp at h; subst h; simp [fillL, flatV]
  | cons p t ih =>
    intro k a zs hi hm hs ha hz
    obtain ⟨i, v⟩ := p
    simp only [List.map_cons, List.length_cons, List.range'_succ, List.cons.injEq] at hi
    obtain ⟨rfl, hi⟩ := hi
    simp only [List.length_cons] at hm hz
    have hv := hs _ (List.mem_cons_self ..)
    simp only at hv
    have hget : ((List.range m).map fun i => (i * size, size))[i]? = some (i * size, size) := by
      rw [List.getElem?_map, List.getElem?_range (by omega)]; rfl
    have hz' : size ≤ zs.length := by rw [hz, Nat.add_mul]; omega
    have hcond : v.cells.toList.length = size ∧ i * size + v.cells.toList.length ≤ (a ++ zs).length := by
      rw [List.length_append]; omega
    have hset : setL (a ++ zs) (i * size) v.cells.toList = (a ++ v.cells.toList) ++ zs.drop size := by
      have := setL_append v.cells.toList a (zs.take size) (zs.drop size) (by rw [List.length_take]; omega)
      rw [List.append_assoc, List.take_append_drop, ha] at this
      exact this
    have hrec := ih (i + 1) (a ++ v.cells.toList) (zs.drop size) hi (by omega) (fun q hq => hs q (List.mem_cons_of_mem _ hq)) (by rw [List.length_append, ha, hv, Nat.add_mul, Nat.one_mul]) (by rw [List.length_drop, hz, Nat.add_mul]; omega)
    simp only [fillL, hget, if_pos hcond, hset, hrec]
    simp [flatV]
section
variable {P : Program} {n : Nat} {l l' : List (Nat × Value)} {E : World} {L L1 : List Heaplet} {X Y : Act → World → Prop} {d : Nat} {ty t e : TypeId} {pos : String} {aft : Array Edge} {g : Option (Nat × Bool)} {size : Nat}
theorem length_flatV {vs : List (Nat × Value)} (h : ∀ p ∈ vs, p.2.cells.toList.length = size) : (flatV vs).length = vs.length * size := by
  induction vs with
  | nil => simp [flatV]
  | cons p t ih =>
    have h1 := h p (List.mem_cons_self ..)
    have h2 := ih fun q hq => h q (List.mem_cons_of_mem _ hq)
    simp only [flatV, List.flatMap_cons, List.length_append, List.length_cons] at h2 ⊢
    rw [h1, h2, Nat.add_mul, Nat.one_mul, Nat.add_comm]
/-- A slice literal, all of whose places are written out. -/
theorem op_lit {parts : List (Nat × Operand)} {vs : List (Nat × Value)} {zv : Value} {m : Nat} (s : NxA P n l E L ⟨some d, .buildSlice t m parts.toArray, ty, pos, aft, g⟩ X Y) (ht : P.underlying t = some (.slice e)) (hz : zer P e = some zv) (hsz : siz P e = some size) (hv : Pts l parts vs)
    (hi : vs.map (·.1) = List.range' 0 vs.length) (hm0 : vs.length = m) (hs : ∀ p ∈ vs, p.2.cells.toList.length = size) (hm : Nat.ble (m * size) 16777216 = true) (hm2 : Nat.ble m 16777216 = true) (hn : Nat.ble (d + 1) n = true)
    (h : ∀ N ao, Row N e size ao m m (flatV vs) → At n ((d, .slice ao m m) :: l) E (N :: L) Y) : At n l E L X := by
  refine op_buildSlice s ht hz hsz hv (out := flatV vs) ?_ (by rw [length_flatV hs, hm0]) hm hm2 hn h
  have := fillL_all size m vs 0 [] (madeCells zv.cells (m * size)).toList hi (by omega) hs (by simp) (by rw [Array.length_toList, size_madeCells, hm0])
  simpa using this
end
end Go.Proofs.YtdplcfineaikjaaDoor
