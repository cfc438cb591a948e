/- The engine: maps that a function makes, writes and counts. For whatever program. No condition. -/
import Derived.Test.YtoabimaidpbkiaaDoorG10
import Derived.Maps.OwnSet
import Derived.DeepKeys4
namespace Go.Proofs.YtoabimaidpbkiaaDoor
set_option linter.unusedVariables false
set_option linter.unusedSimpArgs false
open Go Go.RowKit
open Go.Maps (Keyed)
open Go.MapKept Go.ChangeShapes Go.WideShapes
/-- Block b of N is a set of at most n keys that reads as D. -/
def MapN (P : Program) (k : TypeId) (N : Heaplet) (b n : Nat) (D : DataW Unit) : Prop := ∃ es clock, N b = some (.map es clock) ∧ ∀ w : World, w.heap[b]? = some (.map es clock) → w.ownsMap P k unitElem b n D
section
variable {P : Program} {n : Nat} {l : List (Nat × Value)} {E : World} {L L1 Ls : List Heaplet} {X Y : Act → World → Prop} {d : Nat} {t t' ty k e : TypeId} {m x y : Operand} {N : Heaplet} {b c : Nat} {D : DataW Unit}
theorem op_makeMap {pos : _} {aft : _} {g : _} (k : TypeId) (s : NxA P n l E L ⟨some d, .makeMap t none, ty, pos, aft, g⟩ X Y) (hn : Nat.ble (d + 1) n = true) (h : ∀ N b, MapN P k N b 0 (.map []) → At n ((d, .map (some b)) :: l) E (N :: L) Y) : At n l E L X := by
  refine op_new s (fun v L' => ∃ N b, v = .map (some b) ∧ L' = N :: L ∧ MapN P k N b 0 (.map [])) (fun a w hf hw => ?_) rfl hn (fun v L' ⟨N, b, hv, hL, hB⟩ => by subst hv; subst hL; exact h N b hB)
  refine ⟨.map (some w.heap.size), w.alloc (.map #[] 0), _, ?_, Agree.alloc w _, hw.alloc _, single w.heap.size (.map #[] 0), w.heap.size, rfl, rfl, #[], 0, single_self _ _, fun w' hw' => ?_⟩
  · simp only [execOp, Instr.makeMap, Option.map_none, Sem.run_bind, Sem.run_pure, Result.andThen_ok]
    rfl
  · exact ⟨#[], 0, hw', ⟨by simp, stamped_empty 0, by simp⟩, Nat.le_refl _, rfl⟩
theorem op_mapUpdate {pos : _} {aft : _} {g : _} {key : Value} {kl : Lit} (s : Nx P n l E L ⟨none, .mapUpdate t m x y, ty, pos, aft, g⟩ X Y) (K : Keyed P k) (ht : P.underlying t = some (.map k e)) (hm : ev l m = some (.map (some b))) (hx : ev l x = some key) (hy : ev l y = some (.agg #[])) (hb : MapN P k N b c D) (hc : c < maxLen) (hk : keyOf P k key = some kl) (hs : L.Perm (N :: L1))
    (h : ∀ N, MapN P k N b (c + 1) (D.put kl (.agg [])) → At n l E (N :: L1) Y) : At n l E L X := fun a w hf hw => by
  have hw2 := hw.perm hs
  obtain ⟨es, clock, hN, hown⟩ := hb
  have hheap := hw2.sub N (List.mem_cons_self ..) _ _ hN
  have ho := hown w hheap
  obtain ⟨w', hr, ho', hg⟩ := ho.update K ht hc hk (unitElem_mk (H := Unit))
  obtain ⟨es', clock', hb', F', hs', hD'⟩ := ho'
  have henv := grown_env hg
  refine s a w hf hw ?_
  unfold Oper.wp
  have hrun : (execOp a.eval ⟨none, .mapUpdate t m x y, ty, pos, aft, g⟩).run P w = .ok .skip w' := by
    simp only [execOp, hf.eval hm, hf.eval hx, hf.eval hy, Sem.run_bind, hr, Result.andThen_ok]
    rfl
  rw [hrun]
  exact h (upd N b (.map es' clock')) ⟨es', clock', upd_self _ _ _, fun w2 hw2 => ⟨es', clock', hw2, F', hs', hD'⟩⟩ a w' hf (hw2.put hN henv.1 henv.2.1 henv.2.2 hb' fun k hk hlt => grown_block hg hlt (by
    intro h; exact hk (Option.some.inj h).symm))
theorem op_lenM {pos : _} {aft : _} {g : _} (s : NxF P n l E L Ls ⟨some d, .call ⟨.builtin .len, #[x], #[t]⟩, ty, pos, aft, g⟩ X Y) (ht : P.underlying t = some (.map k e)) (hx : ev l x = some (.map (some b))) (hb : MapN P k N b c D) (hN : N ∈ Ls) (hn : Nat.ble (d + 1) n = true) (h : At n ((d, .int .i64 (Maps.size D : Int)) :: l) E L Y) : At n l E L X := by
  refine op_val s (fun a w hf hw => ?_) rfl hn h
  obtain ⟨es, clock, hNb, hown⟩ := hb
  have hl := (hown w (hw.sub N hN _ _ hNb)).len ht ty
  simp only [execOp, resolve, invoke, builtin, Sem.run_bind, Sem.run_pure, Result.andThen_ok, List.map_toArray, List.map_cons, List.map_nil, hf.eval hx, hl]
end
/-! How many keys: a set of as many keys as were put has no key twice. -/
def setOf : List Lit → DataW Unit
  | [] => .map []
  | k :: ks => (setOf ks).put k (.agg [])
theorem setOf_laws : ∀ ks : List Lit, (∀ k ∈ ks, WideAt.IsKeyLit k) → Maps.Tidy (setOf ks) ∧ Maps.IsMap (setOf ks) ∧ (∀ k, WideAt.IsKeyLit k → (Maps.has (setOf ks) k = true ↔ k ∈ ks)) ∧ Maps.size (setOf ks) ≤ ks.length ∧ (Maps.size (setOf ks) = ks.length ↔ ks.Nodup) := by
  intro ks
  induction ks with
  | nil => exact fun _ => ⟨⟨_, rfl, .nil⟩, ⟨_, rfl⟩, fun k _ => by simp [setOf, Maps.has], by simp [setOf, Maps.size], by simp [setOf, Maps.size]⟩
  | cons k ks ih =>
    intro hk
    obtain ⟨h1, h2, h3, h4, h5⟩ := ih fun k hk' => hk k (List.mem_cons_of_mem _ hk')
    have hkk := hk k (List.mem_cons_self ..)
    rw [setOf]
    refine ⟨h1.put hkk _, ?_, fun k' hk' => ?_, ?_, ?_⟩
    · obtain ⟨es, he⟩ := h2
      rw [he]; exact ⟨_, rfl⟩
    · by_cases e : k' = k
      · subst e
        rw [Maps.has_put_same h2 hkk]; simp
      · rw [Maps.has_put_other e, h3 k' hk']; simp [e]
    · rw [Maps.size_put h1]
      split <;> simp <;> omega
    · rw [Maps.size_put h1, List.nodup_cons]
      have h6 := h3 k hkk
      by_cases hm : k ∈ ks
      · rw [if_pos (h6.2 hm)]
        constructor
        · intro e; simp at e; omega
        · intro e; exact absurd hm e.1
      · rw [if_neg (fun e => hm (h6.1 e)), List.length_cons]
        constructor
        · intro e; exact ⟨hm, h5.1 (by omega)⟩
        · intro e; rw [h5.2 e.2]
end Go.Proofs.YtoabimaidpbkiaaDoor
