/- Layer 13: fork.pick and the reference from. No condition but those told below. -/
import Derived.Test.YtoabimaidpbkiaaDoorF1
namespace Go.Proofs.YtoabimaidpbkiaaDoor
set_option linter.unusedVariables false
set_option linter.unusedSimpArgs false
open Go.RowKit

/-- The last of the values whose fork has come. -/
def pickM (f : Int) (v : Nat) : List (Nat × Nat) → Nat
  | [] => v
  | x :: xs => pickM f (if (x.1 : Int) ≤ f then x.2 else v) xs
theorem pickM_append (f : Int) (v : Nat) (a b : List (Nat × Nat)) : pickM f v (a ++ b) = pickM f (pickM f v a) b := by
  induction a generalizing v with
  | nil => rfl
  | cons x xs ih => exact ih _
theorem pickM_take (f : Int) (v : Nat) {l : List (Nat × Nat)} {k : Nat} (h : k < l.length) : pickM f v (l.take (k + 1)) = if (l[k].1 : Int) ≤ f then l[k].2 else pickM f v (l.take k) := by
  rw [List.take_succ_eq_append_getElem h, pickM_append]; rfl

/-- The block holds the pairs. -/
def Steps (w : World) (k1 k2 : IntKind) (b : Nat) (l : List (Nat × Nat)) : Prop := ∀ i (h : i < l.length), w.cell? ⟨b, i * 2, none⟩ = some (.int k1 (l[i].1 : Int)) ∧ w.cell? ⟨b, i * 2 + 1, none⟩ = some (.int k2 (l[i].2 : Int))

set_option maxRecDepth 100000 in
set_option maxHeartbeats 4000000 in
theorem pick_c (w : World) (f : Int) (b : Nat) (l : List (Nat × Nat)) (cap : Nat) (hl : l.length ≤ 100) (hl0 : 0 < l.length) (hs : Steps w .i64 .u64 b l) :
    Calls Tryd.prog 24 #[.int .i64 f, .slice (some ⟨b, 0, none⟩) l.length cap] w (Ret w fun v _ => v = .int .u64 (pickM f 0 l : Nat)) := by
  go_enter Tryd.func24, Tryd.ntmps24
  go_wp2_with fail
  go_loopw [5, 7, 10] (fun v s i wr => ∃ k : Nat, k ≤ l.length ∧ i = .int .i64 k ∧ Below w.heap.size w wr ∧ v = .int .u64 (pickM f 0 (l.take k) : Nat)) (fun _ _ i _ => ((l.length : Int) - intOf i).toNat)
  case atStart => exact ⟨0, Nat.zero_le _, rfl, Below.refl _ _, rfl⟩
  case round =>
    obtain ⟨k, hk, rfl, hb, rfl⟩ := hrel
    by_cases hlt : k < l.length
    · obtain ⟨c0, c1⟩ := hs k hlt
      have c0' := hb.cell (World.block_lt_of_cell? w _ c0) ▸ c0
      have c1' := hb.cell (World.block_lt_of_cell? w _ c1) ▸ c1
      have hp := pickM_take f 0 hlt
      by_cases hf : (l[k].1 : Int) ≤ f
      all_goals
        first | rw [if_pos hf] at hp | rw [if_neg hf] at hp
        have HP := Lib.hid hp
        have HB := Lib.hid hb
        clear hp hb hs c0 c1
        go_wp2
        refine ⟨⟨k + 1, by omega, by go_num, HB.out.alloc HB.out.size _, by rw [HP.out]⟩, by simp [intOf]; omega⟩
    · obtain rfl : k = l.length := by omega
      have HB := Lib.hid hb
      clear hb
      go_wp2
      go_ret
      refine ret_of ?_ HB.out
      simp only [List.take_length]
      rfl
set_option maxRecDepth 100000 in
set_option maxHeartbeats 4000000 in
theorem from_c (w : World) (f : Int) (v : Nat) (b : Nat) (l : List (Nat × Nat)) (cap : Nat) (hl : l.length ≤ 100) (hl0 : 0 < l.length) (hb0 : ∀ i (h : i < l.length), l[i].1 ≤ 100) (hs : Steps w .u64 .u64 b l) :
    Calls Tryd.prog 25 #[.int .i64 f, .int .u64 (v : Int), .slice (some ⟨b, 0, none⟩) l.length cap] w (Ret w fun u _ => u = .int .u64 (pickM f v l : Nat)) := by
  go_enter Tryd.func25, Tryd.ntmps25
  go_wp2_with fail
  go_loopw [1, 7] (fun v' i wr => ∃ k : Nat, k ≤ l.length ∧ i = .int .i64 k ∧ Below w.heap.size w wr ∧ v' = .int .u64 (pickM f v (l.take k) : Nat)) (fun _ i _ => ((l.length : Int) - intOf i).toNat)
  case atStart => exact ⟨0, Nat.zero_le _, rfl, Below.refl _ _, rfl⟩
  case round =>
    obtain ⟨k, hk, rfl, hb, rfl⟩ := hrel
    by_cases hlt : k < l.length
    · obtain ⟨c0, c1⟩ := hs k hlt
      have hb1 := hb0 k hlt
      have c0' := hb.cell (World.block_lt_of_cell? w _ c0) ▸ c0
      have c1' := hb.cell (World.block_lt_of_cell? w _ c1) ▸ c1
      have hp := pickM_take f v hlt
      by_cases hf : (l[k].1 : Int) ≤ f
      all_goals
        first | rw [if_pos hf] at hp | rw [if_neg hf] at hp
        have HP := Lib.hid hp
        have HB := Lib.hid hb
        clear hp hb hs c0 c1 hb0
        go_wp2
        refine ⟨⟨k + 1, by omega, by go_num, HB.out, by rw [HP.out]⟩, by simp [intOf]; omega⟩
    · obtain rfl : k = l.length := by omega
      have HB := Lib.hid hb
      clear hb hb0
      go_wp2
      go_ret
      refine ret_of ?_ HB.out
      simp only [List.take_length]
      rfl
def pairs (k1 k2 : IntKind) (l : List (Nat × Nat)) : List Value := l.flatMap fun x => [.int k1 (x.1 : Int), .int k2 (x.2 : Int)]
theorem pairs_at (k1 k2 : IntKind) : ∀ (l : List (Nat × Nat)) (i : Nat) (h : i < l.length), (pairs k1 k2 l)[i * 2]? = some (.int k1 (l[i].1 : Int)) ∧ (pairs k1 k2 l)[i * 2 + 1]? = some (.int k2 (l[i].2 : Int))
  | x :: xs, 0, _ => ⟨rfl, rfl⟩
  | x :: xs, i + 1, h => by
    have := pairs_at k1 k2 xs i (by simpa using h)
    rw [Nat.add_mul, Nat.one_mul]
    exact this
theorem steps_alloc (w : World) (k1 k2 : IntKind) (l : List (Nat × Nat)) (a : Array Value) (T : TypeId) (h : a = (pairs k1 k2 l).toArray) : Steps (w.alloc (.cells a T)) k1 k2 w.heap.size l := by
  subst h
  intro i hi
  obtain ⟨h0, h1⟩ := pairs_at k1 k2 l i hi
  have hat : ∀ k v, (pairs k1 k2 l)[k]? = some v → (w.alloc (.cells (pairs k1 k2 l).toArray T)).cell? ⟨w.heap.size, k, none⟩ = some v := fun k v hv => by
    have hk : (w.alloc (.cells (pairs k1 k2 l).toArray T)).heap[w.heap.size]? = some (.cells (pairs k1 k2 l).toArray T) := by unfold World.alloc; exact Array.getElem?_push_size
    unfold World.cell?
    rw [hk]
    simpa using hv
  exact ⟨hat _ _ h0, hat _ _ h1⟩
end Go.Proofs.YtoabimaidpbkiaaDoor
