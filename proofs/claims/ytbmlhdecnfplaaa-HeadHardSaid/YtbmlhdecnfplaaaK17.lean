/- Several texts in one: see the remarks ahead of each part. No condition but those told there. -/
import Derived.Test.YtbmlhdecnfplaaaK16
import Derived.Deep.MidRow
import Derived.Laws.ResultCell
import Derived.Test.YtbmlhdecnfplaaaK7
import Derived.Test.YtbmlhdecnfplaaaK8
import Derived.Test.YtbmlhdecnfplaaaK10
/- Layer 13: fork.pick and the reference from. No condition but those told below. -/
namespace Go.Proofs.Ytbmlhdecnfplaaa
set_option linter.unusedVariables false
set_option linter.unusedSimpArgs false
open Go.RowKit

/-- The last of the values whose fork has come. -/
def pickM (f : Int) (v : Nat) : List (Nat × Nat) → Nat
  | [] => v
  | x :: xs => pickM f (if (x.1 : Int) ≤ f then x.2 else v) xs
theorem pickM_append (f : Int) (v : Nat) (a b : List (Nat × Nat)) : pickM f v (a ++ b) = pickM f (pickM f v a) b := by
  induction a generalizing v with
  | nil => rfl
  | cons x xs ih => exact ih _
theorem pickM_take (f : Int) (v : Nat) {l : List (Nat × Nat)} {k : Nat} (h : k < l.length) : pickM f v (l.take (k + 1)) = if (l[k].1 : Int) ≤ f then l[k].2 else pickM f v (l.take k) := by
  rw [List.take_succ_eq_append_getElem h, pickM_append]; rfl

/-- The block holds the pairs. -/
def Steps (w : World) (k1 k2 : IntKind) (b : Nat) (l : List (Nat × Nat)) : Prop := ∀ i (h : i < l.length), w.cell? ⟨b, i * 2, none⟩ = some (.int k1 (l[i].1 : Int)) ∧ w.cell? ⟨b, i * 2 + 1, none⟩ = some (.int k2 (l[i].2 : Int))

set_option maxRecDepth 100000 in
set_option maxHeartbeats 4000000 in
theorem pick_c (w : World) (f : Int) (b : Nat) (l : List (Nat × Nat)) (cap : Nat) (hl : l.length ≤ 100) (hl0 : 0 < l.length) (hs : Steps w .i64 .u64 b l) :
    Calls Try.prog 55 #[.int .i64 f, .slice (some ⟨b, 0, none⟩) l.length cap] w (Ret w fun v _ => v = .int .u64 (pickM f 0 l : Nat)) := by
  go_enter Try.func55, Try.ntmps55
  go_wp2_with fail
  go_loopw [5, 7, 10] (fun v s i wr => ∃ k : Nat, k ≤ l.length ∧ i = .int .i64 k ∧ Below w.heap.size w wr ∧ v = .int .u64 (pickM f 0 (l.take k) : Nat)) (fun _ _ i _ => ((l.length : Int) - intOf i).toNat)
  case atStart => exact ⟨0, Nat.zero_le _, rfl, Below.refl _ _, rfl⟩
  case round =>
    obtain ⟨k, hk, rfl, hb, rfl⟩ := hrel
    by_cases hlt : k < l.length
    · obtain ⟨c0, c1⟩ := hs k hlt
      have c0' := hb.cell (World.block_lt_of_cell? w _ c0) ▸ c0
      have c1' := hb.cell (World.block_lt_of_cell? w _ c1) ▸ c1
      have hp := pickM_take f 0 hlt
      by_cases hf : (l[k].1 : Int) ≤ f
      all_goals
        first | rw [if_pos hf] at hp | rw [if_neg hf] at hp
        have HP := Lib.hid hp
        have HB := Lib.hid hb
        clear hp hb hs c0 c1
        go_wp2
        refine ⟨⟨k + 1, by omega, by go_num, HB.out.alloc HB.out.size _, by rw [HP.out]⟩, by simp [intOf]; omega⟩
    · obtain rfl : k = l.length := by omega
      have HB := Lib.hid hb
      clear hb
      go_wp2
      go_ret
      refine ret_of ?_ HB.out
      simp only [List.take_length]
      rfl
set_option maxRecDepth 100000 in
set_option maxHeartbeats 4000000 in
theorem from_c (w : World) (f : Int) (v : Nat) (b : Nat) (l : List (Nat × Nat)) (cap : Nat) (hl : l.length ≤ 100) (hl0 : 0 < l.length) (hb0 : ∀ i (h : i < l.length), l[i].1 ≤ 100) (hs : Steps w .u64 .u64 b l) :
    Calls Try.prog 62 #[.int .i64 f, .int .u64 (v : Int), .slice (some ⟨b, 0, none⟩) l.length cap] w (Ret w fun u _ => u = .int .u64 (pickM f v l : Nat)) := by
  go_enter Try.func62, Try.ntmps62
  go_wp2_with fail
  go_loopw [1, 7] (fun v' i wr => ∃ k : Nat, k ≤ l.length ∧ i = .int .i64 k ∧ Below w.heap.size w wr ∧ v' = .int .u64 (pickM f v (l.take k) : Nat)) (fun _ i _ => ((l.length : Int) - intOf i).toNat)
  case atStart => exact ⟨0, Nat.zero_le _, rfl, Below.refl _ _, rfl⟩
  case round =>
    obtain ⟨k, hk, rfl, hb, rfl⟩ := hrel
    by_cases hlt : k < l.length
    · obtain ⟨c0, c1⟩ := hs k hlt
      have hb1 := hb0 k hlt
      have c0' := hb.cell (World.block_lt_of_cell? w _ c0) ▸ c0
      have c1' := hb.cell (World.block_lt_of_cell? w _ c1) ▸ c1
      have hp := pickM_take f v hlt
      by_cases hf : (l[k].1 : Int) ≤ f
      all_goals
        first | rw [if_pos hf] at hp | rw [if_neg hf] at hp
        have HP := Lib.hid hp
        have HB := Lib.hid hb
        clear hp hb hs c0 c1 hb0
        go_wp2
        refine ⟨⟨k + 1, by omega, by go_num, HB.out, by rw [HP.out]⟩, by simp [intOf]; omega⟩
    · obtain rfl : k = l.length := by omega
      have HB := Lib.hid hb
      clear hb hb0
      go_wp2
      go_ret
      refine ret_of ?_ HB.out
      simp only [List.take_length]
      rfl
def pairs (k1 k2 : IntKind) (l : List (Nat × Nat)) : List Value := l.flatMap fun x => [.int k1 (x.1 : Int), .int k2 (x.2 : Int)]
theorem pairs_at (k1 k2 : IntKind) : ∀ (l : List (Nat × Nat)) (i : Nat) (h : i < l.length), (pairs k1 k2 l)[i * 2]? = some (.int k1 (l[i].1 : Int)) ∧ (pairs k1 k2 l)[i * 2 + 1]? = some (.int k2 (l[i].2 : Int))
  | x :: xs, 0, _ => ⟨rfl, rfl⟩
  | x :: xs, i + 1, h => by
    have := pairs_at k1 k2 xs i (by simpa using h)
    rw [Nat.add_mul, Nat.one_mul]
    exact this
theorem steps_alloc (w : World) (k1 k2 : IntKind) (l : List (Nat × Nat)) (a : Array Value) (T : TypeId) (h : a = (pairs k1 k2 l).toArray) : Steps (w.alloc (.cells a T)) k1 k2 w.heap.size l := by
  subst h
  intro i hi
  obtain ⟨h0, h1⟩ := pairs_at k1 k2 l i hi
  have hat : ∀ k v, (pairs k1 k2 l)[k]? = some v → (w.alloc (.cells (pairs k1 k2 l).toArray T)).cell? ⟨w.heap.size, k, none⟩ = some v := fun k v hv => by
    have hk : (w.alloc (.cells (pairs k1 k2 l).toArray T)).heap[w.heap.size]? = some (.cells (pairs k1 k2 l).toArray T) := by unfold World.alloc; exact Array.getElem?_push_size
    unfold World.cell?
    rw [hk]
    simpa using hv
  exact ⟨hat _ _ h0, hat _ _ h1⟩
end Go.Proofs.Ytbmlhdecnfplaaa
/- Layer 13: the numbers of a fork as a function. No condition but those told below. -/
namespace Go.Proofs.Ytbmlhdecnfplaaa
set_option linter.unusedVariables false
set_option linter.unusedSimpArgs false
open Go.RowKit
def unpairs : List Value → List (Nat × Nat)
  | .int _ a :: .int _ b :: r => (a.toNat, b.toNat) :: unpairs r
  | _ => []
def PickIs (f : Int) (v : Nat) (xs : List Value) (k : Nat) : Prop := k = pickM f v (unpairs xs)
theorem pickM_lt (f : Int) (B : Nat) : ∀ (l : List (Nat × Nat)) (v : Nat), v < B → l.all (fun x => decide (x.2 < B)) = true → pickM f v l < B
  | [], v, hv, _ => hv
  | x :: xs, v, hv, h => by
    simp only [List.all_cons, Bool.and_eq_true, decide_eq_true_eq] at h
    refine pickM_lt f B xs _ ?_ h.2
    split
    · exact h.1
    · exact hv
theorem pickA (W w : World) (f : Int) (hb : Below W.heap.size W w) (xs : List Value) (T : TypeId) (b n : Nat) (hbw : b = w.heap.size) (hn : n = (unpairs xs).length) (ha : xs = pairs .i64 .u64 (unpairs xs))
    (hle : (unpairs xs).length ≤ 100) (h0 : 0 < (unpairs xs).length) (hm : (unpairs xs).all (fun x => decide (x.2 < 9223372036854775808)) = true) :
    Calls Try.prog 55 #[.int .i64 f, .slice (some ⟨b, 0, none⟩) n n] (w.alloc (.cells xs.toArray T)) (fun e w' => (∃ k : Nat, e = .returned (.int .u64 (k : Int)) ∧ PickIs f 0 xs k ∧ k < 9223372036854775808) ∧ Below W.heap.size W w') := by
  subst hbw hn
  refine (pick_c (w.alloc (.cells xs.toArray T)) f w.heap.size (unpairs xs) _ hle h0 (steps_alloc w _ _ _ _ T (by rw [← ha]))).mono ?_
  rintro e w' ⟨_, rfl, rfl, hb'⟩
  exact ⟨⟨_, rfl, rfl, pickM_lt f _ _ _ (by decide) hm⟩, (hb.alloc hb.size _).trans (hb'.mono (by have := hb.size; simp; omega))⟩
theorem fromA (W w : World) (f : Int) (hb : Below W.heap.size W w) (xs : List Value) (T : TypeId) (b n : Nat) (c : Int) (hc : c = (c.toNat : Int)) (hbw : b = w.heap.size) (hn : n = (unpairs xs).length) (ha : xs = pairs .u64 .u64 (unpairs xs))
    (hle : (unpairs xs).length ≤ 100) (h0 : 0 < (unpairs xs).length) (h1 : (unpairs xs).all (fun x => decide (x.1 ≤ 100)) = true) (hv : c.toNat < 9223372036854775808) (hm : (unpairs xs).all (fun x => decide (x.2 < 9223372036854775808)) = true) :
    Calls Try.prog 62 #[.int .i64 f, .int .u64 c, .slice (some ⟨b, 0, none⟩) n n] (w.alloc (.cells xs.toArray T)) (fun e w' => (∃ k : Nat, e = .returned (.int .u64 (k : Int)) ∧ PickIs f c.toNat xs k ∧ k < 9223372036854775808) ∧ Below W.heap.size W w') := by
  generalize c.toNat = v at *
  subst hbw hn hc
  refine (from_c (w.alloc (.cells xs.toArray T)) f v w.heap.size (unpairs xs) _ hle h0 (fun i hi => of_decide_eq_true (List.all_eq_true.1 h1 _ (List.getElem_mem hi))) (steps_alloc w _ _ _ _ T (by rw [← ha]))).mono ?_
  rintro e w' ⟨_, rfl, rfl, hb'⟩
  exact ⟨⟨_, rfl, rfl, pickM_lt f _ _ _ hv hm⟩, (hb.alloc hb.size _).trans (hb'.mono (by have := hb.size; simp; omega))⟩
def mTxCreate (f : Int) : Nat := pickM f 0 [(1, 32000)]
def mTxByte (f : Int) : Nat := pickM f 68 [(7, 16)]
def mTxAddress (f : Int) : Nat := pickM f 0 [(9, 2400)]
def mTxKey (f : Int) : Nat := pickM f 0 [(9, 1900)]
def mInitWord (f : Int) : Nat := pickM f 0 [(14, 2)]
def mMaxInit (f : Int) : Nat := pickM f 0 [(14, 49152)]
def mMaxCode (f : Int) : Nat := pickM f 0 [(3, 24576)]
def mBalance (f : Int) : Nat := pickM f 20 [(2, 400), (7, 700), (9, 0)]
def mExtSize (f : Int) : Nat := pickM f 20 [(2, 700), (9, 0)]
def mExtHash (f : Int) : Nat := pickM f 0 [(5, 400), (7, 700), (9, 0)]
def mLoad (f : Int) : Nat := pickM f 50 [(2, 200), (7, 800), (9, 0)]
def mCall (f : Int) : Nat := pickM f 40 [(2, 700), (9, 0)]
def mCold (f : Int) : Nat := pickM f 0 [(9, 2600)]
def mColdSlot (f : Int) : Nat := pickM f 0 [(9, 2100)]
def mWarm (f : Int) : Nat := pickM f 0 [(9, 100)]
def mDestroy (f : Int) : Nat := pickM f 0 [(2, 5000)]
def mDestroyNew (f : Int) : Nat := pickM f 0 [(2, 25000)]
def mDestroyBack (f : Int) : Nat := pickM f 24000 [(10, 0)]
def mExpByte (f : Int) : Nat := pickM f 10 [(3, 50)]
def mStoreBack (f : Int) : Nat := pickM f 15000 [(10, 4800)]
def mRefundPart (f : Int) : Nat := pickM f 2 [(10, 5)]
def mReward (f : Int) : Nat := pickM f 5000000000000000000 [(4, 3000000000000000000), (5, 2000000000000000000), (13, 0)]
def mBomb (f : Int) : Nat := pickM f 0 [(4, 3000000), (5, 5000000), (8, 9000000), (10, 9700000), (11, 10700000), (12, 11400000), (13, 0)]
/-- A fork's numbers. -/
def rulesV (f : Int) : Value := .agg #[.int .i64 f, .int .u64 21000, .int .u64 (mTxCreate f : Int), .int .u64 4, .int .u64 (mTxByte f : Int), .int .u64 (mTxAddress f : Int), .int .u64 (mTxKey f : Int), .int .u64 (mInitWord f : Int), .int .i64 (mMaxInit f : Int), .int .i64 (mMaxCode f : Int), .int .u64 (mBalance f : Int), .int .u64 (mExtSize f : Int), .int .u64 (mExtHash f : Int), .int .u64 (mLoad f : Int), .int .u64 (mCall f : Int), .int .u64 (mCold f : Int), .int .u64 (mColdSlot f : Int), .int .u64 (mWarm f : Int), .int .u64 (mDestroy f : Int), .int .u64 (mDestroyNew f : Int), .int .u64 (mDestroyBack f : Int), .int .u64 (mExpByte f : Int), .int .u64 (mStoreBack f : Int), .int .u64 (mRefundPart f : Int), .int .u64 (mReward f : Int), .int .u64 (mBomb f : Int)]
end Go.Proofs.Ytbmlhdecnfplaaa
/- Layer 13: building the struct of a fork. No condition but those told below. -/
namespace Go.Proofs.Ytbmlhdecnfplaaa
set_option linter.unusedVariables false
set_option linter.unusedSimpArgs false
open Go.RowKit
theorem wpl_build {P : Program} {ops : Array Oper} {rest : List Oper} {o : Oper} {a : Act} {w : World} {Q : Exit → Act → World → Prop} (hgd : o.guard = none) (t : TypeId) (parts : Array (Nat × Operand)) (ho : o.op = .build t parts) (vs : Array (Nat × Value)) (v : Value)
    (hp : (parts.map fun x => (x.1, a.eval x.2)) = vs) (hr : Sem.run P (Instr.build t vs) w = .ok v w) (h : wpList P ops Q rest (a.put o.dst v) w) : wpList P ops Q (o :: rest) a w :=
  wpList_plain hgd fun _ hK => by
    unfold Oper.wp execOp
    simp only [ho, resolve, hp, hr, Sem.run_bind, Sem.run_pure, Sem.run_map, Result.andThen_ok]
    exact hK _ _ h
theorem build_a (w : World) (x0 x1 x2 x3 x4 x5 x6 x7 x8 x9 x10 x11 x12 x13 x14 x15 x16 x17 x18 x19 x20 x21 x22 x23 x24 x25 : Int) : Sem.run Try.prog (Instr.build 53 #[(0, .int .i64 x0), (1, .int .u64 x1), (2, .int .u64 x2), (3, .int .u64 x3), (4, .int .u64 x4), (5, .int .u64 x5), (6, .int .u64 x6), (7, .int .u64 x7), (8, .int .i64 x8), (9, .int .i64 x9), (10, .int .u64 x10), (11, .int .u64 x11), (12, .int .u64 x12), (13, .int .u64 x13), (14, .int .u64 x14), (15, .int .u64 x15), (16, .int .u64 x16), (17, .int .u64 x17), (18, .int .u64 x18), (19, .int .u64 x19), (20, .int .u64 x20), (21, .int .u64 x21), (22, .int .u64 x22), (23, .int .u64 x23), (24, .int .u64 x24), (25, .int .u64 x25)]) w = .ok (.agg #[.int .i64 x0, .int .u64 x1, .int .u64 x2, .int .u64 x3, .int .u64 x4, .int .u64 x5, .int .u64 x6, .int .u64 x7, .int .i64 x8, .int .i64 x9, .int .u64 x10, .int .u64 x11, .int .u64 x12, .int .u64 x13, .int .u64 x14, .int .u64 x15, .int .u64 x16, .int .u64 x17, .int .u64 x18, .int .u64 x19, .int .u64 x20, .int .u64 x21, .int .u64 x22, .int .u64 x23, .int .u64 x24, .int .u64 x25]) w := by kernel_rfl
theorem build_b (w : World) (x0 x1 x2 x3 x4 x5 x6 x7 x8 x9 x10 x11 x12 x13 x14 x15 x16 x17 x18 x19 x20 x21 x22 x23 x24 x25 : Int) : Sem.run Try.prog (Instr.build 53 #[(0, .int .i64 x0), (1, .int .u64 x1), (3, .int .u64 x3), (2, .int .u64 x2), (4, .int .u64 x4), (5, .int .u64 x5), (6, .int .u64 x6), (7, .int .u64 x7), (8, .int .i64 x8), (9, .int .i64 x9), (10, .int .u64 x10), (11, .int .u64 x11), (12, .int .u64 x12), (13, .int .u64 x13), (14, .int .u64 x14), (15, .int .u64 x15), (16, .int .u64 x16), (17, .int .u64 x17), (18, .int .u64 x18), (19, .int .u64 x19), (20, .int .u64 x20), (21, .int .u64 x21), (22, .int .u64 x22), (23, .int .u64 x23), (24, .int .u64 x24), (25, .int .u64 x25)]) w = .ok (.agg #[.int .i64 x0, .int .u64 x1, .int .u64 x2, .int .u64 x3, .int .u64 x4, .int .u64 x5, .int .u64 x6, .int .u64 x7, .int .i64 x8, .int .i64 x9, .int .u64 x10, .int .u64 x11, .int .u64 x12, .int .u64 x13, .int .u64 x14, .int .u64 x15, .int .u64 x16, .int .u64 x17, .int .u64 x18, .int .u64 x19, .int .u64 x20, .int .u64 x21, .int .u64 x22, .int .u64 x23, .int .u64 x24, .int .u64 x25]) w := by kernel_rfl
theorem there_below {W w' : World} {b o n : Nat} (hB : Below W.heap.size W w') (hb : b < W.heap.size) (h : W.there b o n) : w'.there b o n := by
  intro j hj
  have := h j hj
  unfold World.cell? World.frozen? at this ⊢
  simp only [hB.block b hb]
  exact this
theorem there_new (w : World) (a : Array Value) (T : TypeId) : (w.alloc (.cells a T)).there w.heap.size 0 a.size := by
  intro j hj
  have hk : (w.alloc (.cells a T)).heap[w.heap.size]? = some (.cells a T) := by unfold World.alloc; exact Array.getElem?_push_size
  unfold World.cell? World.frozen?
  simp only [hk]
  simp [hj]
theorem build_z (w : World) : Sem.run Try.prog (Instr.build 53 #[]) w = .ok (.agg #[.int .i64 0, .int .u64 0, .int .u64 0, .int .u64 0, .int .u64 0, .int .u64 0, .int .u64 0, .int .u64 0, .int .i64 0, .int .i64 0, .int .u64 0, .int .u64 0, .int .u64 0, .int .u64 0, .int .u64 0, .int .u64 0, .int .u64 0, .int .u64 0, .int .u64 0, .int .u64 0, .int .u64 0, .int .u64 0, .int .u64 0, .int .u64 0, .int .u64 0, .int .u64 0]) w := by kernel_rfl
def zeroRules : Array Value := #[.int .i64 0, .int .u64 0, .int .u64 0, .int .u64 0, .int .u64 0, .int .u64 0, .int .u64 0, .int .u64 0, .int .i64 0, .int .i64 0, .int .u64 0, .int .u64 0, .int .u64 0, .int .u64 0, .int .u64 0, .int .u64 0, .int .u64 0, .int .u64 0, .int .u64 0, .int .u64 0, .int .u64 0, .int .u64 0, .int .u64 0, .int .u64 0, .int .u64 0, .int .u64 0]
end Go.Proofs.Ytbmlhdecnfplaaa
/- Layer 13: building and storing great structs. No condition but those told below. -/
namespace Go.Proofs.Ytbmlhdecnfplaaa
set_option linter.unusedVariables false
set_option linter.unusedSimpArgs false
open Go.RowKit

theorem below_setCells {base : Nat} {w : World} (b : Nat) : ∀ (vs : List Value) (o : Nat) (w' : World), Below base w w' → base ≤ b → Below base w (w'.setCells b o vs)
  | [], _, _, h, _ => h
  | v :: vs, o, w', h, hb => below_setCells b vs (o + 1) _ (h.setCell hb v) hb
theorem ret_cell {P : Program} {fn : Func} {p u : Tmp} {ty : TypeId} {R : Ending → World → Prop} {a : Act} {w : World} {b : Nat} {x : Value} {vs : List Value} {d : TypeDesc} (h : fn.results = #[.cell p ty, .tmp u]) (hp : a.tmps.getD p undef = .pointer (some ⟨b, 0, none⟩)) (hx : a.tmps.getD u undef = x) (hd : a.defers = [])
    (hl : w.rangeAt b 0 vs) (hu : P.underlying ty = some d) (hrow : d.isRow = true) (hi : (P.info? ty).map (·.size) = some vs.length) (hR : R (.returned (.tuple #[.agg vs.toArray, x])) w) : bodyPost P fn R .ret a w :=
  ⟨hd, _, by
    rw [results_cell_tmp h, hp, hx]
    simp only [asAddr, Sem.run_pure, Result.andThen_ok, run_loadVar_mid w b 0 ty vs d hl hu hrow hi], hR⟩

theorem fin_pick {f : Int} (hf : 0 ≤ f) {k0 k1 k2 k3 k4 k5 k6 k7 k8 k9 k10 k11 k12 k13 k14 k15 k16 k17 k18 k19 k20 k21 k22 : Nat} (h0 : PickIs f 0 [.int .i64 1, .int .u64 32000] k0) (h1 : PickIs f 0 [.int .i64 0, .int .u64 68, .int .i64 7, .int .u64 16] k1) (h2 : PickIs f 0 [.int .i64 9, .int .u64 2400] k2) (h3 : PickIs f 0 [.int .i64 9, .int .u64 1900] k3) (h4 : PickIs f 0 [.int .i64 14, .int .u64 2] k4) (h5 : PickIs f 0 [.int .i64 14, .int .u64 49152] k5) (h6 : PickIs f 0 [.int .i64 3, .int .u64 24576] k6) (h7 : PickIs f 0 [.int .i64 0, .int .u64 20, .int .i64 2, .int .u64 400, .int .i64 7, .int .u64 700, .int .i64 9, .int .u64 0] k7) (h8 : PickIs f 0 [.int .i64 0, .int .u64 20, .int .i64 2, .int .u64 700, .int .i64 9, .int .u64 0] k8) (h9 : PickIs f 0 [.int .i64 5, .int .u64 400, .int .i64 7, .int .u64 700, .int .i64 9, .int .u64 0] k9) (h10 : PickIs f 0 [.int .i64 0, .int .u64 50, .int .i64 2, .int .u64 200, .int .i64 7, .int .u64 800, .int .i64 9, .int .u64 0] k10) (h11 : PickIs f 0 [.int .i64 0, .int .u64 40, .int .i64 2, .int .u64 700, .int .i64 9, .int .u64 0] k11) (h12 : PickIs f 0 [.int .i64 9, .int .u64 2600] k12) (h13 : PickIs f 0 [.int .i64 9, .int .u64 2100] k13) (h14 : PickIs f 0 [.int .i64 9, .int .u64 100] k14) (h15 : PickIs f 0 [.int .i64 2, .int .u64 5000] k15) (h16 : PickIs f 0 [.int .i64 2, .int .u64 25000] k16) (h17 : PickIs f 0 [.int .i64 0, .int .u64 24000, .int .i64 10, .int .u64 0] k17) (h18 : PickIs f 0 [.int .i64 0, .int .u64 10, .int .i64 3, .int .u64 50] k18) (h19 : PickIs f 0 [.int .i64 0, .int .u64 15000, .int .i64 10, .int .u64 4800] k19) (h20 : PickIs f 0 [.int .i64 0, .int .u64 2, .int .i64 10, .int .u64 5] k20) (h21 : PickIs f 0 [.int .i64 0, .int .u64 5000000000000000000, .int .i64 4, .int .u64 3000000000000000000, .int .i64 5, .int .u64 2000000000000000000, .int .i64 13, .int .u64 0] k21) (h22 : PickIs f 0 [.int .i64 4, .int .u64 3000000, .int .i64 5, .int .u64 5000000, .int .i64 8, .int .u64 9000000, .int .i64 10, .int .u64 9700000, .int .i64 11, .int .u64 10700000, .int .i64 12, .int .u64 11400000, .int .i64 13, .int .u64 0] k22) :
    Value.agg (List.toArray [.int .i64 f, .int .u64 21000, .int .u64 (k0 : Int), .int .u64 4, .int .u64 (k1 : Int), .int .u64 (k2 : Int), .int .u64 (k3 : Int), .int .u64 (k4 : Int), .int .i64 (k5 : Int), .int .i64 (k6 : Int), .int .u64 (k7 : Int), .int .u64 (k8 : Int), .int .u64 (k9 : Int), .int .u64 (k10 : Int), .int .u64 (k11 : Int), .int .u64 (k12 : Int), .int .u64 (k13 : Int), .int .u64 (k14 : Int), .int .u64 (k15 : Int), .int .u64 (k16 : Int), .int .u64 (k17 : Int), .int .u64 (k18 : Int), .int .u64 (k19 : Int), .int .u64 (k20 : Int), .int .u64 (k21 : Int), .int .u64 (k22 : Int)]) = rulesV f := by
  have e0 : k0 = mTxCreate f := h0
  have e1 : k1 = mTxByte f := Eq.trans h1 (show pickM f (if ((0 : Nat) : Int) ≤ f then 68 else 0) [(7, 16)] = mTxByte f by rw [if_pos (by simpa using hf)]; rfl)
  have e2 : k2 = mTxAddress f := h2
  have e3 : k3 = mTxKey f := h3
  have e4 : k4 = mInitWord f := h4
  have e5 : k5 = mMaxInit f := h5
  have e6 : k6 = mMaxCode f := h6
  have e7 : k7 = mBalance f := Eq.trans h7 (show pickM f (if ((0 : Nat) : Int) ≤ f then 20 else 0) [(2, 400), (7, 700), (9, 0)] = mBalance f by rw [if_pos (by simpa using hf)]; rfl)
  have e8 : k8 = mExtSize f := Eq.trans h8 (show pickM f (if ((0 : Nat) : Int) ≤ f then 20 else 0) [(2, 700), (9, 0)] = mExtSize f by rw [if_pos (by simpa using hf)]; rfl)
  have e9 : k9 = mExtHash f := h9
  have e10 : k10 = mLoad f := Eq.trans h10 (show pickM f (if ((0 : Nat) : Int) ≤ f then 50 else 0) [(2, 200), (7, 800), (9, 0)] = mLoad f by rw [if_pos (by simpa using hf)]; rfl)
  have e11 : k11 = mCall f := Eq.trans h11 (show pickM f (if ((0 : Nat) : Int) ≤ f then 40 else 0) [(2, 700), (9, 0)] = mCall f by rw [if_pos (by simpa using hf)]; rfl)
  have e12 : k12 = mCold f := h12
  have e13 : k13 = mColdSlot f := h13
  have e14 : k14 = mWarm f := h14
  have e15 : k15 = mDestroy f := h15
  have e16 : k16 = mDestroyNew f := h16
  have e17 : k17 = mDestroyBack f := Eq.trans h17 (show pickM f (if ((0 : Nat) : Int) ≤ f then 24000 else 0) [(10, 0)] = mDestroyBack f by rw [if_pos (by simpa using hf)]; rfl)
  have e18 : k18 = mExpByte f := Eq.trans h18 (show pickM f (if ((0 : Nat) : Int) ≤ f then 10 else 0) [(3, 50)] = mExpByte f by rw [if_pos (by simpa using hf)]; rfl)
  have e19 : k19 = mStoreBack f := Eq.trans h19 (show pickM f (if ((0 : Nat) : Int) ≤ f then 15000 else 0) [(10, 4800)] = mStoreBack f by rw [if_pos (by simpa using hf)]; rfl)
  have e20 : k20 = mRefundPart f := Eq.trans h20 (show pickM f (if ((0 : Nat) : Int) ≤ f then 2 else 0) [(10, 5)] = mRefundPart f by rw [if_pos (by simpa using hf)]; rfl)
  have e21 : k21 = mReward f := Eq.trans h21 (show pickM f (if ((0 : Nat) : Int) ≤ f then 5000000000000000000 else 0) [(4, 3000000000000000000), (5, 2000000000000000000), (13, 0)] = mReward f by rw [if_pos (by simpa using hf)]; rfl)
  have e22 : k22 = mBomb f := h22
  rw [e0, e1, e2, e3, e4, e5, e6, e7, e8, e9, e10, e11, e12, e13, e14, e15, e16, e17, e18, e19, e20, e21, e22]
  rfl
theorem fin_from {f : Int} (hf : 0 ≤ f) {k0 k1 k2 k3 k4 k5 k6 k7 k8 k9 k10 k11 k12 k13 k14 k15 k16 k17 k18 k19 k20 k21 k22 : Nat} (h0 : PickIs f (Int.toNat 0) [.int .u64 1, .int .u64 32000] k0) (h1 : PickIs f (Int.toNat 68) [.int .u64 7, .int .u64 16] k1) (h2 : PickIs f (Int.toNat 0) [.int .u64 9, .int .u64 2400] k2) (h3 : PickIs f (Int.toNat 0) [.int .u64 9, .int .u64 1900] k3) (h4 : PickIs f (Int.toNat 0) [.int .u64 14, .int .u64 2] k4) (h5 : PickIs f (Int.toNat 0) [.int .u64 14, .int .u64 49152] k5) (h6 : PickIs f (Int.toNat 0) [.int .u64 3, .int .u64 24576] k6) (h7 : PickIs f (Int.toNat 20) [.int .u64 2, .int .u64 400, .int .u64 7, .int .u64 700, .int .u64 9, .int .u64 0] k7) (h8 : PickIs f (Int.toNat 20) [.int .u64 2, .int .u64 700, .int .u64 9, .int .u64 0] k8) (h9 : PickIs f (Int.toNat 0) [.int .u64 5, .int .u64 400, .int .u64 7, .int .u64 700, .int .u64 9, .int .u64 0] k9) (h10 : PickIs f (Int.toNat 50) [.int .u64 2, .int .u64 200, .int .u64 7, .int .u64 800, .int .u64 9, .int .u64 0] k10) (h11 : PickIs f (Int.toNat 40) [.int .u64 2, .int .u64 700, .int .u64 9, .int .u64 0] k11) (h12 : PickIs f (Int.toNat 0) [.int .u64 9, .int .u64 2600] k12) (h13 : PickIs f (Int.toNat 0) [.int .u64 9, .int .u64 2100] k13) (h14 : PickIs f (Int.toNat 0) [.int .u64 9, .int .u64 100] k14) (h15 : PickIs f (Int.toNat 0) [.int .u64 2, .int .u64 5000] k15) (h16 : PickIs f (Int.toNat 0) [.int .u64 2, .int .u64 25000] k16) (h17 : PickIs f (Int.toNat 24000) [.int .u64 10, .int .u64 0] k17) (h18 : PickIs f (Int.toNat 10) [.int .u64 3, .int .u64 50] k18) (h19 : PickIs f (Int.toNat 15000) [.int .u64 10, .int .u64 4800] k19) (h20 : PickIs f (Int.toNat 2) [.int .u64 10, .int .u64 5] k20) (h21 : PickIs f (Int.toNat 5000000000000000000) [.int .u64 4, .int .u64 3000000000000000000, .int .u64 5, .int .u64 2000000000000000000, .int .u64 13, .int .u64 0] k21) (h22 : PickIs f (Int.toNat 0) [.int .u64 4, .int .u64 3000000, .int .u64 5, .int .u64 5000000, .int .u64 8, .int .u64 9000000, .int .u64 10, .int .u64 9700000, .int .u64 11, .int .u64 10700000, .int .u64 12, .int .u64 11400000, .int .u64 13, .int .u64 0] k22) :
    Value.agg (List.toArray [.int .i64 f, .int .u64 21000, .int .u64 (k0 : Int), .int .u64 4, .int .u64 (k1 : Int), .int .u64 (k2 : Int), .int .u64 (k3 : Int), .int .u64 (k4 : Int), .int .i64 (k5 : Int), .int .i64 (k6 : Int), .int .u64 (k7 : Int), .int .u64 (k8 : Int), .int .u64 (k9 : Int), .int .u64 (k10 : Int), .int .u64 (k11 : Int), .int .u64 (k12 : Int), .int .u64 (k13 : Int), .int .u64 (k14 : Int), .int .u64 (k15 : Int), .int .u64 (k16 : Int), .int .u64 (k17 : Int), .int .u64 (k18 : Int), .int .u64 (k19 : Int), .int .u64 (k20 : Int), .int .u64 (k21 : Int), .int .u64 (k22 : Int)]) = rulesV f := by
  have e0 : k0 = mTxCreate f := h0
  have e1 : k1 = mTxByte f := h1
  have e2 : k2 = mTxAddress f := h2
  have e3 : k3 = mTxKey f := h3
  have e4 : k4 = mInitWord f := h4
  have e5 : k5 = mMaxInit f := h5
  have e6 : k6 = mMaxCode f := h6
  have e7 : k7 = mBalance f := h7
  have e8 : k8 = mExtSize f := h8
  have e9 : k9 = mExtHash f := h9
  have e10 : k10 = mLoad f := h10
  have e11 : k11 = mCall f := h11
  have e12 : k12 = mCold f := h12
  have e13 : k13 = mColdSlot f := h13
  have e14 : k14 = mWarm f := h14
  have e15 : k15 = mDestroy f := h15
  have e16 : k16 = mDestroyNew f := h16
  have e17 : k17 = mDestroyBack f := h17
  have e18 : k18 = mExpByte f := h18
  have e19 : k19 = mStoreBack f := h19
  have e20 : k20 = mRefundPart f := h20
  have e21 : k21 = mReward f := h21
  have e22 : k22 = mBomb f := h22
  rw [e0, e1, e2, e3, e4, e5, e6, e7, e8, e9, e10, e11, e12, e13, e14, e15, e16, e17, e18, e19, e20, e21, e22]
  rfl
end Go.Proofs.Ytbmlhdecnfplaaa
/- Layer 13: fork.Of inside the forks. No condition but those told below. -/
namespace Go.Proofs.Ytbmlhdecnfplaaa
set_option linter.unusedVariables false
set_option linter.unusedSimpArgs false
open Go.RowKit

set_option maxRecDepth 100000 in
set_option maxHeartbeats 4000000 in
theorem of_c (w : World) (f : Int) (hf : 0 ≤ f) (hf2 : f ≤ 15) : Calls Try.prog 23 #[.int .i64 f] w (Ret w fun v _ => v = .tuple #[rulesV f, .int .i64 0]) := by
  have hT : (w.alloc (.cells #[.int .i64 0, .int .u64 0, .int .u64 0, .int .u64 0, .int .u64 0, .int .u64 0, .int .u64 0, .int .u64 0, .int .i64 0, .int .i64 0, .int .u64 0, .int .u64 0, .int .u64 0, .int .u64 0, .int .u64 0, .int .u64 0, .int .u64 0, .int .u64 0, .int .u64 0, .int .u64 0, .int .u64 0, .int .u64 0, .int .u64 0, .int .u64 0, .int .u64 0, .int .u64 0] 53)).there w.heap.size 0 26 := there_new w _ _
  have HT := Lib.hid hT
  clear hT
  have hB := Below.refl (w.alloc (.cells #[.int .i64 0, .int .u64 0, .int .u64 0, .int .u64 0, .int .u64 0, .int .u64 0, .int .u64 0, .int .u64 0, .int .i64 0, .int .i64 0, .int .u64 0, .int .u64 0, .int .u64 0, .int .u64 0, .int .u64 0, .int .u64 0, .int .u64 0, .int .u64 0, .int .u64 0, .int .u64 0, .int .u64 0, .int .u64 0, .int .u64 0, .int .u64 0, .int .u64 0, .int .u64 0] 53)).heap.size (w.alloc (.cells #[.int .i64 0, .int .u64 0, .int .u64 0, .int .u64 0, .int .u64 0, .int .u64 0, .int .u64 0, .int .u64 0, .int .i64 0, .int .i64 0, .int .u64 0, .int .u64 0, .int .u64 0, .int .u64 0, .int .u64 0, .int .u64 0, .int .u64 0, .int .u64 0, .int .u64 0, .int .u64 0, .int .u64 0, .int .u64 0, .int .u64 0, .int .u64 0, .int .u64 0, .int .u64 0] 53))
  go_enter Try.func23, Try.ntmps23
  go_wp2_with (first
    | (go_at_call 55; refine (pickA _ _ f hB _ _ _ _ (by simp) (by rfl) (by rfl) (by decide) (by decide) (by decide)).mono ?_; clear hB; rintro e w' ⟨⟨k, rfl, hk, hlt⟩, hB⟩)
    | (with_reducible (refine wpl_build rfl 53 _ rfl ?vs ?v ?hp ?hr ?h)
       case hp => (simp only [List.map_toArray, List.map_cons, List.map_nil]; rfl)
       case hr => exact build_a ..
       with_reducible (refine wpList_store_mid rfl 53 _ _ rfl ?b ?o ?cells ?hx ?hy ?ht ?hi ?h1 ?h2)
       case hx => rfl
       case hy => rfl
       case ht => exact there_below hB (by simp) HT.out
       case hi => kernel_rfl
       case h1 => kernel_rfl))
  have hbb : Below w.heap.size w w' := ((Below.refl w.heap.size w).alloc (Nat.le_refl _) _).trans (hB.mono (by simp))
  refine ret_cell rfl rfl rfl rfl (World.rangeAt_setCells_same _ _ _ _ (there_below hB (by simp) HT.out)) Try.underlying53 rfl (by kernel_rfl) (ret_of (congrArg (fun x => Value.tuple #[x, .int .i64 0]) (fin_pick hf (by assumption) (by assumption) (by assumption) (by assumption) (by assumption) (by assumption) (by assumption) (by assumption) (by assumption) (by assumption) (by assumption) (by assumption) (by assumption) (by assumption) (by assumption) (by assumption) (by assumption) (by assumption) (by assumption) (by assumption) (by assumption) (by assumption) (by assumption))) (below_setCells _ _ _ _ hbb (Nat.le_refl _)))
end Go.Proofs.Ytbmlhdecnfplaaa
/- The numbers of a fork. No condition. -/
namespace Go.Proofs.Ytbmlhdecnfplaaa
set_option linter.unusedVariables false
set_option linter.unusedSimpArgs false
open Go Go.RowKit
theorem Fn.of_val {P : Program} {f : FuncId} {args : Array Value} {Lr : List Heaplet} {X : Value} (h : ∀ w, (∀ N ∈ Lr, N.le (whole w)) → Calls P f args w (Ret w fun v _ => v = X)) : Fn P f args [] Lr (fun v L => v = X ∧ L = []) :=
  Fn.of_ret h fun _ _ _ hv _ => ⟨[], ⟨hv, rfl⟩, fun N hN => absurd hN List.not_mem_nil, .nil⟩
/-- The numbers of a fork as a list. -/
def rulesL (f : Int) : List Value := [.int .i64 f, .int .u64 21000, .int .u64 (mTxCreate f : Int), .int .u64 4, .int .u64 (mTxByte f : Int), .int .u64 (mTxAddress f : Int), .int .u64 (mTxKey f : Int), .int .u64 (mInitWord f : Int), .int .i64 (mMaxInit f : Int), .int .i64 (mMaxCode f : Int), .int .u64 (mBalance f : Int), .int .u64 (mExtSize f : Int), .int .u64 (mExtHash f : Int), .int .u64 (mLoad f : Int), .int .u64 (mCall f : Int), .int .u64 (mCold f : Int), .int .u64 (mColdSlot f : Int), .int .u64 (mWarm f : Int), .int .u64 (mDestroy f : Int), .int .u64 (mDestroyNew f : Int), .int .u64 (mDestroyBack f : Int), .int .u64 (mExpByte f : Int), .int .u64 (mStoreBack f : Int), .int .u64 (mRefundPart f : Int), .int .u64 (mReward f : Int), .int .u64 (mBomb f : Int)]
theorem FOf_f (f : Int) (h : 0 ≤ f) (h2 : f ≤ 15) : Fn Try.prog 23 #[.int .i64 f] [] [] (fun v L => v = .tuple #[.agg (rulesL f).toArray, .int .i64 0] ∧ L = []) := Fn.of_val fun w _ => of_c w f h h2
end Go.Proofs.Ytbmlhdecnfplaaa
/- quarrykeep.Twin: bytes in new memory, at most so many. No condition. -/
namespace Go.Proofs.Ytbmlhdecnfplaaa
set_option linter.unusedVariables false
set_option linter.unusedSimpArgs false
open Go Go.RowKit
theorem KTwin_f {N : Heaplet} {ao : Option Addr} {n cap : Nat} {l : List UInt8} (h : RSl N 1 ao n cap (u8s l)) (m : Nat) (q : Int) (hq : q = (m : Int)) (hm : m ≤ 140737488351232) :
    Fn Try.prog 33 #[.slice ao n cap, .int .i64 q] [] [N] (fun v L => ∃ M a c, v = .slice a (l.take m).length c ∧ L = [M] ∧ Row M 5 1 a (l.take m).length c (u8s (l.take m))) := by
  have hlen := h.len8
  have hcap := h.cap63
  refine Fn.enter (vs := [.slice ao n cap, .int .i64 q]) Try.func33 rfl rfl rfl ?_
  intro E R hR
  have h := h.le (hR N (by simp))
  change At _ _ E [R] _
  refine At.seq fun K1 hk_1 => ?_
  refine At.region ?_
  refine op_assign (nxlf rfl) rfl rfl ?_
  refine At.opsNil ?_
  refine At.norm (hk_1 ?_)
  refine At.seq fun K2 hk_2 => ?_
  refine At.seq fun K3 hk_3 => ?_
  refine At.region ?_
  refine op_move (nxlf rfl) rfl rfl ?_
  refine op_lenS (nxlf rfl) se30 rfl rfl ?_
  refine op_move (nxlf rfl) rfl rfl ?_
  refine op_gtr (nxlf rfl) rfl rfl rfl ?_
  refine At.opsNil ?_
  refine At.norm (hk_3 ?_)
  refine At.condP rfl (fun c8 => ?_) (fun c8 => ?_)
  · refine At.region ?_
    refine op_move (nxlf rfl) rfl rfl ?_
    refine op_move (nxlf rfl) rfl rfl ?_
    refine op_slice0 (nxlf rfl) se30 rfl (.some rfl (show _ = (((m : Nat)) : Int) from by omega)) .none (by omega) (by omega) (by simp) rfl ?_
    have s11 := h.take8 (hi := m) (m := cap) (by omega) (by omega) (by omega)
    refine op_assign (nxlf rfl) rfl rfl ?_
    refine At.opsNil ?_
    refine At.norm (hk_2 ?_)
    refine At.seq fun K4 hk_4 => ?_
    refine At.region ?_
    refine op_lit (nxla rfl) Try.underlying30 ze5 sz5 .nil rfl rfl (by simp [Value.cells]) rfl rfl rfl (fun N12 a12 r12 => ?_)
    simp only [flatV, List.flatMap_cons, List.flatMap_nil, Value.cells, List.append_nil, List.cons_append, List.nil_append] at r12
    have s12 := r12.rsl
    refine op_move (nxlf rfl) rfl rfl ?_
    refine op_append (nxl rfl) Try.underlying30 Try.underlying30 te5 rfl rfl r12 (by assumption) (by first | exact mem0 | exact mem1 | exact mem2 | exact mem3 | exact mem4 | exact mem5 | exact mem6 | exact mem7 | exact mem8 | exact mem9) (by first | exact one_u8s _ | exact one_u64s _ | exact one_u32s _ | (intro u hu; simp at hu; subst hu; rfl)) (by omega) (by omega) sel0 rfl (fun N14 a14 p14 r14 => ?_)
    have s14 := r14.rsl
    refine op_assign (nxlf rfl) rfl rfl ?_
    refine At.opsNil ?_
    refine At.norm (hk_4 ?_)
    refine At.ret (?_)
    refine At.ret1 (L1 := [N14]) rfl (.tmp rfl .nil) (.refl _) (.refl _) ?_
    rw [List.nil_append, Nat.zero_add] at r14
    exact ⟨N14, a14, p14, by rw [List.length_take, hlen, Nat.min_eq_left (by omega), Nat.zero_add], rfl, by rw [List.length_take, hlen, Nat.min_eq_left (by omega)]; exact r14⟩
  · refine At.skip ?_
    refine At.norm (hk_2 ?_)
    refine At.seq fun K5 hk_5 => ?_
    refine At.region ?_
    refine op_lit (nxla rfl) Try.underlying30 ze5 sz5 .nil rfl rfl (by simp [Value.cells]) rfl rfl rfl (fun N12 a12 r12 => ?_)
    simp only [flatV, List.flatMap_cons, List.flatMap_nil, Value.cells, List.append_nil, List.cons_append, List.nil_append] at r12
    have s12 := r12.rsl
    refine op_move (nxlf rfl) rfl rfl ?_
    refine op_append (nxl rfl) Try.underlying30 Try.underlying30 te5 rfl rfl r12 (by assumption) (by first | exact mem0 | exact mem1 | exact mem2 | exact mem3 | exact mem4 | exact mem5 | exact mem6 | exact mem7 | exact mem8 | exact mem9) (by first | exact one_u8s _ | exact one_u64s _ | exact one_u32s _ | (intro u hu; simp at hu; subst hu; rfl)) (by omega) (by omega) sel0 rfl (fun N14 a14 p14 r14 => ?_)
    have s14 := r14.rsl
    refine op_assign (nxlf rfl) rfl rfl ?_
    refine At.opsNil ?_
    refine At.norm (hk_5 ?_)
    refine At.ret (?_)
    refine At.ret1 (L1 := [N14]) rfl (.tmp rfl .nil) (.refl _) (.refl _) ?_
    rw [List.nil_append, Nat.zero_add] at r14
    have e : l.take m = l := List.take_of_length_le (by omega)
    exact ⟨N14, a14, p14, by rw [e, hlen, Nat.zero_add], rfl, by rw [e, hlen]; exact r14⟩
theorem KTwin_all {N : Heaplet} {ao : Option Addr} {n cap : Nat} {l : List UInt8} (h : RSl N 1 ao n cap (u8s l)) (m : Nat) (q : Int) (hq : q = (m : Int)) (hm : m ≤ 140737488351232) (hl : l.length ≤ m) :
    Fn Try.prog 33 #[.slice ao n cap, .int .i64 q] [] [N] (fun v L => ∃ M a c, v = .slice a l.length c ∧ L = [M] ∧ Row M 5 1 a l.length c (u8s l)) :=
  (KTwin_f h m q hq hm).mono fun v L hp => by rwa [List.take_of_length_le hl] at hp
end Go.Proofs.Ytbmlhdecnfplaaa
/- quarrylaw21.cut: a header with not too much Extra; head.bomb and head.Difficulty at the document's run; wakes holds. No condition. -/
namespace Go.Proofs.Ytbmlhdecnfplaaa
set_option linter.unusedVariables false
set_option linter.unusedSimpArgs false
open Go Go.RowKit
section
variable {h : Hd} {ao : Option Addr} {n cap : Nat} {N : Heaplet} {l : List UInt8}
set_option maxRecDepth 100000 in
theorem cut_f (hk : h.Ok) (hA : RSl N 1 ao n cap (u8s l)) : Fn Try.prog 7 #[.agg (h.cells ao n cap).toArray] [] [N] (fun v L => ∃ M a k c, v = .agg (h.cells a k c).toArray ∧ L = [M]) := by
  refine Fn.enter (vs := [.agg (h.cells ao n cap).toArray]) Try.func7 rfl rfl rfl ?_
  intro E R hR
  have hA := hA.le (hR N (by simp))
  change At _ _ E [R] _
  refine At.seq fun K1 hk_1 => ?_
  refine At.region ?_
  refine op_box (nxla rfl) rfl rfl rfl (fun N1 b1 B1 => ?_)
  refine op_alloc (nxla rfl) zeHdr rfl (fun N2 b2 B2 => ?_)
  change Blk N1 b1 _ (h.cells ao n cap) at B1
  change Blk N2 b2 _ (zh.cells none 0 0) at B2
  refine At.opsNil ?_
  refine At.norm (hk_1 ?_)
  refine At.seq fun K2 hk_2 => ?_
  refine At.region ?_
  refine op_fieldAddr (nxlf rfl) fl33_13 rfl rfl ?_
  refine op_loadB (nxlf rfl) sc30 rfl B1 (by first | rfl | exact Hd.sl_at hk) mem1 rfl ?_
  refine op_callA (nxla rfl) (.cons rfl (.cons rfl .nil)) (KTwin_f hA 100 100 rfl (by decide)) Try.func33 rfl rfl (by simp) rfl ?_
  rintro v5 L5 ⟨N5, p5, c5, rfl, rfl, r5⟩
  change At _ _ _ [N5, N2, N1, R] _
  refine op_fieldAddr (nxlf rfl) fl33_13 rfl rfl ?_
  refine op_store (nxl rfl) sz30 rfl rfl rfl rfl rfl B1 (by rw [Hd.len hk]; simp) sel2 (fun N1 B1 => ?_)
  rw [show 0 + 445 = 445 from rfl, Hd.set hk] at B1
  refine At.opsNil ?_
  refine At.norm (hk_2 ?_)
  refine At.seq fun K3 hk_3 => ?_
  refine At.region ?_
  refine op_loadAggB (ds := h.cells p5 _ c5) (nxlf rfl) ag33 rfl B1 (Hd.all hk) (Hd.len hk) (by first | exact mem0 | exact mem1 | exact mem2 | exact mem3) rfl ?_
  refine op_store (nxl rfl) sz33 rfl rfl (cells_agg _) (Hd.len hk) Hd.ones B2 (by rw [Hd.len zh_ok, Hd.len hk]; exact Nat.le_refl _) sel2 (fun N2 B2 => ?_)
  rw [setL_whole (by rw [Hd.len hk, Hd.len zh_ok])] at B2
  refine At.opsNil ?_
  refine At.norm (hk_3 ?_)
  refine At.ret (?_)
  refine At.sub (L' := [N2, N5, R]) (.cons_cons _ (.cons _ (.cons_cons _ (.cons_cons _ (.slnil))))) ?_
  refine At.ret1 (L1 := [N5]) rfl (.cell rfl (res_agg (ds := h.cells p5 _ c5) ag33 B2 (Hd.all hk) (Hd.len hk) mem0) .nil) (.cons _ (.refl _)) (.refl _) ?_
  exact ⟨N5, p5, _, c5, rfl, rfl⟩
end
set_option maxRecDepth 100000 in
theorem FBomb0_f : Fn Try.prog 32 #[.int .u64 ((0 : UInt64).toNat : Int), .int .u64 ((0 : UInt64).toNat : Int)] [] [] (fun v L => v = .slice none 0 0 ∧ L = []) := by
  have e0 : (0 : UInt64).toNat = 0 := rfl
  have e1 : (1 : UInt64).toNat = 1 := rfl
  have e2 : (2 : UInt64).toNat = 2 := rfl
  have e5 : (100000 : UInt64).toNat = 100000 := rfl
  have l1 : (limbsOf 1).length ≤ 1 := limbs_le (V := 1) (k := 1) (by decide)
  have l0 : (limbsOf 0).length = 0 := limbs_nil.2 rfl
  refine Fn.enter (vs := [.int .u64 ((0 : UInt64).toNat : Int), .int .u64 ((0 : UInt64).toNat : Int)]) Try.func32 rfl rfl rfl ?_
  intro E R hR
  change At _ _ E [R] _
  refine At.seq fun K1 hk_1 => ?_
  refine At.region ?_
  refine op_assign (nxlf rfl) rfl rfl ?_
  refine At.opsNil ?_
  refine At.norm (hk_1 ?_)
  refine At.seq fun K2 hk_2 => ?_
  refine At.region ?_
  refine op_move (nxlf rfl) rfl rfl ?_
  refine op_callA (nxla rfl) (.cons rfl .nil) (small_f 0) Try.func27 rfl rfl (by simp) rfl ?_
  rintro v10 L10 ⟨N10, p10, c10, rfl, rfl, s10⟩
  change At _ _ _ [N10, R] _
  refine op_callA (nxla rfl) (.cons rfl .nil) (small_f 1) Try.func27 rfl rfl (by simp) rfl ?_
  rintro v11 L11 ⟨N11, p11, c11, rfl, rfl, s11⟩
  change At _ _ _ [N11, N10, R] _
  refine op_callA (nxla rfl) (.cons rfl (.cons rfl .nil)) (Add_f s10 s11 (by omega) (by omega)) Try.func29 rfl rfl (by simp) rfl ?_
  rintro v12 L12 ⟨N12, p12, c12, rfl, rfl, s12⟩
  change At _ _ _ [N12, N11, N10, R] _
  rw [v64_x1, v64_x1, e0, e1, Nat.zero_add] at s12 ⊢
  refine op_assign (nxlf rfl) rfl rfl ?_
  refine At.opsNil ?_
  refine At.norm (hk_2 ?_)
  refine At.seq fun K3 hk_3 => ?_
  refine At.seq fun K4 hk_4 => ?_
  refine At.region ?_
  refine op_move (nxlf rfl) rfl rfl ?_
  refine op_move (nxlf rfl) rfl rfl ?_
  refine op_callA (nxla rfl) (.cons rfl .nil) (small_f 0) Try.func27 rfl rfl (by simp) rfl ?_
  rintro v15 L15 ⟨N15, p15, c15, rfl, rfl, s15⟩
  change At _ _ _ [N15, N12, N11, N10, R] _
  refine op_callA (nxla rfl) (.cons rfl (.cons rfl .nil)) (Cmp_f s12 s15 (by omega) (by omega)) Try.func30 rfl rfl (by simp) rfl ?_
  rintro v16 L16 ⟨rfl, rfl⟩
  change At _ _ _ [N15, N12, N11, N10, R] _
  rw [v64_limbsOf, v64_x1, e0, show cmpN 1 0 = 1 from rfl]
  refine op_leq (nxlf rfl) rfl rfl rfl ?_
  refine At.opsNil ?_
  refine At.norm (hk_4 ?_)
  refine At.condF rfl ?_
  refine At.skip ?_
  refine At.norm (hk_3 ?_)
  refine At.seq fun K5 hk_5 => ?_
  refine At.region ?_
  refine op_move (nxlf rfl) rfl rfl ?_
  refine op_move (nxlf rfl) rfl rfl ?_
  refine op_callA (nxla rfl) (.cons rfl .nil) (small_f 0) Try.func27 rfl rfl (by simp) rfl ?_
  rintro v20 L20 ⟨N20, p20, c20, rfl, rfl, s20⟩
  change At _ _ _ [N20, N15, N12, N11, N10, R] _
  refine op_callA (nxla rfl) (.cons rfl (.cons rfl .nil)) (Sub_f s12 s20 (by omega) (by omega) (by rw [v64_limbsOf, v64_x1, e0]; decide)) Try.func28 rfl rfl (by simp) rfl ?_
  rintro v21 L21 ⟨N21, p21, c21, rfl, rfl, s21⟩
  change At _ _ _ [N21, N20, N15, N12, N11, N10, R] _
  rw [v64_limbsOf, v64_x1, e0, Nat.sub_zero] at s21 ⊢
  refine op_callA (nxla rfl) (.cons rfl (.cons rfl .nil)) (over_f s21 (by omega) 100000 (by decide)) Try.func26 rfl rfl (by simp) rfl ?_
  rintro v22 L22 ⟨N22, p22, c22, rfl, rfl, s22⟩
  change At _ _ _ [N22, N21, N20, N15, N12, N11, N10, R] _
  rw [v64_limbsOf, e5, show 1 / 100000 = 0 from rfl] at s22 ⊢
  refine op_callA (nxla rfl) (.cons rfl .nil) (Trim_f s22) Try.func44 rfl rfl (by simp) rfl ?_
  rintro v23 L23 ⟨rfl, rfl, t23, l23⟩
  change At _ _ _ [N22, N21, N20, N15, N12, N11, N10, R] _
  have s23 := s22.trimmed t23 l23
  rw [v64_limbsOf] at s23 ⊢
  refine op_assign (nxlf rfl) rfl rfl ?_
  refine At.opsNil ?_
  refine At.norm (hk_5 ?_)
  refine At.seq fun K6 hk_6 => ?_
  refine At.seq fun K7 hk_7 => ?_
  refine At.region ?_
  refine op_move (nxlf rfl) rfl rfl ?_
  refine op_callA (nxla rfl) (.cons rfl .nil) (small_f 2) Try.func27 rfl rfl (by simp) rfl ?_
  rintro v25 L25 ⟨N25, p25, c25, rfl, rfl, s25⟩
  change At _ _ _ [N25, N22, N21, N20, N15, N12, N11, N10, R] _
  refine op_callA (nxla rfl) (.cons rfl (.cons rfl .nil)) (Cmp_f s23 s25 (by omega) (by omega)) Try.func30 rfl rfl (by simp) rfl ?_
  rintro v26 L26 ⟨rfl, rfl⟩
  change At _ _ _ [N25, N22, N21, N20, N15, N12, N11, N10, R] _
  rw [v64_limbsOf, v64_x1, e2, show cmpN 0 2 = -1 from rfl]
  refine op_lss (nxlf rfl) rfl rfl rfl ?_
  refine At.opsNil ?_
  refine At.norm (hk_7 ?_)
  refine At.condT rfl ?_
  refine At.seq fun K8 hk_8 => ?_
  refine At.region ?_
  refine op_assign (nxlf rfl) rfl rfl ?_
  refine At.opsNil ?_
  refine At.norm (hk_8 ?_)
  refine At.ret (At.thenRet (?_))
  refine At.sub (L' := [R]) (.cons _ (.cons _ (.cons _ (.cons _ (.cons _ (.cons _ (.cons _ (.cons _ (.cons_cons _ (.slnil)))))))))) ?_
  refine At.ret1 (L1 := []) rfl (.tmp rfl .nil) (.refl _) (.refl _) ?_
  exact ⟨rfl, rfl⟩
theorem WW_small {n : Nat} (h : n < 18446744073709551616) : n < WW := Nat.lt_of_lt_of_le h (by decide +kernel)
set_option maxRecDepth 100000 in
set_option maxHeartbeats 2000000 in
theorem FDiff_f : Fn Try.prog 6 #[.int .i64 0, .agg (rh.cells none 0 0).toArray, .int .u64 ((112 : UInt64).toNat : Int)] [] [] (fun v L => v = .tuple #[wo 1000488, .bool true] ∧ L = []) := by
  have hd : v64 (wl rh.df) = 1000000 := v64_wl_lt (WW_small (by decide))
  have e1 : (1 : UInt64).toNat = 1 := rfl
  have e3 : (131072 : UInt64).toNat = 131072 := rfl
  have l4 : (limbsOf 488).length ≤ 1 := limbs_le (V := 488) (k := 10) (by decide)
  have l5 : (limbsOf 1000488).length ≤ 1 := limbs_le (V := 1000488) (k := 20) (by decide)
  refine Fn.enter (vs := [.int .i64 0, .agg (rh.cells none 0 0).toArray, .int .u64 ((112 : UInt64).toNat : Int)]) Try.func6 rfl rfl rfl ?_
  intro E R hR
  change At _ _ E [R] _
  refine At.seq fun K1 hk_1 => ?_
  refine At.region ?_
  refine op_box (nxla rfl) rfl rfl rfl (fun N4 b4 B4 => ?_)
  refine op_alloc (nxla rfl) ze29 rfl (fun N6 b6 B6 => ?_)
  change Blk N6 b6 _ [.int .u64 0, .int .u64 0, .int .u64 0, .int .u64 0] at B6
  change Blk N4 b4 _ (rh.cells none 0 0) at B4
  refine op_assign (nxlf rfl) rfl rfl ?_
  refine At.opsNil ?_
  refine At.norm (hk_1 ?_)
  refine At.seq fun K2 hk_2 => ?_
  refine At.region ?_
  refine op_move (nxlf rfl) rfl rfl ?_
  refine op_callA (nxla rfl) (.cons rfl .nil) (FOf_f 0 (by decide) (by decide)) Try.func23 rfl rfl (by simp) rfl ?_
  rintro v17 L17 ⟨rfl, rfl⟩
  change At _ _ _ [N6, N4, R] _
  refine op_move (nxlf rfl) rfl rfl ?_
  refine op_extract (nxlf rfl) rfl rfl rfl ?_
  refine op_extract (nxlf rfl) rfl rfl rfl ?_
  refine op_alloc (nxla rfl) ze53 rfl (fun N8 b8 B8 => ?_)
  change Blk N8 b8 _ [.int .i64 0, .int .u64 0, .int .u64 0, .int .u64 0, .int .u64 0, .int .u64 0, .int .u64 0, .int .u64 0, .int .i64 0, .int .i64 0, .int .u64 0, .int .u64 0, .int .u64 0, .int .u64 0, .int .u64 0, .int .u64 0, .int .u64 0, .int .u64 0, .int .u64 0, .int .u64 0, .int .u64 0, .int .u64 0, .int .u64 0, .int .u64 0, .int .u64 0, .int .u64 0] at B8
  refine op_store (nxl rfl) sz53 rfl rfl rfl rfl rfl B8 (by exact (by decide : 26 ≤ 26)) sel0 (fun N8 B8 => ?_)
  change Blk N8 b8 _ (rulesL 0) at B8
  refine op_assign (nxlf rfl) rfl rfl ?_
  refine At.opsNil ?_
  refine At.norm (hk_2 ?_)
  refine At.seq fun K3 hk_3 => ?_
  refine At.seq fun K4 hk_4 => ?_
  refine At.region ?_
  refine op_move (nxlf rfl) rfl rfl ?_
  refine op_neq (nxlf rfl) rfl rfl rfl ?_
  refine op_move (nxlf rfl) rfl rfl ?_
  refine op_move (nxgf rfl rfl rfl rfl) rfl rfl ?_
  refine op_geq (nxgf rfl rfl rfl rfl) rfl rfl rfl ?_
  refine op_pickF (nxlf rfl) rfl rfl rfl ?_
  refine op_move (nxlf rfl) rfl rfl ?_
  refine op_move (nxgf rfl rfl rfl rfl) rfl rfl ?_
  refine op_fieldAddr (nxgf rfl rfl rfl rfl) fl33_12 rfl rfl ?_
  refine op_loadB (nxgf rfl rfl rfl rfl) sc27 rfl B4 (by first | rfl | exact Hd.ti_at rh_ok | exact Hd.nu_at rh_ok) mem2 rfl ?_
  refine op_leq (nxgf rfl rfl rfl rfl) rfl rfl rfl ?_
  refine op_pickF (nxlf rfl) rfl rfl rfl ?_
  refine At.opsNil ?_
  refine At.norm (hk_4 ?_)
  refine At.condF rfl ?_
  refine At.skip ?_
  refine At.norm (hk_3 ?_)
  refine At.seq fun K5 hk_5 => ?_
  refine At.region ?_
  refine op_move (nxlf rfl) rfl rfl ?_
  refine op_fieldAddr (nxlf rfl) fl33_12 rfl rfl ?_
  refine op_loadB (nxlf rfl) sc27 rfl B4 (by first | rfl | exact Hd.ti_at rh_ok | exact Hd.nu_at rh_ok) mem2 rfl ?_
  refine op_subU (nxlf rfl) rfl rfl rfl ?_
  refine op_assign (nxlf rfl) rfl rfl ?_
  refine op_assign (nxlf rfl) rfl rfl ?_
  refine op_assign (nxlf rfl) rfl rfl ?_
  refine At.opsNil ?_
  refine At.norm (hk_5 ?_)
  refine At.seq fun K6 hk_6 => ?_
  refine At.seq fun K7 hk_7 => ?_
  refine At.region ?_
  refine op_move (nxlf rfl) rfl rfl ?_
  refine op_eql (nxlf rfl) rfl rfl rfl ?_
  refine At.opsNil ?_
  refine At.norm (hk_7 ?_)
  refine At.condT rfl ?_
  refine At.region ?_
  refine op_move (nxlf rfl) rfl rfl ?_
  refine op_geq (nxlf rfl) rfl rfl rfl ?_
  refine op_assign (nxlf rfl) rfl rfl ?_
  refine At.opsNil ?_
  refine At.norm (hk_6 ?_)
  refine At.seq fun K8 hk_8 => ?_
  refine At.region ?_
  refine op_fieldAddr (nxlf rfl) fl33_8 rfl rfl ?_
  have sd := Hd.slice_df B4 rh_ok
  refine op_sliceA (nxlf rfl) ae29 rfl .none .none .none (by omega) (by omega) (by omega) (by simp) rfl ?_
  refine op_assign (nxlf rfl) rfl rfl ?_
  refine At.opsNil ?_
  refine At.norm (hk_8 ?_)
  refine At.seq fun K9 hk_9 => ?_
  refine At.region ?_
  refine op_move (nxlf rfl) rfl rfl ?_
  refine op_callA (nxla rfl) (.cons rfl (.cons rfl .nil)) (over_f sd (by decide) 2048 (by decide)) Try.func26 rfl rfl (by simp) rfl ?_
  rintro v51 L51 ⟨N51, p51, c51, rfl, rfl, s51⟩
  change At _ _ _ [N51, N8, N6, N4, R] _
  rw [hd, show 1000000 / (2048 : UInt64).toNat = 488 from rfl] at s51 ⊢
  refine op_move (nxlf rfl) rfl rfl ?_
  refine op_callA (nxla rfl) (.cons rfl .nil) (small_f 1) Try.func27 rfl rfl (by simp) rfl ?_
  rintro v53 L53 ⟨N53, p53, c53, rfl, rfl, s53⟩
  change At _ _ _ [N53, N51, N8, N6, N4, R] _
  refine op_callA (nxla rfl) (.cons rfl (.cons rfl .nil)) (Mul_f s51 s53 (by omega) (by omega)) Try.func25 rfl rfl (by simp) rfl ?_
  rintro v54 L54 ⟨N54, p54, c54, rfl, rfl, s54⟩
  change At _ _ _ [N54, N53, N51, N8, N6, N4, R] _
  rw [v64_limbsOf, v64_x1, e1, Nat.mul_one] at s54 ⊢
  refine op_assign (nxlf rfl) rfl rfl ?_
  refine At.opsNil ?_
  refine At.norm (hk_9 ?_)
  refine At.seq fun K10 hk_10 => ?_
  refine At.seq fun K11 hk_11 => ?_
  refine At.region ?_
  refine op_move (nxlf rfl) rfl rfl ?_
  refine At.opsNil ?_
  refine At.norm (hk_11 ?_)
  refine At.condF rfl ?_
  refine At.region ?_
  refine op_move (nxlf rfl) rfl rfl ?_
  refine op_move (nxlf rfl) rfl rfl ?_
  refine op_callA (nxla rfl) (.cons rfl (.cons rfl .nil)) (Add_f sd s54 (by decide) (by omega)) Try.func29 rfl rfl (by simp) rfl ?_
  rintro v61 L61 ⟨N61, p61, c61, rfl, rfl, s61⟩
  change At _ _ _ [N61, N54, N53, N51, N8, N6, N4, R] _
  rw [hd, v64_limbsOf, show 1000000 + 488 = 1000488 from rfl] at s61 ⊢
  refine op_assign (nxlf rfl) rfl rfl ?_
  refine At.opsNil ?_
  refine At.norm (hk_10 ?_)
  refine At.seq fun K12 hk_12 => ?_
  refine At.seq fun K13 hk_13 => ?_
  refine At.region ?_
  refine op_move (nxlf rfl) rfl rfl ?_
  refine op_callA (nxla rfl) (.cons rfl .nil) (small_f 131072) Try.func27 rfl rfl (by simp) rfl ?_
  rintro v63 L63 ⟨N63, p63, c63, rfl, rfl, s63⟩
  change At _ _ _ [N63, N61, N54, N53, N51, N8, N6, N4, R] _
  refine op_callA (nxla rfl) (.cons rfl (.cons rfl .nil)) (Cmp_f s61 s63 (by omega) (by omega)) Try.func30 rfl rfl (by simp) rfl ?_
  rintro v64 L64 ⟨rfl, rfl⟩
  change At _ _ _ [N63, N61, N54, N53, N51, N8, N6, N4, R] _
  rw [v64_limbsOf, v64_x1, e3, show cmpN 1000488 131072 = 1 from rfl]
  refine op_lss (nxlf rfl) rfl rfl rfl ?_
  refine At.opsNil ?_
  refine At.norm (hk_13 ?_)
  refine At.condF rfl ?_
  refine At.skip ?_
  refine At.norm (hk_12 ?_)
  refine At.seq fun K14 hk_14 => ?_
  refine At.region ?_
  refine op_move (nxlf rfl) rfl rfl ?_
  refine op_fieldAddr (nxlf rfl) fl53_25 rfl rfl ?_
  refine op_loadB (nxlf rfl) sc27 rfl B8 (by first | rfl | exact Hd.ti_at rh_ok | exact Hd.nu_at rh_ok) mem5 rfl ?_
  refine op_fieldAddr (nxlf rfl) fl33_9 rfl rfl ?_
  refine op_loadB (nxlf rfl) sc27 rfl B4 (by first | rfl | exact Hd.ti_at rh_ok | exact Hd.nu_at rh_ok) mem7 rfl ?_
  refine op_callA (nxla rfl) (.cons rfl (.cons rfl .nil)) (FBomb0_f) Try.func32 rfl rfl (by simp) rfl ?_
  rintro v72 L72 ⟨rfl, rfl⟩
  change At _ _ _ [N63, N61, N54, N53, N51, N8, N6, N4, R] _
  have s0 : RSl R 1 none 0 0 (u64s ([] : List UInt64)) := RSl.nil R 1
  refine op_callA (nxla rfl) (.cons rfl (.cons rfl .nil)) (Add_f s61 s0 (by omega) (by omega)) Try.func29 rfl rfl (by simp) rfl ?_
  rintro v73 L73 ⟨N73, p73, c73, rfl, rfl, s73⟩
  change At _ _ _ [N73, N63, N61, N54, N53, N51, N8, N6, N4, R] _
  rw [v64_limbsOf, show v64 [] = 0 from rfl, Nat.add_zero] at s73 ⊢
  refine op_callA (nxla rfl) (.cons rfl .nil) (fit_f s73 (by omega)) Try.func31 rfl rfl (by simp) rfl ?_
  rintro v74 L74 ⟨rfl, rfl⟩
  change At _ _ _ [N73, N63, N61, N54, N53, N51, N8, N6, N4, R] _
  rw [v64_limbsOf, fitV_y (WW_small (by decide)), decide_eq_true (WW_small (by decide))]
  refine op_extract (nxlf rfl) rfl rfl rfl ?_
  refine op_extract (nxlf rfl) rfl rfl rfl ?_
  refine op_store (nxl rfl) sz29 rfl rfl rfl rfl rfl B6 (by simp) sel7 (fun N6 B6 => ?_)
  rw [setL_whole (by simp)] at B6
  refine op_assign (nxlf rfl) rfl rfl ?_
  refine At.opsNil ?_
  refine At.norm (hk_14 ?_)
  refine At.ret (?_)
  refine At.sub (L' := [N6, R]) (.cons_cons _ (.cons _ (.cons _ (.cons _ (.cons _ (.cons _ (.cons _ (.cons _ (.cons _ (.cons_cons _ (.slnil))))))))))) ?_
  refine At.retN (L1 := []) rfl (.cell rfl (res_agg (ds := u64s (wl 1000488)) ag29 B6 (by first | (rw [List.drop_zero, List.take_of_length_le (by first | (simp; done) | (simp; omega))]; done) | rfl) (by first | (simp; done) | (simp; omega)) mem0) (.tmp rfl .nil)) rfl (.cons _ (.refl _)) (.refl _) ?_
  exact ⟨rfl, rfl⟩
set_option maxRecDepth 100000 in
set_option maxHeartbeats 2000000 in
theorem Hwakes_f : Fn Try.prog 10 #[] [] [] (fun v L => v = .bool true ∧ L = []) := by
  have e8 : wl 1000488 = [1000488, 0, 0, 0] := wl_small 1000488
  have e1 : wl 1 = [1, 0, 0, 0] := wl_small 1
  have e19 : wl 19 = [19, 0, 0, 0] := wl_small 19
  refine Fn.enter (vs := []) Try.func10 rfl rfl rfl ?_
  intro E R hR
  change At _ _ E [R] _
  refine At.seq fun K1 hk_1 => ?_
  refine At.region ?_
  refine op_assign (nxlf rfl) rfl rfl ?_
  refine At.opsNil ?_
  refine At.norm (hk_1 ?_)
  refine At.seq fun K2 hk_2 => ?_
  refine At.region ?_
  refine op_buildA (out := [_, .int .u64 0, .int .u64 0, .int .u64 0]) (nxlf rfl) ze29 ae29 (.cons rfl .nil) rfl rfl ?_
  refine op_build (out := rh.cells none 0 0) (nxlf rfl) zeHdr pl33 (.cons rfl (.cons rfl .nil)) (by kernel_rfl) rfl ?_
  refine op_callA (nxla rfl) (.cons rfl (.cons rfl (.cons rfl .nil))) (FDiff_f) Try.func6 rfl rfl (by simp) rfl ?_
  rintro v6 L6 ⟨rfl, rfl⟩
  change At _ _ _ [R] _
  refine op_move (nxlf rfl) rfl rfl ?_
  refine op_extract (nxlf rfl) rfl rfl rfl ?_
  refine op_extract (nxlf rfl) rfl rfl rfl ?_
  refine op_alloc (nxla rfl) ze29 rfl (fun N1 b1 B1 => ?_)
  change Blk N1 b1 _ [.int .u64 0, .int .u64 0, .int .u64 0, .int .u64 0] at B1
  refine op_store (nxl rfl) sz29 rfl rfl rfl rfl rfl B1 (by simp) sel0 (fun N1 B1 => ?_)
  rw [setL_whole (by simp)] at B1
  refine op_assign (nxlf rfl) rfl rfl ?_
  refine At.opsNil ?_
  refine At.norm (hk_2 ?_)
  refine At.seq fun K3 hk_3 => ?_
  refine At.region ?_
  refine op_move (nxlf rfl) rfl rfl ?_
  refine op_move (nxlf rfl) rfl rfl ?_
  refine op_loadAggB (ds := u64s (wl 1000488)) (nxgf rfl rfl rfl rfl) ag29 rfl B1 (by first | (rw [List.drop_zero, List.take_of_length_le (by first | (simp; done) | (simp; omega))]; done) | rfl) (by first | (simp; done) | (simp; omega)) mem0 rfl ?_
  refine op_buildA (out := [_, .int .u64 0, .int .u64 0, .int .u64 0]) (nxgf rfl rfl rfl rfl) ze29 ae29 (.cons rfl .nil) rfl rfl ?_
  refine op_eqW (a := wl 1000488) (b := [1000488, 0, 0, 0]) (nxgf rfl rfl rfl rfl) ae29 Try.underlying27 (by kernel_rfl) rfl rfl rfl rfl rfl ?_
  refine op_pickT (nxlf rfl) rfl rfl rfl ?_
  refine op_move (nxlf rfl) rfl rfl ?_
  refine At.partP (d := 15) rfl (fun g15 => ?_) (fun g15 => ?_)
  · refine op_callA (nxga rfl rfl rfl rfl) (.cons rfl .nil) (FBlobFee_f 0) Try.func11 rfl rfl (by simp) rfl ?_
    rintro v16 L16 ⟨rfl, rfl⟩
    change At _ _ _ [N1, R] _
    rw [show (0 : UInt64).toNat = 0 from rfl, blobF_0]
    refine op_buildA (out := [_, .int .u64 0, .int .u64 0, .int .u64 0]) (nxgf rfl rfl rfl rfl) ze29 ae29 (.cons rfl .nil) rfl rfl ?_
    refine op_eqW (a := wl 1) (b := [1, 0, 0, 0]) (nxgf rfl rfl rfl rfl) ae29 Try.underlying27 (by kernel_rfl) rfl rfl rfl rfl rfl ?_
    refine op_pickT (nxlf rfl) rfl rfl rfl ?_
    refine op_move (nxlf rfl) rfl rfl ?_
    refine At.partP (d := 20) rfl (fun g20 => ?_) (fun g20 => ?_)
    · refine op_callA (nxga rfl rfl rfl rfl) (.cons rfl .nil) (FBlobFee_f 10000000) Try.func11 rfl rfl (by simp) rfl ?_
      rintro v21 L21 ⟨rfl, rfl⟩
      change At _ _ _ [N1, R] _
      rw [show (10000000 : UInt64).toNat = 10000000 from rfl, blobF_1]
      refine op_buildA (out := [_, .int .u64 0, .int .u64 0, .int .u64 0]) (nxgf rfl rfl rfl rfl) ze29 ae29 (.cons rfl .nil) rfl rfl ?_
      refine op_eqW (a := wl 19) (b := [19, 0, 0, 0]) (nxgf rfl rfl rfl rfl) ae29 Try.underlying27 (by kernel_rfl) rfl rfl rfl rfl rfl ?_
      refine op_pickT (nxlf rfl) rfl rfl rfl ?_
      refine op_assign (nxlf rfl) rfl rfl ?_
      refine At.opsNil ?_
      refine At.norm (hk_3 ?_)
      refine At.ret (?_)
      refine At.sub (L' := [R]) (.cons _ (.cons_cons _ (.slnil))) ?_
      refine At.ret1 (L1 := []) rfl (.tmp rfl .nil) (.refl _) (.refl _) ?_
      exact ⟨by rw [decide_eq_true e19], rfl⟩
    · exact absurd e1 g20
  · exact absurd e8 g15
end Go.Proofs.Ytbmlhdecnfplaaa
