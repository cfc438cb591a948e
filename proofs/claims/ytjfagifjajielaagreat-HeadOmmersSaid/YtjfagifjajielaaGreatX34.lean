/- Several texts in one: see the remarks ahead of each part. No condition but those told there. -/
import Derived.Test.YtjfagifjajielaaGreatProg
import Derived.Test.YtjfagifjajielaaGreatX1
import Derived.WalkKit
import Derived.WalkSpells
import Derived.WalkLawsBesides
import Derived.Lib.Hide
import Derived.Deep.DeepCutAuto
import Derived.Deep.MidRow
/- Layer 13: fork.since and helps for the walks over forks. No condition but those told below. -/
namespace Go.Proofs.YtjfagifjajielaaGreat
set_option linter.unusedVariables false
set_option linter.unusedSimpArgs false
open Go.RowKit

theorem ret_of {w w' : World} {R : Value → World → Prop} {v : Value} (hR : R v w') (hb : Below w.heap.size w w') : Ret w R (.returned v) w' := ⟨v, rfl, hR, hb⟩

/-- The fork from which on there is an operation; 99: there is none. -/
def firstM (op : Int) : Int :=
  if (0 ≤ op ∧ op ≤ 11) ∨ (16 ≤ op ∧ op ≤ 26) ∨ op = 32 ∨ (48 ≤ op ∧ op ≤ 60) ∨ (64 ≤ op ∧ op ≤ 69) ∨ (80 ≤ op ∧ op ≤ 91) ∨ (96 ≤ op ∧ op ≤ 164) ∨ (240 ≤ op ∧ op ≤ 243) ∨ op = 255 then 0
  else if op = 244 then 1
  else if op = 61 ∨ op = 62 ∨ op = 250 ∨ op = 253 then 4
  else if (27 ≤ op ∧ op ≤ 29) ∨ op = 63 ∨ op = 245 then 5
  else if op = 70 ∨ op = 71 then 7
  else if op = 72 then 10
  else if op = 95 then 14
  else if op = 73 ∨ op = 74 ∨ (92 ≤ op ∧ op ≤ 94) then 15
  else 99
def sinceM (op : Int) : Int := if firstM op = 99 then -1 else firstM op

def opM (f op : Int) : Bool := decide (0 ≤ f ∧ f ≤ 15 ∧ firstM op ≤ f)
end Go.Proofs.YtjfagifjajielaaGreat
/- Layer 13: fork.pick and the reference from. No condition but those told below. -/
namespace Go.Proofs.YtjfagifjajielaaGreat
set_option linter.unusedVariables false
set_option linter.unusedSimpArgs false
open Go.RowKit

/-- The last of the values whose fork has come. -/
def pickM (f : Int) (v : Nat) : List (Nat × Nat) → Nat
  | [] => v
  | x :: xs => pickM f (if (x.1 : Int) ≤ f then x.2 else v) xs
theorem pickM_append (f : Int) (v : Nat) (a b : List (Nat × Nat)) : pickM f v (a ++ b) = pickM f (pickM f v a) b := by
  induction a generalizing v with
  | nil => rfl
  | cons x xs ih => exact ih _
theorem pickM_take (f : Int) (v : Nat) {l : List (Nat × Nat)} {k : Nat} (h : k < l.length) : pickM f v (l.take (k + 1)) = if (l[k].1 : Int) ≤ f then l[k].2 else pickM f v (l.take k) := by
  rw [List.take_succ_eq_append_getElem h, pickM_append]; rfl

/-- The block holds the pairs. -/
def Steps (w : World) (k1 k2 : IntKind) (b : Nat) (l : List (Nat × Nat)) : Prop := ∀ i (h : i < l.length), w.cell? ⟨b, i * 2, none⟩ = some (.int k1 (l[i].1 : Int)) ∧ w.cell? ⟨b, i * 2 + 1, none⟩ = some (.int k2 (l[i].2 : Int))

set_option maxRecDepth 100000 in
set_option maxHeartbeats 4000000 in
theorem pick_c (w : World) (f : Int) (b : Nat) (l : List (Nat × Nat)) (cap : Nat) (hl : l.length ≤ 100) (hl0 : 0 < l.length) (hs : Steps w .i64 .u64 b l) :
    Calls Tryz.prog 160 #[.int .i64 f, .slice (some ⟨b, 0, none⟩) l.length cap] w (Ret w fun v _ => v = .int .u64 (pickM f 0 l : Nat)) := by
  go_enter Tryz.func160, Tryz.ntmps160
  go_wp2_with fail
  go_loopw [5, 7, 10] (fun v s i wr => ∃ k : Nat, k ≤ l.length ∧ i = .int .i64 k ∧ Below w.heap.size w wr ∧ v = .int .u64 (pickM f 0 (l.take k) : Nat)) (fun _ _ i _ => ((l.length : Int) - intOf i).toNat)
  case atStart => exact ⟨0, Nat.zero_le _, rfl, Below.refl _ _, rfl⟩
  case round =>
    obtain ⟨k, hk, rfl, hb, rfl⟩ := hrel
    by_cases hlt : k < l.length
    · obtain ⟨c0, c1⟩ := hs k hlt
      have c0' := hb.cell (World.block_lt_of_cell? w _ c0) ▸ c0
      have c1' := hb.cell (World.block_lt_of_cell? w _ c1) ▸ c1
      have hp := pickM_take f 0 hlt
      by_cases hf : (l[k].1 : Int) ≤ f
      all_goals
        first | rw [if_pos hf] at hp | rw [if_neg hf] at hp
        have HP := Lib.hid hp
        have HB := Lib.hid hb
        clear hp hb hs c0 c1
        go_wp2
        refine ⟨⟨k + 1, by omega, by go_num, HB.out.alloc HB.out.size _, by rw [HP.out]⟩, by simp [intOf]; omega⟩
    · obtain rfl : k = l.length := by omega
      have HB := Lib.hid hb
      clear hb
      go_wp2
      go_ret
      refine ret_of ?_ HB.out
      simp only [List.take_length]
      rfl
def pairs (k1 k2 : IntKind) (l : List (Nat × Nat)) : List Value := l.flatMap fun x => [.int k1 (x.1 : Int), .int k2 (x.2 : Int)]
theorem pairs_at (k1 k2 : IntKind) : ∀ (l : List (Nat × Nat)) (i : Nat) (h : i < l.length), (pairs k1 k2 l)[i * 2]? = some (.int k1 (l[i].1 : Int)) ∧ (pairs k1 k2 l)[i * 2 + 1]? = some (.int k2 (l[i].2 : Int))
  | x :: xs, 0, _ => ⟨rfl, rfl⟩
  | x :: xs, i + 1, h => by
    have := pairs_at k1 k2 xs i (by simpa using h)
    rw [Nat.add_mul, Nat.one_mul]
    exact this
theorem steps_alloc (w : World) (k1 k2 : IntKind) (l : List (Nat × Nat)) (a : Array Value) (T : TypeId) (h : a = (pairs k1 k2 l).toArray) : Steps (w.alloc (.cells a T)) k1 k2 w.heap.size l := by
  subst h
  intro i hi
  obtain ⟨h0, h1⟩ := pairs_at k1 k2 l i hi
  have hat : ∀ k v, (pairs k1 k2 l)[k]? = some v → (w.alloc (.cells (pairs k1 k2 l).toArray T)).cell? ⟨w.heap.size, k, none⟩ = some v := fun k v hv => by
    have hk : (w.alloc (.cells (pairs k1 k2 l).toArray T)).heap[w.heap.size]? = some (.cells (pairs k1 k2 l).toArray T) := by unfold World.alloc; exact Array.getElem?_push_size
    unfold World.cell?
    rw [hk]
    simpa using hv
  exact ⟨hat _ _ h0, hat _ _ h1⟩
end Go.Proofs.YtjfagifjajielaaGreat
/- Layer 13: the numbers of a fork as a function. No condition but those told below. -/
namespace Go.Proofs.YtjfagifjajielaaGreat
set_option linter.unusedVariables false
set_option linter.unusedSimpArgs false
open Go.RowKit
def unpairs : List Value → List (Nat × Nat)
  | .int _ a :: .int _ b :: r => (a.toNat, b.toNat) :: unpairs r
  | _ => []
def PickIs (f : Int) (v : Nat) (xs : List Value) (k : Nat) : Prop := k = pickM f v (unpairs xs)
theorem pickM_lt (f : Int) (B : Nat) : ∀ (l : List (Nat × Nat)) (v : Nat), v < B → l.all (fun x => decide (x.2 < B)) = true → pickM f v l < B
  | [], v, hv, _ => hv
  | x :: xs, v, hv, h => by
    simp only [List.all_cons, Bool.and_eq_true, decide_eq_true_eq] at h
    refine pickM_lt f B xs _ ?_ h.2
    split
    · exact h.1
    · exact hv
theorem pickA (W w : World) (f : Int) (hb : Below W.heap.size W w) (xs : List Value) (T : TypeId) (b n : Nat) (hbw : b = w.heap.size) (hn : n = (unpairs xs).length) (ha : xs = pairs .i64 .u64 (unpairs xs))
    (hle : (unpairs xs).length ≤ 100) (h0 : 0 < (unpairs xs).length) (hm : (unpairs xs).all (fun x => decide (x.2 < 9223372036854775808)) = true) :
    Calls Tryz.prog 160 #[.int .i64 f, .slice (some ⟨b, 0, none⟩) n n] (w.alloc (.cells xs.toArray T)) (fun e w' => (∃ k : Nat, e = .returned (.int .u64 (k : Int)) ∧ PickIs f 0 xs k ∧ k < 9223372036854775808) ∧ Below W.heap.size W w') := by
  subst hbw hn
  refine (pick_c (w.alloc (.cells xs.toArray T)) f w.heap.size (unpairs xs) _ hle h0 (steps_alloc w _ _ _ _ T (by rw [← ha]))).mono ?_
  rintro e w' ⟨_, rfl, rfl, hb'⟩
  exact ⟨⟨_, rfl, rfl, pickM_lt f _ _ _ (by decide) hm⟩, (hb.alloc hb.size _).trans (hb'.mono (by have := hb.size; simp; omega))⟩
def mTxCreate (f : Int) : Nat := pickM f 0 [(1, 32000)]
def mTxByte (f : Int) : Nat := pickM f 68 [(7, 16)]
def mTxAddress (f : Int) : Nat := pickM f 0 [(9, 2400)]
def mTxKey (f : Int) : Nat := pickM f 0 [(9, 1900)]
def mInitWord (f : Int) : Nat := pickM f 0 [(14, 2)]
def mMaxInit (f : Int) : Nat := pickM f 0 [(14, 49152)]
def mMaxCode (f : Int) : Nat := pickM f 0 [(3, 24576)]
def mBalance (f : Int) : Nat := pickM f 20 [(2, 400), (7, 700), (9, 0)]
def mExtSize (f : Int) : Nat := pickM f 20 [(2, 700), (9, 0)]
def mExtHash (f : Int) : Nat := pickM f 0 [(5, 400), (7, 700), (9, 0)]
def mLoad (f : Int) : Nat := pickM f 50 [(2, 200), (7, 800), (9, 0)]
def mCall (f : Int) : Nat := pickM f 40 [(2, 700), (9, 0)]
def mCold (f : Int) : Nat := pickM f 0 [(9, 2600)]
def mColdSlot (f : Int) : Nat := pickM f 0 [(9, 2100)]
def mWarm (f : Int) : Nat := pickM f 0 [(9, 100)]
def mDestroy (f : Int) : Nat := pickM f 0 [(2, 5000)]
def mDestroyNew (f : Int) : Nat := pickM f 0 [(2, 25000)]
def mDestroyBack (f : Int) : Nat := pickM f 24000 [(10, 0)]
def mExpByte (f : Int) : Nat := pickM f 10 [(3, 50)]
def mStoreBack (f : Int) : Nat := pickM f 15000 [(10, 4800)]
def mRefundPart (f : Int) : Nat := pickM f 2 [(10, 5)]
def mReward (f : Int) : Nat := pickM f 5000000000000000000 [(4, 3000000000000000000), (5, 2000000000000000000), (13, 0)]
def mBomb (f : Int) : Nat := pickM f 0 [(4, 3000000), (5, 5000000), (8, 9000000), (10, 9700000), (11, 10700000), (12, 11400000), (13, 0)]
/-- A fork's numbers. -/
def rulesV (f : Int) : Value := .agg #[.int .i64 f, .int .u64 21000, .int .u64 (mTxCreate f : Int), .int .u64 4, .int .u64 (mTxByte f : Int), .int .u64 (mTxAddress f : Int), .int .u64 (mTxKey f : Int), .int .u64 (mInitWord f : Int), .int .i64 (mMaxInit f : Int), .int .i64 (mMaxCode f : Int), .int .u64 (mBalance f : Int), .int .u64 (mExtSize f : Int), .int .u64 (mExtHash f : Int), .int .u64 (mLoad f : Int), .int .u64 (mCall f : Int), .int .u64 (mCold f : Int), .int .u64 (mColdSlot f : Int), .int .u64 (mWarm f : Int), .int .u64 (mDestroy f : Int), .int .u64 (mDestroyNew f : Int), .int .u64 (mDestroyBack f : Int), .int .u64 (mExpByte f : Int), .int .u64 (mStoreBack f : Int), .int .u64 (mRefundPart f : Int), .int .u64 (mReward f : Int), .int .u64 (mBomb f : Int)]
end Go.Proofs.YtjfagifjajielaaGreat
/- Layer 13: building the struct of a fork. No condition but those told below. -/
namespace Go.Proofs.YtjfagifjajielaaGreat
set_option linter.unusedVariables false
set_option linter.unusedSimpArgs false
open Go.RowKit
theorem wpl_build {P : Program} {ops : Array Oper} {rest : List Oper} {o : Oper} {a : Act} {w : World} {Q : Exit → Act → World → Prop} (hgd : o.guard = none) (t : TypeId) (parts : Array (Nat × Operand)) (ho : o.op = .build t parts) (vs : Array (Nat × Value)) (v : Value)
    (hp : (parts.map fun x => (x.1, a.eval x.2)) = vs) (hr : Sem.run P (Instr.build t vs) w = .ok v w) (h : wpList P ops Q rest (a.put o.dst v) w) : wpList P ops Q (o :: rest) a w :=
  wpList_plain hgd fun _ hK => by
    unfold Oper.wp execOp
    simp only [ho, resolve, hp, hr, Sem.run_bind, Sem.run_pure, Sem.run_map, Result.andThen_ok]
    exact hK _ _ h
theorem build_a (w : World) (x0 x1 x2 x3 x4 x5 x6 x7 x8 x9 x10 x11 x12 x13 x14 x15 x16 x17 x18 x19 x20 x21 x22 x23 x24 x25 : Int) : Sem.run Tryz.prog (Instr.build 196 #[(0, .int .i64 x0), (1, .int .u64 x1), (2, .int .u64 x2), (3, .int .u64 x3), (4, .int .u64 x4), (5, .int .u64 x5), (6, .int .u64 x6), (7, .int .u64 x7), (8, .int .i64 x8), (9, .int .i64 x9), (10, .int .u64 x10), (11, .int .u64 x11), (12, .int .u64 x12), (13, .int .u64 x13), (14, .int .u64 x14), (15, .int .u64 x15), (16, .int .u64 x16), (17, .int .u64 x17), (18, .int .u64 x18), (19, .int .u64 x19), (20, .int .u64 x20), (21, .int .u64 x21), (22, .int .u64 x22), (23, .int .u64 x23), (24, .int .u64 x24), (25, .int .u64 x25)]) w = .ok (.agg #[.int .i64 x0, .int .u64 x1, .int .u64 x2, .int .u64 x3, .int .u64 x4, .int .u64 x5, .int .u64 x6, .int .u64 x7, .int .i64 x8, .int .i64 x9, .int .u64 x10, .int .u64 x11, .int .u64 x12, .int .u64 x13, .int .u64 x14, .int .u64 x15, .int .u64 x16, .int .u64 x17, .int .u64 x18, .int .u64 x19, .int .u64 x20, .int .u64 x21, .int .u64 x22, .int .u64 x23, .int .u64 x24, .int .u64 x25]) w := by kernel_rfl
theorem there_below {W w' : World} {b o n : Nat} (hB : Below W.heap.size W w') (hb : b < W.heap.size) (h : W.there b o n) : w'.there b o n := by
  intro j hj
  have := h j hj
  unfold World.cell? World.frozen? at this ⊢
  simp only [hB.block b hb]
  exact this
theorem there_new (w : World) (a : Array Value) (T : TypeId) : (w.alloc (.cells a T)).there w.heap.size 0 a.size := by
  intro j hj
  have hk : (w.alloc (.cells a T)).heap[w.heap.size]? = some (.cells a T) := by unfold World.alloc; exact Array.getElem?_push_size
  unfold World.cell? World.frozen?
  simp only [hk]
  simp [hj]
def zeroRules : Array Value := #[.int .i64 0, .int .u64 0, .int .u64 0, .int .u64 0, .int .u64 0, .int .u64 0, .int .u64 0, .int .u64 0, .int .i64 0, .int .i64 0, .int .u64 0, .int .u64 0, .int .u64 0, .int .u64 0, .int .u64 0, .int .u64 0, .int .u64 0, .int .u64 0, .int .u64 0, .int .u64 0, .int .u64 0, .int .u64 0, .int .u64 0, .int .u64 0, .int .u64 0, .int .u64 0]
end Go.Proofs.YtjfagifjajielaaGreat
