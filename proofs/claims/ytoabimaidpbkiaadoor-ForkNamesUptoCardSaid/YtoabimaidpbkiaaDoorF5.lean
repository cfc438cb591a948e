/- Layer 13: the numbers of a fork as a function. No condition but those told below. -/
import Derived.Test.YtoabimaidpbkiaaDoorF4
namespace Go.Proofs.YtoabimaidpbkiaaDoor
set_option linter.unusedVariables false
set_option linter.unusedSimpArgs false
open Go.RowKit
def unpairs : List Value → List (Nat × Nat)
  | .int _ a :: .int _ b :: r => (a.toNat, b.toNat) :: unpairs r
  | _ => []
def PickIs (f : Int) (v : Nat) (xs : List Value) (k : Nat) : Prop := k = pickM f v (unpairs xs)
theorem pickM_lt (f : Int) (B : Nat) : ∀ (l : List (Nat × Nat)) (v : Nat), v < B → l.all (fun x => decide (x.2 < B)) = true → pickM f v l < B
  | [], v, hv, _ => hv
  | x :: xs, v, hv, h => by
    simp only [List.all_cons, Bool.and_eq_true, decide_eq_true_eq] at h
    refine pickM_lt f B xs _ ?_ h.2
    split
    · exact h.1
    · exact hv
theorem pickA (W w : World) (f : Int) (hb : Below W.heap.size W w) (xs : List Value) (T : TypeId) (b n : Nat) (hbw : b = w.heap.size) (hn : n = (unpairs xs).length) (ha : xs = pairs .i64 .u64 (unpairs xs))
    (hle : (unpairs xs).length ≤ 100) (h0 : 0 < (unpairs xs).length) (hm : (unpairs xs).all (fun x => decide (x.2 < 9223372036854775808)) = true) :
    Calls Tryd.prog 24 #[.int .i64 f, .slice (some ⟨b, 0, none⟩) n n] (w.alloc (.cells xs.toArray T)) (fun e w' => (∃ k : Nat, e = .returned (.int .u64 (k : Int)) ∧ PickIs f 0 xs k ∧ k < 9223372036854775808) ∧ Below W.heap.size W w') := by
  subst hbw hn
  refine (pick_c (w.alloc (.cells xs.toArray T)) f w.heap.size (unpairs xs) _ hle h0 (steps_alloc w _ _ _ _ T (by rw [← ha]))).mono ?_
  rintro e w' ⟨_, rfl, rfl, hb'⟩
  exact ⟨⟨_, rfl, rfl, pickM_lt f _ _ _ (by decide) hm⟩, (hb.alloc hb.size _).trans (hb'.mono (by have := hb.size; simp; omega))⟩
theorem fromA (W w : World) (f : Int) (hb : Below W.heap.size W w) (xs : List Value) (T : TypeId) (b n : Nat) (c : Int) (hc : c = (c.toNat : Int)) (hbw : b = w.heap.size) (hn : n = (unpairs xs).length) (ha : xs = pairs .u64 .u64 (unpairs xs))
    (hle : (unpairs xs).length ≤ 100) (h0 : 0 < (unpairs xs).length) (h1 : (unpairs xs).all (fun x => decide (x.1 ≤ 100)) = true) (hv : c.toNat < 9223372036854775808) (hm : (unpairs xs).all (fun x => decide (x.2 < 9223372036854775808)) = true) :
    Calls Tryd.prog 25 #[.int .i64 f, .int .u64 c, .slice (some ⟨b, 0, none⟩) n n] (w.alloc (.cells xs.toArray T)) (fun e w' => (∃ k : Nat, e = .returned (.int .u64 (k : Int)) ∧ PickIs f c.toNat xs k ∧ k < 9223372036854775808) ∧ Below W.heap.size W w') := by
  generalize c.toNat = v at *
  subst hbw hn hc
  refine (from_c (w.alloc (.cells xs.toArray T)) f v w.heap.size (unpairs xs) _ hle h0 (fun i hi => of_decide_eq_true (List.all_eq_true.1 h1 _ (List.getElem_mem hi))) (steps_alloc w _ _ _ _ T (by rw [← ha]))).mono ?_
  rintro e w' ⟨_, rfl, rfl, hb'⟩
  exact ⟨⟨_, rfl, rfl, pickM_lt f _ _ _ hv hm⟩, (hb.alloc hb.size _).trans (hb'.mono (by have := hb.size; simp; omega))⟩
def mTxCreate (f : Int) : Nat := pickM f 0 [(1, 32000)]
def mTxByte (f : Int) : Nat := pickM f 68 [(7, 16)]
def mTxAddress (f : Int) : Nat := pickM f 0 [(9, 2400)]
def mTxKey (f : Int) : Nat := pickM f 0 [(9, 1900)]
def mInitWord (f : Int) : Nat := pickM f 0 [(14, 2)]
def mMaxInit (f : Int) : Nat := pickM f 0 [(14, 49152)]
def mMaxCode (f : Int) : Nat := pickM f 0 [(3, 24576)]
def mBalance (f : Int) : Nat := pickM f 20 [(2, 400), (7, 700), (9, 0)]
def mExtSize (f : Int) : Nat := pickM f 20 [(2, 700), (9, 0)]
def mExtHash (f : Int) : Nat := pickM f 0 [(5, 400), (7, 700), (9, 0)]
def mLoad (f : Int) : Nat := pickM f 50 [(2, 200), (7, 800), (9, 0)]
def mCall (f : Int) : Nat := pickM f 40 [(2, 700), (9, 0)]
def mCold (f : Int) : Nat := pickM f 0 [(9, 2600)]
def mColdSlot (f : Int) : Nat := pickM f 0 [(9, 2100)]
def mWarm (f : Int) : Nat := pickM f 0 [(9, 100)]
def mDestroy (f : Int) : Nat := pickM f 0 [(2, 5000)]
def mDestroyNew (f : Int) : Nat := pickM f 0 [(2, 25000)]
def mDestroyBack (f : Int) : Nat := pickM f 24000 [(10, 0)]
def mExpByte (f : Int) : Nat := pickM f 10 [(3, 50)]
def mStoreBack (f : Int) : Nat := pickM f 15000 [(10, 4800)]
def mRefundPart (f : Int) : Nat := pickM f 2 [(10, 5)]
def mReward (f : Int) : Nat := pickM f 5000000000000000000 [(4, 3000000000000000000), (5, 2000000000000000000), (13, 0)]
def mBomb (f : Int) : Nat := pickM f 0 [(4, 3000000), (5, 5000000), (8, 9000000), (10, 9700000), (11, 10700000), (12, 11400000), (13, 0)]
/-- A fork's numbers. -/
def rulesV (f : Int) : Value := .agg #[.int .i64 f, .int .u64 21000, .int .u64 (mTxCreate f : Int), .int .u64 4, .int .u64 (mTxByte f : Int), .int .u64 (mTxAddress f : Int), .int .u64 (mTxKey f : Int), .int .u64 (mInitWord f : Int), .int .i64 (mMaxInit f : Int), .int .i64 (mMaxCode f : Int), .int .u64 (mBalance f : Int), .int .u64 (mExtSize f : Int), .int .u64 (mExtHash f : Int), .int .u64 (mLoad f : Int), .int .u64 (mCall f : Int), .int .u64 (mCold f : Int), .int .u64 (mColdSlot f : Int), .int .u64 (mWarm f : Int), .int .u64 (mDestroy f : Int), .int .u64 (mDestroyNew f : Int), .int .u64 (mDestroyBack f : Int), .int .u64 (mExpByte f : Int), .int .u64 (mStoreBack f : Int), .int .u64 (mRefundPart f : Int), .int .u64 (mReward f : Int), .int .u64 (mBomb f : Int)]
end Go.Proofs.YtoabimaidpbkiaaDoor
