/- Several texts in one: see the remarks ahead of each part. No condition but those told there. -/
import Derived.Test.YtjfagifjajielaaGreatX34
import Derived.Laws.ResultCell
/- Layer 13: building and storing great structs. No condition but those told below. -/
namespace Go.Proofs.YtjfagifjajielaaGreat
set_option linter.unusedVariables false
set_option linter.unusedSimpArgs false
open Go.RowKit

theorem below_setCells {base : Nat} {w : World} (b : Nat) : ∀ (vs : List Value) (o : Nat) (w' : World), Below base w w' → base ≤ b → Below base w (w'.setCells b o vs)
  | [], _, _, h, _ => h
  | v :: vs, o, w', h, hb => below_setCells b vs (o + 1) _ (h.setCell hb v) hb
theorem ret_cell {P : Program} {fn : Func} {p u : Tmp} {ty : TypeId} {R : Ending → World → Prop} {a : Act} {w : World} {b : Nat} {x : Value} {vs : List Value} {d : TypeDesc} (h : fn.results = #[.cell p ty, .tmp u]) (hp : a.tmps.getD p undef = .pointer (some ⟨b, 0, none⟩)) (hx : a.tmps.getD u undef = x) (hd : a.defers = [])
    (hl : w.rangeAt b 0 vs) (hu : P.underlying ty = some d) (hrow : d.isRow = true) (hi : (P.info? ty).map (·.size) = some vs.length) (hR : R (.returned (.tuple #[.agg vs.toArray, x])) w) : bodyPost P fn R .ret a w :=
  ⟨hd, _, by
    rw [results_cell_tmp h, hp, hx]
    simp only [asAddr, Sem.run_pure, Result.andThen_ok, run_loadVar_mid w b 0 ty vs d hl hu hrow hi], hR⟩

theorem fin_pick {f : Int} (hf : 0 ≤ f) {k0 k1 k2 k3 k4 k5 k6 k7 k8 k9 k10 k11 k12 k13 k14 k15 k16 k17 k18 k19 k20 k21 k22 : Nat} (h0 : PickIs f 0 [.int .i64 1, .int .u64 32000] k0) (h1 : PickIs f 0 [.int .i64 0, .int .u64 68, .int .i64 7, .int .u64 16] k1) (h2 : PickIs f 0 [.int .i64 9, .int .u64 2400] k2) (h3 : PickIs f 0 [.int .i64 9, .int .u64 1900] k3) (h4 : PickIs f 0 [.int .i64 14, .int .u64 2] k4) (h5 : PickIs f 0 [.int .i64 14, .int .u64 49152] k5) (h6 : PickIs f 0 [.int .i64 3, .int .u64 24576] k6) (h7 : PickIs f 0 [.int .i64 0, .int .u64 20, .int .i64 2, .int .u64 400, .int .i64 7, .int .u64 700, .int .i64 9, .int .u64 0] k7) (h8 : PickIs f 0 [.int .i64 0, .int .u64 20, .int .i64 2, .int .u64 700, .int .i64 9, .int .u64 0] k8) (h9 : PickIs f 0 [.int .i64 5, .int .u64 400, .int .i64 7, .int .u64 700, .int .i64 9, .int .u64 0] k9) (h10 : PickIs f 0 [.int .i64 0, .int .u64 50, .int .i64 2, .int .u64 200, .int .i64 7, .int .u64 800, .int .i64 9, .int .u64 0] k10) (h11 : PickIs f 0 [.int .i64 0, .int .u64 40, .int .i64 2, .int .u64 700, .int .i64 9, .int .u64 0] k11) (h12 : PickIs f 0 [.int .i64 9, .int .u64 2600] k12) (h13 : PickIs f 0 [.int .i64 9, .int .u64 2100] k13) (h14 : PickIs f 0 [.int .i64 9, .int .u64 100] k14) (h15 : PickIs f 0 [.int .i64 2, .int .u64 5000] k15) (h16 : PickIs f 0 [.int .i64 2, .int .u64 25000] k16) (h17 : PickIs f 0 [.int .i64 0, .int .u64 24000, .int .i64 10, .int .u64 0] k17) (h18 : PickIs f 0 [.int .i64 0, .int .u64 10, .int .i64 3, .int .u64 50] k18) (h19 : PickIs f 0 [.int .i64 0, .int .u64 15000, .int .i64 10, .int .u64 4800] k19) (h20 : PickIs f 0 [.int .i64 0, .int .u64 2, .int .i64 10, .int .u64 5] k20) (h21 : PickIs f 0 [.int .i64 0, .int .u64 5000000000000000000, .int .i64 4, .int .u64 3000000000000000000, .int .i64 5, .int .u64 2000000000000000000, .int .i64 13, .int .u64 0] k21) (h22 : PickIs f 0 [.int .i64 4, .int .u64 3000000, .int .i64 5, .int .u64 5000000, .int .i64 8, .int .u64 9000000, .int .i64 10, .int .u64 9700000, .int .i64 11, .int .u64 10700000, .int .i64 12, .int .u64 11400000, .int .i64 13, .int .u64 0] k22) :
    Value.agg (List.toArray [.int .i64 f, .int .u64 21000, .int .u64 (k0 : Int), .int .u64 4, .int .u64 (k1 : Int), .int .u64 (k2 : Int), .int .u64 (k3 : Int), .int .u64 (k4 : Int), .int .i64 (k5 : Int), .int .i64 (k6 : Int), .int .u64 (k7 : Int), .int .u64 (k8 : Int), .int .u64 (k9 : Int), .int .u64 (k10 : Int), .int .u64 (k11 : Int), .int .u64 (k12 : Int), .int .u64 (k13 : Int), .int .u64 (k14 : Int), .int .u64 (k15 : Int), .int .u64 (k16 : Int), .int .u64 (k17 : Int), .int .u64 (k18 : Int), .int .u64 (k19 : Int), .int .u64 (k20 : Int), .int .u64 (k21 : Int), .int .u64 (k22 : Int)]) = rulesV f := by
  have e0 : k0 = mTxCreate f := h0
  have e1 : k1 = mTxByte f := Eq.trans h1 (show pickM f (if ((0 : Nat) : Int) ≤ f then 68 else 0) [(7, 16)] = mTxByte f by rw [if_pos (by simpa using hf)]; rfl)
  have e2 : k2 = mTxAddress f := h2
  have e3 : k3 = mTxKey f := h3
  have e4 : k4 = mInitWord f := h4
  have e5 : k5 = mMaxInit f := h5
  have e6 : k6 = mMaxCode f := h6
  have e7 : k7 = mBalance f := Eq.trans h7 (show pickM f (if ((0 : Nat) : Int) ≤ f then 20 else 0) [(2, 400), (7, 700), (9, 0)] = mBalance f by rw [if_pos (by simpa using hf)]; rfl)
  have e8 : k8 = mExtSize f := Eq.trans h8 (show pickM f (if ((0 : Nat) : Int) ≤ f then 20 else 0) [(2, 700), (9, 0)] = mExtSize f by rw [if_pos (by simpa using hf)]; rfl)
  have e9 : k9 = mExtHash f := h9
  have e10 : k10 = mLoad f := Eq.trans h10 (show pickM f (if ((0 : Nat) : Int) ≤ f then 50 else 0) [(2, 200), (7, 800), (9, 0)] = mLoad f by rw [if_pos (by simpa using hf)]; rfl)
  have e11 : k11 = mCall f := Eq.trans h11 (show pickM f (if ((0 : Nat) : Int) ≤ f then 40 else 0) [(2, 700), (9, 0)] = mCall f by rw [if_pos (by simpa using hf)]; rfl)
  have e12 : k12 = mCold f := h12
  have e13 : k13 = mColdSlot f := h13
  have e14 : k14 = mWarm f := h14
  have e15 : k15 = mDestroy f := h15
  have e16 : k16 = mDestroyNew f := h16
  have e17 : k17 = mDestroyBack f := Eq.trans h17 (show pickM f (if ((0 : Nat) : Int) ≤ f then 24000 else 0) [(10, 0)] = mDestroyBack f by rw [if_pos (by simpa using hf)]; rfl)
  have e18 : k18 = mExpByte f := Eq.trans h18 (show pickM f (if ((0 : Nat) : Int) ≤ f then 10 else 0) [(3, 50)] = mExpByte f by rw [if_pos (by simpa using hf)]; rfl)
  have e19 : k19 = mStoreBack f := Eq.trans h19 (show pickM f (if ((0 : Nat) : Int) ≤ f then 15000 else 0) [(10, 4800)] = mStoreBack f by rw [if_pos (by simpa using hf)]; rfl)
  have e20 : k20 = mRefundPart f := Eq.trans h20 (show pickM f (if ((0 : Nat) : Int) ≤ f then 2 else 0) [(10, 5)] = mRefundPart f by rw [if_pos (by simpa using hf)]; rfl)
  have e21 : k21 = mReward f := Eq.trans h21 (show pickM f (if ((0 : Nat) : Int) ≤ f then 5000000000000000000 else 0) [(4, 3000000000000000000), (5, 2000000000000000000), (13, 0)] = mReward f by rw [if_pos (by simpa using hf)]; rfl)
  have e22 : k22 = mBomb f := h22
  rw [e0, e1, e2, e3, e4, e5, e6, e7, e8, e9, e10, e11, e12, e13, e14, e15, e16, e17, e18, e19, e20, e21, e22]
  rfl
end Go.Proofs.YtjfagifjajielaaGreat
/- Layer 13: fork.Of inside the forks. No condition but those told below. -/
namespace Go.Proofs.YtjfagifjajielaaGreat
set_option linter.unusedVariables false
set_option linter.unusedSimpArgs false
open Go.RowKit

set_option maxRecDepth 100000 in
set_option maxHeartbeats 4000000 in
theorem of_c (w : World) (f : Int) (hf : 0 ≤ f) (hf2 : f ≤ 15) : Calls Tryz.prog 128 #[.int .i64 f] w (Ret w fun v _ => v = .tuple #[rulesV f, .int .i64 0]) := by
  have hT : (w.alloc (.cells #[.int .i64 0, .int .u64 0, .int .u64 0, .int .u64 0, .int .u64 0, .int .u64 0, .int .u64 0, .int .u64 0, .int .i64 0, .int .i64 0, .int .u64 0, .int .u64 0, .int .u64 0, .int .u64 0, .int .u64 0, .int .u64 0, .int .u64 0, .int .u64 0, .int .u64 0, .int .u64 0, .int .u64 0, .int .u64 0, .int .u64 0, .int .u64 0, .int .u64 0, .int .u64 0] 196)).there w.heap.size 0 26 := there_new w _ _
  have HT := Lib.hid hT
  clear hT
  have hB := Below.refl (w.alloc (.cells #[.int .i64 0, .int .u64 0, .int .u64 0, .int .u64 0, .int .u64 0, .int .u64 0, .int .u64 0, .int .u64 0, .int .i64 0, .int .i64 0, .int .u64 0, .int .u64 0, .int .u64 0, .int .u64 0, .int .u64 0, .int .u64 0, .int .u64 0, .int .u64 0, .int .u64 0, .int .u64 0, .int .u64 0, .int .u64 0, .int .u64 0, .int .u64 0, .int .u64 0, .int .u64 0] 196)).heap.size (w.alloc (.cells #[.int .i64 0, .int .u64 0, .int .u64 0, .int .u64 0, .int .u64 0, .int .u64 0, .int .u64 0, .int .u64 0, .int .i64 0, .int .i64 0, .int .u64 0, .int .u64 0, .int .u64 0, .int .u64 0, .int .u64 0, .int .u64 0, .int .u64 0, .int .u64 0, .int .u64 0, .int .u64 0, .int .u64 0, .int .u64 0, .int .u64 0, .int .u64 0, .int .u64 0, .int .u64 0] 196))
  go_enter Tryz.func128, Tryz.ntmps128
  go_wp2_with (first
    | (go_at_call 160; refine (pickA _ _ f hB _ _ _ _ (by simp) (by rfl) (by rfl) (by decide) (by decide) (by decide)).mono ?_; clear hB; rintro e w' ⟨⟨k, rfl, hk, hlt⟩, hB⟩)
    | (with_reducible (refine wpl_build rfl 196 _ rfl ?vs ?v ?hp ?hr ?h)
       case hp => (simp only [List.map_toArray, List.map_cons, List.map_nil]; rfl)
       case hr => exact build_a ..
       with_reducible (refine wpList_store_mid rfl 196 _ _ rfl ?b ?o ?cells ?hx ?hy ?ht ?hi ?h1 ?h2)
       case hx => rfl
       case hy => rfl
       case ht => exact there_below hB (by simp) HT.out
       case hi => kernel_rfl
       case h1 => kernel_rfl))
  have hbb : Below w.heap.size w w' := ((Below.refl w.heap.size w).alloc (Nat.le_refl _) _).trans (hB.mono (by simp))
  refine ret_cell rfl rfl rfl rfl (World.rangeAt_setCells_same _ _ _ _ (there_below hB (by simp) HT.out)) Tryz.underlying196 rfl (by kernel_rfl) (ret_of (congrArg (fun x => Value.tuple #[x, .int .i64 0]) (fin_pick hf (by assumption) (by assumption) (by assumption) (by assumption) (by assumption) (by assumption) (by assumption) (by assumption) (by assumption) (by assumption) (by assumption) (by assumption) (by assumption) (by assumption) (by assumption) (by assumption) (by assumption) (by assumption) (by assumption) (by assumption) (by assumption) (by assumption) (by assumption))) (below_setCells _ _ _ _ hbb (Nat.le_refl _)))
end Go.Proofs.YtjfagifjajielaaGreat
