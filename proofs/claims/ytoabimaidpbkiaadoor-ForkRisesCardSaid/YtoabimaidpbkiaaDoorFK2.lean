/- quarrylaw13.ForkRules answers true. Condition: the table of white space is laid. -/
import Derived.Test.YtoabimaidpbkiaaDoorFK1
namespace Go.Proofs.YtoabimaidpbkiaaDoor
set_option linter.unusedVariables false
set_option linter.unusedSimpArgs false
open Go Go.RowKit
theorem setL_all {cs vs : List Value} {n : Nat} (h : vs.length = n) (h2 : cs.length = n) : setL cs 0 vs = vs := by
  have := setL_append vs [] cs [] (by rw [h, h2])
  simpa using this
theorem rules_ds {xs : List Value} (h : RulesV xs) : (xs.drop 0).take 26 = xs := by rw [List.drop_zero, List.take_of_length_le (by rw [h.len]; decide)]
theorem str_eq_self (x : List UInt8) : decide (x = x) = true := decide_eq_true rfl
set_option maxRecDepth 100000 in
set_option maxHeartbeats 4000000 in
theorem ForkRules_in {N : Heaplet} (hN : TabH N) (f : Nat) (hf : f < 16) : Fn Tryd.prog 3 #[.int .i64 (f : Int)] [] [N] (fun v L => v = .bool true ∧ L = []) := by
  have hOf := FOf_f (f : Int) (by omega) (by omega)
  have hrOf := rOf_f (f : Int) (by omega) (by omega)
  have hV := rulesV_L (f : Int)
  generalize rulesL (f : Int) = xs at hOf hrOf hV
  refine Fn.enter (vs := [.int .i64 (f : Int)]) Tryd.func3 rfl rfl rfl ?_
  intro E R hR
  have hT := hN.le (hR N (by simp))
  change At _ _ E [R] _
  refine At.seq fun K1 hk_1 => ?_
  refine At.region ?_
  refine op_assign (nxlf rfl) rfl rfl ?_
  refine At.opsNil ?_
  refine At.norm (hk_1 ?_)
  refine At.seq fun K2 hk_2 => ?_
  refine At.region ?_
  refine op_move (nxlf rfl) rfl rfl ?_
  refine op_callA (nxla rfl) (.cons rfl .nil) (hOf) Tryd.func8 rfl rfl (by simp) rfl ?_
  rintro v9 L9 ⟨rfl, rfl⟩
  change At _ _ _ [R] _
  refine op_move (nxlf rfl) rfl rfl ?_
  refine op_extract (nxlf rfl) rfl rfl rfl ?_
  refine op_extract (nxlf rfl) rfl rfl rfl ?_
  refine op_alloc (nxla rfl) ze24 rfl (fun N3 b3 B3 => ?_)
  change Blk N3 b3 _ [.int .i64 0, .int .u64 0, .int .u64 0, .int .u64 0, .int .u64 0, .int .u64 0, .int .u64 0, .int .u64 0, .int .i64 0, .int .i64 0, .int .u64 0, .int .u64 0, .int .u64 0, .int .u64 0, .int .u64 0, .int .u64 0, .int .u64 0, .int .u64 0, .int .u64 0, .int .u64 0, .int .u64 0, .int .u64 0, .int .u64 0, .int .u64 0, .int .u64 0, .int .u64 0] at B3
  refine op_store (nxl rfl) sz24 rfl rfl (cells_agg xs) hV.len hV.one B3 (by rw [hV.len]; decide) sel0 (fun N3 B3 => ?_)
  rw [setL_all hV.len rfl] at B3
  refine op_assign (nxlf rfl) rfl rfl ?_
  refine At.opsNil ?_
  refine At.norm (hk_2 ?_)
  refine At.seq fun K3 hk_3 => ?_
  refine At.region ?_
  refine op_move (nxlf rfl) rfl rfl ?_
  refine op_callA (nxla rfl) (.cons rfl .nil) (hrOf) Tryd.func9 rfl rfl (by simp) rfl ?_
  rintro v14 L14 ⟨rfl, rfl⟩
  change At _ _ _ [N3, R] _
  refine op_move (nxlf rfl) rfl rfl ?_
  refine op_extract (nxlf rfl) rfl rfl rfl ?_
  refine op_extract (nxlf rfl) rfl rfl rfl ?_
  refine op_alloc (nxla rfl) ze24 rfl (fun N5 b5 B5 => ?_)
  change Blk N5 b5 _ [.int .i64 0, .int .u64 0, .int .u64 0, .int .u64 0, .int .u64 0, .int .u64 0, .int .u64 0, .int .u64 0, .int .i64 0, .int .i64 0, .int .u64 0, .int .u64 0, .int .u64 0, .int .u64 0, .int .u64 0, .int .u64 0, .int .u64 0, .int .u64 0, .int .u64 0, .int .u64 0, .int .u64 0, .int .u64 0, .int .u64 0, .int .u64 0, .int .u64 0, .int .u64 0] at B5
  refine op_store (nxl rfl) sz24 rfl rfl (cells_agg xs) hV.len hV.one B5 (by rw [hV.len]; decide) sel0 (fun N5 B5 => ?_)
  rw [setL_all hV.len rfl] at B5
  refine op_assign (nxlf rfl) rfl rfl ?_
  refine At.opsNil ?_
  refine At.norm (hk_3 ?_)
  refine At.seq fun K4 hk_4 => ?_
  refine At.region ?_
  refine op_loadAggB (ds := xs) (nxlf rfl) ag24 rfl B3 (rules_ds hV) hV.len mem1 rfl ?_
  refine op_loadAggB (ds := xs) (nxlf rfl) ag24 rfl B5 (rules_ds hV) hV.len mem0 rfl ?_
  refine op_eqSame (nxlf rfl) (by kernel_rfl) (by kernel_rfl) (by kernel_rfl) rules_kinds rfl rfl hV.ints rfl ?_
  refine op_move (nxlf rfl) rfl rfl ?_
  refine op_move (nxgf rfl rfl rfl rfl) rfl rfl ?_
  refine op_move (nxgf rfl rfl rfl rfl) rfl rfl ?_
  refine op_eql (nxgf rfl rfl rfl rfl) rfl rfl rfl ?_
  refine op_eqB (nxgf rfl rfl rfl rfl) Tryd.underlying4 rfl rfl rfl ?_
  refine op_pickT (nxlf rfl) rfl rfl rfl ?_
  refine op_move (nxlf rfl) rfl rfl ?_
  refine op_move (nxgf rfl rfl rfl rfl) rfl rfl ?_
  refine op_move (nxgf rfl rfl rfl rfl) rfl rfl ?_
  refine op_skip rfl rfl rfl rfl rfl rfl rfl ?_
  refine op_skip rfl rfl rfl rfl rfl rfl rfl ?_
  refine op_pickT (nxgf rfl rfl rfl rfl) rfl rfl rfl ?_
  refine op_pickT (nxlf rfl) rfl rfl rfl ?_
  refine op_move (nxlf rfl) rfl rfl ?_
  refine op_move (nxgf rfl rfl rfl rfl) rfl rfl ?_
  refine op_callA (nxga rfl rfl rfl rfl) (.cons rfl .nil) (FName_f hT f hf) Tryd.func10 rfl rfl (by simp) rfl ?_
  rintro v35 L35 ⟨rfl, rfl⟩
  change At _ _ _ [N5, N3, R] _
  refine op_move (nxgf rfl rfl rfl rfl) rfl rfl ?_
  refine op_callA (nxga rfl rfl rfl rfl) (.cons rfl .nil) (rName_f f hf) Tryd.func11 rfl rfl (by simp) rfl ?_
  rintro v37 L37 ⟨rfl, rfl⟩
  change At _ _ _ [N5, N3, R] _
  refine op_eqS (nxgf rfl rfl rfl rfl) rfl rfl rfl ?_
  rw [str_eq_self (nameL f)]
  refine op_pickT (nxlf rfl) rfl rfl rfl ?_
  refine op_move (nxlf rfl) rfl rfl ?_
  refine op_callA (nxga rfl rfl rfl rfl) .nil (Fwakes_f hT) Tryd.func12 rfl rfl (by simp) rfl ?_
  rintro v41 L41 ⟨rfl, rfl⟩
  change At _ _ _ [N5, N3, R] _
  refine op_pickT (nxlf rfl) rfl rfl rfl ?_
  refine op_assign (nxlf rfl) rfl rfl ?_
  refine At.opsNil ?_
  refine At.norm (hk_4 ?_)
  refine At.ret (?_)
  refine At.sub (L' := [R]) (.cons _ (.cons _ (.cons_cons _ (.slnil)))) ?_
  refine At.ret1 (L1 := []) rfl (.tmp rfl .nil) (.refl _) (.refl _) ?_
  exact ⟨rfl, rfl⟩
set_option maxRecDepth 100000 in
set_option maxHeartbeats 4000000 in
theorem ForkRules_out {N : Heaplet} (hN : TabH N) (f : Int) (hf : f < 0 ∨ 15 < f) : Fn Tryd.prog 3 #[.int .i64 f] [] [N] (fun v L => v = .bool true ∧ L = []) := by
  have hOf := FOf_no f hf
  have hrOf := rOf_no f hf
  have hV := rulesV_0
  generalize zeroL = xs at hOf hrOf hV
  refine Fn.enter (vs := [.int .i64 f]) Tryd.func3 rfl rfl rfl ?_
  intro E R hR
  have hT := hN.le (hR N (by simp))
  change At _ _ E [R] _
  refine At.seq fun K1 hk_1 => ?_
  refine At.region ?_
  refine op_assign (nxlf rfl) rfl rfl ?_
  refine At.opsNil ?_
  refine At.norm (hk_1 ?_)
  refine At.seq fun K2 hk_2 => ?_
  refine At.region ?_
  refine op_move (nxlf rfl) rfl rfl ?_
  refine op_callA (nxla rfl) (.cons rfl .nil) (hOf) Tryd.func8 rfl rfl (by simp) rfl ?_
  rintro v9 L9 ⟨rfl, rfl⟩
  change At _ _ _ [R] _
  refine op_move (nxlf rfl) rfl rfl ?_
  refine op_extract (nxlf rfl) rfl rfl rfl ?_
  refine op_extract (nxlf rfl) rfl rfl rfl ?_
  refine op_alloc (nxla rfl) ze24 rfl (fun N3 b3 B3 => ?_)
  change Blk N3 b3 _ [.int .i64 0, .int .u64 0, .int .u64 0, .int .u64 0, .int .u64 0, .int .u64 0, .int .u64 0, .int .u64 0, .int .i64 0, .int .i64 0, .int .u64 0, .int .u64 0, .int .u64 0, .int .u64 0, .int .u64 0, .int .u64 0, .int .u64 0, .int .u64 0, .int .u64 0, .int .u64 0, .int .u64 0, .int .u64 0, .int .u64 0, .int .u64 0, .int .u64 0, .int .u64 0] at B3
  refine op_store (nxl rfl) sz24 rfl rfl (cells_agg xs) hV.len hV.one B3 (by rw [hV.len]; decide) sel0 (fun N3 B3 => ?_)
  rw [setL_all hV.len rfl] at B3
  refine op_assign (nxlf rfl) rfl rfl ?_
  refine At.opsNil ?_
  refine At.norm (hk_2 ?_)
  refine At.seq fun K3 hk_3 => ?_
  refine At.region ?_
  refine op_move (nxlf rfl) rfl rfl ?_
  refine op_callA (nxla rfl) (.cons rfl .nil) (hrOf) Tryd.func9 rfl rfl (by simp) rfl ?_
  rintro v14 L14 ⟨rfl, rfl⟩
  change At _ _ _ [N3, R] _
  refine op_move (nxlf rfl) rfl rfl ?_
  refine op_extract (nxlf rfl) rfl rfl rfl ?_
  refine op_extract (nxlf rfl) rfl rfl rfl ?_
  refine op_alloc (nxla rfl) ze24 rfl (fun N5 b5 B5 => ?_)
  change Blk N5 b5 _ [.int .i64 0, .int .u64 0, .int .u64 0, .int .u64 0, .int .u64 0, .int .u64 0, .int .u64 0, .int .u64 0, .int .i64 0, .int .i64 0, .int .u64 0, .int .u64 0, .int .u64 0, .int .u64 0, .int .u64 0, .int .u64 0, .int .u64 0, .int .u64 0, .int .u64 0, .int .u64 0, .int .u64 0, .int .u64 0, .int .u64 0, .int .u64 0, .int .u64 0, .int .u64 0] at B5
  refine op_store (nxl rfl) sz24 rfl rfl (cells_agg xs) hV.len hV.one B5 (by rw [hV.len]; decide) sel0 (fun N5 B5 => ?_)
  rw [setL_all hV.len rfl] at B5
  refine op_assign (nxlf rfl) rfl rfl ?_
  refine At.opsNil ?_
  refine At.norm (hk_3 ?_)
  refine At.seq fun K4 hk_4 => ?_
  refine At.region ?_
  refine op_loadAggB (ds := xs) (nxlf rfl) ag24 rfl B3 (rules_ds hV) hV.len mem1 rfl ?_
  refine op_loadAggB (ds := xs) (nxlf rfl) ag24 rfl B5 (rules_ds hV) hV.len mem0 rfl ?_
  refine op_eqSame (nxlf rfl) (by kernel_rfl) (by kernel_rfl) (by kernel_rfl) rules_kinds rfl rfl hV.ints rfl ?_
  refine op_move (nxlf rfl) rfl rfl ?_
  refine op_move (nxgf rfl rfl rfl rfl) rfl rfl ?_
  refine op_move (nxgf rfl rfl rfl rfl) rfl rfl ?_
  refine op_eql (nxgf rfl rfl rfl rfl) rfl rfl rfl ?_
  refine op_eqB (nxgf rfl rfl rfl rfl) Tryd.underlying4 rfl rfl rfl ?_
  refine op_pickT (nxlf rfl) rfl rfl rfl ?_
  refine op_move (nxlf rfl) rfl rfl ?_
  refine op_move (nxgf rfl rfl rfl rfl) rfl rfl ?_
  refine op_move (nxgf rfl rfl rfl rfl) rfl rfl ?_
  refine op_move (nxgf rfl rfl rfl rfl) rfl rfl ?_
  refine op_eql (nxgf rfl rfl rfl rfl) rfl rfl rfl ?_
  refine op_pickF (nxgf rfl rfl rfl rfl) rfl rfl rfl ?_
  refine op_pickT (nxlf rfl) rfl rfl rfl ?_
  refine op_move (nxlf rfl) rfl rfl ?_
  refine op_move (nxgf rfl rfl rfl rfl) rfl rfl ?_
  refine op_callA (nxga rfl rfl rfl rfl) (.cons rfl .nil) (FName_no f hf) Tryd.func10 rfl rfl (by simp) rfl ?_
  rintro v35 L35 ⟨rfl, rfl⟩
  change At _ _ _ [N5, N3, R] _
  refine op_move (nxgf rfl rfl rfl rfl) rfl rfl ?_
  refine op_callA (nxga rfl rfl rfl rfl) (.cons rfl .nil) (rName_no f hf) Tryd.func11 rfl rfl (by simp) rfl ?_
  rintro v37 L37 ⟨rfl, rfl⟩
  change At _ _ _ [N5, N3, R] _
  refine op_eqS (nxgf rfl rfl rfl rfl) rfl rfl rfl ?_
  refine op_pickT (nxlf rfl) rfl rfl rfl ?_
  refine op_move (nxlf rfl) rfl rfl ?_
  refine op_callA (nxga rfl rfl rfl rfl) .nil (Fwakes_f hT) Tryd.func12 rfl rfl (by simp) rfl ?_
  rintro v41 L41 ⟨rfl, rfl⟩
  change At _ _ _ [N5, N3, R] _
  refine op_pickT (nxlf rfl) rfl rfl rfl ?_
  refine op_assign (nxlf rfl) rfl rfl ?_
  refine At.opsNil ?_
  refine At.norm (hk_4 ?_)
  refine At.ret (?_)
  refine At.sub (L' := [R]) (.cons _ (.cons _ (.cons_cons _ (.slnil)))) ?_
  refine At.ret1 (L1 := []) rfl (.tmp rfl .nil) (.refl _) (.refl _) ?_
  exact ⟨rfl, rfl⟩
theorem ForkRules_f {N : Heaplet} (hN : TabH N) (f : Int) : Fn Tryd.prog 3 #[.int .i64 f] [] [N] (fun v L => v = .bool true ∧ L = []) := by
  by_cases h : 0 ≤ f ∧ f ≤ 15
  · have := ForkRules_in hN f.toNat (by omega)
    rwa [Int.toNat_of_nonneg h.1] at this
  · exact ForkRules_out hN f (by omega)
end Go.Proofs.YtoabimaidpbkiaaDoor
