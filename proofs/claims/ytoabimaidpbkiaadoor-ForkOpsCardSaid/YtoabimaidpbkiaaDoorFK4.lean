/- quarrylaw13.ForkOps answers true. Condition: the table of white space is laid. -/
import Derived.Test.YtoabimaidpbkiaaDoorFK3
namespace Go.Proofs.YtoabimaidpbkiaaDoor
set_option linter.unusedVariables false
set_option linter.unusedSimpArgs false
open Go Go.RowKit
set_option maxRecDepth 100000 in
theorem ForkOps_f {N : Heaplet} (hN : TabH N) (f op : Int) {a : List UInt8} (ha : a.length = 20) : Fn Tryd.prog 4 #[.int .i64 f, .int .i64 op, .agg (u8s a).toArray] [] [N] (fun v L => v = .bool true ∧ L = []) := by
  have hb : (opM f op == opM f op) = true := beq_self_eq_true _
  refine Fn.enter (vs := [.int .i64 f, .int .i64 op, .agg (u8s a).toArray]) Tryd.func4 rfl rfl rfl ?_
  intro E R hR
  have hT := hN.le (hR N (by simp))
  change At _ _ E [R] _
  refine At.seq fun K1 hk_1 => ?_
  refine At.region ?_
  refine op_box (nxla rfl) rfl rfl rfl (fun N5 b5 B5 => ?_)
  change Blk N5 b5 _ (u8s a) at B5
  refine op_assign (nxlf rfl) rfl rfl ?_
  refine At.opsNil ?_
  refine At.norm (hk_1 ?_)
  refine At.seq fun K2 hk_2 => ?_
  refine At.drawnS [N5, R] [2,5,13,17] [3,4,11] [0,1,3,4,2,5,6,7,8,9,11,12,10,13,14,15,16,17,18,19] (by kernel_rfl) (by kernel_rfl) (.refl _) ?_
  refine op_move (nxsf rfl rfl rfl) rfl rfl ?_
  refine op_move (nxsf rfl rfl rfl) rfl rfl ?_
  refine op_move (nxsf rfl rfl rfl) rfl rfl ?_
  refine op_move (nxsf rfl rfl rfl) rfl rfl ?_
  refine op_callA (Nx.agree (nxss rfl rfl rfl rfl)) (.cons rfl (.cons rfl .nil)) (FOp_f f op) Tryd.func13 rfl rfl (by simp) rfl ?_
  rintro v9 L9 ⟨rfl, rfl⟩
  change At _ _ _ [N5, R] _
  refine At.anyS (.refl _) ?_
  refine op_callA (Nx.agree (nxss rfl rfl rfl rfl)) (.cons rfl (.cons rfl .nil)) (rOp_f f op) Tryd.func14 rfl rfl (by simp) rfl ?_
  rintro v12 L12 ⟨rfl, rfl⟩
  change At _ _ _ [N5, R] _
  refine At.anyS (.refl _) ?_
  refine op_eqB (nxsf rfl rfl rfl) Tryd.underlying4 rfl rfl rfl ?_
  rw [hb]
  refine op_move (nxsf rfl rfl rfl) rfl rfl ?_
  refine op_move (nxsgf rfl rfl rfl rfl rfl rfl) rfl rfl ?_
  refine op_loadAggB (ds := u8s a) (nxsgf rfl rfl rfl rfl rfl rfl) ag34 rfl B5 (by first | (rw [List.drop_zero, List.take_of_length_le (by first | (simp; done) | (simp; omega))]; done) | rfl) (by first | (simp; done) | (simp; omega)) mem0 rfl ?_
  refine op_move (nxsgf rfl rfl rfl rfl rfl rfl) rfl rfl ?_
  refine op_loadAggB (ds := u8s a) (nxsgf rfl rfl rfl rfl rfl rfl) ag34 rfl B5 (by first | (rw [List.drop_zero, List.take_of_length_le (by first | (simp; done) | (simp; omega))]; done) | rfl) (by first | (simp; done) | (simp; omega)) mem0 rfl ?_
  refine op_callA (Nx.agree (nxsgm rfl rfl rfl rfl rfl rfl)) (.cons rfl (.cons rfl .nil)) (FNative_f f ha) Tryd.func15 rfl rfl (by simp) rfl ?_
  rintro v17 L17 ⟨rfl, rfl⟩
  change At _ _ _ [N5, R] _
  refine At.moreS (Lst := [N5, R]) (Lst' := [N5, R]) (.refl _) (.refl _) ?_
  refine op_callA (Nx.agree (nxsgs rfl rfl rfl rfl rfl rfl rfl)) (.cons rfl (.cons rfl .nil)) (rNative_f f ha) Tryd.func16 rfl rfl (by simp) rfl ?_
  rintro v20 L20 ⟨rfl, rfl⟩
  change At _ _ _ [N5, R] _
  refine At.anyS (.refl _) ?_
  refine op_eql (nxsgf rfl rfl rfl rfl rfl rfl) rfl rfl rfl ?_
  refine op_pickT (nxsf rfl rfl rfl) rfl rfl rfl ?_
  refine op_move (nxsf rfl rfl rfl) rfl rfl ?_
  refine At.partP (d := 23) rfl (fun g23 => ?_) (fun g23 => ?_)
  · refine op_callA (Nx.agree (nxsgs rfl rfl rfl rfl rfl rfl rfl)) .nil (Fwakes_f hT) Tryd.func12 rfl rfl (by simp) rfl ?_
    rintro v24 L24 ⟨rfl, rfl⟩
    change At _ _ _ [N5, R] _
    refine At.anyS (.refl _) ?_
    refine op_pickT (nxsf rfl rfl rfl) rfl rfl rfl ?_
    refine op_assign (nxsf rfl rfl rfl) rfl rfl ?_
    refine At.sNil ?_
    refine At.norm (hk_2 ?_)
    refine At.ret (?_)
    refine At.sub (L' := [R]) (.cons _ (.cons_cons _ (.slnil))) ?_
    refine At.ret1 (L1 := []) rfl (.tmp rfl .nil) (.refl _) (.refl _) ?_
    exact ⟨rfl, rfl⟩
  · exact absurd rfl g23
end Go.Proofs.YtoabimaidpbkiaaDoor
