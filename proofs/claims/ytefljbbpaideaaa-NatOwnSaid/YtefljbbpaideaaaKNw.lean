/- quarrylaw02: few, wakes. No condition. -/
import Derived.Test.YtefljbbpaideaaaKRf5
import Derived.Test.YtefljbbpaideaaaK3
import Derived.Test.YtefljbbpaideaaaK2
namespace Go.Proofs.Ytefljbbpaideaaa
set_option linter.unusedVariables false
set_option linter.unusedSimpArgs false
open Go Go.RowKit
theorem few_f {N : Heaplet} {ao : Option Addr} {n cap : Nat} {l : List UInt8} (h : RSl N 1 ao n cap (u8s l)) : Fn Try.prog 38 #[.slice ao n cap] [] [N] (fun v L => ∃ M a c, v = .slice a (l.take 600).length c ∧ L = [M] ∧ Row M 5 1 a (l.take 600).length c (u8s (l.take 600))) := by
  refine Fn.enter (vs := [.slice ao n cap]) Try.func38 rfl rfl rfl ?_
  intro E R hR
  have h := h.le (hR N (by simp))
  change At _ _ E [R] _
  refine At.seq fun K1 hk_1 => ?_
  refine At.region ?_
  refine op_assign (nxlf rfl) rfl rfl ?_
  refine At.opsNil ?_
  refine At.norm (hk_1 ?_)
  refine At.seq fun K2 hk_2 => ?_
  refine At.region ?_
  refine op_move (nxlf rfl) rfl rfl ?_
  refine op_callA (nxla rfl) (.cons rfl (.cons rfl .nil)) (KTwin_f h 600 600 rfl (by decide)) Try.func43 rfl rfl (by simp) rfl ?_
  rintro v4 L4 ⟨M4, a4, p4, rfl, rfl, r4⟩
  change At _ _ _ [M4, R] _
  refine op_assign (nxlf rfl) rfl rfl ?_
  refine At.opsNil ?_
  refine At.norm (hk_2 ?_)
  refine At.ret (?_)
  refine At.ret1 (L1 := [M4]) rfl (.tmp rfl .nil) (.refl _) (.refl _) ?_
  exact ⟨M4, a4, p4, rfl, rfl, r4⟩
set_option maxRecDepth 100000 in
theorem Nwakes_f : Fn Try.prog 40 #[] [] [] (fun v L => v = .bool true ∧ L = []) := by
  have e1 : bytesOf (be [1, 0] / be [7]) = [36] := by decide +kernel
  have e2 : bytesOf (be [1, 0] % be [7]) = [4] := by decide +kernel
  have e3 : bytesOf (be [3] ^ be [5] % be [7]) = [5] := by decide +kernel
  have e4 : bytesOf (be [255] * be [255]) = [254, 1] := by decide +kernel
  refine Fn.enter (vs := []) Try.func40 rfl rfl rfl ?_
  intro E R hR
  change At _ _ E [R] _
  refine At.seq fun K1 hk_1 => ?_
  refine At.region ?_
  refine op_assign (nxlf rfl) rfl rfl ?_
  refine At.opsNil ?_
  refine At.norm (hk_1 ?_)
  refine At.seq fun K2 hk_2 => ?_
  refine At.region ?_
  refine op_lit (nxla rfl) Try.underlying34 ze5 sz5 (.cons rfl (.cons rfl .nil)) rfl rfl (by simp [Value.cells]) rfl rfl rfl (fun N5 a5 r5 => ?_)
  simp only [flatV, List.flatMap_cons, List.flatMap_nil, Value.cells, List.append_nil, List.cons_append, List.nil_append] at r5
  have s5 := r5.rsl
  change Row N5 _ 1 a5 2 2 (u8s [1, 0]) at r5
  have s5 := r5.rsl
  refine op_lit (nxla rfl) Try.underlying34 ze5 sz5 (.cons rfl .nil) rfl rfl (by simp [Value.cells]) rfl rfl rfl (fun N6 a6 r6 => ?_)
  simp only [flatV, List.flatMap_cons, List.flatMap_nil, Value.cells, List.append_nil, List.cons_append, List.nil_append] at r6
  have s6 := r6.rsl
  change Row N6 _ 1 a6 1 1 (u8s [7]) at r6
  have s6 := r6.rsl
  refine op_callA (nxla rfl) (.cons rfl (.cons rfl .nil)) (NDivMod_f s5 s6 (by omega) (by omega) (by decide)) Try.func39 rfl rfl (by simp) rfl ?_
  rintro v7 L7 ⟨Mq, pq, cq, Mr, pr, cr, rfl, rfl, rq, rr⟩
  change At _ _ _ [Mq, Mr, N6, N5, R] _
  have sq := rq.rsl
  have sr := rr.rsl
  rw [e1] at sq ⊢
  rw [e2] at sr ⊢
  refine op_move (nxlf rfl) rfl rfl ?_
  refine op_extract (nxlf rfl) rfl rfl rfl ?_
  refine op_extract (nxlf rfl) rfl rfl rfl ?_
  refine op_extract (nxlf rfl) rfl rfl rfl ?_
  clear e1 e2
  refine op_assign (nxlf rfl) rfl rfl ?_
  refine op_assign (nxlf rfl) rfl rfl ?_
  refine op_assign (nxlf rfl) rfl rfl ?_
  refine At.opsNil ?_
  refine At.norm (hk_2 ?_)
  refine At.seq fun K3 hk_3 => ?_
  refine At.region ?_
  refine op_move (nxlf rfl) rfl rfl ?_
  refine op_move (nxlf rfl) rfl rfl ?_
  refine op_move (nxgf rfl rfl rfl rfl) rfl rfl ?_
  refine op_str (nxgf rfl rfl rfl rfl) Try.underlying34 Try.underlying5 Try.underlying9 rfl (by assumption) (by first | exact mem0 | exact mem1 | exact mem2 | exact mem3 | exact mem4 | exact mem5 | exact mem6 | exact mem7 | exact mem8 | exact mem9) rfl ?_
  refine op_eqS (b := [36]) (nxgf rfl rfl rfl rfl) rfl rfl rfl ?_
  refine op_pickT (nxlf rfl) rfl rfl rfl ?_
  refine op_move (nxlf rfl) rfl rfl ?_
  refine At.partP (d := 17) rfl (fun g17 => ?_) (fun g17 => ?_)
  · refine op_move (nxgf rfl rfl rfl rfl) rfl rfl ?_
    refine op_str (nxgf rfl rfl rfl rfl) Try.underlying34 Try.underlying5 Try.underlying9 rfl (by assumption) (by first | exact mem0 | exact mem1 | exact mem2 | exact mem3 | exact mem4 | exact mem5 | exact mem6 | exact mem7 | exact mem8 | exact mem9) rfl ?_
    refine op_eqS (b := [4]) (nxgf rfl rfl rfl rfl) rfl rfl rfl ?_
    refine op_pickT (nxlf rfl) rfl rfl rfl ?_
    refine op_move (nxlf rfl) rfl rfl ?_
    refine At.partP (d := 22) rfl (fun g22 => ?_) (fun g22 => ?_)
    · refine op_lit (nxga rfl rfl rfl rfl) Try.underlying34 ze5 sz5 (.cons rfl .nil) rfl rfl (by simp [Value.cells]) rfl rfl rfl (fun N23 a23 r23 => ?_)
      simp only [flatV, List.flatMap_cons, List.flatMap_nil, Value.cells, List.append_nil, List.cons_append, List.nil_append] at r23
      have s23 := r23.rsl
      change Row N23 _ 1 a23 1 1 (u8s [3]) at r23
      have s23 := r23.rsl
      refine op_lit (nxga rfl rfl rfl rfl) Try.underlying34 ze5 sz5 (.cons rfl .nil) rfl rfl (by simp [Value.cells]) rfl rfl rfl (fun N24 a24 r24 => ?_)
      simp only [flatV, List.flatMap_cons, List.flatMap_nil, Value.cells, List.append_nil, List.cons_append, List.nil_append] at r24
      have s24 := r24.rsl
      change Row N24 _ 1 a24 1 1 (u8s [5]) at r24
      have s24 := r24.rsl
      refine op_lit (nxga rfl rfl rfl rfl) Try.underlying34 ze5 sz5 (.cons rfl .nil) rfl rfl (by simp [Value.cells]) rfl rfl rfl (fun N25 a25 r25 => ?_)
      simp only [flatV, List.flatMap_cons, List.flatMap_nil, Value.cells, List.append_nil, List.cons_append, List.nil_append] at r25
      have s25 := r25.rsl
      change Row N25 _ 1 a25 1 1 (u8s [7]) at r25
      have s25 := r25.rsl
      refine op_callA (nxga rfl rfl rfl rfl) (.cons rfl (.cons rfl (.cons rfl .nil))) (NModExp_f s23 s24 s25 (by omega) (by omega) (by omega) (by decide)) Try.func44 rfl rfl (by simp) rfl ?_
      rintro v26 L26 ⟨M26, p26, c26, rfl, rfl, r26⟩
      change At _ _ _ [M26, N25, N24, N23, Mq, Mr, N6, N5, R] _
      have s26 := r26.rsl
      rw [e3] at s26 ⊢
      refine op_str (nxgf rfl rfl rfl rfl) Try.underlying34 Try.underlying5 Try.underlying9 rfl (by assumption) (by first | exact mem0 | exact mem1 | exact mem2 | exact mem3 | exact mem4 | exact mem5 | exact mem6 | exact mem7 | exact mem8 | exact mem9) rfl ?_
      refine op_eqS (b := [5]) (nxgf rfl rfl rfl rfl) rfl rfl rfl ?_
      refine op_pickT (nxlf rfl) rfl rfl rfl ?_
      refine op_move (nxlf rfl) rfl rfl ?_
      refine At.partP (d := 30) rfl (fun g30 => ?_) (fun g30 => ?_)
      · refine op_lit (nxga rfl rfl rfl rfl) Try.underlying34 ze5 sz5 (.cons rfl .nil) rfl rfl (by simp [Value.cells]) rfl rfl rfl (fun N31 a31 r31 => ?_)
        simp only [flatV, List.flatMap_cons, List.flatMap_nil, Value.cells, List.append_nil, List.cons_append, List.nil_append] at r31
        have s31 := r31.rsl
        change Row N31 _ 1 a31 1 1 (u8s [255]) at r31
        have s31 := r31.rsl
        refine op_lit (nxga rfl rfl rfl rfl) Try.underlying34 ze5 sz5 (.cons rfl .nil) rfl rfl (by simp [Value.cells]) rfl rfl rfl (fun N32 a32 r32 => ?_)
        simp only [flatV, List.flatMap_cons, List.flatMap_nil, Value.cells, List.append_nil, List.cons_append, List.nil_append] at r32
        have s32 := r32.rsl
        change Row N32 _ 1 a32 1 1 (u8s [255]) at r32
        have s32 := r32.rsl
        refine op_callA (nxga rfl rfl rfl rfl) (.cons rfl (.cons rfl .nil)) (NMul_f s31 s32 (by omega) (by omega)) Try.func69 rfl rfl (by simp) rfl ?_
        rintro v33 L33 ⟨M33, p33, c33, rfl, rfl, r33⟩
        change At _ _ _ [M33, N32, N31, M26, N25, N24, N23, Mq, Mr, N6, N5, R] _
        have s33 := r33.rsl
        rw [e4] at s33 ⊢
        refine op_str (nxgf rfl rfl rfl rfl) Try.underlying34 Try.underlying5 Try.underlying9 rfl (by assumption) (by first | exact mem0 | exact mem1 | exact mem2 | exact mem3 | exact mem4 | exact mem5 | exact mem6 | exact mem7 | exact mem8 | exact mem9 | exact mem10 | exact mem11) rfl ?_
        refine op_eqS (b := [254, 1]) (nxgf rfl rfl rfl rfl) rfl rfl rfl ?_
        refine op_pickT (nxlf rfl) rfl rfl rfl ?_
        refine op_assign (nxlf rfl) rfl rfl ?_
        refine At.opsNil ?_
        refine At.norm (hk_3 ?_)
        refine At.ret (?_)
        refine At.sub (L' := [R]) (.cons _ (.cons _ (.cons _ (.cons _ (.cons _ (.cons _ (.cons _ (.cons _ (.cons _ (.cons _ (.cons _ (.cons_cons _ (.slnil))))))))))))) ?_
        refine At.ret1 (L1 := []) rfl (.tmp rfl .nil) (.refl _) (.refl _) ?_
        exact ⟨rfl, rfl⟩
      · exact absurd rfl g30
    · exact absurd rfl g22
  · exact absurd rfl g17
end Go.Proofs.Ytefljbbpaideaaa
