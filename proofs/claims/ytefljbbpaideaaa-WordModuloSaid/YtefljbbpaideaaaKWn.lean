/- quarrylaw01.WordModulo answers true. No condition. -/
import Derived.Test.YtefljbbpaideaaaKWw
import Derived.Test.YtefljbbpaideaaaKWm
namespace Go.Proofs.Ytefljbbpaideaaa
set_option linter.unusedVariables false
set_option linter.unusedSimpArgs false
open Go Go.RowKit
set_option maxRecDepth 100000 in
set_option maxHeartbeats 2000000 in
theorem WordModulo_w {x y z : Nat} (hx : x < WW) (hy : y < WW) (hz : z < WW) : Fn Try.prog 10 #[.agg (u64s (wl x ++ wl y ++ wl z)).toArray] [] [] (fun v L => v = .bool true ∧ L = []) := by
  refine Fn.enter (vs := [.agg (u64s (wl x ++ wl y ++ wl z)).toArray]) Try.func10 rfl rfl rfl ?_
  intro E R hR
  change At _ _ E [R] _
  refine At.seq fun K1 hk_1 => ?_
  refine At.region ?_
  refine op_box (nxla rfl) rfl rfl rfl (fun N1 b1 B1 => ?_)
  change Blk N1 b1 _ (u64s (wl x ++ wl y ++ wl z)) at B1
  refine op_assign (nxlf rfl) rfl rfl ?_
  refine At.opsNil ?_
  refine At.norm (hk_1 ?_)
  refine At.seq fun K2 hk_2 => ?_
  refine At.drawnS [N1, R] [13,29,42,46] [] [0,1,2,3,4,5,7,8,9,10,11,12,6,13,14,15,16,17,18,19,20,21,23,24,25,26,27,28,22,29,30,31,32,33,34,35,36,38,39,40,41,37,42,43,44,45,46,47,48] (by kernel_rfl) (by kernel_rfl) (.refl _) ?_
  refine op_fieldAddr (nxsf rfl rfl rfl) fl26_0 rfl rfl ?_
  refine op_loadAggB (ds := u64s (wl x)) (nxsf rfl rfl rfl) ag24 rfl B1 (by first | (rw [List.drop_zero, List.take_of_length_le (by first | (simp; done) | (simp; omega))]; done) | rfl) (by first | (simp; done) | (simp; omega)) mem0 rfl ?_
  refine op_fieldAddr (nxsf rfl rfl rfl) fl26_1 rfl rfl ?_
  refine op_loadAggB (ds := u64s (wl y)) (nxsf rfl rfl rfl) ag24 rfl B1 (by first | (rw [List.drop_zero, List.take_of_length_le (by first | (simp; done) | (simp; omega))]; done) | rfl) (by first | (simp; done) | (simp; omega)) mem0 rfl ?_
  refine op_fieldAddr (nxsf rfl rfl rfl) fl26_2 rfl rfl ?_
  refine op_loadAggB (ds := u64s (wl z)) (nxsf rfl rfl rfl) ag24 rfl B1 (by first | (rw [List.drop_zero, List.take_of_length_le (by first | (simp; done) | (simp; omega))]; done) | rfl) (by first | (simp; done) | (simp; omega)) mem0 rfl ?_
  refine op_fieldAddr (nxsf rfl rfl rfl) fl26_0 rfl rfl ?_
  refine op_loadAggB (ds := u64s (wl x)) (nxsf rfl rfl rfl) ag24 rfl B1 (by first | (rw [List.drop_zero, List.take_of_length_le (by first | (simp; done) | (simp; omega))]; done) | rfl) (by first | (simp; done) | (simp; omega)) mem0 rfl ?_
  refine op_fieldAddr (nxsf rfl rfl rfl) fl26_1 rfl rfl ?_
  refine op_loadAggB (ds := u64s (wl y)) (nxsf rfl rfl rfl) ag24 rfl B1 (by first | (rw [List.drop_zero, List.take_of_length_le (by first | (simp; done) | (simp; omega))]; done) | rfl) (by first | (simp; done) | (simp; omega)) mem0 rfl ?_
  refine op_fieldAddr (nxsf rfl rfl rfl) fl26_2 rfl rfl ?_
  refine op_loadAggB (ds := u64s (wl z)) (nxsf rfl rfl rfl) ag24 rfl B1 (by first | (rw [List.drop_zero, List.take_of_length_le (by first | (simp; done) | (simp; omega))]; done) | rfl) (by first | (simp; done) | (simp; omega)) mem0 rfl ?_
  refine op_callA (Nx.agree (nxsm rfl rfl rfl)) (.cons rfl (.cons rfl (.cons rfl .nil))) (WAddmod_f hx hy hz) Try.func62 rfl rfl (by simp) rfl ?_
  rintro v9 L9 ⟨rfl, rfl⟩
  change At _ _ _ [N1, R] _
  refine At.moreS (Lst := [N1, R]) (Lst' := [N1, R]) (.refl _) (.refl _) ?_
  refine op_callA (Nx.agree (nxss rfl rfl rfl rfl)) (.cons rfl (.cons rfl (.cons rfl .nil))) (rAddmod_w hx hy hz) Try.func63 rfl rfl (by simp) rfl ?_
  rintro v16 L16 ⟨rfl, rfl⟩
  change At _ _ _ [N1, R] _
  refine At.anyS (.refl _) ?_
  refine op_eqW (a := wl (modZ (x + y) z)) (b := wl (modZ (x + y) z)) (nxsf rfl rfl rfl) ae24 Try.underlying22 (by kernel_rfl) rfl rfl rfl rfl rfl ?_
  refine op_move (nxsf rfl rfl rfl) rfl rfl ?_
  refine At.partP (d := 18) rfl (fun g18 => ?_) (fun g18 => ?_)
  · refine op_fieldAddr (nxsgf rfl rfl rfl rfl rfl rfl) fl26_0 rfl rfl ?_
    refine op_loadAggB (ds := u64s (wl x)) (nxsgf rfl rfl rfl rfl rfl rfl) ag24 rfl B1 (by first | (rw [List.drop_zero, List.take_of_length_le (by first | (simp; done) | (simp; omega))]; done) | rfl) (by first | (simp; done) | (simp; omega)) mem0 rfl ?_
    refine op_fieldAddr (nxsgf rfl rfl rfl rfl rfl rfl) fl26_1 rfl rfl ?_
    refine op_loadAggB (ds := u64s (wl y)) (nxsgf rfl rfl rfl rfl rfl rfl) ag24 rfl B1 (by first | (rw [List.drop_zero, List.take_of_length_le (by first | (simp; done) | (simp; omega))]; done) | rfl) (by first | (simp; done) | (simp; omega)) mem0 rfl ?_
    refine op_fieldAddr (nxsgf rfl rfl rfl rfl rfl rfl) fl26_2 rfl rfl ?_
    refine op_loadAggB (ds := u64s (wl z)) (nxsgf rfl rfl rfl rfl rfl rfl) ag24 rfl B1 (by first | (rw [List.drop_zero, List.take_of_length_le (by first | (simp; done) | (simp; omega))]; done) | rfl) (by first | (simp; done) | (simp; omega)) mem0 rfl ?_
    refine op_fieldAddr (nxsgf rfl rfl rfl rfl rfl rfl) fl26_0 rfl rfl ?_
    refine op_loadAggB (ds := u64s (wl x)) (nxsgf rfl rfl rfl rfl rfl rfl) ag24 rfl B1 (by first | (rw [List.drop_zero, List.take_of_length_le (by first | (simp; done) | (simp; omega))]; done) | rfl) (by first | (simp; done) | (simp; omega)) mem0 rfl ?_
    refine op_fieldAddr (nxsgf rfl rfl rfl rfl rfl rfl) fl26_1 rfl rfl ?_
    refine op_loadAggB (ds := u64s (wl y)) (nxsgf rfl rfl rfl rfl rfl rfl) ag24 rfl B1 (by first | (rw [List.drop_zero, List.take_of_length_le (by first | (simp; done) | (simp; omega))]; done) | rfl) (by first | (simp; done) | (simp; omega)) mem0 rfl ?_
    refine op_fieldAddr (nxsgf rfl rfl rfl rfl rfl rfl) fl26_2 rfl rfl ?_
    refine op_loadAggB (ds := u64s (wl z)) (nxsgf rfl rfl rfl rfl rfl rfl) ag24 rfl B1 (by first | (rw [List.drop_zero, List.take_of_length_le (by first | (simp; done) | (simp; omega))]; done) | rfl) (by first | (simp; done) | (simp; omega)) mem0 rfl ?_
    refine op_callA (Nx.agree (nxsgm rfl rfl rfl rfl rfl rfl)) (.cons rfl (.cons rfl (.cons rfl .nil))) (WMulmod_f hx hy hz) Try.func64 rfl rfl (by simp) rfl ?_
    rintro v25 L25 ⟨rfl, rfl⟩
    change At _ _ _ [N1, R] _
    refine At.moreS (Lst := [N1, R]) (Lst' := [N1, R]) (.refl _) (.refl _) ?_
    refine op_callA (Nx.agree (nxsgs rfl rfl rfl rfl rfl rfl rfl)) (.cons rfl (.cons rfl (.cons rfl .nil))) (rMulmod_w hx hy hz) Try.func65 rfl rfl (by simp) rfl ?_
    rintro v32 L32 ⟨rfl, rfl⟩
    change At _ _ _ [N1, R] _
    refine At.anyS (.refl _) ?_
    refine op_eqW (a := wl (modZ (x * y) z)) (b := wl (modZ (x * y) z)) (nxsgf rfl rfl rfl rfl rfl rfl) ae24 Try.underlying22 (by kernel_rfl) rfl rfl rfl rfl rfl ?_
    refine op_pickT (nxsf rfl rfl rfl) rfl rfl rfl ?_
    refine op_move (nxsf rfl rfl rfl) rfl rfl ?_
    refine At.partP (d := 35) rfl (fun g35 => ?_) (fun g35 => ?_)
    · refine op_fieldAddr (nxsgf rfl rfl rfl rfl rfl rfl) fl26_0 rfl rfl ?_
      refine op_loadAggB (ds := u64s (wl x)) (nxsgf rfl rfl rfl rfl rfl rfl) ag24 rfl B1 (by first | (rw [List.drop_zero, List.take_of_length_le (by first | (simp; done) | (simp; omega))]; done) | rfl) (by first | (simp; done) | (simp; omega)) mem0 rfl ?_
      refine op_fieldAddr (nxsgf rfl rfl rfl rfl rfl rfl) fl26_1 rfl rfl ?_
      refine op_loadAggB (ds := u64s (wl y)) (nxsgf rfl rfl rfl rfl rfl rfl) ag24 rfl B1 (by first | (rw [List.drop_zero, List.take_of_length_le (by first | (simp; done) | (simp; omega))]; done) | rfl) (by first | (simp; done) | (simp; omega)) mem0 rfl ?_
      refine op_fieldAddr (nxsgf rfl rfl rfl rfl rfl rfl) fl26_0 rfl rfl ?_
      refine op_loadAggB (ds := u64s (wl x)) (nxsgf rfl rfl rfl rfl rfl rfl) ag24 rfl B1 (by first | (rw [List.drop_zero, List.take_of_length_le (by first | (simp; done) | (simp; omega))]; done) | rfl) (by first | (simp; done) | (simp; omega)) mem0 rfl ?_
      refine op_fieldAddr (nxsgf rfl rfl rfl rfl rfl rfl) fl26_1 rfl rfl ?_
      refine op_loadAggB (ds := u64s (wl y)) (nxsgf rfl rfl rfl rfl rfl rfl) ag24 rfl B1 (by first | (rw [List.drop_zero, List.take_of_length_le (by first | (simp; done) | (simp; omega))]; done) | rfl) (by first | (simp; done) | (simp; omega)) mem0 rfl ?_
      refine op_callA (Nx.agree (nxsgm rfl rfl rfl rfl rfl rfl)) (.cons rfl (.cons rfl .nil)) (WExp_f hx hy) Try.func35 rfl rfl (by simp) rfl ?_
      rintro v40 L40 ⟨rfl, rfl⟩
      change At _ _ _ [N1, R] _
      refine At.moreS (Lst := [N1, R]) (Lst' := [N1, R]) (.refl _) (.refl _) ?_
      refine op_callA (Nx.agree (nxsgs rfl rfl rfl rfl rfl rfl rfl)) (.cons rfl (.cons rfl .nil)) (rExp_w hx hy) Try.func66 rfl rfl (by simp) rfl ?_
      rintro v45 L45 ⟨rfl, rfl⟩
      change At _ _ _ [N1, R] _
      refine At.anyS (.refl _) ?_
      refine op_eqW (a := wl (x ^ y)) (b := wl (x ^ y)) (nxsgf rfl rfl rfl rfl rfl rfl) ae24 Try.underlying22 (by kernel_rfl) rfl rfl rfl rfl rfl ?_
      refine op_pickT (nxsf rfl rfl rfl) rfl rfl rfl ?_
      refine op_move (nxsf rfl rfl rfl) rfl rfl ?_
      refine At.partP (d := 48) rfl (fun g48 => ?_) (fun g48 => ?_)
      · refine op_callA (Nx.agree (nxsgs rfl rfl rfl rfl rfl rfl rfl)) .nil (Wwakes_f) Try.func26 rfl rfl (by simp) rfl ?_
        rintro v49 L49 ⟨rfl, rfl⟩
        change At _ _ _ [N1, R] _
        refine At.anyS (.refl _) ?_
        refine op_pickT (nxsf rfl rfl rfl) rfl rfl rfl ?_
        refine op_assign (nxsf rfl rfl rfl) rfl rfl ?_
        refine At.sNil ?_
        refine At.norm (hk_2 ?_)
        refine At.ret (?_)
        refine At.sub (L' := [R]) (.cons _ (.cons_cons _ (.slnil))) ?_
        refine At.ret1 (L1 := []) rfl (.tmp rfl .nil) (.refl _) (.refl _) ?_
        exact ⟨rfl, rfl⟩
      · exact absurd rfl g48
    · exact absurd rfl g35
  · exact absurd rfl g18
theorem WordModulo_f {wa wb wm : List UInt64} (ha : wa.length = 4) (hb : wb.length = 4) (hm : wm.length = 4) : Fn Try.prog 10 #[.agg (u64s (wa ++ wb ++ wm)).toArray] [] [] (fun v L => v = .bool true ∧ L = []) := by
  rw [wl_self ha, wl_self hb, wl_self hm]
  exact WordModulo_w (v64_lt4 ha) (v64_lt4 hb) (v64_lt4 hm)
end Go.Proofs.Ytefljbbpaideaaa
