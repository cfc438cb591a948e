/- quarrylaw01.WordQuotients answers true. No condition. -/
import Derived.Test.YtefljbbpaideaaaKWw
import Derived.Test.YtefljbbpaideaaaKWr2
namespace Go.Proofs.Ytefljbbpaideaaa
set_option linter.unusedVariables false
set_option linter.unusedSimpArgs false
open Go Go.RowKit
set_option maxRecDepth 100000 in
set_option maxHeartbeats 2000000 in
theorem WordQuotients_w {x y z : Nat} (hx : x < WW) (hy : y < WW) (hz : z < WW) : Fn Try.prog 3 #[.agg (u64s (wl x ++ wl y ++ wl z)).toArray] [] [] (fun v L => v = .bool true ∧ L = []) := by
  refine Fn.enter (vs := [.agg (u64s (wl x ++ wl y ++ wl z)).toArray]) Try.func3 rfl rfl rfl ?_
  intro E R hR
  change At _ _ E [R] _
  refine At.seq fun K1 hk_1 => ?_
  refine At.region ?_
  refine op_box (nxla rfl) rfl rfl rfl (fun N1 b1 B1 => ?_)
  change Blk N1 b1 _ (u64s (wl x ++ wl y ++ wl z)) at B1
  refine op_assign (nxlf rfl) rfl rfl ?_
  refine At.opsNil ?_
  refine At.norm (hk_1 ?_)
  refine At.seq fun K2 hk_2 => ?_
  refine At.drawnS [N1, R] [9,21,34,47,51] [] [0,1,2,3,5,6,7,8,4,9,10,11,12,13,14,15,17,18,19,20,16,21,22,23,24,25,26,27,28,30,31,32,33,29,34,35,36,37,38,39,40,41,43,44,45,46,42,47,48,49,50,51,52,53] (by kernel_rfl) (by kernel_rfl) (.refl _) ?_
  refine op_fieldAddr (nxsf rfl rfl rfl) fl26_0 rfl rfl ?_
  refine op_loadAggB (ds := u64s (wl x)) (nxsf rfl rfl rfl) ag24 rfl B1 (by first | (rw [List.drop_zero, List.take_of_length_le (by first | (simp; done) | (simp; omega))]; done) | rfl) (by first | (simp; done) | (simp; omega)) mem0 rfl ?_
  refine op_fieldAddr (nxsf rfl rfl rfl) fl26_1 rfl rfl ?_
  refine op_loadAggB (ds := u64s (wl y)) (nxsf rfl rfl rfl) ag24 rfl B1 (by first | (rw [List.drop_zero, List.take_of_length_le (by first | (simp; done) | (simp; omega))]; done) | rfl) (by first | (simp; done) | (simp; omega)) mem0 rfl ?_
  refine op_fieldAddr (nxsf rfl rfl rfl) fl26_0 rfl rfl ?_
  refine op_loadAggB (ds := u64s (wl x)) (nxsf rfl rfl rfl) ag24 rfl B1 (by first | (rw [List.drop_zero, List.take_of_length_le (by first | (simp; done) | (simp; omega))]; done) | rfl) (by first | (simp; done) | (simp; omega)) mem0 rfl ?_
  refine op_fieldAddr (nxsf rfl rfl rfl) fl26_1 rfl rfl ?_
  refine op_loadAggB (ds := u64s (wl y)) (nxsf rfl rfl rfl) ag24 rfl B1 (by first | (rw [List.drop_zero, List.take_of_length_le (by first | (simp; done) | (simp; omega))]; done) | rfl) (by first | (simp; done) | (simp; omega)) mem0 rfl ?_
  refine op_callA (Nx.agree (nxsm rfl rfl rfl)) (.cons rfl (.cons rfl .nil)) (WDiv_f hx hy) Try.func18 rfl rfl (by simp) rfl ?_
  rintro v7 L7 ⟨rfl, rfl⟩
  change At _ _ _ [N1, R] _
  refine At.moreS (Lst := [N1, R]) (Lst' := [N1, R]) (.refl _) (.refl _) ?_
  refine op_callA (Nx.agree (nxss rfl rfl rfl rfl)) (.cons rfl (.cons rfl .nil)) (rDiv_w hx hy) Try.func19 rfl rfl (by simp) rfl ?_
  rintro v12 L12 ⟨rfl, rfl⟩
  change At _ _ _ [N1, R] _
  refine At.anyS (.refl _) ?_
  refine op_eqW (a := wl (x / y)) (b := wl (x / y)) (nxsf rfl rfl rfl) ae24 Try.underlying22 (by kernel_rfl) rfl rfl rfl rfl rfl ?_
  refine op_move (nxsf rfl rfl rfl) rfl rfl ?_
  refine At.partP (d := 14) rfl (fun g14 => ?_) (fun g14 => ?_)
  · refine op_fieldAddr (nxsgf rfl rfl rfl rfl rfl rfl) fl26_0 rfl rfl ?_
    refine op_loadAggB (ds := u64s (wl x)) (nxsgf rfl rfl rfl rfl rfl rfl) ag24 rfl B1 (by first | (rw [List.drop_zero, List.take_of_length_le (by first | (simp; done) | (simp; omega))]; done) | rfl) (by first | (simp; done) | (simp; omega)) mem0 rfl ?_
    refine op_fieldAddr (nxsgf rfl rfl rfl rfl rfl rfl) fl26_1 rfl rfl ?_
    refine op_loadAggB (ds := u64s (wl y)) (nxsgf rfl rfl rfl rfl rfl rfl) ag24 rfl B1 (by first | (rw [List.drop_zero, List.take_of_length_le (by first | (simp; done) | (simp; omega))]; done) | rfl) (by first | (simp; done) | (simp; omega)) mem0 rfl ?_
    refine op_fieldAddr (nxsgf rfl rfl rfl rfl rfl rfl) fl26_0 rfl rfl ?_
    refine op_loadAggB (ds := u64s (wl x)) (nxsgf rfl rfl rfl rfl rfl rfl) ag24 rfl B1 (by first | (rw [List.drop_zero, List.take_of_length_le (by first | (simp; done) | (simp; omega))]; done) | rfl) (by first | (simp; done) | (simp; omega)) mem0 rfl ?_
    refine op_fieldAddr (nxsgf rfl rfl rfl rfl rfl rfl) fl26_1 rfl rfl ?_
    refine op_loadAggB (ds := u64s (wl y)) (nxsgf rfl rfl rfl rfl rfl rfl) ag24 rfl B1 (by first | (rw [List.drop_zero, List.take_of_length_le (by first | (simp; done) | (simp; omega))]; done) | rfl) (by first | (simp; done) | (simp; omega)) mem0 rfl ?_
    refine op_callA (Nx.agree (nxsgm rfl rfl rfl rfl rfl rfl)) (.cons rfl (.cons rfl .nil)) (WMod_f hx hy) Try.func20 rfl rfl (by simp) rfl ?_
    rintro v19 L19 ⟨rfl, rfl⟩
    change At _ _ _ [N1, R] _
    refine At.moreS (Lst := [N1, R]) (Lst' := [N1, R]) (.refl _) (.refl _) ?_
    refine op_callA (Nx.agree (nxsgs rfl rfl rfl rfl rfl rfl rfl)) (.cons rfl (.cons rfl .nil)) (rMod_w hx hy) Try.func21 rfl rfl (by simp) rfl ?_
    rintro v24 L24 ⟨rfl, rfl⟩
    change At _ _ _ [N1, R] _
    refine At.anyS (.refl _) ?_
    refine op_eqW (a := wl (modZ x y)) (b := wl (modZ x y)) (nxsgf rfl rfl rfl rfl rfl rfl) ae24 Try.underlying22 (by kernel_rfl) rfl rfl rfl rfl rfl ?_
    refine op_pickT (nxsf rfl rfl rfl) rfl rfl rfl ?_
    refine op_move (nxsf rfl rfl rfl) rfl rfl ?_
    refine At.partP (d := 27) rfl (fun g27 => ?_) (fun g27 => ?_)
    · refine op_fieldAddr (nxsgf rfl rfl rfl rfl rfl rfl) fl26_0 rfl rfl ?_
      refine op_loadAggB (ds := u64s (wl x)) (nxsgf rfl rfl rfl rfl rfl rfl) ag24 rfl B1 (by first | (rw [List.drop_zero, List.take_of_length_le (by first | (simp; done) | (simp; omega))]; done) | rfl) (by first | (simp; done) | (simp; omega)) mem0 rfl ?_
      refine op_fieldAddr (nxsgf rfl rfl rfl rfl rfl rfl) fl26_1 rfl rfl ?_
      refine op_loadAggB (ds := u64s (wl y)) (nxsgf rfl rfl rfl rfl rfl rfl) ag24 rfl B1 (by first | (rw [List.drop_zero, List.take_of_length_le (by first | (simp; done) | (simp; omega))]; done) | rfl) (by first | (simp; done) | (simp; omega)) mem0 rfl ?_
      refine op_fieldAddr (nxsgf rfl rfl rfl rfl rfl rfl) fl26_0 rfl rfl ?_
      refine op_loadAggB (ds := u64s (wl x)) (nxsgf rfl rfl rfl rfl rfl rfl) ag24 rfl B1 (by first | (rw [List.drop_zero, List.take_of_length_le (by first | (simp; done) | (simp; omega))]; done) | rfl) (by first | (simp; done) | (simp; omega)) mem0 rfl ?_
      refine op_fieldAddr (nxsgf rfl rfl rfl rfl rfl rfl) fl26_1 rfl rfl ?_
      refine op_loadAggB (ds := u64s (wl y)) (nxsgf rfl rfl rfl rfl rfl rfl) ag24 rfl B1 (by first | (rw [List.drop_zero, List.take_of_length_le (by first | (simp; done) | (simp; omega))]; done) | rfl) (by first | (simp; done) | (simp; omega)) mem0 rfl ?_
      refine op_callA (Nx.agree (nxsgm rfl rfl rfl rfl rfl rfl)) (.cons rfl (.cons rfl .nil)) (WSdiv_f hx hy) Try.func22 rfl rfl (by simp) rfl ?_
      rintro v32 L32 ⟨rfl, rfl⟩
      change At _ _ _ [N1, R] _
      refine At.moreS (Lst := [N1, R]) (Lst' := [N1, R]) (.refl _) (.refl _) ?_
      refine op_callA (Nx.agree (nxsgs rfl rfl rfl rfl rfl rfl rfl)) (.cons rfl (.cons rfl .nil)) (rSdiv_w hx hy) Try.func23 rfl rfl (by simp) rfl ?_
      rintro v37 L37 ⟨rfl, rfl⟩
      change At _ _ _ [N1, R] _
      refine At.anyS (.refl _) ?_
      refine op_eqW (a := wl (sgn (negB x != negB y) (absW x / absW y))) (b := wl (sgn (negB x != negB y) (absW x / absW y))) (nxsgf rfl rfl rfl rfl rfl rfl) ae24 Try.underlying22 (by kernel_rfl) rfl rfl rfl rfl rfl ?_
      refine op_pickT (nxsf rfl rfl rfl) rfl rfl rfl ?_
      refine op_move (nxsf rfl rfl rfl) rfl rfl ?_
      refine At.partP (d := 40) rfl (fun g40 => ?_) (fun g40 => ?_)
      · refine op_fieldAddr (nxsgf rfl rfl rfl rfl rfl rfl) fl26_0 rfl rfl ?_
        refine op_loadAggB (ds := u64s (wl x)) (nxsgf rfl rfl rfl rfl rfl rfl) ag24 rfl B1 (by first | (rw [List.drop_zero, List.take_of_length_le (by first | (simp; done) | (simp; omega))]; done) | rfl) (by first | (simp; done) | (simp; omega)) mem0 rfl ?_
        refine op_fieldAddr (nxsgf rfl rfl rfl rfl rfl rfl) fl26_1 rfl rfl ?_
        refine op_loadAggB (ds := u64s (wl y)) (nxsgf rfl rfl rfl rfl rfl rfl) ag24 rfl B1 (by first | (rw [List.drop_zero, List.take_of_length_le (by first | (simp; done) | (simp; omega))]; done) | rfl) (by first | (simp; done) | (simp; omega)) mem0 rfl ?_
        refine op_fieldAddr (nxsgf rfl rfl rfl rfl rfl rfl) fl26_0 rfl rfl ?_
        refine op_loadAggB (ds := u64s (wl x)) (nxsgf rfl rfl rfl rfl rfl rfl) ag24 rfl B1 (by first | (rw [List.drop_zero, List.take_of_length_le (by first | (simp; done) | (simp; omega))]; done) | rfl) (by first | (simp; done) | (simp; omega)) mem0 rfl ?_
        refine op_fieldAddr (nxsgf rfl rfl rfl rfl rfl rfl) fl26_1 rfl rfl ?_
        refine op_loadAggB (ds := u64s (wl y)) (nxsgf rfl rfl rfl rfl rfl rfl) ag24 rfl B1 (by first | (rw [List.drop_zero, List.take_of_length_le (by first | (simp; done) | (simp; omega))]; done) | rfl) (by first | (simp; done) | (simp; omega)) mem0 rfl ?_
        refine op_callA (Nx.agree (nxsgm rfl rfl rfl rfl rfl rfl)) (.cons rfl (.cons rfl .nil)) (WSmod_f hx hy) Try.func24 rfl rfl (by simp) rfl ?_
        rintro v45 L45 ⟨rfl, rfl⟩
        change At _ _ _ [N1, R] _
        refine At.moreS (Lst := [N1, R]) (Lst' := [N1, R]) (.refl _) (.refl _) ?_
        refine op_callA (Nx.agree (nxsgs rfl rfl rfl rfl rfl rfl rfl)) (.cons rfl (.cons rfl .nil)) (rSmod_w hx hy) Try.func25 rfl rfl (by simp) rfl ?_
        rintro v50 L50 ⟨rfl, rfl⟩
        change At _ _ _ [N1, R] _
        refine At.anyS (.refl _) ?_
        refine op_eqW (a := wl (sgn (negB x) (modZ (absW x) (absW y)))) (b := wl (sgn (negB x) (modZ (absW x) (absW y)))) (nxsgf rfl rfl rfl rfl rfl rfl) ae24 Try.underlying22 (by kernel_rfl) rfl rfl rfl rfl rfl ?_
        refine op_pickT (nxsf rfl rfl rfl) rfl rfl rfl ?_
        refine op_move (nxsf rfl rfl rfl) rfl rfl ?_
        refine At.partP (d := 53) rfl (fun g53 => ?_) (fun g53 => ?_)
        · refine op_callA (Nx.agree (nxsgs rfl rfl rfl rfl rfl rfl rfl)) .nil (Wwakes_f) Try.func26 rfl rfl (by simp) rfl ?_
          rintro v54 L54 ⟨rfl, rfl⟩
          change At _ _ _ [N1, R] _
          refine At.anyS (.refl _) ?_
          refine op_pickT (nxsf rfl rfl rfl) rfl rfl rfl ?_
          refine op_assign (nxsf rfl rfl rfl) rfl rfl ?_
          refine At.sNil ?_
          refine At.norm (hk_2 ?_)
          refine At.ret (?_)
          refine At.sub (L' := [R]) (.cons _ (.cons_cons _ (.slnil))) ?_
          refine At.ret1 (L1 := []) rfl (.tmp rfl .nil) (.refl _) (.refl _) ?_
          exact ⟨rfl, rfl⟩
        · exact absurd rfl g53
      · exact absurd rfl g40
    · exact absurd rfl g27
  · exact absurd rfl g14
theorem WordQuotients_f {wa wb wm : List UInt64} (ha : wa.length = 4) (hb : wb.length = 4) (hm : wm.length = 4) : Fn Try.prog 3 #[.agg (u64s (wa ++ wb ++ wm)).toArray] [] [] (fun v L => v = .bool true ∧ L = []) := by
  rw [wl_self ha, wl_self hb, wl_self hm]
  exact WordQuotients_w (v64_lt4 ha) (v64_lt4 hb) (v64_lt4 hm)
end Go.Proofs.Ytefljbbpaideaaa
