/- Package word: all bits turned, order. No condition. -/
import Derived.Test.YtefljbbpaideaaaKWe
namespace Go.Proofs.Ytefljbbpaideaaa
set_option linter.unusedVariables false
set_option linter.unusedSimpArgs false
open Go Go.RowKit
theorem not_round {w a : List UInt64} {k : Nat} (hw : w.length = k) (hv : v64 w + v64 (a.take k) + 1 = 2 ^ (64 * k)) :
    v64 (w ++ [~~~(a.getD k 0)]) + v64 (a.take (k + 1)) + 1 = 2 ^ (64 * (k + 1)) := by
  have h : (~~~(a.getD k 0)).toNat + (a.getD k 0).toNat + 1 = 18446744073709551616 := by
    have h1 := UInt64.toNat_not (a.getD k 0)
    have h2 := (a.getD k 0).toNat_lt
    have h3 : UInt64.size = 18446744073709551616 := rfl
    omega
  rw [v64_snoc, hw, v64_take_succD, pow64]
  have h2 := congrArg (2 ^ (64 * k) * ·) h
  simp only [Nat.mul_add, Nat.mul_one] at h2
  generalize (~~~(a.getD k 0)).toNat = s at *
  generalize (a.getD k 0).toNat = t at *
  omega
set_option maxRecDepth 100000 in
theorem WNot_f {x : Nat} (hx : x < WW) : Fn Try.prog 46 #[wo x] [] [] (fun v L => v = wo (WW - 1 - x) ∧ L = []) := by
  have hlx := length_wl x
  have hvx := v64_wl_lt hx
  have hp := WW_pos
  refine Fn.enter (vs := [wo x]) Try.func46 rfl rfl rfl ?_
  intro E R hR
  change At _ _ E [R] _
  refine At.seq fun K1 hk_1 => ?_
  refine At.region ?_
  refine op_box (nxla rfl) rfl rfl rfl (fun N1 b1 B1 => ?_)
  change Blk N1 b1 _ (u64s (wl x)) at B1
  refine op_alloc (nxla rfl) ze24 rfl (fun N2 b2 B2 => ?_)
  change Blk N2 b2 _ [.int .u64 0, .int .u64 0, .int .u64 0, .int .u64 0] at B2
  refine At.opsNil ?_
  refine At.norm (hk_1 ?_)
  refine At.seq fun K2 hk_2 => ?_
  refine At.seq fun K3 hk_3 => ?_
  refine At.region ?_
  refine op_move (nxlf rfl) rfl rfl ?_
  refine At.opsNil ?_
  refine At.norm (hk_3 ?_)
  refine At.block ?_
  refine At.perm sel2 ?_
  refine At.perm sel1 ?_
  refine At.perm sel2 ?_
  refine At.loop (fun fr_ hp_ ms_ => ∃ (k : Nat) (w : List UInt64) (N1 : Heaplet), fr_ = [(1, .pointer (some ⟨b1, 0, none⟩)), (2, .pointer (some ⟨b2, 0, none⟩)), (4, .int .i64 (k : Int))] ∧ hp_ = [N1, N2, R] ∧ 4 - k = ms_ ∧ (k ≤ 4) ∧ (w.length = k) ∧ (v64 w + v64 ((wl x).take k) + 1 = 2 ^ (64 * k)) ∧ (Blk N1 b1 24 (u64s (w ++ (wl x).drop k)))) ?_ (.refl _) ⟨0, [], N1, rfl, rfl, rfl, by omega, rfl, by simp; rfl, by simpa using B1⟩ ?_
  · exact .cons (by first | exact lkI rfl (by omega) | rfl) (.cons (by first | exact lkI rfl (by omega) | rfl) (.cons (by first | exact lkI rfl (by omega) | rfl) .nil))
  rintro _ _ _ ⟨k, w, N1, rfl, rfl, rfl, hk, hw, hv, B1⟩
  have hwl : (w ++ (wl x).drop k).length = 4 := by rw [List.length_append, List.length_drop]; omega
  refine At.seq fun K4 hk_4 => ?_
  refine At.region ?_
  refine op_lss (nxlf rfl) rfl rfl rfl ?_
  refine At.opsNil ?_
  refine At.norm (hk_4 ?_)
  refine At.seq fun K5 hk_5 => ?_
  refine At.condP rfl (fun c5 => ?_) (fun c5 => ?_)
  · refine At.skip ?_
    refine At.norm (hk_5 ?_)
    refine At.seq fun K6 hk_6 => ?_
    refine At.block ?_
    refine At.seq fun K7 hk_7 => ?_
    refine At.region ?_
    refine op_move (nxlf rfl) rfl rfl ?_
    refine op_assign (nxlf rfl) rfl rfl ?_
    refine At.opsNil ?_
    refine At.norm (hk_7 ?_)
    refine At.region ?_
    refine op_move (nxlf rfl) rfl rfl ?_
    refine op_move (nxlf rfl) rfl rfl ?_
    refine op_idxA (nxlf rfl) ae24 rfl rfl (show _ = (((k : Nat)) : Int) from by omega) (by omega) rfl ?_
    refine op_loadB (nxlf rfl) sc22 rfl B1 (by first | exact get64A (by omega) | rfl) mem0 rfl ?_
    rw [getD_drop hw (show k < (wl x).length by omega)]
    refine op_compU (nxlf rfl) rfl rfl ?_
    refine op_idxA (nxlf rfl) ae24 rfl rfl (show _ = (((k : Nat)) : Int) from by omega) (by omega) rfl ?_
    refine op_store (nxl rfl) sz22 rfl rfl rfl rfl rfl B1 (by simp <;> omega) sel0 (fun N1 B1 => ?_)
    rw [set64A, set_drop hw (show k < (wl x).length by omega)] at B1
    refine At.opsNil ?_
    refine At.inNorm ?_
    refine At.norm (hk_6 ?_)
    refine At.region ?_
    refine op_addI (nxlf rfl) rfl rfl (by omega) (by omega) rfl ?_
    refine op_move (nxlf rfl) rfl rfl ?_
    refine At.opsNil ?_
    refine At.norm ?_
    refine At.back ?_ (.refl _) ⟨k + 1, w ++ [~~~((wl x).getD k 0)], N1, rfl, rfl, rfl, by omega, by simp; omega, not_round hw hv, B1⟩ ?_
    · exact .cons (by first | exact lkI rfl (by omega) | rfl) (.cons (by first | exact lkI rfl (by omega) | rfl) (.cons (by first | exact lkI rfl (by omega) | rfl) .nil))
    · omega
  · refine At.exit (At.thenExit (At.thenExit (At.inHit ?_)))
    refine At.norm (hk_2 ?_)
    refine At.seq fun K8 hk_8 => ?_
    refine At.region ?_
    have hk4 : k = 4 := by omega
    rw [hk4, v64_take_all (by omega), hvx] at hv
    rw [hk4, List.drop_of_length_le (by omega), List.append_nil] at B1
    have hw4 : w.length = 4 := by omega
    have hsum : v64 w = (WW - 1 - x) % WW := by
      rw [← WW_eq] at hv
      rw [Nat.mod_eq_of_lt (by omega)]; omega
    have hwe := wl_of hw4 hsum
    rw [hwe] at B1
    refine op_loadAggB (ds := u64s (wl (WW - 1 - x))) (nxlf rfl) ag24 rfl B1 (by first | (rw [List.drop_zero, List.take_of_length_le (by first | (simp; done) | (simp; omega))]; done) | rfl) (by first | (simp; done) | (simp; omega)) mem0 rfl ?_
    refine op_store (nxl rfl) sz24 rfl rfl rfl rfl rfl B2 (by simp) sel1 (fun N2 B2 => ?_)
    rw [setL_whole (by simp)] at B2
    refine At.opsNil ?_
    refine At.norm (hk_8 ?_)
    refine At.ret (?_)
    refine At.sub (L' := [N2, R]) (.cons_cons _ (.cons _ (.cons_cons _ (.slnil)))) ?_
    refine At.ret1 (L1 := []) rfl (.cell rfl (res_agg (ds := u64s (wl (WW - 1 - x))) ag24 B2 (by first | (rw [List.drop_zero, List.take_of_length_le (by first | (simp; done) | (simp; omega))]; done) | rfl) (by first | (simp; done) | (simp; omega)) mem0) .nil) (.cons _ (.refl _)) (.refl _) ?_
    exact ⟨rfl, rfl⟩
set_option maxRecDepth 100000 in
theorem WCmp_f {x y : Nat} (hx : x < WW) (hy : y < WW) : Fn Try.prog 47 #[wo x, wo y] [] [] (fun v L => v = .int .i64 (cmpN x y) ∧ L = []) := by
  have hlx := length_wl x
  have hly := length_wl y
  have hvx := v64_wl_lt hx
  have hvy := v64_wl_lt hy
  refine Fn.enter (vs := [wo x, wo y]) Try.func47 rfl rfl rfl ?_
  intro E R hR
  change At _ _ E [R] _
  refine At.seq fun K1 hk_1 => ?_
  refine At.region ?_
  refine op_box (nxla rfl) rfl rfl rfl (fun N2 b2 B2 => ?_)
  change Blk N2 b2 _ (u64s (wl x)) at B2
  refine op_box (nxla rfl) rfl rfl rfl (fun N3 b3 B3 => ?_)
  change Blk N3 b3 _ (u64s (wl y)) at B3
  refine op_assign (nxlf rfl) rfl rfl ?_
  refine At.opsNil ?_
  refine At.norm (hk_1 ?_)
  refine At.seq fun K2 hk_2 => ?_
  refine At.seq fun K3 hk_3 => ?_
  refine At.region ?_
  refine op_assign (nxlf rfl) rfl rfl ?_
  refine At.opsNil ?_
  refine At.norm (hk_3 ?_)
  refine At.block ?_
  refine At.perm sel2 ?_
  refine At.perm sel1 ?_
  refine At.perm sel2 ?_
  refine At.loop (fun fr_ hp_ ms_ => ∃ (j : Nat), fr_ = [(2, .pointer (some ⟨b2, 0, none⟩)), (3, .pointer (some ⟨b3, 0, none⟩)), (5, .int .i64 ((j : Int) - 1))] ∧ hp_ = [N2, N3, R] ∧ j = ms_ ∧ (j ≤ 4) ∧ ((wl x).drop j = (wl y).drop j)) ?_ (.refl _) ⟨4, rfl, rfl, rfl, by omega, by rw [List.drop_of_length_le (by omega), List.drop_of_length_le (by omega)]⟩ ?_
  · exact .cons (by first | exact lkI rfl (by omega) | rfl) (.cons (by first | exact lkI rfl (by omega) | rfl) (.cons (by first | exact lkI rfl (by omega) | rfl) .nil))
  rintro _ _ _ ⟨j, rfl, rfl, rfl, hj, hd⟩
  refine At.seq fun K4 hk_4 => ?_
  refine At.seq fun K5 hk_5 => ?_
  refine At.region ?_
  refine op_move (nxlf rfl) rfl rfl ?_
  refine op_geq (nxlf rfl) rfl rfl rfl ?_
  refine At.opsNil ?_
  refine At.norm (hk_5 ?_)
  refine At.condP rfl (fun c7 => ?_) (fun c7 => ?_)
  · refine At.skip ?_
    refine At.norm (hk_4 ?_)
    refine At.seq fun K6 hk_6 => ?_
    refine At.block ?_
    refine At.block ?_
    refine At.seq fun K7 hk_7 => ?_
    refine At.drawnS [N2, N3, R] [] [] [0,1,2,3,4,5,6,7] (by kernel_rfl) (by kernel_rfl) (.refl _) ?_
    refine op_move (nxsf rfl rfl rfl) rfl rfl ?_
    refine op_idxA (nxsf rfl rfl rfl) ae24 rfl rfl (show _ = (((j - 1 : Nat)) : Int) from by omega) (by omega) rfl ?_
    refine op_loadB (nxsf rfl rfl rfl) sc22 rfl B2 (by first | exact get64A (by omega) | rfl) mem0 rfl ?_
    refine op_move (nxsf rfl rfl rfl) rfl rfl ?_
    refine op_idxA (nxsf rfl rfl rfl) ae24 rfl rfl (show _ = (((j - 1 : Nat)) : Int) from by omega) (by omega) rfl ?_
    refine op_loadB (nxsf rfl rfl rfl) sc22 rfl B3 (by first | exact get64A (by omega) | rfl) mem1 rfl ?_
    refine op_lss (nxsf rfl rfl rfl) rfl rfl rfl ?_
    refine op_assign (nxsf rfl rfl rfl) rfl rfl ?_
    refine At.sNil ?_
    refine At.norm (hk_7 ?_)
    refine At.condP rfl (fun c10 => ?_) (fun c10 => ?_)
    · refine At.seq fun K8 hk_8 => ?_
      refine At.region ?_
      refine op_assign (nxlf rfl) rfl rfl ?_
      refine At.opsNil ?_
      refine At.norm (hk_8 ?_)
      refine At.ret (At.inRet (At.inRet (At.thenRet (At.thenRet (At.inRet (At.thenRet (?_)))))))
      refine At.sub (L' := [R]) (.cons _ (.cons _ (.cons_cons _ (.slnil)))) ?_
      refine At.ret1 (L1 := []) rfl (.tmp rfl .nil) (.refl _) (.refl _) ?_
      have hd' : (wl x).drop (j - 1 + 1) = (wl y).drop (j - 1 + 1) := by rw [show j - 1 + 1 = j by omega]; exact hd
      have h := cmp_at (by omega) (by omega) hd' (by omega)
      rw [hvx, hvy] at h
      exact ⟨by rw [cmpN_lt h], rfl⟩
    · refine At.seq fun K9 hk_9 => ?_
      refine At.drawnS [N2, N3, R] [] [] [0,1,2,3,4,5,6,7] (by kernel_rfl) (by kernel_rfl) (.refl _) ?_
      refine op_move (nxsf rfl rfl rfl) rfl rfl ?_
      refine op_idxA (nxsf rfl rfl rfl) ae24 rfl rfl (show _ = (((j - 1 : Nat)) : Int) from by omega) (by omega) rfl ?_
      refine op_loadB (nxsf rfl rfl rfl) sc22 rfl B2 (by first | exact get64A (by omega) | rfl) mem0 rfl ?_
      refine op_move (nxsf rfl rfl rfl) rfl rfl ?_
      refine op_idxA (nxsf rfl rfl rfl) ae24 rfl rfl (show _ = (((j - 1 : Nat)) : Int) from by omega) (by omega) rfl ?_
      refine op_loadB (nxsf rfl rfl rfl) sc22 rfl B3 (by first | exact get64A (by omega) | rfl) mem1 rfl ?_
      refine op_gtr (nxsf rfl rfl rfl) rfl rfl rfl ?_
      refine op_assign (nxsf rfl rfl rfl) rfl rfl ?_
      refine At.sNil ?_
      refine At.norm (hk_9 ?_)
      refine At.condP rfl (fun c18 => ?_) (fun c18 => ?_)
      · refine At.seq fun K10 hk_10 => ?_
        refine At.region ?_
        refine op_assign (nxlf rfl) rfl rfl ?_
        refine At.opsNil ?_
        refine At.norm (hk_10 ?_)
        refine At.ret (At.inRet (At.inRet (At.thenRet (At.thenRet (At.inRet (At.thenRet (?_)))))))
        refine At.sub (L' := [R]) (.cons _ (.cons _ (.cons_cons _ (.slnil)))) ?_
        refine At.ret1 (L1 := []) rfl (.tmp rfl .nil) (.refl _) (.refl _) ?_
        have hd' : (wl x).drop (j - 1 + 1) = (wl y).drop (j - 1 + 1) := by rw [show j - 1 + 1 = j by omega]; exact hd
        have h := cmp_at (by omega) (by omega) hd'.symm (by omega)
        rw [hvx, hvy] at h
        exact ⟨by rw [cmpN_gt h], rfl⟩
      · refine At.skip ?_
        refine At.inNorm ?_
        refine At.inNorm ?_
        refine At.norm (hk_6 ?_)
        refine At.region ?_
        refine op_move (nxlf rfl) rfl rfl ?_
        refine op_subI (nxlf rfl) rfl rfl (by omega) (by omega) rfl ?_
        refine op_assign (nxlf rfl) rfl rfl ?_
        refine At.opsNil ?_
        refine At.norm ?_
        refine At.back ?_ (.refl _) ⟨j - 1, rfl, rfl, rfl, by omega, drop_eq_succ (z := 0) (by omega) (by omega) (UInt64.toNat_inj.1 (by omega)) (by rw [show j - 1 + 1 = j by omega]; exact hd)⟩ ?_
        · exact .cons (by first | exact lkI rfl (by omega) | rfl) (.cons (by first | exact lkI rfl (by omega) | rfl) (.cons (by first | exact lkI rfl (by omega) | rfl) .nil))
        · omega
  · refine At.exit (At.thenExit (At.thenExit (At.inHit ?_)))
    refine At.norm (hk_2 ?_)
    refine At.seq fun K11 hk_11 => ?_
    refine At.region ?_
    refine op_assign (nxlf rfl) rfl rfl ?_
    refine At.opsNil ?_
    refine At.norm (hk_11 ?_)
    refine At.ret (?_)
    refine At.sub (L' := [R]) (.cons _ (.cons _ (.cons_cons _ (.slnil)))) ?_
    refine At.ret1 (L1 := []) rfl (.tmp rfl .nil) (.refl _) (.refl _) ?_
    have e : x = y := by
      rw [show j = 0 by omega] at hd
      exact wl_inj hx hy (by simpa using hd)
    exact ⟨by rw [e, cmpN_eq], rfl⟩
end Go.Proofs.Ytefljbbpaideaaa
