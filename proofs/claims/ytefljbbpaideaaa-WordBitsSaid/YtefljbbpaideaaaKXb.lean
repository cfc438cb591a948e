/- Words' bits joined: package word and the reference. No condition. -/
import Derived.Test.YtefljbbpaideaaaKXa
namespace Go.Proofs.Ytefljbbpaideaaa
set_option linter.unusedVariables false
set_option linter.unusedSimpArgs false
open Go Go.RowKit
set_option maxRecDepth 100000 in
theorem WAnd_f {x y : Nat} (hx : x < WW) (hy : y < WW) : Fn Try.prog 82 #[wo x, wo y] [] [] (fun v L => v = wo (x &&& y) ∧ L = []) := by
  have hlx := length_wl x
  have hly := length_wl y
  refine Fn.enter (vs := [wo x, wo y]) Try.func82 rfl rfl rfl ?_
  intro E R hR
  change At _ _ E [R] _
  refine At.seq fun K1 hk_1 => ?_
  refine At.region ?_
  refine op_box (nxla rfl) rfl rfl rfl (fun N2 b2 B2 => ?_)
  change Blk N2 b2 24 (u64s (pSt (x &&& y) x 0)) at B2
  refine op_box (nxla rfl) rfl rfl rfl (fun N3 b3 B3 => ?_)
  change Blk N3 b3 _ (u64s (wl y)) at B3
  refine op_alloc (nxla rfl) ze24 rfl (fun N4 b4 B4 => ?_)
  change Blk N4 b4 _ [.int .u64 0, .int .u64 0, .int .u64 0, .int .u64 0] at B4
  refine At.opsNil ?_
  refine At.norm (hk_1 ?_)
  refine At.seq fun K2 hk_2 => ?_
  refine At.seq fun K3 hk_3 => ?_
  refine At.region ?_
  refine op_move (nxlf rfl) rfl rfl ?_
  refine At.opsNil ?_
  refine At.norm (hk_3 ?_)
  refine At.block ?_
  refine At.perm sel3 ?_
  refine At.perm sel1 ?_
  refine At.perm sel2 ?_
  refine At.perm sel3 ?_
  refine At.loop (fun fr_ hp_ ms_ => ∃ (k : Nat) (N2 : Heaplet), fr_ = [(2, .pointer (some ⟨b2, 0, none⟩)), (3, .pointer (some ⟨b3, 0, none⟩)), (4, .pointer (some ⟨b4, 0, none⟩)), (6, .int .i64 (k : Int))] ∧ hp_ = [N2, N3, N4, R] ∧ 4 - k = ms_ ∧ (k ≤ 4) ∧ (Blk N2 b2 24 (u64s (pSt (x &&& y) x k)))) ?_ (.refl _) ⟨0, N2, rfl, rfl, rfl, by omega, B2⟩ ?_
  · exact .cons (by first | exact lkI rfl (by omega) | rfl) (.cons (by first | exact lkI rfl (by omega) | rfl) (.cons (by first | exact lkI rfl (by omega) | rfl) (.cons (by first | exact lkI rfl (by omega) | rfl) .nil)))
  rintro _ _ _ ⟨k, N2, rfl, rfl, rfl, hk, B2⟩
  have hwl := length_pSt (T := x &&& y) (x := x) hk
  refine At.seq fun K4 hk_4 => ?_
  refine At.region ?_
  refine op_lss (nxlf rfl) rfl rfl rfl ?_
  refine At.opsNil ?_
  refine At.norm (hk_4 ?_)
  refine At.seq fun K5 hk_5 => ?_
  refine At.condP rfl (fun c7 => ?_) (fun c7 => ?_)
  · refine At.skip ?_
    refine At.norm (hk_5 ?_)
    refine At.seq fun K6 hk_6 => ?_
    refine At.block ?_
    refine At.seq fun K7 hk_7 => ?_
    refine At.region ?_
    refine op_move (nxlf rfl) rfl rfl ?_
    refine op_assign (nxlf rfl) rfl rfl ?_
    refine At.opsNil ?_
    refine At.norm (hk_7 ?_)
    refine At.drawn [8] [0,1,2,3,4,5,6,7,8] (by kernel_rfl) (by kernel_rfl) ?_
    refine op_move (nxof rfl rfl rfl (by kernel_rfl)) rfl rfl ?_
    refine op_idxA (nxof rfl rfl rfl (by kernel_rfl)) ae24 rfl rfl (show _ = (((k : Nat)) : Int) from by omega) (by omega) rfl ?_
    refine op_loadB (nxof rfl rfl rfl (by kernel_rfl)) sc22 rfl B2 (by first | exact get64A (by omega) | rfl) mem0 rfl ?_
    rw [pSt_getD (by omega)]
    refine op_move (nxof rfl rfl rfl (by kernel_rfl)) rfl rfl ?_
    refine op_idxA (nxof rfl rfl rfl (by kernel_rfl)) ae24 rfl rfl (show _ = (((k : Nat)) : Int) from by omega) (by omega) rfl ?_
    refine op_loadB (nxof rfl rfl rfl (by kernel_rfl)) sc22 rfl B3 (by first | exact get64A (by omega) | rfl) mem1 rfl ?_
    refine op_andU (nxof rfl rfl rfl (by kernel_rfl)) rfl rfl rfl ?_
    refine op_idxA (nxof rfl rfl rfl (by kernel_rfl)) ae24 rfl rfl (show _ = (((k : Nat)) : Int) from by omega) (by omega) rfl ?_
    refine op_store (nxos rfl rfl rfl rfl) sz22 rfl rfl rfl rfl rfl B2 (by simp <;> omega) sel0 (fun N2 B2 => ?_)
    rw [set64A] at B2
    refine At.oneNil ?_
    refine At.inNorm ?_
    refine At.norm (hk_6 ?_)
    refine At.region ?_
    refine op_addI (nxlf rfl) rfl rfl (by omega) (by omega) rfl ?_
    refine op_move (nxlf rfl) rfl rfl ?_
    refine At.opsNil ?_
    refine At.norm ?_
    refine At.back ?_ (.refl _) ⟨k + 1, N2, rfl, rfl, rfl, by omega, by rw [pSt_succ (by omega) (and_limb x y (by omega))]; exact B2⟩ ?_
    · exact .cons (by first | exact lkI rfl (by omega) | rfl) (.cons (by first | exact lkI rfl (by omega) | rfl) (.cons (by first | exact lkI rfl (by omega) | rfl) (.cons (by first | exact lkI rfl (by omega) | rfl) .nil)))
    · omega
  · refine At.exit (At.thenExit (At.thenExit (At.inHit ?_)))
    refine At.norm (hk_2 ?_)
    refine At.seq fun K8 hk_8 => ?_
    refine At.region ?_
    have hk4 : k = 4 := by omega
    rw [hk4, pSt_all] at B2
    refine op_loadAggB (ds := u64s (wl (x &&& y))) (nxlf rfl) ag24 rfl B2 (by first | (rw [List.drop_zero, List.take_of_length_le (by first | (simp; done) | (simp; omega))]; done) | rfl) (by first | (simp; done) | (simp; omega)) mem0 rfl ?_
    refine op_store (nxl rfl) sz24 rfl rfl rfl rfl rfl B4 (by simp) sel2 (fun N4 B4 => ?_)
    rw [setL_whole (by simp)] at B4
    refine At.opsNil ?_
    refine At.norm (hk_8 ?_)
    refine At.ret (?_)
    refine At.sub (L' := [N4, R]) (.cons_cons _ (.cons _ (.cons _ (.cons_cons _ (.slnil))))) ?_
    refine At.ret1 (L1 := []) rfl (.cell rfl (res_agg (ds := u64s (wl (x &&& y))) ag24 B4 (by first | (rw [List.drop_zero, List.take_of_length_le (by first | (simp; done) | (simp; omega))]; done) | rfl) (by first | (simp; done) | (simp; omega)) mem0) .nil) (.cons _ (.refl _)) (.refl _) ?_
    exact ⟨rfl, rfl⟩
set_option maxRecDepth 100000 in
theorem WOr_f {x y : Nat} (hx : x < WW) (hy : y < WW) : Fn Try.prog 84 #[wo x, wo y] [] [] (fun v L => v = wo (x ||| y) ∧ L = []) := by
  have hlx := length_wl x
  have hly := length_wl y
  refine Fn.enter (vs := [wo x, wo y]) Try.func84 rfl rfl rfl ?_
  intro E R hR
  change At _ _ E [R] _
  refine At.seq fun K1 hk_1 => ?_
  refine At.region ?_
  refine op_box (nxla rfl) rfl rfl rfl (fun N2 b2 B2 => ?_)
  change Blk N2 b2 24 (u64s (pSt (x ||| y) x 0)) at B2
  refine op_box (nxla rfl) rfl rfl rfl (fun N3 b3 B3 => ?_)
  change Blk N3 b3 _ (u64s (wl y)) at B3
  refine op_alloc (nxla rfl) ze24 rfl (fun N4 b4 B4 => ?_)
  change Blk N4 b4 _ [.int .u64 0, .int .u64 0, .int .u64 0, .int .u64 0] at B4
  refine At.opsNil ?_
  refine At.norm (hk_1 ?_)
  refine At.seq fun K2 hk_2 => ?_
  refine At.seq fun K3 hk_3 => ?_
  refine At.region ?_
  refine op_move (nxlf rfl) rfl rfl ?_
  refine At.opsNil ?_
  refine At.norm (hk_3 ?_)
  refine At.block ?_
  refine At.perm sel3 ?_
  refine At.perm sel1 ?_
  refine At.perm sel2 ?_
  refine At.perm sel3 ?_
  refine At.loop (fun fr_ hp_ ms_ => ∃ (k : Nat) (N2 : Heaplet), fr_ = [(2, .pointer (some ⟨b2, 0, none⟩)), (3, .pointer (some ⟨b3, 0, none⟩)), (4, .pointer (some ⟨b4, 0, none⟩)), (6, .int .i64 (k : Int))] ∧ hp_ = [N2, N3, N4, R] ∧ 4 - k = ms_ ∧ (k ≤ 4) ∧ (Blk N2 b2 24 (u64s (pSt (x ||| y) x k)))) ?_ (.refl _) ⟨0, N2, rfl, rfl, rfl, by omega, B2⟩ ?_
  · exact .cons (by first | exact lkI rfl (by omega) | rfl) (.cons (by first | exact lkI rfl (by omega) | rfl) (.cons (by first | exact lkI rfl (by omega) | rfl) (.cons (by first | exact lkI rfl (by omega) | rfl) .nil)))
  rintro _ _ _ ⟨k, N2, rfl, rfl, rfl, hk, B2⟩
  have hwl := length_pSt (T := x ||| y) (x := x) hk
  refine At.seq fun K4 hk_4 => ?_
  refine At.region ?_
  refine op_lss (nxlf rfl) rfl rfl rfl ?_
  refine At.opsNil ?_
  refine At.norm (hk_4 ?_)
  refine At.seq fun K5 hk_5 => ?_
  refine At.condP rfl (fun c7 => ?_) (fun c7 => ?_)
  · refine At.skip ?_
    refine At.norm (hk_5 ?_)
    refine At.seq fun K6 hk_6 => ?_
    refine At.block ?_
    refine At.seq fun K7 hk_7 => ?_
    refine At.region ?_
    refine op_move (nxlf rfl) rfl rfl ?_
    refine op_assign (nxlf rfl) rfl rfl ?_
    refine At.opsNil ?_
    refine At.norm (hk_7 ?_)
    refine At.drawn [8] [0,1,2,3,4,5,6,7,8] (by kernel_rfl) (by kernel_rfl) ?_
    refine op_move (nxof rfl rfl rfl (by kernel_rfl)) rfl rfl ?_
    refine op_idxA (nxof rfl rfl rfl (by kernel_rfl)) ae24 rfl rfl (show _ = (((k : Nat)) : Int) from by omega) (by omega) rfl ?_
    refine op_loadB (nxof rfl rfl rfl (by kernel_rfl)) sc22 rfl B2 (by first | exact get64A (by omega) | rfl) mem0 rfl ?_
    rw [pSt_getD (by omega)]
    refine op_move (nxof rfl rfl rfl (by kernel_rfl)) rfl rfl ?_
    refine op_idxA (nxof rfl rfl rfl (by kernel_rfl)) ae24 rfl rfl (show _ = (((k : Nat)) : Int) from by omega) (by omega) rfl ?_
    refine op_loadB (nxof rfl rfl rfl (by kernel_rfl)) sc22 rfl B3 (by first | exact get64A (by omega) | rfl) mem1 rfl ?_
    refine op_orU (nxof rfl rfl rfl (by kernel_rfl)) rfl rfl rfl ?_
    refine op_idxA (nxof rfl rfl rfl (by kernel_rfl)) ae24 rfl rfl (show _ = (((k : Nat)) : Int) from by omega) (by omega) rfl ?_
    refine op_store (nxos rfl rfl rfl rfl) sz22 rfl rfl rfl rfl rfl B2 (by simp <;> omega) sel0 (fun N2 B2 => ?_)
    rw [set64A] at B2
    refine At.oneNil ?_
    refine At.inNorm ?_
    refine At.norm (hk_6 ?_)
    refine At.region ?_
    refine op_addI (nxlf rfl) rfl rfl (by omega) (by omega) rfl ?_
    refine op_move (nxlf rfl) rfl rfl ?_
    refine At.opsNil ?_
    refine At.norm ?_
    refine At.back ?_ (.refl _) ⟨k + 1, N2, rfl, rfl, rfl, by omega, by rw [pSt_succ (by omega) (or_limb x y (by omega))]; exact B2⟩ ?_
    · exact .cons (by first | exact lkI rfl (by omega) | rfl) (.cons (by first | exact lkI rfl (by omega) | rfl) (.cons (by first | exact lkI rfl (by omega) | rfl) (.cons (by first | exact lkI rfl (by omega) | rfl) .nil)))
    · omega
  · refine At.exit (At.thenExit (At.thenExit (At.inHit ?_)))
    refine At.norm (hk_2 ?_)
    refine At.seq fun K8 hk_8 => ?_
    refine At.region ?_
    have hk4 : k = 4 := by omega
    rw [hk4, pSt_all] at B2
    refine op_loadAggB (ds := u64s (wl (x ||| y))) (nxlf rfl) ag24 rfl B2 (by first | (rw [List.drop_zero, List.take_of_length_le (by first | (simp; done) | (simp; omega))]; done) | rfl) (by first | (simp; done) | (simp; omega)) mem0 rfl ?_
    refine op_store (nxl rfl) sz24 rfl rfl rfl rfl rfl B4 (by simp) sel2 (fun N4 B4 => ?_)
    rw [setL_whole (by simp)] at B4
    refine At.opsNil ?_
    refine At.norm (hk_8 ?_)
    refine At.ret (?_)
    refine At.sub (L' := [N4, R]) (.cons_cons _ (.cons _ (.cons _ (.cons_cons _ (.slnil))))) ?_
    refine At.ret1 (L1 := []) rfl (.cell rfl (res_agg (ds := u64s (wl (x ||| y))) ag24 B4 (by first | (rw [List.drop_zero, List.take_of_length_le (by first | (simp; done) | (simp; omega))]; done) | rfl) (by first | (simp; done) | (simp; omega)) mem0) .nil) (.cons _ (.refl _)) (.refl _) ?_
    exact ⟨rfl, rfl⟩
set_option maxRecDepth 100000 in
theorem WXor_f {x y : Nat} (hx : x < WW) (hy : y < WW) : Fn Try.prog 85 #[wo x, wo y] [] [] (fun v L => v = wo (x ^^^ y) ∧ L = []) := by
  have hlx := length_wl x
  have hly := length_wl y
  refine Fn.enter (vs := [wo x, wo y]) Try.func85 rfl rfl rfl ?_
  intro E R hR
  change At _ _ E [R] _
  refine At.seq fun K1 hk_1 => ?_
  refine At.region ?_
  refine op_box (nxla rfl) rfl rfl rfl (fun N2 b2 B2 => ?_)
  change Blk N2 b2 24 (u64s (pSt (x ^^^ y) x 0)) at B2
  refine op_box (nxla rfl) rfl rfl rfl (fun N3 b3 B3 => ?_)
  change Blk N3 b3 _ (u64s (wl y)) at B3
  refine op_alloc (nxla rfl) ze24 rfl (fun N4 b4 B4 => ?_)
  change Blk N4 b4 _ [.int .u64 0, .int .u64 0, .int .u64 0, .int .u64 0] at B4
  refine At.opsNil ?_
  refine At.norm (hk_1 ?_)
  refine At.seq fun K2 hk_2 => ?_
  refine At.seq fun K3 hk_3 => ?_
  refine At.region ?_
  refine op_move (nxlf rfl) rfl rfl ?_
  refine At.opsNil ?_
  refine At.norm (hk_3 ?_)
  refine At.block ?_
  refine At.perm sel3 ?_
  refine At.perm sel1 ?_
  refine At.perm sel2 ?_
  refine At.perm sel3 ?_
  refine At.loop (fun fr_ hp_ ms_ => ∃ (k : Nat) (N2 : Heaplet), fr_ = [(2, .pointer (some ⟨b2, 0, none⟩)), (3, .pointer (some ⟨b3, 0, none⟩)), (4, .pointer (some ⟨b4, 0, none⟩)), (6, .int .i64 (k : Int))] ∧ hp_ = [N2, N3, N4, R] ∧ 4 - k = ms_ ∧ (k ≤ 4) ∧ (Blk N2 b2 24 (u64s (pSt (x ^^^ y) x k)))) ?_ (.refl _) ⟨0, N2, rfl, rfl, rfl, by omega, B2⟩ ?_
  · exact .cons (by first | exact lkI rfl (by omega) | rfl) (.cons (by first | exact lkI rfl (by omega) | rfl) (.cons (by first | exact lkI rfl (by omega) | rfl) (.cons (by first | exact lkI rfl (by omega) | rfl) .nil)))
  rintro _ _ _ ⟨k, N2, rfl, rfl, rfl, hk, B2⟩
  have hwl := length_pSt (T := x ^^^ y) (x := x) hk
  refine At.seq fun K4 hk_4 => ?_
  refine At.region ?_
  refine op_lss (nxlf rfl) rfl rfl rfl ?_
  refine At.opsNil ?_
  refine At.norm (hk_4 ?_)
  refine At.seq fun K5 hk_5 => ?_
  refine At.condP rfl (fun c7 => ?_) (fun c7 => ?_)
  · refine At.skip ?_
    refine At.norm (hk_5 ?_)
    refine At.seq fun K6 hk_6 => ?_
    refine At.block ?_
    refine At.seq fun K7 hk_7 => ?_
    refine At.region ?_
    refine op_move (nxlf rfl) rfl rfl ?_
    refine op_assign (nxlf rfl) rfl rfl ?_
    refine At.opsNil ?_
    refine At.norm (hk_7 ?_)
    refine At.drawn [8] [0,1,2,3,4,5,6,7,8] (by kernel_rfl) (by kernel_rfl) ?_
    refine op_move (nxof rfl rfl rfl (by kernel_rfl)) rfl rfl ?_
    refine op_idxA (nxof rfl rfl rfl (by kernel_rfl)) ae24 rfl rfl (show _ = (((k : Nat)) : Int) from by omega) (by omega) rfl ?_
    refine op_loadB (nxof rfl rfl rfl (by kernel_rfl)) sc22 rfl B2 (by first | exact get64A (by omega) | rfl) mem0 rfl ?_
    rw [pSt_getD (by omega)]
    refine op_move (nxof rfl rfl rfl (by kernel_rfl)) rfl rfl ?_
    refine op_idxA (nxof rfl rfl rfl (by kernel_rfl)) ae24 rfl rfl (show _ = (((k : Nat)) : Int) from by omega) (by omega) rfl ?_
    refine op_loadB (nxof rfl rfl rfl (by kernel_rfl)) sc22 rfl B3 (by first | exact get64A (by omega) | rfl) mem1 rfl ?_
    refine op_xorU (nxof rfl rfl rfl (by kernel_rfl)) rfl rfl rfl ?_
    refine op_idxA (nxof rfl rfl rfl (by kernel_rfl)) ae24 rfl rfl (show _ = (((k : Nat)) : Int) from by omega) (by omega) rfl ?_
    refine op_store (nxos rfl rfl rfl rfl) sz22 rfl rfl rfl rfl rfl B2 (by simp <;> omega) sel0 (fun N2 B2 => ?_)
    rw [set64A] at B2
    refine At.oneNil ?_
    refine At.inNorm ?_
    refine At.norm (hk_6 ?_)
    refine At.region ?_
    refine op_addI (nxlf rfl) rfl rfl (by omega) (by omega) rfl ?_
    refine op_move (nxlf rfl) rfl rfl ?_
    refine At.opsNil ?_
    refine At.norm ?_
    refine At.back ?_ (.refl _) ⟨k + 1, N2, rfl, rfl, rfl, by omega, by rw [pSt_succ (by omega) (xor_limb x y (by omega))]; exact B2⟩ ?_
    · exact .cons (by first | exact lkI rfl (by omega) | rfl) (.cons (by first | exact lkI rfl (by omega) | rfl) (.cons (by first | exact lkI rfl (by omega) | rfl) (.cons (by first | exact lkI rfl (by omega) | rfl) .nil)))
    · omega
  · refine At.exit (At.thenExit (At.thenExit (At.inHit ?_)))
    refine At.norm (hk_2 ?_)
    refine At.seq fun K8 hk_8 => ?_
    refine At.region ?_
    have hk4 : k = 4 := by omega
    rw [hk4, pSt_all] at B2
    refine op_loadAggB (ds := u64s (wl (x ^^^ y))) (nxlf rfl) ag24 rfl B2 (by first | (rw [List.drop_zero, List.take_of_length_le (by first | (simp; done) | (simp; omega))]; done) | rfl) (by first | (simp; done) | (simp; omega)) mem0 rfl ?_
    refine op_store (nxl rfl) sz24 rfl rfl rfl rfl rfl B4 (by simp) sel2 (fun N4 B4 => ?_)
    rw [setL_whole (by simp)] at B4
    refine At.opsNil ?_
    refine At.norm (hk_8 ?_)
    refine At.ret (?_)
    refine At.sub (L' := [N4, R]) (.cons_cons _ (.cons _ (.cons _ (.cons_cons _ (.slnil))))) ?_
    refine At.ret1 (L1 := []) rfl (.cell rfl (res_agg (ds := u64s (wl (x ^^^ y))) ag24 B4 (by first | (rw [List.drop_zero, List.take_of_length_le (by first | (simp; done) | (simp; omega))]; done) | rfl) (by first | (simp; done) | (simp; omega)) mem0) .nil) (.cons _ (.refl _)) (.refl _) ?_
    exact ⟨rfl, rfl⟩
set_option maxRecDepth 100000 in
theorem rBit0_f {x y : Nat} (hx : x < WW) (hy : y < WW) : Fn Try.prog 83 #[wo x, wo y, .int .i64 0] [] [] (fun v L => v = wo (x &&& y) ∧ L = []) := by
  have hlx := length_wl x
  have hly := length_wl y
  refine Fn.enter (vs := [wo x, wo y, .int .i64 0]) Try.func83 rfl rfl rfl ?_
  intro E R hR
  change At _ _ E [R] _
  refine At.seq fun K1 hk_1 => ?_
  refine At.region ?_
  refine op_box (nxla rfl) rfl rfl rfl (fun N3 b3 B3 => ?_)
  change Blk N3 b3 _ (u64s (wl x)) at B3
  refine op_box (nxla rfl) rfl rfl rfl (fun N4 b4 B4 => ?_)
  change Blk N4 b4 _ (u64s (wl y)) at B4
  refine op_alloc (nxla rfl) ze24 rfl (fun N6 b6 B6 => ?_)
  change Blk N6 b6 _ [.int .u64 0, .int .u64 0, .int .u64 0, .int .u64 0] at B6
  refine At.opsNil ?_
  refine At.norm (hk_1 ?_)
  refine At.seq fun K2 hk_2 => ?_
  refine At.region ?_
  refine op_alloc (nxla rfl) ze24 rfl (fun N7 b7 B7 => ?_)
  change Blk N7 b7 _ [.int .u64 0, .int .u64 0, .int .u64 0, .int .u64 0] at B7
  change Blk N7 b7 24 (u64s (wSt (x &&& y) 0)) at B7
  refine At.opsNil ?_
  refine At.norm (hk_2 ?_)
  refine At.seq fun K3 hk_3 => ?_
  refine At.seq fun K4 hk_4 => ?_
  refine At.region ?_
  refine op_assign (nxlf rfl) rfl rfl ?_
  refine At.opsNil ?_
  refine At.norm (hk_4 ?_)
  refine At.block ?_
  refine At.perm sel4 ?_
  refine At.perm sel1 ?_
  refine At.perm sel2 ?_
  refine At.perm sel3 ?_
  refine At.perm sel4 ?_
  refine At.loop (fun fr_ hp_ ms_ => ∃ (k : Nat) (N7 : Heaplet), fr_ = [(2, .int .i64 0), (3, .pointer (some ⟨b3, 0, none⟩)), (4, .pointer (some ⟨b4, 0, none⟩)), (6, .pointer (some ⟨b6, 0, none⟩)), (7, .pointer (some ⟨b7, 0, none⟩)), (8, .int .i64 (k : Int))] ∧ hp_ = [N3, N4, N6, N7, R] ∧ 4 - k = ms_ ∧ (k ≤ 4) ∧ (Blk N7 b7 24 (u64s (wSt (x &&& y) k)))) ?_ (.refl _) ⟨0, N7, rfl, rfl, rfl, by omega, B7⟩ ?_
  · exact .cons (by first | exact lkI rfl (by omega) | rfl) (.cons (by first | exact lkI rfl (by omega) | rfl) (.cons (by first | exact lkI rfl (by omega) | rfl) (.cons (by first | exact lkI rfl (by omega) | rfl) (.cons (by first | exact lkI rfl (by omega) | rfl) (.cons (by first | exact lkI rfl (by omega) | rfl) .nil)))))
  rintro _ _ _ ⟨k, N7, rfl, rfl, rfl, hk, B7⟩
  have hwl := length_wSt (T := x &&& y) hk
  refine At.seq fun K5 hk_5 => ?_
  refine At.seq fun K6 hk_6 => ?_
  refine At.region ?_
  refine op_move (nxlf rfl) rfl rfl ?_
  refine op_lss (nxlf rfl) rfl rfl rfl ?_
  refine At.opsNil ?_
  refine At.norm (hk_6 ?_)
  refine At.condP rfl (fun c10 => ?_) (fun c10 => ?_)
  · refine At.skip ?_
    refine At.norm (hk_5 ?_)
    refine At.seq fun K7 hk_7 => ?_
    refine At.block ?_
    refine At.seq fun K8 hk_8 => ?_
    refine At.region ?_
    refine op_move (nxlf rfl) rfl rfl ?_
    refine At.opsNil ?_
    refine At.norm (hk_8 ?_)
    refine At.block ?_
    refine At.seq fun K9 hk_9 => ?_
    refine At.region ?_
    refine op_eql (nxlf rfl) rfl rfl rfl ?_
    refine op_assign (nxlf rfl) rfl rfl ?_
    refine At.opsNil ?_
    refine At.norm (hk_9 ?_)
    refine At.condP rfl (fun c23 => ?_) (fun c23 => ?_)
    · refine At.perm sel4 ?_
      refine At.perm sel4 ?_
      refine At.perm sel3 ?_
      refine At.perm sel3 ?_
      refine At.perm sel4 ?_
      refine At.drawnS [N3, N4, N7, R] [9] [] [0,1,2,3,4,5,6,7,8,9] (by kernel_rfl) (by kernel_rfl) (.cons _ (.refl _)) ?_
      refine op_move (nxsf rfl rfl rfl) rfl rfl ?_
      refine op_move (nxsf rfl rfl rfl) rfl rfl ?_
      refine op_idxA (nxsf rfl rfl rfl) ae24 rfl rfl (show _ = (((k : Nat)) : Int) from by omega) (by omega) rfl ?_
      refine op_loadB (nxsf rfl rfl rfl) sc22 rfl B3 (by first | exact get64A (by omega) | rfl) mem0 rfl ?_
      refine op_move (nxsf rfl rfl rfl) rfl rfl ?_
      refine op_idxA (nxsf rfl rfl rfl) ae24 rfl rfl (show _ = (((k : Nat)) : Int) from by omega) (by omega) rfl ?_
      refine op_loadB (nxsf rfl rfl rfl) sc22 rfl B4 (by first | exact get64A (by omega) | rfl) mem1 rfl ?_
      refine op_andU (nxsf rfl rfl rfl) rfl rfl rfl ?_
      refine op_idxA (nxsf rfl rfl rfl) ae24 rfl rfl (show _ = (((k : Nat)) : Int) from by omega) (by omega) rfl ?_
      refine op_store (nxsl rfl rfl rfl rfl) sz22 rfl rfl rfl rfl rfl B7 (by simp <;> omega) sel3 (fun N7 B7 => ?_)
      rw [set64A] at B7
      refine At.sNil ?_
      refine At.inNorm ?_
      refine At.inNorm ?_
      refine At.norm (hk_7 ?_)
      refine At.region ?_
      refine op_move (nxlf rfl) rfl rfl ?_
      refine op_addI (nxlf rfl) rfl rfl (by omega) (by omega) rfl ?_
      refine op_assign (nxlf rfl) rfl rfl ?_
      refine At.opsNil ?_
      refine At.norm ?_
      refine At.perm sel4 ?_
      refine At.perm sel1 ?_
      refine At.perm sel2 ?_
      refine At.perm sel4 ?_
      refine At.perm sel4 ?_
      refine At.back ?_ (.refl _) ⟨k + 1, N7, rfl, rfl, rfl, by omega, by rw [wSt_succ (by omega) (and_limb x y (by omega))]; exact B7⟩ ?_
      · exact .cons (by first | exact lkI rfl (by omega) | rfl) (.cons (by first | exact lkI rfl (by omega) | rfl) (.cons (by first | exact lkI rfl (by omega) | rfl) (.cons (by first | exact lkI rfl (by omega) | rfl) (.cons (by first | exact lkI rfl (by omega) | rfl) (.cons (by first | exact lkI rfl (by omega) | rfl) .nil)))))
      · omega
    · exact absurd rfl c23
  · refine At.exit (At.thenExit (At.thenExit (At.inHit ?_)))
    refine At.norm (hk_3 ?_)
    refine At.seq fun K10 hk_10 => ?_
    refine At.region ?_
    have hk4 : k = 4 := by omega
    rw [hk4, wSt_all] at B7
    refine op_loadAggB (ds := u64s (wl (x &&& y))) (nxlf rfl) ag24 rfl B7 (by first | (rw [List.drop_zero, List.take_of_length_le (by first | (simp; done) | (simp; omega))]; done) | rfl) (by first | (simp; done) | (simp; omega)) mem3 rfl ?_
    refine op_store (nxl rfl) sz24 rfl rfl rfl rfl rfl B6 (by simp) sel2 (fun N6 B6 => ?_)
    rw [setL_whole (by simp)] at B6
    refine At.opsNil ?_
    refine At.norm (hk_10 ?_)
    refine At.ret (?_)
    refine At.sub (L' := [N6, R]) (.cons_cons _ (.cons _ (.cons _ (.cons _ (.cons_cons _ (.slnil)))))) ?_
    refine At.ret1 (L1 := []) rfl (.cell rfl (res_agg (ds := u64s (wl (x &&& y))) ag24 B6 (by first | (rw [List.drop_zero, List.take_of_length_le (by first | (simp; done) | (simp; omega))]; done) | rfl) (by first | (simp; done) | (simp; omega)) mem0) .nil) (.cons _ (.refl _)) (.refl _) ?_
    exact ⟨rfl, rfl⟩
set_option maxRecDepth 100000 in
theorem rBit1_f {x y : Nat} (hx : x < WW) (hy : y < WW) : Fn Try.prog 83 #[wo x, wo y, .int .i64 1] [] [] (fun v L => v = wo (x ||| y) ∧ L = []) := by
  have hlx := length_wl x
  have hly := length_wl y
  refine Fn.enter (vs := [wo x, wo y, .int .i64 1]) Try.func83 rfl rfl rfl ?_
  intro E R hR
  change At _ _ E [R] _
  refine At.seq fun K1 hk_1 => ?_
  refine At.region ?_
  refine op_box (nxla rfl) rfl rfl rfl (fun N3 b3 B3 => ?_)
  change Blk N3 b3 _ (u64s (wl x)) at B3
  refine op_box (nxla rfl) rfl rfl rfl (fun N4 b4 B4 => ?_)
  change Blk N4 b4 _ (u64s (wl y)) at B4
  refine op_alloc (nxla rfl) ze24 rfl (fun N6 b6 B6 => ?_)
  change Blk N6 b6 _ [.int .u64 0, .int .u64 0, .int .u64 0, .int .u64 0] at B6
  refine At.opsNil ?_
  refine At.norm (hk_1 ?_)
  refine At.seq fun K2 hk_2 => ?_
  refine At.region ?_
  refine op_alloc (nxla rfl) ze24 rfl (fun N7 b7 B7 => ?_)
  change Blk N7 b7 _ [.int .u64 0, .int .u64 0, .int .u64 0, .int .u64 0] at B7
  change Blk N7 b7 24 (u64s (wSt (x ||| y) 0)) at B7
  refine At.opsNil ?_
  refine At.norm (hk_2 ?_)
  refine At.seq fun K3 hk_3 => ?_
  refine At.seq fun K4 hk_4 => ?_
  refine At.region ?_
  refine op_assign (nxlf rfl) rfl rfl ?_
  refine At.opsNil ?_
  refine At.norm (hk_4 ?_)
  refine At.block ?_
  refine At.perm sel4 ?_
  refine At.perm sel1 ?_
  refine At.perm sel2 ?_
  refine At.perm sel3 ?_
  refine At.perm sel4 ?_
  refine At.loop (fun fr_ hp_ ms_ => ∃ (k : Nat) (N7 : Heaplet), fr_ = [(2, .int .i64 1), (3, .pointer (some ⟨b3, 0, none⟩)), (4, .pointer (some ⟨b4, 0, none⟩)), (6, .pointer (some ⟨b6, 0, none⟩)), (7, .pointer (some ⟨b7, 0, none⟩)), (8, .int .i64 (k : Int))] ∧ hp_ = [N3, N4, N6, N7, R] ∧ 4 - k = ms_ ∧ (k ≤ 4) ∧ (Blk N7 b7 24 (u64s (wSt (x ||| y) k)))) ?_ (.refl _) ⟨0, N7, rfl, rfl, rfl, by omega, B7⟩ ?_
  · exact .cons (by first | exact lkI rfl (by omega) | rfl) (.cons (by first | exact lkI rfl (by omega) | rfl) (.cons (by first | exact lkI rfl (by omega) | rfl) (.cons (by first | exact lkI rfl (by omega) | rfl) (.cons (by first | exact lkI rfl (by omega) | rfl) (.cons (by first | exact lkI rfl (by omega) | rfl) .nil)))))
  rintro _ _ _ ⟨k, N7, rfl, rfl, rfl, hk, B7⟩
  have hwl := length_wSt (T := x ||| y) hk
  refine At.seq fun K5 hk_5 => ?_
  refine At.seq fun K6 hk_6 => ?_
  refine At.region ?_
  refine op_move (nxlf rfl) rfl rfl ?_
  refine op_lss (nxlf rfl) rfl rfl rfl ?_
  refine At.opsNil ?_
  refine At.norm (hk_6 ?_)
  refine At.condP rfl (fun c10 => ?_) (fun c10 => ?_)
  · refine At.skip ?_
    refine At.norm (hk_5 ?_)
    refine At.seq fun K7 hk_7 => ?_
    refine At.block ?_
    refine At.seq fun K8 hk_8 => ?_
    refine At.region ?_
    refine op_move (nxlf rfl) rfl rfl ?_
    refine At.opsNil ?_
    refine At.norm (hk_8 ?_)
    refine At.block ?_
    refine At.seq fun K9 hk_9 => ?_
    refine At.region ?_
    refine op_eql (nxlf rfl) rfl rfl rfl ?_
    refine op_assign (nxlf rfl) rfl rfl ?_
    refine At.opsNil ?_
    refine At.norm (hk_9 ?_)
    refine At.condP rfl (fun c23 => ?_) (fun c23 => ?_)
    · exact absurd c23 (by decide)
    · refine At.seq fun K10 hk_10 => ?_
      refine At.region ?_
      refine op_eql (nxlf rfl) rfl rfl rfl ?_
      refine op_assign (nxlf rfl) rfl rfl ?_
      refine At.opsNil ?_
      refine At.norm (hk_10 ?_)
      refine At.condP rfl (fun c34 => ?_) (fun c34 => ?_)
      · refine At.perm sel4 ?_
        refine At.perm sel4 ?_
        refine At.perm sel3 ?_
        refine At.perm sel3 ?_
        refine At.perm sel4 ?_
        refine At.drawnS [N3, N4, N7, R] [9] [] [0,1,2,3,4,5,6,7,8,9] (by kernel_rfl) (by kernel_rfl) (.cons _ (.refl _)) ?_
        refine op_move (nxsf rfl rfl rfl) rfl rfl ?_
        refine op_move (nxsf rfl rfl rfl) rfl rfl ?_
        refine op_idxA (nxsf rfl rfl rfl) ae24 rfl rfl (show _ = (((k : Nat)) : Int) from by omega) (by omega) rfl ?_
        refine op_loadB (nxsf rfl rfl rfl) sc22 rfl B3 (by first | exact get64A (by omega) | rfl) mem0 rfl ?_
        refine op_move (nxsf rfl rfl rfl) rfl rfl ?_
        refine op_idxA (nxsf rfl rfl rfl) ae24 rfl rfl (show _ = (((k : Nat)) : Int) from by omega) (by omega) rfl ?_
        refine op_loadB (nxsf rfl rfl rfl) sc22 rfl B4 (by first | exact get64A (by omega) | rfl) mem1 rfl ?_
        refine op_orU (nxsf rfl rfl rfl) rfl rfl rfl ?_
        refine op_idxA (nxsf rfl rfl rfl) ae24 rfl rfl (show _ = (((k : Nat)) : Int) from by omega) (by omega) rfl ?_
        refine op_store (nxsl rfl rfl rfl rfl) sz22 rfl rfl rfl rfl rfl B7 (by simp <;> omega) sel3 (fun N7 B7 => ?_)
        rw [set64A] at B7
        refine At.sNil ?_
        refine At.inNorm ?_
        refine At.inNorm ?_
        refine At.norm (hk_7 ?_)
        refine At.region ?_
        refine op_move (nxlf rfl) rfl rfl ?_
        refine op_addI (nxlf rfl) rfl rfl (by omega) (by omega) rfl ?_
        refine op_assign (nxlf rfl) rfl rfl ?_
        refine At.opsNil ?_
        refine At.norm ?_
        refine At.perm sel4 ?_
        refine At.perm sel1 ?_
        refine At.perm sel2 ?_
        refine At.perm sel4 ?_
        refine At.perm sel4 ?_
        refine At.back ?_ (.refl _) ⟨k + 1, N7, rfl, rfl, rfl, by omega, by rw [wSt_succ (by omega) (or_limb x y (by omega))]; exact B7⟩ ?_
        · exact .cons (by first | exact lkI rfl (by omega) | rfl) (.cons (by first | exact lkI rfl (by omega) | rfl) (.cons (by first | exact lkI rfl (by omega) | rfl) (.cons (by first | exact lkI rfl (by omega) | rfl) (.cons (by first | exact lkI rfl (by omega) | rfl) (.cons (by first | exact lkI rfl (by omega) | rfl) .nil)))))
        · omega
      · exact absurd rfl c34
  · refine At.exit (At.thenExit (At.thenExit (At.inHit ?_)))
    refine At.norm (hk_3 ?_)
    refine At.seq fun K11 hk_11 => ?_
    refine At.region ?_
    have hk4 : k = 4 := by omega
    rw [hk4, wSt_all] at B7
    refine op_loadAggB (ds := u64s (wl (x ||| y))) (nxlf rfl) ag24 rfl B7 (by first | (rw [List.drop_zero, List.take_of_length_le (by first | (simp; done) | (simp; omega))]; done) | rfl) (by first | (simp; done) | (simp; omega)) mem3 rfl ?_
    refine op_store (nxl rfl) sz24 rfl rfl rfl rfl rfl B6 (by simp) sel2 (fun N6 B6 => ?_)
    rw [setL_whole (by simp)] at B6
    refine At.opsNil ?_
    refine At.norm (hk_11 ?_)
    refine At.ret (?_)
    refine At.sub (L' := [N6, R]) (.cons_cons _ (.cons _ (.cons _ (.cons _ (.cons_cons _ (.slnil)))))) ?_
    refine At.ret1 (L1 := []) rfl (.cell rfl (res_agg (ds := u64s (wl (x ||| y))) ag24 B6 (by first | (rw [List.drop_zero, List.take_of_length_le (by first | (simp; done) | (simp; omega))]; done) | rfl) (by first | (simp; done) | (simp; omega)) mem0) .nil) (.cons _ (.refl _)) (.refl _) ?_
    exact ⟨rfl, rfl⟩
set_option maxRecDepth 100000 in
theorem rBit2_f {x y : Nat} (hx : x < WW) (hy : y < WW) : Fn Try.prog 83 #[wo x, wo y, .int .i64 2] [] [] (fun v L => v = wo (x ^^^ y) ∧ L = []) := by
  have hlx := length_wl x
  have hly := length_wl y
  refine Fn.enter (vs := [wo x, wo y, .int .i64 2]) Try.func83 rfl rfl rfl ?_
  intro E R hR
  change At _ _ E [R] _
  refine At.seq fun K1 hk_1 => ?_
  refine At.region ?_
  refine op_box (nxla rfl) rfl rfl rfl (fun N3 b3 B3 => ?_)
  change Blk N3 b3 _ (u64s (wl x)) at B3
  refine op_box (nxla rfl) rfl rfl rfl (fun N4 b4 B4 => ?_)
  change Blk N4 b4 _ (u64s (wl y)) at B4
  refine op_alloc (nxla rfl) ze24 rfl (fun N6 b6 B6 => ?_)
  change Blk N6 b6 _ [.int .u64 0, .int .u64 0, .int .u64 0, .int .u64 0] at B6
  refine At.opsNil ?_
  refine At.norm (hk_1 ?_)
  refine At.seq fun K2 hk_2 => ?_
  refine At.region ?_
  refine op_alloc (nxla rfl) ze24 rfl (fun N7 b7 B7 => ?_)
  change Blk N7 b7 _ [.int .u64 0, .int .u64 0, .int .u64 0, .int .u64 0] at B7
  change Blk N7 b7 24 (u64s (wSt (x ^^^ y) 0)) at B7
  refine At.opsNil ?_
  refine At.norm (hk_2 ?_)
  refine At.seq fun K3 hk_3 => ?_
  refine At.seq fun K4 hk_4 => ?_
  refine At.region ?_
  refine op_assign (nxlf rfl) rfl rfl ?_
  refine At.opsNil ?_
  refine At.norm (hk_4 ?_)
  refine At.block ?_
  refine At.perm sel4 ?_
  refine At.perm sel1 ?_
  refine At.perm sel2 ?_
  refine At.perm sel3 ?_
  refine At.perm sel4 ?_
  refine At.loop (fun fr_ hp_ ms_ => ∃ (k : Nat) (N7 : Heaplet), fr_ = [(2, .int .i64 2), (3, .pointer (some ⟨b3, 0, none⟩)), (4, .pointer (some ⟨b4, 0, none⟩)), (6, .pointer (some ⟨b6, 0, none⟩)), (7, .pointer (some ⟨b7, 0, none⟩)), (8, .int .i64 (k : Int))] ∧ hp_ = [N3, N4, N6, N7, R] ∧ 4 - k = ms_ ∧ (k ≤ 4) ∧ (Blk N7 b7 24 (u64s (wSt (x ^^^ y) k)))) ?_ (.refl _) ⟨0, N7, rfl, rfl, rfl, by omega, B7⟩ ?_
  · exact .cons (by first | exact lkI rfl (by omega) | rfl) (.cons (by first | exact lkI rfl (by omega) | rfl) (.cons (by first | exact lkI rfl (by omega) | rfl) (.cons (by first | exact lkI rfl (by omega) | rfl) (.cons (by first | exact lkI rfl (by omega) | rfl) (.cons (by first | exact lkI rfl (by omega) | rfl) .nil)))))
  rintro _ _ _ ⟨k, N7, rfl, rfl, rfl, hk, B7⟩
  have hwl := length_wSt (T := x ^^^ y) hk
  refine At.seq fun K5 hk_5 => ?_
  refine At.seq fun K6 hk_6 => ?_
  refine At.region ?_
  refine op_move (nxlf rfl) rfl rfl ?_
  refine op_lss (nxlf rfl) rfl rfl rfl ?_
  refine At.opsNil ?_
  refine At.norm (hk_6 ?_)
  refine At.condP rfl (fun c10 => ?_) (fun c10 => ?_)
  · refine At.skip ?_
    refine At.norm (hk_5 ?_)
    refine At.seq fun K7 hk_7 => ?_
    refine At.block ?_
    refine At.seq fun K8 hk_8 => ?_
    refine At.region ?_
    refine op_move (nxlf rfl) rfl rfl ?_
    refine At.opsNil ?_
    refine At.norm (hk_8 ?_)
    refine At.block ?_
    refine At.seq fun K9 hk_9 => ?_
    refine At.region ?_
    refine op_eql (nxlf rfl) rfl rfl rfl ?_
    refine op_assign (nxlf rfl) rfl rfl ?_
    refine At.opsNil ?_
    refine At.norm (hk_9 ?_)
    refine At.condP rfl (fun c23 => ?_) (fun c23 => ?_)
    · exact absurd c23 (by decide)
    · refine At.seq fun K10 hk_10 => ?_
      refine At.region ?_
      refine op_eql (nxlf rfl) rfl rfl rfl ?_
      refine op_assign (nxlf rfl) rfl rfl ?_
      refine At.opsNil ?_
      refine At.norm (hk_10 ?_)
      refine At.condP rfl (fun c34 => ?_) (fun c34 => ?_)
      · exact absurd c34 (by decide)
      · refine At.perm sel4 ?_
        refine At.perm sel4 ?_
        refine At.perm sel3 ?_
        refine At.perm sel3 ?_
        refine At.perm sel4 ?_
        refine At.drawnS [N3, N4, N7, R] [9] [] [0,1,2,3,4,5,6,7,8,9] (by kernel_rfl) (by kernel_rfl) (.cons _ (.refl _)) ?_
        refine op_move (nxsf rfl rfl rfl) rfl rfl ?_
        refine op_move (nxsf rfl rfl rfl) rfl rfl ?_
        refine op_idxA (nxsf rfl rfl rfl) ae24 rfl rfl (show _ = (((k : Nat)) : Int) from by omega) (by omega) rfl ?_
        refine op_loadB (nxsf rfl rfl rfl) sc22 rfl B3 (by first | exact get64A (by omega) | rfl) mem0 rfl ?_
        refine op_move (nxsf rfl rfl rfl) rfl rfl ?_
        refine op_idxA (nxsf rfl rfl rfl) ae24 rfl rfl (show _ = (((k : Nat)) : Int) from by omega) (by omega) rfl ?_
        refine op_loadB (nxsf rfl rfl rfl) sc22 rfl B4 (by first | exact get64A (by omega) | rfl) mem1 rfl ?_
        refine op_xorU (nxsf rfl rfl rfl) rfl rfl rfl ?_
        refine op_idxA (nxsf rfl rfl rfl) ae24 rfl rfl (show _ = (((k : Nat)) : Int) from by omega) (by omega) rfl ?_
        refine op_store (nxsl rfl rfl rfl rfl) sz22 rfl rfl rfl rfl rfl B7 (by simp <;> omega) sel3 (fun N7 B7 => ?_)
        rw [set64A] at B7
        refine At.sNil ?_
        refine At.inNorm ?_
        refine At.inNorm ?_
        refine At.norm (hk_7 ?_)
        refine At.region ?_
        refine op_move (nxlf rfl) rfl rfl ?_
        refine op_addI (nxlf rfl) rfl rfl (by omega) (by omega) rfl ?_
        refine op_assign (nxlf rfl) rfl rfl ?_
        refine At.opsNil ?_
        refine At.norm ?_
        refine At.perm sel4 ?_
        refine At.perm sel1 ?_
        refine At.perm sel2 ?_
        refine At.perm sel4 ?_
        refine At.perm sel4 ?_
        refine At.back ?_ (.refl _) ⟨k + 1, N7, rfl, rfl, rfl, by omega, by rw [wSt_succ (by omega) (xor_limb x y (by omega))]; exact B7⟩ ?_
        · exact .cons (by first | exact lkI rfl (by omega) | rfl) (.cons (by first | exact lkI rfl (by omega) | rfl) (.cons (by first | exact lkI rfl (by omega) | rfl) (.cons (by first | exact lkI rfl (by omega) | rfl) (.cons (by first | exact lkI rfl (by omega) | rfl) (.cons (by first | exact lkI rfl (by omega) | rfl) .nil)))))
        · omega
  · refine At.exit (At.thenExit (At.thenExit (At.inHit ?_)))
    refine At.norm (hk_3 ?_)
    refine At.seq fun K11 hk_11 => ?_
    refine At.region ?_
    have hk4 : k = 4 := by omega
    rw [hk4, wSt_all] at B7
    refine op_loadAggB (ds := u64s (wl (x ^^^ y))) (nxlf rfl) ag24 rfl B7 (by first | (rw [List.drop_zero, List.take_of_length_le (by first | (simp; done) | (simp; omega))]; done) | rfl) (by first | (simp; done) | (simp; omega)) mem3 rfl ?_
    refine op_store (nxl rfl) sz24 rfl rfl rfl rfl rfl B6 (by simp) sel2 (fun N6 B6 => ?_)
    rw [setL_whole (by simp)] at B6
    refine At.opsNil ?_
    refine At.norm (hk_11 ?_)
    refine At.ret (?_)
    refine At.sub (L' := [N6, R]) (.cons_cons _ (.cons _ (.cons _ (.cons _ (.cons_cons _ (.slnil)))))) ?_
    refine At.ret1 (L1 := []) rfl (.cell rfl (res_agg (ds := u64s (wl (x ^^^ y))) ag24 B6 (by first | (rw [List.drop_zero, List.take_of_length_le (by first | (simp; done) | (simp; omega))]; done) | rfl) (by first | (simp; done) | (simp; omega)) mem0) .nil) (.cons _ (.refl _)) (.refl _) ?_
    exact ⟨rfl, rfl⟩
end Go.Proofs.Ytefljbbpaideaaa
