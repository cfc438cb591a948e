/- Package word: Of, Small, sums, differences, products. No condition. -/
import Derived.Test.YtefljbbpaideaaaKWp
import Derived.Test.YtefljbbpaideaaaK2
namespace Go.Proofs.Ytefljbbpaideaaa
set_option linter.unusedVariables false
set_option linter.unusedSimpArgs false
open Go Go.RowKit
theorem arr_part {N : Heaplet} {b lo hi c : Nat} {e : TypeId} {L : List UInt64} (h : Blk N b e (u64s L)) (hl : lo ≤ hi) (hh : hi ≤ L.length) (hc : hi - lo ≤ c) (hm : c ≤ 9223372036854775807) : RSl N 1 (some ⟨b, 0 + lo * 1, none⟩) (hi - lo) c (u64s ((L.drop lo).take (hi - lo))) := by
  refine ⟨by simp [u64s]; omega, hc, hm, fun h0 => ⟨b, lo, by rw [Nat.zero_add, Nat.mul_one], ?_⟩⟩
  have e := h.rng.sub (o := lo) (ds := u64s ((L.drop lo).take (hi - lo))) fun i hi' => by
    rw [List.getElem?_eq_getElem (by simp [u64s] at hi' ⊢; omega)]
    simp [u64s]
  rwa [Nat.zero_add] at e
theorem copy_all {zs : List Value} {l : List UInt64} {o k : Nat} (ho : o = 0) (hl : l.length ≤ k) (hz : zs.length ≤ k) : zs.take o ++ (u64s l).take k ++ zs.drop (o + k) = u64s l := by
  subst ho
  rw [List.take_zero, List.nil_append, List.take_of_length_le (by simpa using hl), List.drop_of_length_le (by omega), List.append_nil]
theorem WOf_f (n : UInt64) : Fn Try.prog 36 #[.int .u64 (n.toNat : Int)] [] [] (fun v L => v = wo n.toNat ∧ L = []) := by
  refine Fn.enter (vs := [.int .u64 (n.toNat : Int)]) Try.func36 rfl rfl rfl ?_
  intro E R hR
  change At _ _ E [R] _
  refine At.seq fun K1 hk_1 => ?_
  refine At.region ?_
  refine op_alloc (nxla rfl) ze24 rfl (fun N2 b2 B2 => ?_)
  change Blk N2 b2 _ [.int .u64 0, .int .u64 0, .int .u64 0, .int .u64 0] at B2
  refine At.opsNil ?_
  refine At.norm (hk_1 ?_)
  refine At.seq fun K2 hk_2 => ?_
  refine At.region ?_
  refine op_move (nxlf rfl) rfl rfl ?_
  refine op_buildA (out := [_, .int .u64 0, .int .u64 0, .int .u64 0]) (nxlf rfl) ze24 ae24 (.cons rfl .nil) rfl rfl ?_
  refine op_store (nxl rfl) sz24 rfl rfl rfl rfl rfl B2 (by simp) sel0 (fun N2 B2 => ?_)
  simp only [setL, List.set] at B2
  refine At.opsNil ?_
  refine At.norm (hk_2 ?_)
  refine At.ret (?_)
  refine At.ret1 (L1 := []) rfl (.cell rfl (res_agg (ds := [_, _, _, _]) ag24 B2 rfl rfl mem0) .nil) (.cons _ (.refl _)) (.refl _) ?_
  exact ⟨(wo_small n).symm, rfl⟩
theorem WSmall_no {x : Nat} (hx : x < WW) (h : ¬ x < 2 ^ 64) : Fn Try.prog 50 #[wo x] [] [] (fun v L => v = .tuple #[.int .u64 0, .bool false] ∧ L = []) := by
  have hl := length_wl x
  have hs := small_iff hx
  refine Fn.enter (vs := [wo x]) Try.func50 rfl rfl rfl ?_
  intro E R hR
  change At _ _ E [R] _
  refine At.seq fun K1 hk_1 => ?_
  refine At.region ?_
  refine op_box (nxla rfl) rfl rfl rfl (fun N1 b1 B1 => ?_)
  change Blk N1 b1 _ (u64s (wl x)) at B1
  refine op_assign (nxlf rfl) rfl rfl ?_
  refine op_assign (nxlf rfl) rfl rfl ?_
  refine At.opsNil ?_
  refine At.norm (hk_1 ?_)
  refine At.seq fun K2 hk_2 => ?_
  refine At.seq fun K3 hk_3 => ?_
  refine At.region ?_
  refine op_idxA (nxlf rfl) ae24 rfl rfl (show _ = ((1 : Nat) : Int) from rfl) (by omega) rfl ?_
  refine op_loadB (nxlf rfl) sc22 rfl B1 (by first | exact get64A (by omega) | rfl) mem0 rfl ?_
  refine op_idxA (nxlf rfl) ae24 rfl rfl (show _ = ((2 : Nat) : Int) from rfl) (by omega) rfl ?_
  refine op_loadB (nxlf rfl) sc22 rfl B1 (by first | exact get64A (by omega) | rfl) mem0 rfl ?_
  refine op_orU (nxlf rfl) rfl rfl rfl ?_
  refine op_idxA (nxlf rfl) ae24 rfl rfl (show _ = ((3 : Nat) : Int) from rfl) (by omega) rfl ?_
  refine op_loadB (nxlf rfl) sc22 rfl B1 (by first | exact get64A (by omega) | rfl) mem0 rfl ?_
  refine op_orU (nxlf rfl) rfl rfl rfl ?_
  refine op_neq (nxlf rfl) rfl rfl rfl ?_
  refine At.opsNil ?_
  refine At.norm (hk_3 ?_)
  refine At.condP rfl (fun c12 => ?_) (fun c12 => ?_)
  · refine At.seq fun K4 hk_4 => ?_
    refine At.region ?_
    refine op_assign (nxlf rfl) rfl rfl ?_
    refine op_assign (nxlf rfl) rfl rfl ?_
    refine At.opsNil ?_
    refine At.norm (hk_4 ?_)
    refine At.ret (At.thenRet (?_))
    refine At.sub (L' := [R]) (.cons _ (.cons_cons _ (.slnil))) ?_
    refine At.retN (L1 := []) rfl (.tmp rfl (.tmp rfl .nil)) rfl (.refl _) (.refl _) ?_
    exact ⟨rfl, rfl⟩
  · exact absurd (hs.1 (by apply UInt64.toNat_inj.1; show _ = 0; omega)) h
theorem WSmall_f {x : Nat} (hx : x < WW) (h : x < 2 ^ 64) : Fn Try.prog 50 #[wo x] [] [] (fun v L => v = .tuple #[.int .u64 (x : Int), .bool true] ∧ L = []) := by
  have hl := length_wl x
  have hs := (small_iff hx).2 h
  have hv := small_val h
  refine Fn.enter (vs := [wo x]) Try.func50 rfl rfl rfl ?_
  intro E R hR
  change At _ _ E [R] _
  refine At.seq fun K1 hk_1 => ?_
  refine At.region ?_
  refine op_box (nxla rfl) rfl rfl rfl (fun N1 b1 B1 => ?_)
  change Blk N1 b1 _ (u64s (wl x)) at B1
  refine op_assign (nxlf rfl) rfl rfl ?_
  refine op_assign (nxlf rfl) rfl rfl ?_
  refine At.opsNil ?_
  refine At.norm (hk_1 ?_)
  refine At.seq fun K2 hk_2 => ?_
  refine At.seq fun K3 hk_3 => ?_
  refine At.region ?_
  refine op_idxA (nxlf rfl) ae24 rfl rfl (show _ = ((1 : Nat) : Int) from rfl) (by omega) rfl ?_
  refine op_loadB (nxlf rfl) sc22 rfl B1 (by first | exact get64A (by omega) | rfl) mem0 rfl ?_
  refine op_idxA (nxlf rfl) ae24 rfl rfl (show _ = ((2 : Nat) : Int) from rfl) (by omega) rfl ?_
  refine op_loadB (nxlf rfl) sc22 rfl B1 (by first | exact get64A (by omega) | rfl) mem0 rfl ?_
  refine op_orU (nxlf rfl) rfl rfl rfl ?_
  refine op_idxA (nxlf rfl) ae24 rfl rfl (show _ = ((3 : Nat) : Int) from rfl) (by omega) rfl ?_
  refine op_loadB (nxlf rfl) sc22 rfl B1 (by first | exact get64A (by omega) | rfl) mem0 rfl ?_
  refine op_orU (nxlf rfl) rfl rfl rfl ?_
  refine op_neq (nxlf rfl) rfl rfl rfl ?_
  refine At.opsNil ?_
  refine At.norm (hk_3 ?_)
  refine At.condP rfl (fun c12 => ?_) (fun c12 => ?_)
  · exfalso; apply c12; rw [hs]; rfl
  · refine At.skip ?_
    refine At.norm (hk_2 ?_)
    refine At.seq fun K4 hk_4 => ?_
    refine At.region ?_
    refine op_idxA (nxlf rfl) ae24 rfl rfl (show _ = ((0 : Nat) : Int) from rfl) (by omega) rfl ?_
    refine op_loadB (nxlf rfl) sc22 rfl B1 (by first | exact get64A (by omega) | rfl) mem0 rfl ?_
    rw [hv]
    refine op_assign (nxlf rfl) rfl rfl ?_
    refine op_assign (nxlf rfl) rfl rfl ?_
    refine At.opsNil ?_
    refine At.norm (hk_4 ?_)
    refine At.ret (?_)
    refine At.sub (L' := [R]) (.cons _ (.cons_cons _ (.slnil))) ?_
    refine At.retN (L1 := []) rfl (.tmp rfl (.tmp rfl .nil)) rfl (.refl _) (.refl _) ?_
    exact ⟨rfl, rfl⟩
set_option maxRecDepth 100000 in
theorem added_f {x y : Nat} (hx : x < WW) (hy : y < WW) : Fn Try.prog 116 #[wo x, wo y] [] [] (fun v L => ∃ c : UInt64, v = .tuple #[wo (x + y), .int .u64 (c.toNat : Int)] ∧ L = [] ∧ (x + y) % WW + c.toNat * WW = x + y) := by
  have hlx := length_wl x
  have hly := length_wl y
  have hvx := v64_wl_lt hx
  have hvy := v64_wl_lt hy
  refine Fn.enter (vs := [wo x, wo y]) Try.func116 rfl rfl rfl ?_
  intro E R hR
  change At _ _ E [R] _
  refine At.seq fun K1 hk_1 => ?_
  refine At.region ?_
  refine op_box (nxla rfl) rfl rfl rfl (fun N2 b2 B2 => ?_)
  change Blk N2 b2 _ (u64s (wl x)) at B2
  refine op_box (nxla rfl) rfl rfl rfl (fun N3 b3 B3 => ?_)
  change Blk N3 b3 _ (u64s (wl y)) at B3
  refine op_alloc (nxla rfl) ze24 rfl (fun N4 b4 B4 => ?_)
  change Blk N4 b4 _ [.int .u64 0, .int .u64 0, .int .u64 0, .int .u64 0] at B4
  refine op_assign (nxlf rfl) rfl rfl ?_
  refine At.opsNil ?_
  refine At.norm (hk_1 ?_)
  refine At.seq fun K2 hk_2 => ?_
  refine At.region ?_
  refine op_assign (nxlf rfl) rfl rfl ?_
  refine At.opsNil ?_
  refine At.norm (hk_2 ?_)
  refine At.seq fun K3 hk_3 => ?_
  refine At.seq fun K4 hk_4 => ?_
  refine At.region ?_
  refine op_move (nxlf rfl) rfl rfl ?_
  refine At.opsNil ?_
  refine At.norm (hk_4 ?_)
  refine At.block ?_
  refine At.perm sel3 ?_
  refine At.perm sel1 ?_
  refine At.perm sel2 ?_
  refine At.perm sel3 ?_
  refine At.loop (fun fr_ hp_ ms_ => ∃ (k : Nat) (c : UInt64) (w : List UInt64) (N2 : Heaplet), fr_ = [(2, .pointer (some ⟨b2, 0, none⟩)), (3, .pointer (some ⟨b3, 0, none⟩)), (4, .pointer (some ⟨b4, 0, none⟩)), (6, .int .u64 (c.toNat : Int)), (8, .int .i64 (k : Int))] ∧ hp_ = [N2, N3, N4, R] ∧ 4 - k = ms_ ∧ (k ≤ 4) ∧ (w.length = k) ∧ (c.toNat ≤ 1) ∧ (v64 w + c.toNat * 2 ^ (64 * k) = v64 ((wl x).take k) + v64 ((wl y).take k)) ∧ (Blk N2 b2 24 (u64s (w ++ (wl x).drop k)))) ?_ (.refl _) ⟨0, 0, [], N2, rfl, rfl, rfl, by omega, rfl, by decide, by simp; rfl, by simpa using B2⟩ ?_
  · exact .cons (by first | exact lkI rfl (by omega) | rfl) (.cons (by first | exact lkI rfl (by omega) | rfl) (.cons (by first | exact lkI rfl (by omega) | rfl) (.cons (by first | exact lkI rfl (by omega) | rfl) (.cons (by first | exact lkI rfl (by omega) | rfl) .nil))))
  rintro _ _ _ ⟨k, c, w, N2, rfl, rfl, rfl, hk, hw, hc, hv, B2⟩
  have hwl : (w ++ (wl x).drop k).length = 4 := by rw [List.length_append, List.length_drop]; omega
  refine At.seq fun K5 hk_5 => ?_
  refine At.region ?_
  refine op_lss (nxlf rfl) rfl rfl rfl ?_
  refine At.opsNil ?_
  refine At.norm (hk_5 ?_)
  refine At.seq fun K6 hk_6 => ?_
  refine At.condP rfl (fun c9 => ?_) (fun c9 => ?_)
  · refine At.skip ?_
    refine At.norm (hk_6 ?_)
    refine At.seq fun K7 hk_7 => ?_
    refine At.block ?_
    refine At.seq fun K8 hk_8 => ?_
    refine At.region ?_
    refine op_move (nxlf rfl) rfl rfl ?_
    refine op_assign (nxlf rfl) rfl rfl ?_
    refine At.opsNil ?_
    refine At.norm (hk_8 ?_)
    refine At.perm sel3 ?_
    refine At.perm sel2 ?_
    refine At.perm sel2 ?_
    refine At.perm sel3 ?_
    refine At.drawnS [N2, N3, R] [8,13] [0,11] [0,1,2,3,4,5,6,7,8,9,10,11,12,13,14] (by kernel_rfl) (by kernel_rfl) (.cons _ (.refl _)) ?_
    refine op_move (nxsf rfl rfl rfl) rfl rfl ?_
    refine op_move (nxsf rfl rfl rfl) rfl rfl ?_
    refine op_idxA (nxsf rfl rfl rfl) ae24 rfl rfl (show _ = (((k : Nat)) : Int) from by omega) (by omega) rfl ?_
    refine op_loadB (nxsf rfl rfl rfl) sc22 rfl B2 (by first | exact get64A (by omega) | rfl) mem0 rfl ?_
    rw [getD_drop hw (show k < (wl x).length by omega)]
    refine op_move (nxsf rfl rfl rfl) rfl rfl ?_
    refine op_idxA (nxsf rfl rfl rfl) ae24 rfl rfl (show _ = (((k : Nat)) : Int) from by omega) (by omega) rfl ?_
    refine op_loadB (nxsf rfl rfl rfl) sc22 rfl B3 (by first | exact get64A (by omega) | rfl) mem1 rfl ?_
    refine op_move (nxsf rfl rfl rfl) rfl rfl ?_
    refine op_ext (Nx.agree (nxss rfl rfl rfl rfl)) (.cons rfl (.cons rfl (.cons rfl .nil))) (Add64_x ((wl x).getD k 0) ((wl y).getD k 0) c hc) rfl ?_
    refine At.anyS (.refl _) ?_
    refine op_move (nxsf rfl rfl rfl) rfl rfl ?_
    refine op_extract (nxsf rfl rfl rfl) rfl rfl rfl ?_
    refine op_extract (nxsf rfl rfl rfl) rfl rfl rfl ?_
    refine op_idxA (nxsf rfl rfl rfl) ae24 rfl rfl (show _ = (((k : Nat)) : Int) from by omega) (by omega) rfl ?_
    refine op_store (nxss rfl rfl rfl rfl) sz22 rfl rfl rfl rfl rfl B2 (by simp <;> omega) sel1 (fun N2 B2 => ?_)
    rw [set64A, set_drop hw (show k < (wl x).length by omega)] at B2
    refine At.anyS (.refl _) ?_
    refine op_assign (nxsf rfl rfl rfl) rfl rfl ?_
    refine At.sNil ?_
    refine At.inNorm ?_
    refine At.norm (hk_7 ?_)
    refine At.region ?_
    refine op_addI (nxlf rfl) rfl rfl (by omega) (by omega) rfl ?_
    refine op_move (nxlf rfl) rfl rfl ?_
    refine At.opsNil ?_
    refine At.norm ?_
    refine At.perm sel3 ?_
    refine At.perm sel2 ?_
    refine At.perm sel3 ?_
    refine At.perm sel3 ?_
    refine At.back ?_ (.refl _) ⟨k + 1, addC ((wl x).getD k 0) ((wl y).getD k 0) c, w ++ [addS ((wl x).getD k 0) ((wl y).getD k 0) c], N2, rfl, rfl, rfl, by omega, by simp; omega, (add64_law _ _ _ hc).2, add_round hw hc hv, B2⟩ ?_
    · exact .cons (by first | exact lkI rfl (by omega) | rfl) (.cons (by first | exact lkI rfl (by omega) | rfl) (.cons (by first | exact lkI rfl (by omega) | rfl) (.cons (by first | exact lkI rfl (by omega) | rfl) (.cons (by first | exact lkI rfl (by omega) | rfl) .nil))))
    · omega
  · refine At.exit (At.thenExit (At.thenExit (At.inHit ?_)))
    refine At.norm (hk_3 ?_)
    refine At.seq fun K9 hk_9 => ?_
    refine At.region ?_
    have hk4 : k = 4 := by omega
    rw [hk4, v64_take_all (by omega), v64_take_all (by omega), hvx, hvy] at hv
    rw [hk4, List.drop_of_length_le (by omega), List.append_nil] at B2
    have hw4 : w.length = 4 := by omega
    have hvw := v64_lt4 hw4
    have hsum : v64 w = (x + y) % WW := by
      rw [← WW_eq] at hv
      rw [← hv, Nat.add_mul_mod_self_right, Nat.mod_eq_of_lt hvw]
    have hwe := wl_of hw4 hsum
    rw [hwe] at B2
    refine op_loadAggB (ds := u64s (wl (x + y))) (nxlf rfl) ag24 rfl B2 (by first | (rw [List.drop_zero, List.take_of_length_le (by first | (simp; done) | (simp; omega))]; done) | rfl) (by first | (simp; done) | (simp; omega)) mem0 rfl ?_
    refine op_move (nxlf rfl) rfl rfl ?_
    refine op_store (nxl rfl) sz24 rfl rfl rfl rfl rfl B4 (by simp) sel2 (fun N4 B4 => ?_)
    rw [setL_whole (by simp)] at B4
    refine op_assign (nxlf rfl) rfl rfl ?_
    refine At.opsNil ?_
    refine At.norm (hk_9 ?_)
    refine At.ret (?_)
    refine At.sub (L' := [N4, R]) (.cons_cons _ (.cons _ (.cons _ (.cons_cons _ (.slnil))))) ?_
    refine At.retN (L1 := []) rfl (.cell rfl (res_agg (ds := u64s (wl (x + y))) ag24 B4 (by first | (rw [List.drop_zero, List.take_of_length_le (by first | (simp; done) | (simp; omega))]; done) | rfl) (by first | (simp; done) | (simp; omega)) mem0) (.tmp rfl .nil)) rfl (.cons _ (.refl _)) (.refl _) ?_
    exact ⟨c, rfl, rfl, by rw [← hsum]; rw [← WW_eq] at hv; exact hv⟩
set_option maxRecDepth 100000 in
theorem WAdd_f {x y : Nat} (hx : x < WW) (hy : y < WW) : Fn Try.prog 29 #[wo x, wo y] [] [] (fun v L => v = wo (x + y) ∧ L = []) := by
  refine Fn.enter (vs := [wo x, wo y]) Try.func29 rfl rfl rfl ?_
  intro E R hR
  change At _ _ E [R] _
  refine At.seq fun K1 hk_1 => ?_
  refine At.region ?_
  refine op_box (nxla rfl) rfl rfl rfl (fun N2 b2 B2 => ?_)
  change Blk N2 b2 _ (u64s (wl x)) at B2
  refine op_box (nxla rfl) rfl rfl rfl (fun N3 b3 B3 => ?_)
  change Blk N3 b3 _ (u64s (wl y)) at B3
  refine op_alloc (nxla rfl) ze24 rfl (fun N4 b4 B4 => ?_)
  change Blk N4 b4 _ [.int .u64 0, .int .u64 0, .int .u64 0, .int .u64 0] at B4
  refine At.opsNil ?_
  refine At.norm (hk_1 ?_)
  refine At.seq fun K2 hk_2 => ?_
  refine At.region ?_
  refine op_loadAggB (ds := u64s (wl x)) (nxlf rfl) ag24 rfl B2 (by first | (rw [List.drop_zero, List.take_of_length_le (by first | (simp; done) | (simp; omega))]; done) | rfl) (by first | (simp; done) | (simp; omega)) mem2 rfl ?_
  refine op_loadAggB (ds := u64s (wl y)) (nxlf rfl) ag24 rfl B3 (by first | (rw [List.drop_zero, List.take_of_length_le (by first | (simp; done) | (simp; omega))]; done) | rfl) (by first | (simp; done) | (simp; omega)) mem1 rfl ?_
  refine op_callA (nxla rfl) (.cons rfl (.cons rfl .nil)) (added_f hx hy) Try.func116 rfl rfl (by simp) rfl ?_
  rintro v10 L10 ⟨c, rfl, rfl, hs⟩
  change At _ _ _ [N4, N3, N2, R] _
  refine op_move (nxlf rfl) rfl rfl ?_
  refine op_extract (nxlf rfl) rfl rfl rfl ?_
  refine op_extract (nxlf rfl) rfl rfl rfl ?_
  refine op_alloc (nxla rfl) ze24 rfl (fun N5 b5 B5 => ?_)
  change Blk N5 b5 _ [.int .u64 0, .int .u64 0, .int .u64 0, .int .u64 0] at B5
  refine op_store (nxl rfl) sz24 rfl rfl rfl rfl rfl B5 (by simp) sel0 (fun N5 B5 => ?_)
  rw [setL_whole (by simp)] at B5
  refine op_assign (nxlf rfl) rfl rfl ?_
  refine At.opsNil ?_
  refine At.norm (hk_2 ?_)
  refine At.seq fun K3 hk_3 => ?_
  refine At.region ?_
  refine op_loadAggB (ds := u64s (wl (x + y))) (nxlf rfl) ag24 rfl B5 (by first | (rw [List.drop_zero, List.take_of_length_le (by first | (simp; done) | (simp; omega))]; done) | rfl) (by first | (simp; done) | (simp; omega)) mem0 rfl ?_
  refine op_store (nxl rfl) sz24 rfl rfl rfl rfl rfl B4 (by simp) sel1 (fun N4 B4 => ?_)
  rw [setL_whole (by simp)] at B4
  refine At.opsNil ?_
  refine At.norm (hk_3 ?_)
  refine At.ret (?_)
  refine At.sub (L' := [N4, R]) (.cons_cons _ (.cons _ (.cons _ (.cons _ (.cons_cons _ (.slnil)))))) ?_
  refine At.ret1 (L1 := []) rfl (.cell rfl (res_agg (ds := u64s (wl (x + y))) ag24 B4 (by first | (rw [List.drop_zero, List.take_of_length_le (by first | (simp; done) | (simp; omega))]; done) | rfl) (by first | (simp; done) | (simp; omega)) mem0) .nil) (.cons _ (.refl _)) (.refl _) ?_
  exact ⟨rfl, rfl⟩
set_option maxRecDepth 100000 in
theorem WSub_f {x y : Nat} (hx : x < WW) (hy : y < WW) : Fn Try.prog 31 #[wo x, wo y] [] [] (fun v L => v = wo (x + WW - y) ∧ L = []) := by
  have hlx := length_wl x
  have hly := length_wl y
  have hvx := v64_wl_lt hx
  have hvy := v64_wl_lt hy
  refine Fn.enter (vs := [wo x, wo y]) Try.func31 rfl rfl rfl ?_
  intro E R hR
  change At _ _ E [R] _
  refine At.seq fun K1 hk_1 => ?_
  refine At.region ?_
  refine op_box (nxla rfl) rfl rfl rfl (fun N2 b2 B2 => ?_)
  change Blk N2 b2 _ (u64s (wl x)) at B2
  refine op_box (nxla rfl) rfl rfl rfl (fun N3 b3 B3 => ?_)
  change Blk N3 b3 _ (u64s (wl y)) at B3
  refine op_alloc (nxla rfl) ze24 rfl (fun N4 b4 B4 => ?_)
  change Blk N4 b4 _ [.int .u64 0, .int .u64 0, .int .u64 0, .int .u64 0] at B4
  refine At.opsNil ?_
  refine At.norm (hk_1 ?_)
  refine At.seq fun K2 hk_2 => ?_
  refine At.region ?_
  refine op_assign (nxlf rfl) rfl rfl ?_
  refine At.opsNil ?_
  refine At.norm (hk_2 ?_)
  refine At.seq fun K3 hk_3 => ?_
  refine At.seq fun K4 hk_4 => ?_
  refine At.region ?_
  refine op_move (nxlf rfl) rfl rfl ?_
  refine At.opsNil ?_
  refine At.norm (hk_4 ?_)
  refine At.block ?_
  refine At.perm sel3 ?_
  refine At.perm sel1 ?_
  refine At.perm sel2 ?_
  refine At.perm sel3 ?_
  refine At.loop (fun fr_ hp_ ms_ => ∃ (k : Nat) (c : UInt64) (w : List UInt64) (N2 : Heaplet), fr_ = [(2, .pointer (some ⟨b2, 0, none⟩)), (3, .pointer (some ⟨b3, 0, none⟩)), (4, .pointer (some ⟨b4, 0, none⟩)), (5, .int .u64 (c.toNat : Int)), (7, .int .i64 (k : Int))] ∧ hp_ = [N2, N3, N4, R] ∧ 4 - k = ms_ ∧ (k ≤ 4) ∧ (w.length = k) ∧ (c.toNat ≤ 1) ∧ (v64 w + v64 ((wl y).take k) = v64 ((wl x).take k) + c.toNat * 2 ^ (64 * k)) ∧ (Blk N2 b2 24 (u64s (w ++ (wl x).drop k)))) ?_ (.refl _) ⟨0, 0, [], N2, rfl, rfl, rfl, by omega, rfl, by decide, by simp; rfl, by simpa using B2⟩ ?_
  · exact .cons (by first | exact lkI rfl (by omega) | rfl) (.cons (by first | exact lkI rfl (by omega) | rfl) (.cons (by first | exact lkI rfl (by omega) | rfl) (.cons (by first | exact lkI rfl (by omega) | rfl) (.cons (by first | exact lkI rfl (by omega) | rfl) .nil))))
  rintro _ _ _ ⟨k, c, w, N2, rfl, rfl, rfl, hk, hw, hc, hv, B2⟩
  have hwl : (w ++ (wl x).drop k).length = 4 := by rw [List.length_append, List.length_drop]; omega
  refine At.seq fun K5 hk_5 => ?_
  refine At.region ?_
  refine op_lss (nxlf rfl) rfl rfl rfl ?_
  refine At.opsNil ?_
  refine At.norm (hk_5 ?_)
  refine At.seq fun K6 hk_6 => ?_
  refine At.condP rfl (fun c8 => ?_) (fun c8 => ?_)
  · refine At.skip ?_
    refine At.norm (hk_6 ?_)
    refine At.seq fun K7 hk_7 => ?_
    refine At.block ?_
    refine At.seq fun K8 hk_8 => ?_
    refine At.region ?_
    refine op_move (nxlf rfl) rfl rfl ?_
    refine op_assign (nxlf rfl) rfl rfl ?_
    refine At.opsNil ?_
    refine At.norm (hk_8 ?_)
    refine At.perm sel3 ?_
    refine At.perm sel2 ?_
    refine At.perm sel2 ?_
    refine At.perm sel3 ?_
    refine At.drawnS [N2, N3, R] [8,13] [0,11] [0,1,2,3,4,5,6,7,8,9,10,11,12,13,14] (by kernel_rfl) (by kernel_rfl) (.cons _ (.refl _)) ?_
    refine op_move (nxsf rfl rfl rfl) rfl rfl ?_
    refine op_move (nxsf rfl rfl rfl) rfl rfl ?_
    refine op_idxA (nxsf rfl rfl rfl) ae24 rfl rfl (show _ = (((k : Nat)) : Int) from by omega) (by omega) rfl ?_
    refine op_loadB (nxsf rfl rfl rfl) sc22 rfl B2 (by first | exact get64A (by omega) | rfl) mem0 rfl ?_
    rw [getD_drop hw (show k < (wl x).length by omega)]
    refine op_move (nxsf rfl rfl rfl) rfl rfl ?_
    refine op_idxA (nxsf rfl rfl rfl) ae24 rfl rfl (show _ = (((k : Nat)) : Int) from by omega) (by omega) rfl ?_
    refine op_loadB (nxsf rfl rfl rfl) sc22 rfl B3 (by first | exact get64A (by omega) | rfl) mem1 rfl ?_
    refine op_move (nxsf rfl rfl rfl) rfl rfl ?_
    refine op_ext (Nx.agree (nxss rfl rfl rfl rfl)) (.cons rfl (.cons rfl (.cons rfl .nil))) (Sub64_x ((wl x).getD k 0) ((wl y).getD k 0) c hc) rfl ?_
    refine At.anyS (.refl _) ?_
    refine op_move (nxsf rfl rfl rfl) rfl rfl ?_
    refine op_extract (nxsf rfl rfl rfl) rfl rfl rfl ?_
    refine op_extract (nxsf rfl rfl rfl) rfl rfl rfl ?_
    refine op_idxA (nxsf rfl rfl rfl) ae24 rfl rfl (show _ = (((k : Nat)) : Int) from by omega) (by omega) rfl ?_
    refine op_store (nxss rfl rfl rfl rfl) sz22 rfl rfl rfl rfl rfl B2 (by simp <;> omega) sel1 (fun N2 B2 => ?_)
    rw [set64A, set_drop hw (show k < (wl x).length by omega)] at B2
    refine At.anyS (.refl _) ?_
    refine op_assign (nxsf rfl rfl rfl) rfl rfl ?_
    refine At.sNil ?_
    refine At.inNorm ?_
    refine At.norm (hk_7 ?_)
    refine At.region ?_
    refine op_addI (nxlf rfl) rfl rfl (by omega) (by omega) rfl ?_
    refine op_move (nxlf rfl) rfl rfl ?_
    refine At.opsNil ?_
    refine At.norm ?_
    refine At.perm sel3 ?_
    refine At.perm sel2 ?_
    refine At.perm sel3 ?_
    refine At.perm sel3 ?_
    refine At.back ?_ (.refl _) ⟨k + 1, subC ((wl x).getD k 0) ((wl y).getD k 0) c, w ++ [subS ((wl x).getD k 0) ((wl y).getD k 0) c], N2, rfl, rfl, rfl, by omega, by simp; omega, (sub64_law _ _ _ hc).2, sub_round hw hc hv, B2⟩ ?_
    · exact .cons (by first | exact lkI rfl (by omega) | rfl) (.cons (by first | exact lkI rfl (by omega) | rfl) (.cons (by first | exact lkI rfl (by omega) | rfl) (.cons (by first | exact lkI rfl (by omega) | rfl) (.cons (by first | exact lkI rfl (by omega) | rfl) .nil))))
    · omega
  · refine At.exit (At.thenExit (At.thenExit (At.inHit ?_)))
    refine At.norm (hk_3 ?_)
    refine At.seq fun K9 hk_9 => ?_
    refine At.region ?_
    have hk4 : k = 4 := by omega
    rw [hk4, v64_take_all (by omega), v64_take_all (by omega), hvx, hvy] at hv
    rw [hk4, List.drop_of_length_le (by omega), List.append_nil] at B2
    have hw4 : w.length = 4 := by omega
    have hvw := v64_lt4 hw4
    have hsum : v64 w = (x + WW - y) % WW := by
      rw [← WW_eq] at hv
      have hc2 : c.toNat = 0 ∨ c.toNat = 1 := by omega
      rcases hc2 with h | h
      · rw [h, Nat.zero_mul] at hv
        rw [show x + WW - y = v64 w + WW by omega, Nat.add_mod_right, Nat.mod_eq_of_lt hvw]
      · rw [h, Nat.one_mul] at hv
        rw [show x + WW - y = v64 w by omega, Nat.mod_eq_of_lt hvw]
    have hwe := wl_of hw4 hsum
    rw [hwe] at B2
    refine op_loadAggB (ds := u64s (wl (x + WW - y))) (nxlf rfl) ag24 rfl B2 (by first | (rw [List.drop_zero, List.take_of_length_le (by first | (simp; done) | (simp; omega))]; done) | rfl) (by first | (simp; done) | (simp; omega)) mem0 rfl ?_
    refine op_store (nxl rfl) sz24 rfl rfl rfl rfl rfl B4 (by simp) sel2 (fun N4 B4 => ?_)
    rw [setL_whole (by simp)] at B4
    refine At.opsNil ?_
    refine At.norm (hk_9 ?_)
    refine At.ret (?_)
    refine At.sub (L' := [N4, R]) (.cons_cons _ (.cons _ (.cons _ (.cons_cons _ (.slnil))))) ?_
    refine At.ret1 (L1 := []) rfl (.cell rfl (res_agg (ds := u64s (wl (x + WW - y))) ag24 B4 (by first | (rw [List.drop_zero, List.take_of_length_le (by first | (simp; done) | (simp; omega))]; done) | rfl) (by first | (simp; done) | (simp; omega)) mem0) .nil) (.cons _ (.refl _)) (.refl _) ?_
    exact ⟨rfl, rfl⟩
set_option maxRecDepth 100000 in
theorem Wide_f {x y : Nat} (hx : x < WW) (hy : y < WW) : Fn Try.prog 27 #[wo x, wo y] [] [] (fun v L => v = .tuple #[wo (x * y / WW), wo (x * y)] ∧ L = []) := by
  have hlx := length_wl x
  have hly := length_wl y
  have hvx := v64_wl_lt hx
  have hvy := v64_wl_lt hy
  refine Fn.enter (vs := [wo x, wo y]) Try.func27 rfl rfl rfl ?_
  intro E R hR
  change At _ _ E [R] _
  refine At.seq fun K1 hk_1 => ?_
  refine At.region ?_
  refine op_box (nxla rfl) rfl rfl rfl (fun N2 b2 B2 => ?_)
  change Blk N2 b2 _ (u64s (wl x)) at B2
  refine op_box (nxla rfl) rfl rfl rfl (fun N3 b3 B3 => ?_)
  change Blk N3 b3 _ (u64s (wl y)) at B3
  refine op_alloc (nxla rfl) ze24 rfl (fun N4 b4 B4 => ?_)
  change Blk N4 b4 _ [.int .u64 0, .int .u64 0, .int .u64 0, .int .u64 0] at B4
  refine op_alloc (nxla rfl) ze24 rfl (fun N5 b5 B5 => ?_)
  change Blk N5 b5 _ [.int .u64 0, .int .u64 0, .int .u64 0, .int .u64 0] at B5
  refine At.opsNil ?_
  refine At.norm (hk_1 ?_)
  refine At.seq fun K2 hk_2 => ?_
  refine At.region ?_
  refine op_alloc (nxla rfl) ze91 rfl (fun N6 b6 B6 => ?_)
  change Blk N6 b6 _ [.int .u64 0, .int .u64 0, .int .u64 0, .int .u64 0, .int .u64 0, .int .u64 0, .int .u64 0, .int .u64 0] at B6
  change Blk N6 b6 _ (u64s (List.replicate 8 0)) at B6
  refine At.opsNil ?_
  refine At.norm (hk_2 ?_)
  refine At.seq fun K3 hk_3 => ?_
  refine At.seq fun K4 hk_4 => ?_
  refine At.region ?_
  refine op_loadAggB (ds := u64s (wl x)) (nxlf rfl) ag24 rfl B2 (by first | (rw [List.drop_zero, List.take_of_length_le (by first | (simp; done) | (simp; omega))]; done) | rfl) (by first | (simp; done) | (simp; omega)) mem4 rfl ?_
  refine op_move (nxlf rfl) rfl rfl ?_
  refine At.opsNil ?_
  refine At.norm (hk_4 ?_)
  refine At.block ?_
  refine At.sub (L' := [N6, N5, N4, N3, R]) (.cons_cons _ (.cons_cons _ (.cons_cons _ (.cons_cons _ (.cons _ (.cons_cons _ (.slnil))))))) ?_
  refine At.perm sel4 ?_
  refine At.perm sel2 ?_
  refine At.perm sel3 ?_
  refine At.perm sel4 ?_
  refine At.perm sel4 ?_
  refine At.loop (fun fr_ hp_ ms_ => ∃ (i : Nat) (p : List UInt64) (N6 : Heaplet), fr_ = [(3, .pointer (some ⟨b3, 0, none⟩)), (4, .pointer (some ⟨b4, 0, none⟩)), (5, .pointer (some ⟨b5, 0, none⟩)), (6, .pointer (some ⟨b6, 0, none⟩)), (15, .agg (u64s (wl x)).toArray), (16, .int .i64 (i : Int))] ∧ hp_ = [N6, N3, N4, N5, R] ∧ 4 - i = ms_ ∧ (i ≤ 4) ∧ (p.length = i + 4) ∧ (v64 p = v64 ((wl x).take i) * v64 (wl y)) ∧ (Blk N6 b6 91 (u64s (p ++ List.replicate (4 - i) 0)))) ?_ (.refl _) ⟨0, List.replicate 4 0, N6, rfl, rfl, rfl, by omega, by simp, by rw [v64_replicate]; simp [v64, n64, val], B6⟩ ?_
  · exact .cons (by first | exact lkI rfl (by omega) | rfl) (.cons (by first | exact lkI rfl (by omega) | rfl) (.cons (by first | exact lkI rfl (by omega) | rfl) (.cons (by first | exact lkI rfl (by omega) | rfl) (.cons (by first | exact lkI rfl (by omega) | rfl) (.cons (by first | exact lkI rfl (by omega) | rfl) .nil)))))
  rintro _ _ _ ⟨i, p, N6, rfl, rfl, rfl, hi, hp, hv, B6⟩
  have hpl : (p ++ List.replicate (4 - i) (0 : UInt64)).length = 8 := by simp; omega
  refine At.seq fun K5 hk_5 => ?_
  refine At.region ?_
  refine op_lss (nxlf rfl) rfl rfl rfl ?_
  refine At.opsNil ?_
  refine At.norm (hk_5 ?_)
  refine At.seq fun K6 hk_6 => ?_
  refine At.condP rfl (fun c17 => ?_) (fun c17 => ?_)
  · refine At.skip ?_
    refine At.norm (hk_6 ?_)
    refine At.seq fun K7 hk_7 => ?_
    refine At.block ?_
    refine At.seq fun K8 hk_8 => ?_
    refine At.region ?_
    refine op_move (nxlf rfl) rfl rfl ?_
    refine op_idxV (nxlf rfl) ae24 sc22 rfl rfl (show _ = (((i : Nat)) : Int) from by omega) (by omega) (by simpa using get64 (bs := wl x) (j := i) (by omega)) rfl ?_
    refine op_assign (nxlf rfl) rfl rfl ?_
    refine op_assign (nxlf rfl) rfl rfl ?_
    refine At.opsNil ?_
    refine At.norm (hk_8 ?_)
    refine At.seq fun K9 hk_9 => ?_
    refine At.region ?_
    refine op_assign (nxlf rfl) rfl rfl ?_
    refine At.opsNil ?_
    refine At.norm (hk_9 ?_)
    refine At.seq fun K10 hk_10 => ?_
    refine At.seq fun K11 hk_11 => ?_
    refine At.region ?_
    refine op_loadAggB (ds := u64s (wl y)) (nxlf rfl) ag24 rfl B3 (by first | (rw [List.drop_zero, List.take_of_length_le (by first | (simp; done) | (simp; omega))]; done) | rfl) (by first | (simp; done) | (simp; omega)) mem1 rfl ?_
    refine op_move (nxlf rfl) rfl rfl ?_
    refine At.opsNil ?_
    refine At.norm (hk_11 ?_)
    refine At.block ?_
    refine At.loop (fun fr_ hp_ ms_ => ∃ (k : Nat) (c : UInt64) (p : List UInt64) (N6 : Heaplet), fr_ = [(3, .pointer (some ⟨b3, 0, none⟩)), (4, .pointer (some ⟨b4, 0, none⟩)), (5, .pointer (some ⟨b5, 0, none⟩)), (6, .pointer (some ⟨b6, 0, none⟩)), (7, .int .i64 (i : Int)), (8, .int .u64 (((wl x).getD i 0).toNat : Int)), (9, .int .u64 (c.toNat : Int)), (15, .agg (u64s (wl x)).toArray), (16, .int .i64 (i : Int)), (20, .agg (u64s (wl y)).toArray), (21, .int .i64 (k : Int))] ∧ hp_ = [N6, N3, N4, N5, R] ∧ 4 - k = ms_ ∧ (k ≤ 4) ∧ (p.length = i + 4) ∧ (v64 p + c.toNat * 2 ^ (64 * (i + k)) = v64 ((wl x).take i) * v64 (wl y) + 2 ^ (64 * i) * (((wl x).getD i 0).toNat * v64 ((wl y).take k))) ∧ (Blk N6 b6 91 (u64s (p ++ List.replicate (4 - i) 0)))) ?_ (.refl _) ⟨0, 0, p, N6, rfl, rfl, rfl, by omega, hp, by rw [hv]; simp [v64, n64, val], B6⟩ ?_
    · exact .cons (by first | exact lkI rfl (by omega) | rfl) (.cons (by first | exact lkI rfl (by omega) | rfl) (.cons (by first | exact lkI rfl (by omega) | rfl) (.cons (by first | exact lkI rfl (by omega) | rfl) (.cons (by first | exact lkI rfl (by omega) | rfl) (.cons (by first | exact lkI rfl (by omega) | rfl) (.cons (by first | exact lkI rfl (by omega) | rfl) (.cons (by first | exact lkI rfl (by omega) | rfl) (.cons (by first | exact lkI rfl (by omega) | rfl) (.cons (by first | exact lkI rfl (by omega) | rfl) (.cons (by first | exact lkI rfl (by omega) | rfl) .nil))))))))))
    rintro _ _ _ ⟨k, c, p, N6, rfl, rfl, rfl, hk, hp, hv, B6⟩
    have hpl : (p ++ List.replicate (4 - i) (0 : UInt64)).length = 8 := by simp; omega
    refine At.seq fun K12 hk_12 => ?_
    refine At.region ?_
    refine op_lss (nxlf rfl) rfl rfl rfl ?_
    refine At.opsNil ?_
    refine At.norm (hk_12 ?_)
    refine At.seq fun K13 hk_13 => ?_
    refine At.condP rfl (fun c22 => ?_) (fun c22 => ?_)
    · refine At.skip ?_
      refine At.norm (hk_13 ?_)
      refine At.seq fun K14 hk_14 => ?_
      refine At.block ?_
      refine At.seq fun K15 hk_15 => ?_
      refine At.region ?_
      refine op_move (nxlf rfl) rfl rfl ?_
      refine op_idxV (nxlf rfl) ae24 sc22 rfl rfl (show _ = (((k : Nat)) : Int) from by omega) (by omega) (by simpa using get64 (bs := wl y) (j := k) (by omega)) rfl ?_
      refine op_assign (nxlf rfl) rfl rfl ?_
      refine op_assign (nxlf rfl) rfl rfl ?_
      refine At.opsNil ?_
      refine At.norm (hk_15 ?_)
      refine At.seq fun K16 hk_16 => ?_
      refine At.region ?_
      refine op_move (nxlf rfl) rfl rfl ?_
      refine op_move (nxlf rfl) rfl rfl ?_
      refine op_callA (nxla rfl) (.cons rfl (.cons rfl .nil)) (Mul64_f ((wl x).getD i 0) ((wl y).getD k 0)) Try.func113 rfl rfl (by simp) rfl ?_
      rintro v28 L28 ⟨rfl, rfl⟩
      change At _ _ _ [N6, N3, N4, N5, R] _
      refine op_move (nxlf rfl) rfl rfl ?_
      refine op_extract (nxlf rfl) rfl rfl rfl ?_
      refine op_extract (nxlf rfl) rfl rfl rfl ?_
      refine op_assign (nxlf rfl) rfl rfl ?_
      refine op_assign (nxlf rfl) rfl rfl ?_
      refine At.opsNil ?_
      refine At.norm (hk_16 ?_)
      refine At.seq fun K17 hk_17 => ?_
      refine At.region ?_
      refine op_assign (nxlf rfl) rfl rfl ?_
      refine At.opsNil ?_
      refine At.norm (hk_17 ?_)
      refine At.seq fun K18 hk_18 => ?_
      refine At.region ?_
      refine op_move (nxlf rfl) rfl rfl ?_
      refine op_move (nxlf rfl) rfl rfl ?_
      refine op_move (nxlf rfl) rfl rfl ?_
      refine op_addI (nxlf rfl) rfl rfl (by omega) (by omega) rfl ?_
      refine op_idxA (nxlf rfl) ae91 rfl rfl (show _ = (((i + k : Nat)) : Int) from by omega) (by omega) rfl ?_
      refine op_loadB (nxlf rfl) sc22 rfl B6 (by first | exact get64A (by omega) | rfl) mem0 rfl ?_
      rw [getD_app (p := p) (j := i + k) (by omega)]
      refine op_ext (nxla rfl) (.cons rfl (.cons rfl (.cons rfl .nil))) (Add64_x ((wl x).getD i 0 * (wl y).getD k 0) (p.getD (i + k) 0) 0 (by decide)) rfl ?_
      refine op_move (nxlf rfl) rfl rfl ?_
      refine op_extract (nxlf rfl) rfl rfl rfl ?_
      refine op_extract (nxlf rfl) rfl rfl rfl ?_
      refine op_assign (nxlf rfl) rfl rfl ?_
      refine op_assign (nxlf rfl) rfl rfl ?_
      refine At.opsNil ?_
      refine At.norm (hk_18 ?_)
      refine At.seq fun K19 hk_19 => ?_
      refine At.region ?_
      refine op_move (nxlf rfl) rfl rfl ?_
      refine op_move (nxlf rfl) rfl rfl ?_
      refine op_addU (nxlf rfl) rfl rfl rfl ?_
      refine op_assign (nxlf rfl) rfl rfl ?_
      refine At.opsNil ?_
      refine At.norm (hk_19 ?_)
      refine At.seq fun K20 hk_20 => ?_
      refine At.region ?_
      refine op_move (nxlf rfl) rfl rfl ?_
      refine op_move (nxlf rfl) rfl rfl ?_
      refine op_ext (nxla rfl) (.cons rfl (.cons rfl (.cons rfl .nil))) (Add64_x (addS ((wl x).getD i 0 * (wl y).getD k 0) (p.getD (i + k) 0) 0) c 0 (by decide)) rfl ?_
      refine op_move (nxlf rfl) rfl rfl ?_
      refine op_extract (nxlf rfl) rfl rfl rfl ?_
      refine op_extract (nxlf rfl) rfl rfl rfl ?_
      refine op_assign (nxlf rfl) rfl rfl ?_
      refine op_assign (nxlf rfl) rfl rfl ?_
      refine At.opsNil ?_
      refine At.norm (hk_20 ?_)
      refine At.region ?_
      refine op_move (nxlf rfl) rfl rfl ?_
      refine op_move (nxlf rfl) rfl rfl ?_
      refine op_addI (nxlf rfl) rfl rfl (by omega) (by omega) rfl ?_
      refine op_move (nxlf rfl) rfl rfl ?_
      refine op_move (nxlf rfl) rfl rfl ?_
      refine op_move (nxlf rfl) rfl rfl ?_
      refine op_addU (nxlf rfl) rfl rfl rfl ?_
      refine op_idxA (nxlf rfl) ae91 rfl rfl (show _ = (((i + k : Nat)) : Int) from by omega) (by omega) rfl ?_
      refine op_store (nxl rfl) sz22 rfl rfl rfl rfl rfl B6 (by simp <;> omega) sel0 (fun N6 B6 => ?_)
      rw [set64A, List.set_append_left (i + k) _ (show i + k < p.length by omega)] at B6
      refine op_assign (nxlf rfl) rfl rfl ?_
      refine At.opsNil ?_
      refine At.inNorm ?_
      refine At.norm (hk_14 ?_)
      refine At.region ?_
      refine op_addI (nxlf rfl) rfl rfl (by omega) (by omega) rfl ?_
      refine op_move (nxlf rfl) rfl rfl ?_
      refine At.opsNil ?_
      refine At.norm ?_
      refine At.back ?_ (.refl _) ⟨k + 1, mulH ((wl x).getD i 0) ((wl y).getD k 0) + addC ((wl x).getD i 0 * (wl y).getD k 0) (p.getD (i + k) 0) 0 + addC (addS ((wl x).getD i 0 * (wl y).getD k 0) (p.getD (i + k) 0) 0) c 0, p.set (i + k) (addS (addS ((wl x).getD i 0 * (wl y).getD k 0) (p.getD (i + k) 0) 0) c 0), N6, rfl, rfl, rfl, by omega, by simp; omega, mul_round (by omega) hv, B6⟩ ?_
      · exact .cons (by first | exact lkI rfl (by omega) | rfl) (.cons (by first | exact lkI rfl (by omega) | rfl) (.cons (by first | exact lkI rfl (by omega) | rfl) (.cons (by first | exact lkI rfl (by omega) | rfl) (.cons (by first | exact lkI rfl (by omega) | rfl) (.cons (by first | exact lkI rfl (by omega) | rfl) (.cons (by first | exact lkI rfl (by omega) | rfl) (.cons (by first | exact lkI rfl (by omega) | rfl) (.cons (by first | exact lkI rfl (by omega) | rfl) (.cons (by first | exact lkI rfl (by omega) | rfl) (.cons (by first | exact lkI rfl (by omega) | rfl) .nil))))))))))
      · omega
    · refine At.exit (At.thenExit (At.thenExit (At.inHit ?_)))
      refine At.norm (hk_10 ?_)
      refine At.region ?_
      have hk4 : k = 4 := by omega
      refine op_move (nxlf rfl) rfl rfl ?_
      refine op_addI (nxlf rfl) rfl rfl (by omega) (by omega) rfl ?_
      refine op_move (nxlf rfl) rfl rfl ?_
      refine op_idxA (nxlf rfl) ae91 rfl rfl (show _ = (((i + 4 : Nat)) : Int) from by omega) (by omega) rfl ?_
      refine op_store (nxl rfl) sz22 rfl rfl rfl rfl rfl B6 (by simp <;> omega) sel0 (fun N6 B6 => ?_)
      rw [set64A, set_rep hp (by omega)] at B6
      refine At.opsNil ?_
      refine At.inNorm ?_
      refine At.norm (hk_7 ?_)
      refine At.region ?_
      refine op_addI (nxlf rfl) rfl rfl (by omega) (by omega) rfl ?_
      refine op_move (nxlf rfl) rfl rfl ?_
      refine At.opsNil ?_
      refine At.norm ?_
      refine At.back ?_ (.refl _) ⟨i + 1, p ++ [c], N6, rfl, rfl, rfl, by omega, by simp; omega, by subst hk4; exact mul_outer (by rw [hly]; exact hp) (by rw [hly]; exact hv), by rw [show 4 - (i + 1) = 4 - i - 1 by omega]; exact B6⟩ ?_
      · exact .cons (by first | exact lkI rfl (by omega) | rfl) (.cons (by first | exact lkI rfl (by omega) | rfl) (.cons (by first | exact lkI rfl (by omega) | rfl) (.cons (by first | exact lkI rfl (by omega) | rfl) (.cons (by first | exact lkI rfl (by omega) | rfl) (.cons (by first | exact lkI rfl (by omega) | rfl) .nil)))))
      · omega
  · refine At.exit (At.thenExit (At.thenExit (At.inHit ?_)))
    refine At.norm (hk_3 ?_)
    refine At.seq fun K21 hk_21 => ?_
    refine At.drawnS [R] [2] [] [0,1,2] (by kernel_rfl) (by kernel_rfl) (.cons _ (.cons _ (.cons _ (.cons _ (.refl _))))) ?_
    have hi4 : i = 4 := by omega
    subst hi4
    rw [Nat.sub_self, List.replicate_zero, List.append_nil] at B6
    rw [v64_take_all (by omega), hvx, hvy] at hv
    have hp8 : p.length = 8 := by omega
    have s6 := arr_part B6 (lo := 0) (hi := 4) (c := 8) (by omega) (by omega) (by omega) (by omega)
    have s6b := arr_part B6 (lo := 4) (hi := 8) (c := 4) (by omega) (by omega) (by omega) (by omega)
    have e := v64_take_drop p (k := 4) (by omega)
    rw [hv, ← WW_eq] at e
    have hlo4 : (p.take 4).length = 4 := by rw [List.length_take]; omega
    have hhi4 : (p.drop 4).length = 4 := by rw [List.length_drop]; omega
    have hl1 := v64_lt4 hlo4
    have elo : p.take 4 = wl (x * y) := wl_of hlo4 (by rw [e, Nat.add_mul_mod_self_left, Nat.mod_eq_of_lt hl1])
    have ehi : p.drop 4 = wl (x * y / WW) := wl_of hhi4 (by
      rw [e, Nat.add_mul_div_left _ _ WW_pos, Nat.div_eq_of_lt hl1, Nat.zero_add, Nat.mod_eq_of_lt (v64_lt4 hhi4)])
    refine op_sliceA (nxsf rfl rfl rfl) ae24 rfl .none .none .none (by omega) (by omega) (by omega) (by simp) rfl ?_
    refine op_sliceA (nxsf rfl rfl rfl) ae91 rfl .none (.some rfl (show _ = ((4 : Nat) : Int) from rfl)) .none (by omega) (by omega) (by omega) (by simp) rfl ?_
    refine op_copyB (nxsl rfl rfl rfl rfl) se95 rfl rfl B5 s6 (by first | exact mem0 | exact mem1 | exact mem2 | exact mem3 | exact mem4 | exact mem5 | exact mem6 | exact mem7 | exact mem8 | exact mem9) (by first | exact one_u8s _ | exact one_u64s _ | exact one_u32s _ | (intro u hu; simp at hu; subst hu; rfl)) (by simp <;> omega) sel3 rfl (fun N5 B5 => ?_)
    rw [copy_all rfl (by rw [List.length_take]; omega) (by simp), show List.take (4 - 0) (List.drop 0 p) = wl (x * y) from elo] at B5
    refine At.sNil ?_
    refine At.norm (hk_21 ?_)
    refine At.seq fun K22 hk_22 => ?_
    refine At.drawnS [R] [2] [] [0,1,2] (by kernel_rfl) (by kernel_rfl) (.cons _ (.cons _ (.cons _ (.cons _ (.refl _))))) ?_
    refine op_sliceA (nxsf rfl rfl rfl) ae24 rfl .none .none .none (by omega) (by omega) (by omega) (by simp) rfl ?_
    refine op_sliceA (nxsf rfl rfl rfl) ae91 rfl (.some rfl (show _ = ((4 : Nat) : Int) from rfl)) .none .none (by omega) (by omega) (by omega) (by simp) rfl ?_
    refine op_copyB (nxsl rfl rfl rfl rfl) se95 rfl rfl B4 s6b (by first | exact mem0 | exact mem1 | exact mem2 | exact mem3 | exact mem4 | exact mem5 | exact mem6 | exact mem7 | exact mem8 | exact mem9) (by first | exact one_u8s _ | exact one_u64s _ | exact one_u32s _ | (intro u hu; simp at hu; subst hu; rfl)) (by simp <;> omega) sel3 rfl (fun N4 B4 => ?_)
    rw [copy_all rfl (by rw [List.length_take]; omega) (by simp), List.take_of_length_le (by omega), ehi] at B4
    refine At.sNil ?_
    refine At.norm (hk_22 ?_)
    refine At.seq fun K23 hk_23 => ?_
    refine At.region ?_
    refine op_loadAggB (ds := u64s (wl (x * y / WW))) (nxlf rfl) ag24 rfl B4 (by first | (rw [List.drop_zero, List.take_of_length_le (by first | (simp; done) | (simp; omega))]; done) | rfl) (by first | (simp; done) | (simp; omega)) mem0 rfl ?_
    refine op_loadAggB (ds := u64s (wl (x * y))) (nxlf rfl) ag24 rfl B5 (by first | (rw [List.drop_zero, List.take_of_length_le (by first | (simp; done) | (simp; omega))]; done) | rfl) (by first | (simp; done) | (simp; omega)) mem1 rfl ?_
    refine op_store (nxl rfl) sz24 rfl rfl rfl rfl rfl B4 (by simp) sel0 (fun N4 B4 => ?_)
    rw [setL_whole (by simp)] at B4
    refine op_store (nxl rfl) sz24 rfl rfl rfl rfl rfl B5 (by simp) sel1 (fun N5 B5 => ?_)
    rw [setL_whole (by simp)] at B5
    refine At.opsNil ?_
    refine At.norm (hk_23 ?_)
    refine At.ret (?_)
    refine At.sub (L' := [N5, N4, R]) (.cons_cons _ (.cons_cons _ (.cons _ (.cons _ (.cons_cons _ (.slnil)))))) ?_
    refine At.perm sel2 ?_
    refine At.perm sel1 ?_
    refine At.perm sel2 ?_
    refine At.retN (L1 := []) rfl (.cell rfl (res_agg (ds := u64s (wl (x * y / WW))) ag24 B4 (by first | (rw [List.drop_zero, List.take_of_length_le (by first | (simp; done) | (simp; omega))]; done) | rfl) (by first | (simp; done) | (simp; omega)) mem0) (.cell rfl (res_agg (ds := u64s (wl (x * y))) ag24 B5 (by first | (rw [List.drop_zero, List.take_of_length_le (by first | (simp; done) | (simp; omega))]; done) | rfl) (by first | (simp; done) | (simp; omega)) mem1) .nil)) rfl (.cons _ (.cons _ (.refl _))) (.refl _) ?_
    exact ⟨rfl, rfl⟩
end Go.Proofs.Ytefljbbpaideaaa
