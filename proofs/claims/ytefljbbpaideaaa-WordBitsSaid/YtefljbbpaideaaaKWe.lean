/- Package word: powers. No condition. -/
import Derived.Test.YtefljbbpaideaaaKWf2
import Derived.Test.YtefljbbpaideaaaKNf2
import Derived.Test.YtefljbbpaideaaaKT7
namespace Go.Proofs.Ytefljbbpaideaaa
set_option linter.unusedVariables false
set_option linter.unusedSimpArgs false
open Go Go.RowKit
theorem WBits_w {x : Nat} (hx : x < WW) : Fn Try.prog 56 #[wo x] [] [] (fun v L => v = .int .i64 (bitLen x : Nat) ∧ L = []) := by
  obtain ⟨a, b, c, d, h⟩ := four (length_wl x)
  have hv := v64_wl_lt hx
  rw [h] at hv
  have := WBits_f a b c d
  rw [hv] at this
  have e : wo x = .agg #[.int .u64 (a.toNat : Int), .int .u64 (b.toNat : Int), .int .u64 (c.toNat : Int), .int .u64 (d.toNat : Int)] := by rw [wo, h]; rfl
  rw [e]
  exact this
set_option maxRecDepth 100000 in
theorem WExp_f {x y : Nat} (hx : x < WW) (hy : y < WW) : Fn Try.prog 35 #[wo x, wo y] [] [] (fun v L => v = wo (x ^ y) ∧ L = []) := by
  have hly := length_wl y
  have hvy := v64_wl_lt hy
  have hlt : ∀ V : Nat, V % WW < WW := fun V => Nat.mod_lt V WW_pos
  have hby : bitLen y ≤ 256 := bitLen_le.2 hy
  have h1 : (1 : Nat) = (1 : UInt64).toNat := rfl
  refine Fn.enter (vs := [wo x, wo y]) Try.func35 rfl rfl rfl ?_
  intro E R hR
  change At _ _ E [R] _
  refine At.seq fun K1 hk_1 => ?_
  refine At.region ?_
  refine op_box (nxla rfl) rfl rfl rfl (fun N2 b2 B2 => ?_)
  change Blk N2 b2 _ (u64s (wl x)) at B2
  refine op_box (nxla rfl) rfl rfl rfl (fun N3 b3 B3 => ?_)
  change Blk N3 b3 _ (u64s (wl y)) at B3
  refine op_alloc (nxla rfl) ze24 rfl (fun N4 b4 B4 => ?_)
  change Blk N4 b4 _ [.int .u64 0, .int .u64 0, .int .u64 0, .int .u64 0] at B4
  refine At.opsNil ?_
  refine At.norm (hk_1 ?_)
  refine At.seq fun K2 hk_2 => ?_
  refine At.region ?_
  refine op_callA (nxla rfl) (.cons rfl .nil) (WOf_f 1) Try.func36 rfl rfl (by simp) rfl ?_
  rintro v7 L7 ⟨rfl, rfl⟩
  change At _ _ _ [N4, N3, N2, R] _
  rw [← h1, ← wo_mod]
  refine op_alloc (nxla rfl) ze24 rfl (fun N5 b5 B5 => ?_)
  change Blk N5 b5 _ [.int .u64 0, .int .u64 0, .int .u64 0, .int .u64 0] at B5
  refine op_store (nxl rfl) sz24 rfl rfl rfl rfl rfl B5 (by simp) sel0 (fun N5 B5 => ?_)
  rw [setL_whole (by simp)] at B5
  refine At.opsNil ?_
  refine At.norm (hk_2 ?_)
  refine At.seq fun K3 hk_3 => ?_
  refine At.seq fun K4 hk_4 => ?_
  refine At.region ?_
  refine op_loadAggB (ds := u64s (wl y)) (nxlf rfl) ag24 rfl B3 (by first | (rw [List.drop_zero, List.take_of_length_le (by first | (simp; done) | (simp; omega))]; done) | rfl) (by first | (simp; done) | (simp; omega)) mem2 rfl ?_
  refine op_callA (nxla rfl) (.cons rfl .nil) (WBits_w hy) Try.func56 rfl rfl (by simp) rfl ?_
  rintro v9 L9 ⟨rfl, rfl⟩
  change At _ _ _ [N5, N4, N3, N2, R] _
  refine op_subI (nxlf rfl) rfl rfl (by omega) (by omega) rfl ?_
  refine op_assign (nxlf rfl) rfl rfl ?_
  refine At.opsNil ?_
  refine At.norm (hk_4 ?_)
  refine At.block ?_
  refine At.perm sel4 ?_
  refine At.perm sel1 ?_
  refine At.perm sel2 ?_
  refine At.perm sel3 ?_
  refine At.perm sel4 ?_
  refine At.loop (fun fr_ hp_ ms_ => ∃ (j : Nat) (V : Nat) (N5 : Heaplet), fr_ = [(2, .pointer (some ⟨b2, 0, none⟩)), (3, .pointer (some ⟨b3, 0, none⟩)), (4, .pointer (some ⟨b4, 0, none⟩)), (5, .pointer (some ⟨b5, 0, none⟩)), (6, .int .i64 ((j : Int) - 1))] ∧ hp_ = [N2, N3, N4, N5, R] ∧ j = ms_ ∧ (j ≤ bitLen y) ∧ (V = x ^ (y / 2 ^ j) % WW) ∧ (Blk N5 b5 24 (u64s (wl V)))) ?_ (.refl _) ⟨bitLen y, 1 % WW, N5, rfl, rfl, rfl, by omega, by rw [Nat.div_eq_of_lt (lt_bitLen _), Nat.pow_zero], B5⟩ ?_
  · exact .cons (by first | exact lkI rfl (by omega) | rfl) (.cons (by first | exact lkI rfl (by omega) | rfl) (.cons (by first | exact lkI rfl (by omega) | rfl) (.cons (by first | exact lkI rfl (by omega) | rfl) (.cons (by first | exact lkI rfl (by omega) | rfl) .nil))))
  rintro _ _ _ ⟨j, V, N5, rfl, rfl, rfl, hj, hV, B5⟩
  have hVl : V < WW := by rw [hV]; exact hlt _
  refine At.seq fun K5 hk_5 => ?_
  refine At.seq fun K6 hk_6 => ?_
  refine At.region ?_
  refine op_move (nxlf rfl) rfl rfl ?_
  refine op_geq (nxlf rfl) rfl rfl rfl ?_
  refine At.opsNil ?_
  refine At.norm (hk_6 ?_)
  refine At.condP rfl (fun c12 => ?_) (fun c12 => ?_)
  · refine At.skip ?_
    refine At.norm (hk_5 ?_)
    refine At.seq fun K7 hk_7 => ?_
    refine At.block ?_
    refine At.seq fun K8 hk_8 => ?_
    refine At.region ?_
    refine op_loadAggB (ds := u64s (wl V)) (nxlf rfl) ag24 rfl B5 (by first | (rw [List.drop_zero, List.take_of_length_le (by first | (simp; done) | (simp; omega))]; done) | rfl) (by first | (simp; done) | (simp; omega)) mem3 rfl ?_
    refine op_loadAggB (ds := u64s (wl V)) (nxlf rfl) ag24 rfl B5 (by first | (rw [List.drop_zero, List.take_of_length_le (by first | (simp; done) | (simp; omega))]; done) | rfl) (by first | (simp; done) | (simp; omega)) mem3 rfl ?_
    refine op_callA (nxla rfl) (.cons rfl (.cons rfl .nil)) (WMul_f hVl hVl) Try.func33 rfl rfl (by simp) rfl ?_
    rintro v17 L17 ⟨rfl, rfl⟩
    change At _ _ _ [N2, N3, N4, N5, R] _
    rw [← wo_mod]
    refine op_store (nxl rfl) sz24 rfl rfl rfl rfl rfl B5 (by simp) sel3 (fun N5 B5 => ?_)
    rw [setL_whole (by simp)] at B5
    refine At.opsNil ?_
    refine At.norm (hk_8 ?_)
    refine At.seq fun K9 hk_9 => ?_
    refine At.region ?_
    refine op_move (nxlf rfl) rfl rfl ?_
    refine op_quoI (nxlf rfl) rfl rfl (by omega) (by omega) (by omega) rfl ?_
    refine op_idxA (nxlf rfl) ae24 rfl rfl (show _ = ((((j - 1) / 64 : Nat)) : Int) from by omega) (by omega) rfl ?_
    refine op_loadB (nxlf rfl) sc22 rfl B3 (by first | exact get64A (by omega) | rfl) mem2 rfl ?_
    refine op_move (nxlf rfl) rfl rfl ?_
    refine op_rem (nxlf rfl) rfl rfl (by omega) (by omega) rfl ?_
    refine op_shrU (nxlf rfl) rfl rfl (show _ = ((((j - 1) % 64 : Nat)) : Int) from by omega) rfl ?_
    refine op_andU (b := 1) (nxlf rfl) rfl rfl rfl ?_
    refine op_eql (nxlf rfl) rfl rfl rfl ?_
    refine At.opsNil ?_
    refine At.norm (hk_9 ?_)
    refine At.condP rfl (fun c26 => ?_) (fun c26 => ?_)
    · have hbit : y / 2 ^ (j - 1) % 2 = 1 := by
        have e := bit_at (wl y) (j - 1)
        rw [hvy] at e
        omega
      refine At.region ?_
      refine op_loadAggB (ds := u64s (wl (V * V % WW))) (nxlf rfl) ag24 rfl B5 (by first | (rw [List.drop_zero, List.take_of_length_le (by first | (simp; done) | (simp; omega))]; done) | rfl) (by first | (simp; done) | (simp; omega)) mem0 rfl ?_
      refine op_loadAggB (ds := u64s (wl x)) (nxlf rfl) ag24 rfl B2 (by first | (rw [List.drop_zero, List.take_of_length_le (by first | (simp; done) | (simp; omega))]; done) | rfl) (by first | (simp; done) | (simp; omega)) mem1 rfl ?_
      refine op_callA (nxla rfl) (.cons rfl (.cons rfl .nil)) (WMul_f (hlt _) hx) Try.func33 rfl rfl (by simp) rfl ?_
      rintro v29 L29 ⟨rfl, rfl⟩
      change At _ _ _ [N5, N2, N3, N4, R] _
      rw [← wo_mod]
      refine op_store (nxl rfl) sz24 rfl rfl rfl rfl rfl B5 (by simp) sel0 (fun N5 B5 => ?_)
      rw [setL_whole (by simp)] at B5
      refine At.opsNil ?_
      refine At.inNorm ?_
      refine At.norm (hk_7 ?_)
      refine At.region ?_
      refine op_move (nxlf rfl) rfl rfl ?_
      refine op_subI (nxlf rfl) rfl rfl (by omega) (by omega) rfl ?_
      refine op_assign (nxlf rfl) rfl rfl ?_
      refine At.opsNil ?_
      refine At.norm ?_
      refine At.perm sel4 ?_
      refine At.perm sel1 ?_
      refine At.perm sel4 ?_
      refine At.perm sel4 ?_
      refine At.perm sel4 ?_
      refine At.back ?_ (.refl _) ⟨j - 1, _, N5, rfl, rfl, rfl, by omega, by rw [pow_bit (by omega), if_pos hbit, ← hV, Nat.mod_eq_of_lt hx], B5⟩ ?_
      · exact .cons (by first | exact lkI rfl (by omega) | rfl) (.cons (by first | exact lkI rfl (by omega) | rfl) (.cons (by first | exact lkI rfl (by omega) | rfl) (.cons (by first | exact lkI rfl (by omega) | rfl) (.cons (by first | exact lkI rfl (by omega) | rfl) .nil))))
      · omega
    · have hbit : ¬ y / 2 ^ (j - 1) % 2 = 1 := by
        have e := bit_at (wl y) (j - 1)
        rw [hvy] at e
        omega
      refine At.skip ?_
      refine At.inNorm ?_
      refine At.norm (hk_7 ?_)
      refine At.region ?_
      refine op_move (nxlf rfl) rfl rfl ?_
      refine op_subI (nxlf rfl) rfl rfl (by omega) (by omega) rfl ?_
      refine op_assign (nxlf rfl) rfl rfl ?_
      refine At.opsNil ?_
      refine At.norm ?_
      refine At.perm sel4 ?_
      refine At.perm sel1 ?_
      refine At.perm sel4 ?_
      refine At.perm sel4 ?_
      refine At.perm sel4 ?_
      refine At.back ?_ (.refl _) ⟨j - 1, _, N5, rfl, rfl, rfl, by omega, by rw [pow_bit (by omega), if_neg hbit, ← hV, Nat.mul_one, Nat.mod_mod], B5⟩ ?_
      · exact .cons (by first | exact lkI rfl (by omega) | rfl) (.cons (by first | exact lkI rfl (by omega) | rfl) (.cons (by first | exact lkI rfl (by omega) | rfl) (.cons (by first | exact lkI rfl (by omega) | rfl) (.cons (by first | exact lkI rfl (by omega) | rfl) .nil))))
      · omega
  · refine At.exit (At.thenExit (At.thenExit (At.inHit ?_)))
    refine At.norm (hk_3 ?_)
    refine At.seq fun K10 hk_10 => ?_
    refine At.region ?_
    refine op_loadAggB (ds := u64s (wl V)) (nxlf rfl) ag24 rfl B5 (by first | (rw [List.drop_zero, List.take_of_length_le (by first | (simp; done) | (simp; omega))]; done) | rfl) (by first | (simp; done) | (simp; omega)) mem3 rfl ?_
    refine op_store (nxl rfl) sz24 rfl rfl rfl rfl rfl B4 (by simp) sel2 (fun N4 B4 => ?_)
    rw [setL_whole (by simp)] at B4
    refine At.opsNil ?_
    refine At.norm (hk_10 ?_)
    refine At.ret (?_)
    refine At.sub (L' := [N4, R]) (.cons_cons _ (.cons _ (.cons _ (.cons _ (.cons_cons _ (.slnil)))))) ?_
    refine At.ret1 (L1 := []) rfl (.cell rfl (res_agg (ds := u64s (wl V)) ag24 B4 (by first | (rw [List.drop_zero, List.take_of_length_le (by first | (simp; done) | (simp; omega))]; done) | rfl) (by first | (simp; done) | (simp; omega)) mem0) .nil) (.cons _ (.refl _)) (.refl _) ?_
    refine ⟨?_, rfl⟩
    have e0 : wo V = wo (x ^ y) := by rw [hV, show j = 0 by omega, Nat.pow_zero, Nat.div_one, wo_mod]
    exact e0
end Go.Proofs.Ytefljbbpaideaaa
