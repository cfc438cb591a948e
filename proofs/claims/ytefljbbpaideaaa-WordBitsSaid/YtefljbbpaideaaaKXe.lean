/- Single bytes: package word and the reference. No condition. -/
import Derived.Test.YtefljbbpaideaaaKWx
namespace Go.Proofs.Ytefljbbpaideaaa
set_option linter.unusedVariables false
set_option linter.unusedSimpArgs false
open Go Go.RowKit
set_option maxRecDepth 100000 in
theorem WByte_far {m x : Nat} (hm : m < WW) (hx : x < WW) (h : ¬ m < 2 ^ 64) : Fn Try.prog 81 #[wo m, wo x] [] [] (fun v L => v = wo (byteV m x) ∧ L = []) := by
  have e0 : wl 0 = wl (byteV m x) := by rw [byteV, if_neg (by omega)]
  refine Fn.enter (vs := [wo m, wo x]) Try.func81 rfl rfl rfl ?_
  intro E R hR
  change At _ _ E [R] _
  refine At.seq fun K1 hk_1 => ?_
  refine At.region ?_
  refine op_box (nxla rfl) rfl rfl rfl (fun N2 b2 B2 => ?_)
  change Blk N2 b2 _ (u64s (wl m)) at B2
  refine op_box (nxla rfl) rfl rfl rfl (fun N3 b3 B3 => ?_)
  change Blk N3 b3 _ (u64s (wl x)) at B3
  refine op_alloc (nxla rfl) ze24 rfl (fun N4 b4 B4 => ?_)
  change Blk N4 b4 _ [.int .u64 0, .int .u64 0, .int .u64 0, .int .u64 0] at B4
  refine At.opsNil ?_
  refine At.norm (hk_1 ?_)
  refine At.seq fun K2 hk_2 => ?_
  refine At.region ?_
  refine op_loadAggB (ds := u64s (wl m)) (nxlf rfl) ag24 rfl B2 (by first | (rw [List.drop_zero, List.take_of_length_le (by first | (simp; done) | (simp; omega))]; done) | rfl) (by first | (simp; done) | (simp; omega)) mem2 rfl ?_
  refine op_callA (nxla rfl) (.cons rfl .nil) (WSmall_no hm h) Try.func50 rfl rfl (by simp) rfl ?_
  rintro v10 L10 ⟨rfl, rfl⟩
  change At _ _ _ [N4, N3, N2, R] _
  refine op_move (nxlf rfl) rfl rfl ?_
  refine op_extract (nxlf rfl) rfl rfl rfl ?_
  refine op_extract (nxlf rfl) rfl rfl rfl ?_
  refine op_assign (nxlf rfl) rfl rfl ?_
  refine op_assign (nxlf rfl) rfl rfl ?_
  refine At.opsNil ?_
  refine At.norm (hk_2 ?_)
  refine At.seq fun K3 hk_3 => ?_
  refine At.seq fun K4 hk_4 => ?_
  refine At.region ?_
  refine op_move (nxlf rfl) rfl rfl ?_
  refine op_not (nxlf rfl) rfl rfl ?_
  refine op_move (nxlf rfl) rfl rfl ?_
  refine op_skip rfl rfl rfl rfl rfl rfl rfl ?_
  refine op_skip rfl rfl rfl rfl rfl rfl rfl ?_
  refine op_pickT (nxlf rfl) rfl rfl rfl ?_
  refine At.opsNil ?_
  refine At.norm (hk_4 ?_)
  refine At.condT rfl ?_
  refine At.seq fun K5 hk_5 => ?_
  refine At.region ?_
  refine op_buildA (out := [.int .u64 0, .int .u64 0, .int .u64 0, .int .u64 0]) (nxlf rfl) ze24 ae24 .nil rfl rfl ?_
  refine op_store (nxl rfl) sz24 rfl rfl rfl rfl rfl B4 (by simp) sel0 (fun N4 B4 => ?_)
  change Blk N4 b4 24 (u64s (wl 0)) at B4
  rw [e0] at B4
  refine At.opsNil ?_
  refine At.norm (hk_5 ?_)
  refine At.ret (At.thenRet (?_))
  refine At.sub (L' := [N4, R]) (.cons_cons _ (.cons _ (.cons _ (.cons_cons _ (.slnil))))) ?_
  refine At.ret1 (L1 := []) rfl (.cell rfl (res_agg (ds := u64s (wl (byteV m x))) ag24 B4 (by first | (rw [List.drop_zero, List.take_of_length_le (by first | (simp; done) | (simp; omega))]; done) | rfl) (by first | (simp; done) | (simp; omega)) mem0) .nil) (.cons _ (.refl _)) (.refl _) ?_
  exact ⟨rfl, rfl⟩
set_option maxRecDepth 100000 in
theorem WByte_near {m x : Nat} (hm : m < WW) (hx : x < WW) (h : m < 2 ^ 64) : Fn Try.prog 81 #[wo m, wo x] [] [] (fun v L => v = wo (byteV m x) ∧ L = []) := by
  have hbl : (bytesN 32 x).length = 32 := length_bytesN 32 x
  have hv : (UInt64.ofNat ((bytesN 32 x).getD m 0).toNat).toNat = ((bytesN 32 x).getD m 0).toNat := by
    have := ((bytesN 32 x).getD m 0).toNat_lt
    rw [UInt64.toNat_ofNat', Nat.mod_eq_of_lt (by omega)]
  refine Fn.enter (vs := [wo m, wo x]) Try.func81 rfl rfl rfl ?_
  intro E R hR
  change At _ _ E [R] _
  refine At.seq fun K1 hk_1 => ?_
  refine At.region ?_
  refine op_box (nxla rfl) rfl rfl rfl (fun N2 b2 B2 => ?_)
  change Blk N2 b2 _ (u64s (wl m)) at B2
  refine op_box (nxla rfl) rfl rfl rfl (fun N3 b3 B3 => ?_)
  change Blk N3 b3 _ (u64s (wl x)) at B3
  refine op_alloc (nxla rfl) ze24 rfl (fun N4 b4 B4 => ?_)
  change Blk N4 b4 _ [.int .u64 0, .int .u64 0, .int .u64 0, .int .u64 0] at B4
  refine At.opsNil ?_
  refine At.norm (hk_1 ?_)
  refine At.seq fun K2 hk_2 => ?_
  refine At.region ?_
  refine op_loadAggB (ds := u64s (wl m)) (nxlf rfl) ag24 rfl B2 (by first | (rw [List.drop_zero, List.take_of_length_le (by first | (simp; done) | (simp; omega))]; done) | rfl) (by first | (simp; done) | (simp; omega)) mem2 rfl ?_
  refine op_callA (nxla rfl) (.cons rfl .nil) (WSmall_f hm h) Try.func50 rfl rfl (by simp) rfl ?_
  rintro v10 L10 ⟨rfl, rfl⟩
  change At _ _ _ [N4, N3, N2, R] _
  refine op_move (nxlf rfl) rfl rfl ?_
  refine op_extract (nxlf rfl) rfl rfl rfl ?_
  refine op_extract (nxlf rfl) rfl rfl rfl ?_
  refine op_assign (nxlf rfl) rfl rfl ?_
  refine op_assign (nxlf rfl) rfl rfl ?_
  refine At.opsNil ?_
  refine At.norm (hk_2 ?_)
  refine At.seq fun K3 hk_3 => ?_
  refine At.seq fun K4 hk_4 => ?_
  refine At.region ?_
  refine op_move (nxlf rfl) rfl rfl ?_
  refine op_not (nxlf rfl) rfl rfl ?_
  refine op_move (nxlf rfl) rfl rfl ?_
  refine op_move (nxgf rfl rfl rfl rfl) rfl rfl ?_
  refine op_geq (nxgf rfl rfl rfl rfl) rfl rfl rfl ?_
  refine op_pickF (nxlf rfl) rfl rfl rfl ?_
  refine At.opsNil ?_
  refine At.norm (hk_4 ?_)
  refine At.condP rfl (fun c18 => ?_) (fun c18 => ?_)
  · refine At.seq fun K5 hk_5 => ?_
    refine At.region ?_
    refine op_buildA (out := [.int .u64 0, .int .u64 0, .int .u64 0, .int .u64 0]) (nxlf rfl) ze24 ae24 .nil rfl rfl ?_
    refine op_store (nxl rfl) sz24 rfl rfl rfl rfl rfl B4 (by simp) sel0 (fun N4 B4 => ?_)
    change Blk N4 b4 24 (u64s (wl 0)) at B4
    have e0 : wl 0 = wl (byteV m x) := by rw [byteV, if_neg (by omega)]
    rw [e0] at B4
    refine At.opsNil ?_
    refine At.norm (hk_5 ?_)
    refine At.ret (At.thenRet (?_))
    refine At.sub (L' := [N4, R]) (.cons_cons _ (.cons _ (.cons _ (.cons_cons _ (.slnil))))) ?_
    refine At.ret1 (L1 := []) rfl (.cell rfl (res_agg (ds := u64s (wl (byteV m x))) ag24 B4 (by first | (rw [List.drop_zero, List.take_of_length_le (by first | (simp; done) | (simp; omega))]; done) | rfl) (by first | (simp; done) | (simp; omega)) mem0) .nil) (.cons _ (.refl _)) (.refl _) ?_
    exact ⟨rfl, rfl⟩
  · refine At.skip ?_
    refine At.norm (hk_3 ?_)
    refine At.seq fun K6 hk_6 => ?_
    refine At.region ?_
    refine op_loadAggB (ds := u64s (wl x)) (nxlf rfl) ag24 rfl B3 (by first | (rw [List.drop_zero, List.take_of_length_le (by first | (simp; done) | (simp; omega))]; done) | rfl) (by first | (simp; done) | (simp; omega)) mem1 rfl ?_
    refine op_callA (nxla rfl) (.cons rfl .nil) (WBytes_w hx) Try.func52 rfl rfl (by simp) rfl ?_
    rintro v21 L21 ⟨rfl, rfl⟩
    change At _ _ _ [N4, N3, N2, R] _
    refine op_alloc (nxla rfl) ze56 rfl (fun N7 b7 B7 => ?_)
    change Blk N7 b7 _ [.int .u8 0, .int .u8 0, .int .u8 0, .int .u8 0, .int .u8 0, .int .u8 0, .int .u8 0, .int .u8 0, .int .u8 0, .int .u8 0, .int .u8 0, .int .u8 0, .int .u8 0, .int .u8 0, .int .u8 0, .int .u8 0, .int .u8 0, .int .u8 0, .int .u8 0, .int .u8 0, .int .u8 0, .int .u8 0, .int .u8 0, .int .u8 0, .int .u8 0, .int .u8 0, .int .u8 0, .int .u8 0, .int .u8 0, .int .u8 0, .int .u8 0, .int .u8 0] at B7
    refine op_store (nxl rfl) sz56 rfl rfl rfl rfl rfl B7 (by simp) sel0 (fun N7 B7 => ?_)
    rw [setL_whole (by simp)] at B7
    refine At.opsNil ?_
    refine At.norm (hk_6 ?_)
    refine At.seq fun K7 hk_7 => ?_
    refine At.region ?_
    refine op_move (nxlf rfl) rfl rfl ?_
    refine op_idxA (nxlf rfl) ae56 rfl rfl (show _ = (((m : Nat)) : Int) from by omega) (by omega) rfl ?_
    refine op_loadB (nxlf rfl) sc5 rfl B7 (by first | exact get8A (by omega) | rfl) mem0 rfl ?_
    refine op_conv64 (nxlf rfl) (und_some Try.underlying5) Try.underlying22 rfl (by first | rfl | exact (Int.toNat_of_nonneg (by omega)).symm) rfl ?_
    refine op_callA (nxla rfl) (.cons rfl .nil) (WOf_f _) Try.func36 rfl rfl (by simp) rfl ?_
    rintro v26 L26 ⟨rfl, rfl⟩
    change At _ _ _ [N7, N4, N3, N2, R] _
    rw [hv]
    refine op_store (nxl rfl) sz24 rfl rfl rfl rfl rfl B4 (by simp) sel1 (fun N4 B4 => ?_)
    rw [setL_whole (by simp)] at B4
    have e0 : wl ((bytesN 32 x).getD m 0).toNat = wl (byteV m x) := by rw [byteV, if_pos (by omega)]
    rw [e0] at B4
    refine At.opsNil ?_
    refine At.norm (hk_7 ?_)
    refine At.ret (?_)
    refine At.sub (L' := [N4, R]) (.cons_cons _ (.cons _ (.cons _ (.cons _ (.cons_cons _ (.slnil)))))) ?_
    refine At.ret1 (L1 := []) rfl (.cell rfl (res_agg (ds := u64s (wl (byteV m x))) ag24 B4 (by first | (rw [List.drop_zero, List.take_of_length_le (by first | (simp; done) | (simp; omega))]; done) | rfl) (by first | (simp; done) | (simp; omega)) mem0) .nil) (.cons _ (.refl _)) (.refl _) ?_
    exact ⟨rfl, rfl⟩
theorem WByte_w {m x : Nat} (hm : m < WW) (hx : x < WW) : Fn Try.prog 81 #[wo m, wo x] [] [] (fun v L => v = wo (byteV m x) ∧ L = []) := by
  by_cases h : m < 2 ^ 64
  · exact WByte_near hm hx h
  · exact WByte_far hm hx h
set_option maxRecDepth 100000 in
theorem rByte_far {m x : Nat} (hm : m < WW) (hx : x < WW) (h : ¬ m < 2 ^ 64) : Fn Try.prog 89 #[wo m, wo x] [] [] (fun v L => v = wo (byteV m x) ∧ L = []) := by
  have e0 : wl 0 = wl (byteV m x) := by rw [byteV, if_neg (by omega)]
  refine Fn.enter (vs := [wo m, wo x]) Try.func89 rfl rfl rfl ?_
  intro E R hR
  change At _ _ E [R] _
  refine At.seq fun K1 hk_1 => ?_
  refine At.region ?_
  refine op_box (nxla rfl) rfl rfl rfl (fun N2 b2 B2 => ?_)
  change Blk N2 b2 _ (u64s (wl m)) at B2
  refine op_box (nxla rfl) rfl rfl rfl (fun N3 b3 B3 => ?_)
  change Blk N3 b3 _ (u64s (wl x)) at B3
  refine op_alloc (nxla rfl) ze24 rfl (fun N4 b4 B4 => ?_)
  change Blk N4 b4 _ [.int .u64 0, .int .u64 0, .int .u64 0, .int .u64 0] at B4
  refine At.opsNil ?_
  refine At.norm (hk_1 ?_)
  refine At.seq fun K2 hk_2 => ?_
  refine At.region ?_
  refine op_loadAggB (ds := u64s (wl m)) (nxlf rfl) ag24 rfl B2 (by first | (rw [List.drop_zero, List.take_of_length_le (by first | (simp; done) | (simp; omega))]; done) | rfl) (by first | (simp; done) | (simp; omega)) mem2 rfl ?_
  refine op_callA (nxla rfl) (.cons rfl .nil) (rSmall_no hm h) Try.func51 rfl rfl (by simp) rfl ?_
  rintro v10 L10 ⟨rfl, rfl⟩
  change At _ _ _ [N4, N3, N2, R] _
  refine op_move (nxlf rfl) rfl rfl ?_
  refine op_extract (nxlf rfl) rfl rfl rfl ?_
  refine op_extract (nxlf rfl) rfl rfl rfl ?_
  refine op_assign (nxlf rfl) rfl rfl ?_
  refine op_assign (nxlf rfl) rfl rfl ?_
  refine At.opsNil ?_
  refine At.norm (hk_2 ?_)
  refine At.seq fun K3 hk_3 => ?_
  refine At.seq fun K4 hk_4 => ?_
  refine At.region ?_
  refine op_move (nxlf rfl) rfl rfl ?_
  refine op_not (nxlf rfl) rfl rfl ?_
  refine op_move (nxlf rfl) rfl rfl ?_
  refine op_skip rfl rfl rfl rfl rfl rfl rfl ?_
  refine op_skip rfl rfl rfl rfl rfl rfl rfl ?_
  refine op_pickT (nxlf rfl) rfl rfl rfl ?_
  refine At.opsNil ?_
  refine At.norm (hk_4 ?_)
  refine At.condT rfl ?_
  refine At.seq fun K5 hk_5 => ?_
  refine At.region ?_
  refine op_buildA (out := [.int .u64 0, .int .u64 0, .int .u64 0, .int .u64 0]) (nxlf rfl) ze24 ae24 .nil rfl rfl ?_
  refine op_store (nxl rfl) sz24 rfl rfl rfl rfl rfl B4 (by simp) sel0 (fun N4 B4 => ?_)
  change Blk N4 b4 24 (u64s (wl 0)) at B4
  rw [e0] at B4
  refine At.opsNil ?_
  refine At.norm (hk_5 ?_)
  refine At.ret (At.thenRet (?_))
  refine At.sub (L' := [N4, R]) (.cons_cons _ (.cons _ (.cons _ (.cons_cons _ (.slnil))))) ?_
  refine At.ret1 (L1 := []) rfl (.cell rfl (res_agg (ds := u64s (wl (byteV m x))) ag24 B4 (by first | (rw [List.drop_zero, List.take_of_length_le (by first | (simp; done) | (simp; omega))]; done) | rfl) (by first | (simp; done) | (simp; omega)) mem0) .nil) (.cons _ (.refl _)) (.refl _) ?_
  exact ⟨rfl, rfl⟩
set_option maxRecDepth 100000 in
theorem rByte_near {m x : Nat} (hm : m < WW) (hx : x < WW) (h : m < 2 ^ 64) : Fn Try.prog 89 #[wo m, wo x] [] [] (fun v L => v = wo (byteV m x) ∧ L = []) := by
  have hbl : (bytesN 32 x).length = 32 := length_bytesN 32 x
  have hv : (UInt64.ofNat ((bytesN 32 x).getD m 0).toNat).toNat = ((bytesN 32 x).getD m 0).toNat := by
    have := ((bytesN 32 x).getD m 0).toNat_lt
    rw [UInt64.toNat_ofNat', Nat.mod_eq_of_lt (by omega)]
  refine Fn.enter (vs := [wo m, wo x]) Try.func89 rfl rfl rfl ?_
  intro E R hR
  change At _ _ E [R] _
  refine At.seq fun K1 hk_1 => ?_
  refine At.region ?_
  refine op_box (nxla rfl) rfl rfl rfl (fun N2 b2 B2 => ?_)
  change Blk N2 b2 _ (u64s (wl m)) at B2
  refine op_box (nxla rfl) rfl rfl rfl (fun N3 b3 B3 => ?_)
  change Blk N3 b3 _ (u64s (wl x)) at B3
  refine op_alloc (nxla rfl) ze24 rfl (fun N4 b4 B4 => ?_)
  change Blk N4 b4 _ [.int .u64 0, .int .u64 0, .int .u64 0, .int .u64 0] at B4
  refine At.opsNil ?_
  refine At.norm (hk_1 ?_)
  refine At.seq fun K2 hk_2 => ?_
  refine At.region ?_
  refine op_loadAggB (ds := u64s (wl m)) (nxlf rfl) ag24 rfl B2 (by first | (rw [List.drop_zero, List.take_of_length_le (by first | (simp; done) | (simp; omega))]; done) | rfl) (by first | (simp; done) | (simp; omega)) mem2 rfl ?_
  refine op_callA (nxla rfl) (.cons rfl .nil) (rSmall_y hm h) Try.func51 rfl rfl (by simp) rfl ?_
  rintro v10 L10 ⟨rfl, rfl⟩
  change At _ _ _ [N4, N3, N2, R] _
  refine op_move (nxlf rfl) rfl rfl ?_
  refine op_extract (nxlf rfl) rfl rfl rfl ?_
  refine op_extract (nxlf rfl) rfl rfl rfl ?_
  refine op_assign (nxlf rfl) rfl rfl ?_
  refine op_assign (nxlf rfl) rfl rfl ?_
  refine At.opsNil ?_
  refine At.norm (hk_2 ?_)
  refine At.seq fun K3 hk_3 => ?_
  refine At.seq fun K4 hk_4 => ?_
  refine At.region ?_
  refine op_move (nxlf rfl) rfl rfl ?_
  refine op_not (nxlf rfl) rfl rfl ?_
  refine op_move (nxlf rfl) rfl rfl ?_
  refine op_move (nxgf rfl rfl rfl rfl) rfl rfl ?_
  refine op_geq (nxgf rfl rfl rfl rfl) rfl rfl rfl ?_
  refine op_pickF (nxlf rfl) rfl rfl rfl ?_
  refine At.opsNil ?_
  refine At.norm (hk_4 ?_)
  refine At.condP rfl (fun c18 => ?_) (fun c18 => ?_)
  · refine At.seq fun K5 hk_5 => ?_
    refine At.region ?_
    refine op_buildA (out := [.int .u64 0, .int .u64 0, .int .u64 0, .int .u64 0]) (nxlf rfl) ze24 ae24 .nil rfl rfl ?_
    refine op_store (nxl rfl) sz24 rfl rfl rfl rfl rfl B4 (by simp) sel0 (fun N4 B4 => ?_)
    change Blk N4 b4 24 (u64s (wl 0)) at B4
    have e0 : wl 0 = wl (byteV m x) := by rw [byteV, if_neg (by omega)]
    rw [e0] at B4
    refine At.opsNil ?_
    refine At.norm (hk_5 ?_)
    refine At.ret (At.thenRet (?_))
    refine At.sub (L' := [N4, R]) (.cons_cons _ (.cons _ (.cons _ (.cons_cons _ (.slnil))))) ?_
    refine At.ret1 (L1 := []) rfl (.cell rfl (res_agg (ds := u64s (wl (byteV m x))) ag24 B4 (by first | (rw [List.drop_zero, List.take_of_length_le (by first | (simp; done) | (simp; omega))]; done) | rfl) (by first | (simp; done) | (simp; omega)) mem0) .nil) (.cons _ (.refl _)) (.refl _) ?_
    exact ⟨rfl, rfl⟩
  · refine At.skip ?_
    refine At.norm (hk_3 ?_)
    refine At.seq fun K6 hk_6 => ?_
    refine At.region ?_
    refine op_loadAggB (ds := u64s (wl x)) (nxlf rfl) ag24 rfl B3 (by first | (rw [List.drop_zero, List.take_of_length_le (by first | (simp; done) | (simp; omega))]; done) | rfl) (by first | (simp; done) | (simp; omega)) mem1 rfl ?_
    refine op_callA (nxla rfl) (.cons rfl .nil) (rBytes_w hx) Try.func53 rfl rfl (by simp) rfl ?_
    rintro v21 L21 ⟨rfl, rfl⟩
    change At _ _ _ [N4, N3, N2, R] _
    refine op_alloc (nxla rfl) ze56 rfl (fun N7 b7 B7 => ?_)
    change Blk N7 b7 _ [.int .u8 0, .int .u8 0, .int .u8 0, .int .u8 0, .int .u8 0, .int .u8 0, .int .u8 0, .int .u8 0, .int .u8 0, .int .u8 0, .int .u8 0, .int .u8 0, .int .u8 0, .int .u8 0, .int .u8 0, .int .u8 0, .int .u8 0, .int .u8 0, .int .u8 0, .int .u8 0, .int .u8 0, .int .u8 0, .int .u8 0, .int .u8 0, .int .u8 0, .int .u8 0, .int .u8 0, .int .u8 0, .int .u8 0, .int .u8 0, .int .u8 0, .int .u8 0] at B7
    refine op_store (nxl rfl) sz56 rfl rfl rfl rfl rfl B7 (by simp) sel0 (fun N7 B7 => ?_)
    rw [setL_whole (by simp)] at B7
    refine At.opsNil ?_
    refine At.norm (hk_6 ?_)
    refine At.seq fun K7 hk_7 => ?_
    refine At.region ?_
    refine op_move (nxlf rfl) rfl rfl ?_
    refine op_idxA (nxlf rfl) ae56 rfl rfl (show _ = (((m : Nat)) : Int) from by omega) (by omega) rfl ?_
    refine op_loadB (nxlf rfl) sc5 rfl B7 (by first | exact get8A (by omega) | rfl) mem0 rfl ?_
    refine op_conv64 (nxlf rfl) (und_some Try.underlying5) Try.underlying22 rfl (by first | rfl | exact (Int.toNat_of_nonneg (by omega)).symm) rfl ?_
    refine op_callA (nxla rfl) (.cons rfl .nil) (rOf_w _) Try.func58 rfl rfl (by simp) rfl ?_
    rintro v26 L26 ⟨rfl, rfl⟩
    change At _ _ _ [N7, N4, N3, N2, R] _
    rw [hv]
    refine op_store (nxl rfl) sz24 rfl rfl rfl rfl rfl B4 (by simp) sel1 (fun N4 B4 => ?_)
    rw [setL_whole (by simp)] at B4
    have e0 : wl ((bytesN 32 x).getD m 0).toNat = wl (byteV m x) := by rw [byteV, if_pos (by omega)]
    rw [e0] at B4
    refine At.opsNil ?_
    refine At.norm (hk_7 ?_)
    refine At.ret (?_)
    refine At.sub (L' := [N4, R]) (.cons_cons _ (.cons _ (.cons _ (.cons _ (.cons_cons _ (.slnil)))))) ?_
    refine At.ret1 (L1 := []) rfl (.cell rfl (res_agg (ds := u64s (wl (byteV m x))) ag24 B4 (by first | (rw [List.drop_zero, List.take_of_length_le (by first | (simp; done) | (simp; omega))]; done) | rfl) (by first | (simp; done) | (simp; omega)) mem0) .nil) (.cons _ (.refl _)) (.refl _) ?_
    exact ⟨rfl, rfl⟩
theorem rByte_w {m x : Nat} (hm : m < WW) (hx : x < WW) : Fn Try.prog 89 #[wo m, wo x] [] [] (fun v L => v = wo (byteV m x) ∧ L = []) := by
  by_cases h : m < 2 ^ 64
  · exact rByte_near hm hx h
  · exact rByte_far hm hx h
end Go.Proofs.Ytefljbbpaideaaa
