/- quarrylaw04.HexaBack answers true. No condition. -/
import Derived.Test.YtlkjfbfenpkmhaaDoorX13
namespace Go.Proofs.YtlkjfbfenpkmhaaDoor
set_option linter.unusedVariables false
set_option linter.unusedSimpArgs false
open Go Go.RowKit
theorem BkBytes_f {y : List UInt8} (hy : y.length ≤ 500) : Fn Tryd.prog 11 #[str (hexT y)] [] [] (fun v L => ∃ M a c, v = .tuple #[.slice a y.length c, faultV 0 0] ∧ L = [M] ∧ Row M 5 1 a y.length c (u8s y)) := by
  have h := FBytes_f (hexT y) (by rw [hexT_len]; omega)
  rw [bytes_hexT] at h
  exact h
theorem quantT_len {x : Nat} (hx : x < WW) : (quantT x).length ≤ 67 := by
  have hb : (bytesOf x).length ≤ 32 := by
    rw [length_bytesOf]
    have := bitLen_le.2 hx
    omega
  have hl := hexL_len (bytesOf x)
  have hd := dropB_len 48 (hexL (bytesOf x))
  unfold quantT
  split
  · decide
  · rw [List.length_cons, List.length_cons]; omega
theorem BkNumber_f {x : Nat} (hx : x < WW) : Fn Tryd.prog 17 #[str (quantT x)] [] [] (fun v L => v = .tuple #[wo x, faultV 0 0] ∧ L = []) := by
  have h := FNumber_f (quantT x) (by have := quantT_len hx; omega)
  rw [num_back hx] at h
  exact h
theorem BkMix_f {a : List UInt8} (ha : a.length = 20) : Fn Tryd.prog 19 #[str (48 :: 120 :: mixL a)] [] [] (fun v L => v = .tuple #[.agg (u8s a).toArray, faultV 0 0] ∧ L = []) := by
  have h := FAddress_f (48 :: 120 :: mixL a) (by simp [mixL])
  rw [arr_back ha (bytes_mix ha)] at h
  exact h
theorem BkText_f {a : List UInt8} (ha : a.length = 20) : Fn Tryd.prog 19 #[str (hexT a)] [] [] (fun v L => v = .tuple #[.agg (u8s a).toArray, faultV 0 0] ∧ L = []) := by
  have h := FAddress_f (hexT a) (by rw [hexT_len]; omega)
  rw [arr_back ha (bytes_hexT a)] at h
  exact h
theorem wrap48 : ∀ n : Nat, n < 256 → 48 ≤ n → IntKind.u8.wrap ((n : Int) - 48) = ((n - 48 : Nat) : Int) := by decide +kernel
set_option maxRecDepth 100000 in
set_option maxHeartbeats 1000000 in
theorem HexaBack_f {N : Heaplet} {ao : Option Addr} {n cap : Nat} {l a : List UInt8} {x : Nat} (h : RSl N 1 ao n cap (u8s l)) (hx : x < WW) (ha : a.length = 20) : Fn Tryd.prog 7 #[.slice ao n cap, wo x, .agg (u8s a).toArray] [] [N] (fun v L => v = .bool true ∧ L = []) := by
  obtain ⟨y, hy⟩ : ∃ y, l.take 500 = y := ⟨_, rfl⟩
  have hyl : y.length ≤ 500 := by rw [← hy, List.length_take]; omega
  have hyt : y.take 500 = y := List.take_of_length_le hyl
  obtain ⟨d1, d2, d3, d4, d5⟩ := dec_props x x (Nat.le_refl _)
  have hdl := dec_word hx
  have hFD := FDecimal_f hx
  have hle := fun i (hi : i ≤ (Lib.decDigits x).length) => decV_le (t := Lib.decDigits x) ((Lib.decDigits x).length - i) i (by omega)
  obtain ⟨t, ht⟩ : ∃ t, Lib.decDigits x = t := ⟨_, rfl⟩
  rw [ht] at d1 d2 d3 d4 d5 hdl hFD hle
  rw [d1] at hle
  have hdig : ∀ i, i < t.length → 48 ≤ (t.getD i 0).toNat ∧ (t.getD i 0).toNat ≤ 57 := fun i hi => by
    rw [List.getD_eq_getElem?_getD, List.getElem?_eq_getElem hi, Option.getD_some]
    exact d2 _ (List.getElem_mem hi)
  have hfst : 1 < t.length → (t.getD 0 0).toNat ≠ 48 := fun h1 => d4 (by
    rcases Nat.eq_zero_or_pos x with h0 | h0
    · have := d5 (by omega); omega
    · exact h0)
  refine Fn.enter (vs := [.slice ao n cap, wo x, .agg (u8s a).toArray]) Tryd.func7 rfl rfl rfl ?_
  intro E R hR
  have h := h.le (hR N (by simp))
  change At _ _ E [R] _
  refine At.seq fun K1 hk_1 => ?_
  refine At.region ?_
  refine op_box (nxla rfl) rfl rfl rfl (fun N4 b4 B4 => ?_)
  change Blk N4 b4 _ (u64s (wl x)) at B4
  refine op_box (nxla rfl) rfl rfl rfl (fun N5 b5 B5 => ?_)
  refine op_assign (nxlf rfl) rfl rfl ?_
  refine At.opsNil ?_
  refine At.norm (hk_1 ?_)
  refine At.seq fun K2 hk_2 => ?_
  refine At.region ?_
  refine op_move (nxlf rfl) rfl rfl ?_
  refine op_callA (nxla rfl) (.cons rfl (.cons rfl .nil)) (KTwin_f h 500 500 rfl (by decide)) Tryd.func8 rfl rfl (by simp) rfl ?_
  rintro v20 L20 ⟨N20, p20, c20, rfl, rfl, r20⟩
  change At _ _ _ [N20, N5, N4, R] _
  rw [hy] at r20 ⊢; have s20 := r20.rsl
  refine op_assign (nxlf rfl) rfl rfl ?_
  refine At.opsNil ?_
  refine At.norm (hk_2 ?_)
  refine At.seq fun K3 hk_3 => ?_
  refine At.region ?_
  refine op_move (nxlf rfl) rfl rfl ?_
  refine op_callA (nxla rfl) (.cons rfl (.cons rfl .nil)) (KTwin_f s20 500 500 rfl (by decide)) Tryd.func8 rfl rfl (by simp) rfl ?_
  rintro v23 L23 ⟨N23, p23, c23, rfl, rfl, r23⟩
  change At _ _ _ [N23, N20, N5, N4, R] _
  rw [hyt] at r23 ⊢; have s23 := r23.rsl
  refine op_callA (nxla rfl) (.cons rfl .nil) (FText_f s23 (by omega)) Tryd.func9 rfl rfl (by simp) rfl ?_
  rintro v24 L24 ⟨rfl, rfl⟩
  change At _ _ _ [N23, N20, N5, N4, R] _
  refine op_callA (nxla rfl) (.cons rfl .nil) (BkBytes_f hyl) Tryd.func11 rfl rfl (by simp) rfl ?_
  rintro v25 L25 ⟨N25, p25, c25, rfl, rfl, r25⟩
  change At _ _ _ [N25, N23, N20, N5, N4, R] _
  have s25 := r25.rsl
  refine op_move (nxlf rfl) rfl rfl ?_
  refine op_extract (nxlf rfl) rfl rfl rfl ?_
  refine op_extract (nxlf rfl) rfl rfl rfl ?_
  refine op_alloc (nxla rfl) ze30 rfl (fun N9 b9 B9 => ?_)
  change Blk N9 b9 _ [.int .i64 0, .int .i64 0] at B9
  refine op_assign (nxlf rfl) rfl rfl ?_
  refine op_store (nxl rfl) sz30 rfl rfl rfl rfl rfl B9 (by simp) sel0 (fun N9 B9 => ?_)
  simp only [setL, List.set] at B9
  refine At.opsNil ?_
  refine At.norm (hk_3 ?_)
  refine At.seq fun K4 hk_4 => ?_
  refine At.region ?_
  refine op_loadAggB (ds := u64s (wl x)) (nxlf rfl) ag46 rfl B4 (by first | (rw [List.drop_zero, List.take_of_length_le (by first | (simp; done) | (simp; omega))]; done) | rfl) (by first | (simp; done) | (simp; omega)) mem5 rfl ?_
  refine op_callA (nxla rfl) (.cons rfl .nil) (FQuant_f hx) Tryd.func25 rfl rfl (by simp) rfl ?_
  rintro v30 L30 ⟨rfl, rfl⟩
  change At _ _ _ [N9, N25, N23, N20, N5, N4, R] _
  refine op_callA (nxla rfl) (.cons rfl .nil) (BkNumber_f hx) Tryd.func17 rfl rfl (by simp) rfl ?_
  rintro v31 L31 ⟨rfl, rfl⟩
  change At _ _ _ [N9, N25, N23, N20, N5, N4, R] _
  refine op_move (nxlf rfl) rfl rfl ?_
  refine op_extract (nxlf rfl) rfl rfl rfl ?_
  refine op_extract (nxlf rfl) rfl rfl rfl ?_
  refine op_alloc (nxla rfl) ze46 rfl (fun N10 b10 B10 => ?_)
  change Blk N10 b10 _ [.int .u64 0, .int .u64 0, .int .u64 0, .int .u64 0] at B10
  refine op_alloc (nxla rfl) ze30 rfl (fun N11 b11 B11 => ?_)
  change Blk N11 b11 _ [.int .i64 0, .int .i64 0] at B11
  refine op_store (nxl rfl) sz46 rfl rfl rfl rfl rfl B10 (by simp) sel1 (fun N10 B10 => ?_)
  rw [setL_whole (by simp)] at B10
  refine op_store (nxl rfl) sz30 rfl rfl rfl rfl rfl B11 (by simp) sel1 (fun N11 B11 => ?_)
  simp only [setL, List.set] at B11
  refine At.opsNil ?_
  refine At.norm (hk_4 ?_)
  refine At.seq fun K5 hk_5 => ?_
  refine At.region ?_
  refine op_loadAggB (ds := u8s a) (nxlf rfl) ag50 rfl B5 (by first | (rw [List.drop_zero, List.take_of_length_le (by first | (simp; done) | (simp; omega))]; done) | rfl) (by first | (simp; done) | (simp; omega)) mem6 rfl ?_
  refine op_callA (nxla rfl) (.cons rfl .nil) (FMixed_f ha) Tryd.func26 rfl rfl (by simp) rfl ?_
  rintro v36 L36 ⟨rfl, rfl⟩
  change At _ _ _ [N11, N10, N9, N25, N23, N20, N5, N4, R] _
  refine op_callA (nxla rfl) (.cons rfl .nil) (BkMix_f ha) Tryd.func19 rfl rfl (by simp) rfl ?_
  rintro v37 L37 ⟨rfl, rfl⟩
  change At _ _ _ [N11, N10, N9, N25, N23, N20, N5, N4, R] _
  refine op_move (nxlf rfl) rfl rfl ?_
  refine op_extract (nxlf rfl) rfl rfl rfl ?_
  refine op_extract (nxlf rfl) rfl rfl rfl ?_
  refine op_alloc (nxla rfl) ze50 rfl (fun N12 b12 B12 => ?_)
  change Blk N12 b12 _ [.int .u8 0, .int .u8 0, .int .u8 0, .int .u8 0, .int .u8 0, .int .u8 0, .int .u8 0, .int .u8 0, .int .u8 0, .int .u8 0, .int .u8 0, .int .u8 0, .int .u8 0, .int .u8 0, .int .u8 0, .int .u8 0, .int .u8 0, .int .u8 0, .int .u8 0, .int .u8 0] at B12
  refine op_alloc (nxla rfl) ze30 rfl (fun N13 b13 B13 => ?_)
  change Blk N13 b13 _ [.int .i64 0, .int .i64 0] at B13
  refine op_store (nxl rfl) sz50 rfl rfl rfl (by simp [u8s, ha]) (all8x _) B12 (by simp [u8s, ha]) sel1 (fun N12 B12 => ?_)
  rw [setL_whole (by simp [u8s, ha])] at B12
  refine op_store (nxl rfl) sz30 rfl rfl rfl rfl rfl B13 (by simp) sel1 (fun N13 B13 => ?_)
  simp only [setL, List.set] at B13
  refine At.opsNil ?_
  refine At.norm (hk_5 ?_)
  refine At.seq fun K6 hk_6 => ?_
  refine At.region ?_
  have s5 := blk8 B5 ha (by decide)
  refine op_sliceA (nxlf rfl) ae50 rfl .none .none .none (by omega) (by omega) (by omega) (by simp) rfl ?_
  refine op_callA (nxla rfl) (.cons rfl .nil) (FText_f s5 (by decide)) Tryd.func9 rfl rfl (by simp) rfl ?_
  rintro v42 L42 ⟨rfl, rfl⟩
  change At _ _ _ [N13, N12, N11, N10, N9, N25, N23, N20, N5, N4, R] _
  refine op_callA (nxla rfl) (.cons rfl .nil) (BkText_f ha) Tryd.func19 rfl rfl (by simp) rfl ?_
  rintro v43 L43 ⟨rfl, rfl⟩
  change At _ _ _ [N13, N12, N11, N10, N9, N25, N23, N20, N5, N4, R] _
  refine op_move (nxlf rfl) rfl rfl ?_
  refine op_extract (nxlf rfl) rfl rfl rfl ?_
  refine op_extract (nxlf rfl) rfl rfl rfl ?_
  refine op_alloc (nxla rfl) ze50 rfl (fun N14 b14 B14 => ?_)
  change Blk N14 b14 _ [.int .u8 0, .int .u8 0, .int .u8 0, .int .u8 0, .int .u8 0, .int .u8 0, .int .u8 0, .int .u8 0, .int .u8 0, .int .u8 0, .int .u8 0, .int .u8 0, .int .u8 0, .int .u8 0, .int .u8 0, .int .u8 0, .int .u8 0, .int .u8 0, .int .u8 0, .int .u8 0] at B14
  refine op_alloc (nxla rfl) ze30 rfl (fun N15 b15 B15 => ?_)
  change Blk N15 b15 _ [.int .i64 0, .int .i64 0] at B15
  refine op_store (nxl rfl) sz50 rfl rfl rfl (by simp [u8s, ha]) (all8x _) B14 (by simp [u8s, ha]) sel1 (fun N14 B14 => ?_)
  rw [setL_whole (by simp [u8s, ha])] at B14
  refine op_store (nxl rfl) sz30 rfl rfl rfl rfl rfl B15 (by simp) sel1 (fun N15 B15 => ?_)
  simp only [setL, List.set] at B15
  refine At.opsNil ?_
  refine At.norm (hk_6 ?_)
  refine At.seq fun K7 hk_7 => ?_
  refine At.seq fun K8 hk_8 => ?_
  refine At.region ?_
  refine op_fieldAddr (nxlf rfl) fl30_0 rfl rfl ?_
  refine op_loadB (nxlf rfl) sc28 rfl B9 (by first | rfl) mem6 rfl ?_
  refine op_neq (nxlf rfl) rfl rfl rfl ?_
  change At _ ((48, .bool false) :: _) _ _ _
  refine op_move (nxlf rfl) rfl rfl ?_
  refine op_fieldAddr (nxgf rfl rfl rfl rfl) fl30_0 rfl rfl ?_
  refine op_loadB (nxgf rfl rfl rfl rfl) sc28 rfl B11 (by first | rfl) mem4 rfl ?_
  refine op_neq (nxgf rfl rfl rfl rfl) rfl rfl rfl ?_
  change At _ ((52, .bool false) :: _) _ _ _
  refine op_pickF (nxlf rfl) rfl rfl rfl ?_
  refine op_move (nxlf rfl) rfl rfl ?_
  refine op_fieldAddr (nxgf rfl rfl rfl rfl) fl30_0 rfl rfl ?_
  refine op_loadB (nxgf rfl rfl rfl rfl) sc28 rfl B13 (by first | rfl) mem2 rfl ?_
  refine op_neq (nxgf rfl rfl rfl rfl) rfl rfl rfl ?_
  change At _ ((57, .bool false) :: _) _ _ _
  refine op_pickF (nxlf rfl) rfl rfl rfl ?_
  refine op_move (nxlf rfl) rfl rfl ?_
  refine op_fieldAddr (nxgf rfl rfl rfl rfl) fl30_0 rfl rfl ?_
  refine op_loadB (nxgf rfl rfl rfl rfl) sc28 rfl B15 (by first | rfl) mem0 rfl ?_
  refine op_neq (nxgf rfl rfl rfl rfl) rfl rfl rfl ?_
  change At _ ((62, .bool false) :: _) _ _ _
  refine op_pickF (nxlf rfl) rfl rfl rfl ?_
  refine op_move (nxlf rfl) rfl rfl ?_
  refine op_move (nxgf rfl rfl rfl rfl) rfl rfl ?_
  refine op_str (nxgf rfl rfl rfl rfl) Tryd.underlying22 Tryd.underlying5 Tryd.underlying9 rfl (by assumption) (by first | exact mem0 | exact mem1 | exact mem2 | exact mem3 | exact mem4 | exact mem5 | exact mem6 | exact mem7 | exact mem8 | exact mem9 | exact mem10 | exact mem11 | exact mem12) rfl ?_
  refine op_move (nxgf rfl rfl rfl rfl) rfl rfl ?_
  refine op_str (nxgf rfl rfl rfl rfl) Tryd.underlying22 Tryd.underlying5 Tryd.underlying9 rfl (by assumption) (by first | exact mem0 | exact mem1 | exact mem2 | exact mem3 | exact mem4 | exact mem5 | exact mem6 | exact mem7 | exact mem8 | exact mem9 | exact mem10 | exact mem11 | exact mem12) rfl ?_
  refine op_neS (nxgf rfl rfl rfl rfl) rfl rfl rfl ?_
  rw [decide_eq_false (fun h => h rfl)]
  refine op_pickF (nxlf rfl) rfl rfl rfl ?_
  refine op_move (nxlf rfl) rfl rfl ?_
  refine op_loadAggB (ds := u64s (wl x)) (nxgf rfl rfl rfl rfl) ag46 rfl B10 (by first | (rw [List.drop_zero, List.take_of_length_le (by first | (simp; done) | (simp; omega))]; done) | rfl) (by first | (simp; done) | (simp; omega)) mem5 rfl ?_
  refine op_loadAggB (ds := u64s (wl x)) (nxgf rfl rfl rfl rfl) ag46 rfl B4 (by first | (rw [List.drop_zero, List.take_of_length_le (by first | (simp; done) | (simp; omega))]; done) | rfl) (by first | (simp; done) | (simp; omega)) mem11 rfl ?_
  refine op_neW (a := wl x) (b := wl x) (nxgf rfl rfl rfl rfl) ae46 Tryd.underlying44 (by kernel_rfl) rfl rfl rfl rfl rfl ?_
  rw [decide_eq_false (fun h => h rfl)]
  refine op_pickF (nxlf rfl) rfl rfl rfl ?_
  refine op_move (nxlf rfl) rfl rfl ?_
  refine op_loadAggB (ds := u8s a) (nxgf rfl rfl rfl rfl) ag50 rfl B12 (by first | (rw [List.drop_zero, List.take_of_length_le (by first | (simp; done) | (simp; omega))]; done) | rfl) (by first | (simp; done) | (simp; omega)) mem3 rfl ?_
  refine op_loadAggB (ds := u8s a) (nxgf rfl rfl rfl rfl) ag50 rfl B5 (by first | (rw [List.drop_zero, List.take_of_length_le (by first | (simp; done) | (simp; omega))]; done) | rfl) (by first | (simp; done) | (simp; omega)) mem10 rfl ?_
  refine op_neW8 (a := a) (b := a) (nxgf rfl rfl rfl rfl) ae50 Tryd.underlying5 (by kernel_rfl) rfl rfl ha ha rfl ?_
  rw [decide_eq_false (fun h => h rfl)]
  refine op_pickF (nxlf rfl) rfl rfl rfl ?_
  refine op_move (nxlf rfl) rfl rfl ?_
  refine op_loadAggB (ds := u8s a) (nxgf rfl rfl rfl rfl) ag50 rfl B14 (by first | (rw [List.drop_zero, List.take_of_length_le (by first | (simp; done) | (simp; omega))]; done) | rfl) (by first | (simp; done) | (simp; omega)) mem1 rfl ?_
  refine op_loadAggB (ds := u8s a) (nxgf rfl rfl rfl rfl) ag50 rfl B5 (by first | (rw [List.drop_zero, List.take_of_length_le (by first | (simp; done) | (simp; omega))]; done) | rfl) (by first | (simp; done) | (simp; omega)) mem10 rfl ?_
  refine op_neW8 (a := a) (b := a) (nxgf rfl rfl rfl rfl) ae50 Tryd.underlying5 (by kernel_rfl) rfl rfl ha ha rfl ?_
  rw [decide_eq_false (fun h => h rfl)]
  refine op_pickF (nxlf rfl) rfl rfl rfl ?_
  refine At.opsNil ?_
  refine At.norm (hk_8 ?_)
  refine At.condF rfl ?_
  refine At.skip ?_
  refine At.norm (hk_7 ?_)
  refine At.seq fun K9 hk_9 => ?_
  refine At.region ?_
  refine op_loadAggB (ds := u64s (wl x)) (nxlf rfl) ag46 rfl B4 (by first | (rw [List.drop_zero, List.take_of_length_le (by first | (simp; done) | (simp; omega))]; done) | rfl) (by first | (simp; done) | (simp; omega)) mem11 rfl ?_
  refine op_callA (nxla rfl) (.cons rfl .nil) (hFD) Tryd.func27 rfl rfl (by simp) rfl ?_
  rintro v87 L87 ⟨rfl, rfl⟩
  change At _ _ _ [N15, N14, N13, N12, N11, N10, N9, N25, N23, N20, N5, N4, R] _
  refine op_assign (nxlf rfl) rfl rfl ?_
  refine At.opsNil ?_
  refine At.norm (hk_9 ?_)
  refine At.seq fun K10 hk_10 => ?_
  refine At.region ?_
  refine op_alloc (nxla rfl) ze46 rfl (fun N17 b17 B17 => ?_)
  change Blk N17 b17 _ [.int .u64 0, .int .u64 0, .int .u64 0, .int .u64 0] at B17
  change Blk N17 b17 _ (u64s (wl 0)) at B17
  refine At.opsNil ?_
  refine At.norm (hk_10 ?_)
  refine At.seq fun K11 hk_11 => ?_
  refine At.seq fun K12 hk_12 => ?_
  refine At.region ?_
  refine op_assign (nxlf rfl) rfl rfl ?_
  refine At.opsNil ?_
  refine At.norm (hk_12 ?_)
  refine At.block ?_
  refine At.sub (L' := [N17, N4, R]) (.cons_cons _ (.cons _ (.cons _ (.cons _ (.cons _ (.cons _ (.cons _ (.cons _ (.cons _ (.cons _ (.cons _ (.cons _ (.cons_cons _ (.cons_cons _ (.slnil))))))))))))))) ?_
  refine At.loop (fun fr_ hp_ ms_ => ∃ (i : Nat) (N17 : Heaplet), fr_ = [(4, .pointer (some ⟨b4, 0, none⟩)), (16, str t), (17, .pointer (some ⟨b17, 0, none⟩)), (18, .int .i64 (i : Int))] ∧ hp_ = [N17, N4, R] ∧ t.length - i = ms_ ∧ (i ≤ t.length) ∧ (Blk N17 b17 46 (u64s (wl (decV (t.take i)))))) ?_ (.refl _) ⟨0, N17, rfl, rfl, rfl, Nat.zero_le _, B17⟩ ?_
  · exact .cons (by first | exact lkI rfl (by omega) | rfl) (.cons (by first | exact lkI rfl (by omega) | rfl) (.cons (by first | exact lkI rfl (by omega) | rfl) (.cons (by first | exact lkI rfl (by omega) | rfl) .nil)))
  rintro _ _ _ ⟨i, N17, rfl, rfl, rfl, hi, B17⟩
  refine At.seq fun K13 hk_13 => ?_
  refine At.seq fun K14 hk_14 => ?_
  refine At.region ?_
  refine op_move (nxlf rfl) rfl rfl ?_
  refine op_move (nxlf rfl) rfl rfl ?_
  refine op_lenStr (nxlf rfl) Tryd.underlying9 rfl rfl ?_
  refine op_lss (nxlf rfl) rfl rfl rfl ?_
  refine At.opsNil ?_
  refine At.norm (hk_14 ?_)
  refine At.condP rfl (fun c91 => ?_) (fun c91 => ?_)
  · refine At.knowT (d := 91) rfl c91 ?_
    have hlt : i < t.length := by omega
    have hdi := hdig i hlt
    have hfi : i = 0 → 1 < t.length → (t.getD i 0).toNat ≠ 48 := fun e => by rw [e]; exact hfst
    have hVx := hle i hi
    have hV : decV (t.take i) < WW := by omega
    have hg : (UInt64.ofNat ((t.getD i 0).toNat - 48)).toNat = (t.getD i 0).toNat - 48 := by rw [UInt64.toNat_ofNat']; omega
    have hw8 := wrap48 (t.getD i 0).toNat (by omega) hdi.1
    refine At.skip ?_
    refine At.norm (hk_13 ?_)
    refine At.seq fun K15 hk_15 => ?_
    refine At.block ?_
    refine At.seq fun K16 hk_16 => ?_
    refine At.seq fun K17 hk_17 => ?_
    refine At.region ?_
    refine op_move (nxlf rfl) rfl rfl ?_
    refine op_move (nxlf rfl) rfl rfl ?_
    refine op_idxS (nxlf rfl) Tryd.underlying9 rfl rfl (show _ = (((i : Nat)) : Int) from by omega) (by omega) rfl ?_
    refine op_lss (nxlf rfl) rfl rfl rfl ?_
    refine op_move (nxlf rfl) rfl rfl ?_
    refine At.partP (d := 98) rfl (fun g98 => ?_) (fun g98 => ?_)
    · exfalso; omega
    · refine op_move (nxgf rfl rfl rfl rfl) rfl rfl ?_
      refine op_move (nxgf rfl rfl rfl rfl) rfl rfl ?_
      refine op_idxS (nxgf rfl rfl rfl rfl) Tryd.underlying9 rfl rfl (show _ = (((i : Nat)) : Int) from by omega) (by omega) rfl ?_
      refine op_gtr (nxgf rfl rfl rfl rfl) rfl rfl rfl ?_
      refine op_pickF (nxlf rfl) rfl rfl rfl ?_
      refine op_move (nxlf rfl) rfl rfl ?_
      refine At.partP (d := 104) rfl (fun g104 => ?_) (fun g104 => ?_)
      · exfalso; omega
      · refine op_move (nxgf rfl rfl rfl rfl) rfl rfl ?_
        refine op_eql (nxgf rfl rfl rfl rfl) rfl rfl rfl ?_
        refine op_move (nxgf rfl rfl rfl rfl) rfl rfl ?_
        refine At.partP (d := 107) rfl (fun g107 => ?_) (fun g107 => ?_)
        · refine op_move (nxgf rfl rfl rfl rfl) rfl rfl ?_
          refine op_move (nxgf rfl rfl rfl rfl) rfl rfl ?_
          refine op_idxS (nxgf rfl rfl rfl rfl) Tryd.underlying9 rfl rfl (show _ = (((i : Nat)) : Int) from by omega) (by omega) rfl ?_
          refine op_eql (nxgf rfl rfl rfl rfl) rfl rfl rfl ?_
          refine op_pickT (nxgf rfl rfl rfl rfl) rfl rfl rfl ?_
          refine op_move (nxgf rfl rfl rfl rfl) rfl rfl ?_
          refine At.partP (d := 113) rfl (fun g113 => ?_) (fun g113 => ?_)
          · refine op_move (nxgf rfl rfl rfl rfl) rfl rfl ?_
            refine op_lenStr (nxgf rfl rfl rfl rfl) Tryd.underlying9 rfl rfl ?_
            refine op_gtr (nxgf rfl rfl rfl rfl) rfl rfl rfl ?_
            refine op_pickT (nxgf rfl rfl rfl rfl) rfl rfl rfl ?_
            refine op_pickF (nxlf rfl) rfl rfl rfl ?_
            refine At.opsNil ?_
            refine At.norm (hk_17 ?_)
            refine At.condP rfl (fun c118 => ?_) (fun c118 => ?_)
            · exfalso; omega
            · refine At.knowF (d := 118) rfl c118 ?_
              refine At.skip ?_
              refine At.norm (hk_16 ?_)
              refine At.drawn [6,7] [0,1,2,3,4,5,6,7] (by kernel_rfl) (by kernel_rfl) ?_
              refine op_loadAggB (ds := u64s (wl (decV (t.take i)))) (nxof rfl rfl rfl (by kernel_rfl)) ag46 rfl B17 (by first | (rw [List.drop_zero, List.take_of_length_le (by first | (simp; done) | (simp; omega))]; done) | rfl) (by first | (simp; done) | (simp; omega)) mem0 rfl ?_
              refine op_move (nxof rfl rfl rfl (by kernel_rfl)) rfl rfl ?_
              refine op_move (nxof rfl rfl rfl (by kernel_rfl)) rfl rfl ?_
              refine op_idxS (nxof rfl rfl rfl (by kernel_rfl)) Tryd.underlying9 rfl rfl (show _ = (((i : Nat)) : Int) from by omega) (by omega) rfl ?_
              refine op_subW (nxof rfl rfl rfl (by kernel_rfl)) rfl rfl rfl ?_
              rw [hw8]
              refine op_conv64 (nxof rfl rfl rfl (by kernel_rfl)) (und_some Tryd.underlying5) Tryd.underlying44 rfl (by first | rfl | exact (Int.toNat_of_nonneg (by omega)).symm) rfl ?_
              refine op_callA (nxosa rfl rfl rfl rfl) (.cons rfl (.cons rfl .nil)) (ten_f hV (d := UInt64.ofNat ((t.getD i 0).toNat - 48)) (by omega)) Tryd.func28 rfl rfl (by simp) rfl ?_
              rintro v125 L125 ⟨rfl, rfl⟩
              change At _ _ _ [N17, N4, R] _
              rw [hg, ← decV_take hlt]
              refine op_store (nxos rfl rfl rfl rfl) sz46 rfl rfl rfl rfl rfl B17 (by simp) sel0 (fun N17 B17 => ?_)
              rw [setL_whole (by simp)] at B17
              refine At.oneNil ?_
              refine At.inNorm ?_
              refine At.norm (hk_15 ?_)
              refine At.region ?_
              refine op_move (nxlf rfl) rfl rfl ?_
              refine op_addI (nxlf rfl) rfl rfl (by omega) (by omega) rfl ?_
              refine op_assign (nxlf rfl) rfl rfl ?_
              refine At.opsNil ?_
              refine At.norm ?_
              refine At.back ?_ (.refl _) ⟨i + 1, N17, rfl, rfl, rfl, by omega, B17⟩ ?_
              · exact .cons (by first | exact lkI rfl (by omega) | rfl) (.cons (by first | exact lkI rfl (by omega) | rfl) (.cons (by first | exact lkI rfl (by omega) | rfl) (.cons (by first | exact lkI rfl (by omega) | rfl) .nil)))
              · omega
          · refine op_skip rfl rfl rfl rfl rfl rfl rfl ?_
            refine op_skip rfl rfl rfl rfl rfl rfl rfl ?_
            refine op_skip rfl rfl rfl rfl rfl rfl rfl ?_
            refine op_pickF (nxgf rfl rfl rfl rfl) rfl rfl rfl ?_
            refine op_pickF (nxlf rfl) rfl rfl rfl ?_
            refine At.opsNil ?_
            refine At.norm (hk_17 ?_)
            refine At.condF rfl ?_
            refine At.skip ?_
            refine At.norm (hk_16 ?_)
            refine At.drawn [6,7] [0,1,2,3,4,5,6,7] (by kernel_rfl) (by kernel_rfl) ?_
            refine op_loadAggB (ds := u64s (wl (decV (t.take i)))) (nxof rfl rfl rfl (by kernel_rfl)) ag46 rfl B17 (by first | (rw [List.drop_zero, List.take_of_length_le (by first | (simp; done) | (simp; omega))]; done) | rfl) (by first | (simp; done) | (simp; omega)) mem0 rfl ?_
            refine op_move (nxof rfl rfl rfl (by kernel_rfl)) rfl rfl ?_
            refine op_move (nxof rfl rfl rfl (by kernel_rfl)) rfl rfl ?_
            refine op_idxS (nxof rfl rfl rfl (by kernel_rfl)) Tryd.underlying9 rfl rfl (show _ = (((i : Nat)) : Int) from by omega) (by omega) rfl ?_
            refine op_subW (nxof rfl rfl rfl (by kernel_rfl)) rfl rfl rfl ?_
            rw [hw8]
            refine op_conv64 (nxof rfl rfl rfl (by kernel_rfl)) (und_some Tryd.underlying5) Tryd.underlying44 rfl (by first | rfl | exact (Int.toNat_of_nonneg (by omega)).symm) rfl ?_
            refine op_callA (nxosa rfl rfl rfl rfl) (.cons rfl (.cons rfl .nil)) (ten_f hV (d := UInt64.ofNat ((t.getD i 0).toNat - 48)) (by omega)) Tryd.func28 rfl rfl (by simp) rfl ?_
            rintro v125 L125 ⟨rfl, rfl⟩
            change At _ _ _ [N17, N4, R] _
            rw [hg, ← decV_take hlt]
            refine op_store (nxos rfl rfl rfl rfl) sz46 rfl rfl rfl rfl rfl B17 (by simp) sel0 (fun N17 B17 => ?_)
            rw [setL_whole (by simp)] at B17
            refine At.oneNil ?_
            refine At.inNorm ?_
            refine At.norm (hk_15 ?_)
            refine At.region ?_
            refine op_move (nxlf rfl) rfl rfl ?_
            refine op_addI (nxlf rfl) rfl rfl (by omega) (by omega) rfl ?_
            refine op_assign (nxlf rfl) rfl rfl ?_
            refine At.opsNil ?_
            refine At.norm ?_
            refine At.back ?_ (.refl _) ⟨i + 1, N17, rfl, rfl, rfl, by omega, B17⟩ ?_
            · exact .cons (by first | exact lkI rfl (by omega) | rfl) (.cons (by first | exact lkI rfl (by omega) | rfl) (.cons (by first | exact lkI rfl (by omega) | rfl) (.cons (by first | exact lkI rfl (by omega) | rfl) .nil)))
            · omega
        · refine op_skip rfl rfl rfl rfl rfl rfl rfl ?_
          refine op_skip rfl rfl rfl rfl rfl rfl rfl ?_
          refine op_skip rfl rfl rfl rfl rfl rfl rfl ?_
          refine op_skip rfl rfl rfl rfl rfl rfl rfl ?_
          refine op_pickF (nxgf rfl rfl rfl rfl) rfl rfl rfl ?_
          refine op_move (nxgf rfl rfl rfl rfl) rfl rfl ?_
          refine op_skip rfl rfl rfl rfl rfl rfl rfl ?_
          refine op_skip rfl rfl rfl rfl rfl rfl rfl ?_
          refine op_skip rfl rfl rfl rfl rfl rfl rfl ?_
          refine op_pickF (nxgf rfl rfl rfl rfl) rfl rfl rfl ?_
          refine op_pickF (nxlf rfl) rfl rfl rfl ?_
          refine At.opsNil ?_
          refine At.norm (hk_17 ?_)
          refine At.condF rfl ?_
          refine At.skip ?_
          refine At.norm (hk_16 ?_)
          refine At.drawn [6,7] [0,1,2,3,4,5,6,7] (by kernel_rfl) (by kernel_rfl) ?_
          refine op_loadAggB (ds := u64s (wl (decV (t.take i)))) (nxof rfl rfl rfl (by kernel_rfl)) ag46 rfl B17 (by first | (rw [List.drop_zero, List.take_of_length_le (by first | (simp; done) | (simp; omega))]; done) | rfl) (by first | (simp; done) | (simp; omega)) mem0 rfl ?_
          refine op_move (nxof rfl rfl rfl (by kernel_rfl)) rfl rfl ?_
          refine op_move (nxof rfl rfl rfl (by kernel_rfl)) rfl rfl ?_
          refine op_idxS (nxof rfl rfl rfl (by kernel_rfl)) Tryd.underlying9 rfl rfl (show _ = (((i : Nat)) : Int) from by omega) (by omega) rfl ?_
          refine op_subW (nxof rfl rfl rfl (by kernel_rfl)) rfl rfl rfl ?_
          rw [hw8]
          refine op_conv64 (nxof rfl rfl rfl (by kernel_rfl)) (und_some Tryd.underlying5) Tryd.underlying44 rfl (by first | rfl | exact (Int.toNat_of_nonneg (by omega)).symm) rfl ?_
          refine op_callA (nxosa rfl rfl rfl rfl) (.cons rfl (.cons rfl .nil)) (ten_f hV (d := UInt64.ofNat ((t.getD i 0).toNat - 48)) (by omega)) Tryd.func28 rfl rfl (by simp) rfl ?_
          rintro v125 L125 ⟨rfl, rfl⟩
          change At _ _ _ [N17, N4, R] _
          rw [hg, ← decV_take hlt]
          refine op_store (nxos rfl rfl rfl rfl) sz46 rfl rfl rfl rfl rfl B17 (by simp) sel0 (fun N17 B17 => ?_)
          rw [setL_whole (by simp)] at B17
          refine At.oneNil ?_
          refine At.inNorm ?_
          refine At.norm (hk_15 ?_)
          refine At.region ?_
          refine op_move (nxlf rfl) rfl rfl ?_
          refine op_addI (nxlf rfl) rfl rfl (by omega) (by omega) rfl ?_
          refine op_assign (nxlf rfl) rfl rfl ?_
          refine At.opsNil ?_
          refine At.norm ?_
          refine At.back ?_ (.refl _) ⟨i + 1, N17, rfl, rfl, rfl, by omega, B17⟩ ?_
          · exact .cons (by first | exact lkI rfl (by omega) | rfl) (.cons (by first | exact lkI rfl (by omega) | rfl) (.cons (by first | exact lkI rfl (by omega) | rfl) (.cons (by first | exact lkI rfl (by omega) | rfl) .nil)))
          · omega
  · refine At.knowF (d := 91) rfl c91 ?_
    refine At.exit (At.thenExit (At.thenExit (At.inHit ?_)))
    refine At.norm (hk_11 ?_)
    refine At.seq fun K18 hk_18 => ?_
    refine At.region ?_
    rw [show i = t.length by omega, List.take_length, d1] at B17
    refine op_loadAggB (ds := u64s (wl x)) (nxlf rfl) ag46 rfl B17 (by first | (rw [List.drop_zero, List.take_of_length_le (by first | (simp; done) | (simp; omega))]; done) | rfl) (by first | (simp; done) | (simp; omega)) mem0 rfl ?_
    refine op_loadAggB (ds := u64s (wl x)) (nxlf rfl) ag46 rfl B4 (by first | (rw [List.drop_zero, List.take_of_length_le (by first | (simp; done) | (simp; omega))]; done) | rfl) (by first | (simp; done) | (simp; omega)) mem1 rfl ?_
    refine op_eqW (a := wl x) (b := wl x) (nxlf rfl) ae46 Tryd.underlying44 (by kernel_rfl) rfl rfl rfl rfl rfl ?_
    rw [decide_eq_true rfl]
    refine op_move (nxlf rfl) rfl rfl ?_
    refine op_move (nxgf rfl rfl rfl rfl) rfl rfl ?_
    refine op_lenStr (nxgf rfl rfl rfl rfl) Tryd.underlying9 rfl rfl ?_
    refine op_gtr (nxgf rfl rfl rfl rfl) rfl rfl rfl ?_
    rw [decide_eq_true (show (t.length : Int) > 0 by omega)]
    refine op_pickT (nxlf rfl) rfl rfl rfl ?_
    refine op_move (nxlf rfl) rfl rfl ?_
    refine op_callA (nxga rfl rfl rfl rfl) .nil (HWakes_f) Tryd.func10 rfl rfl (by simp) rfl ?_
    rintro v135 L135 ⟨rfl, rfl⟩
    change At _ _ _ [N17, N4, R] _
    refine op_pickT (nxlf rfl) rfl rfl rfl ?_
    refine op_assign (nxlf rfl) rfl rfl ?_
    refine At.opsNil ?_
    refine At.norm (hk_18 ?_)
    refine At.ret (?_)
    refine At.sub (L' := [R]) (.cons _ (.cons _ (.cons_cons _ (.slnil)))) ?_
    refine At.ret1 (L1 := []) rfl (.tmp rfl .nil) (.refl _) (.refl _) ?_
    exact ⟨rfl, rfl⟩
end Go.Proofs.YtlkjfbfenpkmhaaDoor
