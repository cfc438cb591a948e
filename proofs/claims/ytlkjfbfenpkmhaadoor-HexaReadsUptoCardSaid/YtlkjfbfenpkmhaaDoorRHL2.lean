/- quarrylaw04.HexaReads answers true. Condition: a text of at most 2^40 bytes. -/
import Derived.Test.YtlkjfbfenpkmhaaDoorR12
namespace Go.Proofs.YtlkjfbfenpkmhaaDoor
set_option linter.unusedVariables false
set_option linter.unusedSimpArgs false
open Go Go.RowKit
set_option maxRecDepth 100000 in
set_option maxHeartbeats 2000000 in
theorem HexaReads_f (s : List UInt8) (hs : s.length ≤ 1099511627776) : Fn Tryd.prog 5 #[str s] [] [] (fun v L => v = .bool true ∧ L = []) := by
  have hB := FBytes_f s hs
  have hRB := rBytes_f s hs
  rw [← bytes_same] at hRB
  have hN := FNumber_f s hs
  have hRN := rNumber_f s hs
  rw [← num_same] at hRN
  have hA := FAddress_f s hs
  have hRA := rAddress_f s hs
  have hH := FHash_f s hs
  have hRH := rHash_f s hs
  have la := arrR_len s 20
  have lh := arrR_len s 32
  generalize bytesR s = y1 at hB hRB
  generalize numR s = y2 at hN hRN
  generalize arrR s 20 = y3 at hA hRA la
  generalize arrR s 32 = y4 at hH hRH lh
  obtain ⟨d, w1, p1⟩ := y1
  obtain ⟨W, w2, p2⟩ := y2
  obtain ⟨e, w3, p3⟩ := y3
  obtain ⟨g, w4, p4⟩ := y4
  simp only at la lh
  replace hB : Fn Tryd.prog 11 #[str s] [] [] (fun v L => ∃ M a c, v = .tuple #[.slice a d.length c, faultV (w1 : Int) (p1 : Int)] ∧ L = [M] ∧ Row M 5 1 a d.length c (u8s d)) := hB
  replace hRB : Fn Tryd.prog 16 #[str s] [] [] (fun v L => ∃ M a c, v = .tuple #[.slice a d.length c, faultV (w1 : Int) (p1 : Int)] ∧ L = [M] ∧ Row M 5 1 a d.length c (u8s d)) := hRB
  replace hN : Fn Tryd.prog 17 #[str s] [] [] (fun v L => v = .tuple #[wo W, faultV (w2 : Int) (p2 : Int)] ∧ L = []) := hN
  replace hRN : Fn Tryd.prog 18 #[str s] [] [] (fun v L => v = .tuple #[wo W, faultV (w2 : Int) (p2 : Int)] ∧ L = []) := hRN
  replace hA : Fn Tryd.prog 19 #[str s] [] [] (fun v L => v = .tuple #[.agg (u8s e).toArray, faultV (w3 : Int) (p3 : Int)] ∧ L = []) := hA
  replace hRA : Fn Tryd.prog 20 #[str s] [] [] (fun v L => v = .tuple #[.agg (u8s e).toArray, faultV (w3 : Int) (p3 : Int)] ∧ L = []) := hRA
  replace hH : Fn Tryd.prog 21 #[str s] [] [] (fun v L => v = .tuple #[.agg (u8s g).toArray, faultV (w4 : Int) (p4 : Int)] ∧ L = []) := hH
  replace hRH : Fn Tryd.prog 22 #[str s] [] [] (fun v L => v = .tuple #[.agg (u8s g).toArray, faultV (w4 : Int) (p4 : Int)] ∧ L = []) := hRH
  have hff : ∀ w p : Nat, (!decide ((w : Int) = (w : Int) ∧ (p : Int) = (p : Int))) = false := fun w p => by simp
  refine Fn.enter (vs := [str s]) Tryd.func5 rfl rfl rfl ?_
  intro E R hR
  change At _ _ E [R] _
  refine At.seq fun K1 hk_1 => ?_
  refine At.region ?_
  refine op_assign (nxlf rfl) rfl rfl ?_
  refine At.opsNil ?_
  refine At.norm (hk_1 ?_)
  refine At.seq fun K2 hk_2 => ?_
  refine At.region ?_
  refine op_move (nxlf rfl) rfl rfl ?_
  refine op_callA (nxla rfl) (.cons rfl .nil) (hB) Tryd.func11 rfl rfl (by simp) rfl ?_
  rintro v15 L15 ⟨N15, a15, c15, rfl, rfl, r15⟩
  change At _ _ _ [N15, R] _
  refine op_move (nxlf rfl) rfl rfl ?_
  refine op_extract (nxlf rfl) rfl rfl rfl ?_
  refine op_extract (nxlf rfl) rfl rfl rfl ?_
  refine op_alloc (nxla rfl) ze30 rfl (fun N4 b4 B4 => ?_)
  change Blk N4 b4 _ [.int .i64 0, .int .i64 0] at B4
  refine op_assign (nxlf rfl) rfl rfl ?_
  refine op_store (nxl rfl) sz30 rfl rfl rfl rfl rfl B4 (by simp) sel0 (fun N4 B4 => ?_)
  simp only [setL, List.set] at B4
  refine At.opsNil ?_
  refine At.norm (hk_2 ?_)
  refine At.seq fun K3 hk_3 => ?_
  refine At.region ?_
  refine op_move (nxlf rfl) rfl rfl ?_
  refine op_callA (nxla rfl) (.cons rfl .nil) (hRB) Tryd.func16 rfl rfl (by simp) rfl ?_
  rintro v20 L20 ⟨N20, a20, c20, rfl, rfl, r20⟩
  change At _ _ _ [N20, N4, N15, R] _
  refine op_move (nxlf rfl) rfl rfl ?_
  refine op_extract (nxlf rfl) rfl rfl rfl ?_
  refine op_extract (nxlf rfl) rfl rfl rfl ?_
  refine op_alloc (nxla rfl) ze30 rfl (fun N6 b6 B6 => ?_)
  change Blk N6 b6 _ [.int .i64 0, .int .i64 0] at B6
  refine op_assign (nxlf rfl) rfl rfl ?_
  refine op_store (nxl rfl) sz30 rfl rfl rfl rfl rfl B6 (by simp) sel0 (fun N6 B6 => ?_)
  simp only [setL, List.set] at B6
  refine At.opsNil ?_
  refine At.norm (hk_3 ?_)
  refine At.seq fun K4 hk_4 => ?_
  refine At.seq fun K5 hk_5 => ?_
  refine At.region ?_
  refine op_loadAggB (ds := [_, _]) (nxlf rfl) ag30 rfl B4 rfl rfl mem2 rfl ?_
  refine op_loadAggB (ds := [_, _]) (nxlf rfl) ag30 rfl B6 rfl rfl mem0 rfl ?_
  refine op_neP (nxlf rfl) (by kernel_rfl) (by kernel_rfl) rfl rfl rfl ?_
  rw [hff]
  refine op_move (nxlf rfl) rfl rfl ?_
  refine op_move (nxgf rfl rfl rfl rfl) rfl rfl ?_
  have s15 := r15.rsl
  have s20 := r20.rsl
  refine op_str (nxgf rfl rfl rfl rfl) Tryd.underlying22 Tryd.underlying5 Tryd.underlying9 rfl (by assumption) (by first | exact mem0 | exact mem1 | exact mem2 | exact mem3 | exact mem4 | exact mem5 | exact mem6 | exact mem7 | exact mem8 | exact mem9) rfl ?_
  refine op_move (nxgf rfl rfl rfl rfl) rfl rfl ?_
  refine op_str (nxgf rfl rfl rfl rfl) Tryd.underlying22 Tryd.underlying5 Tryd.underlying9 rfl (by assumption) (by first | exact mem0 | exact mem1 | exact mem2 | exact mem3 | exact mem4 | exact mem5 | exact mem6 | exact mem7 | exact mem8 | exact mem9) rfl ?_
  refine op_neS (nxgf rfl rfl rfl rfl) rfl rfl rfl ?_
  rw [decide_eq_false (fun h => h rfl)]
  refine op_pickF (nxlf rfl) rfl rfl rfl ?_
  refine At.opsNil ?_
  refine At.norm (hk_5 ?_)
  refine At.condF rfl ?_
  refine At.skip ?_
  refine At.norm (hk_4 ?_)
  refine At.seq fun K6 hk_6 => ?_
  refine At.region ?_
  refine op_move (nxlf rfl) rfl rfl ?_
  refine op_callA (nxla rfl) (.cons rfl .nil) (hN) Tryd.func17 rfl rfl (by simp) rfl ?_
  rintro v35 L35 ⟨rfl, rfl⟩
  change At _ _ _ [N6, N20, N4, N15, R] _
  refine op_move (nxlf rfl) rfl rfl ?_
  refine op_extract (nxlf rfl) rfl rfl rfl ?_
  refine op_extract (nxlf rfl) rfl rfl rfl ?_
  refine op_alloc (nxla rfl) ze46 rfl (fun N7 b7 B7 => ?_)
  change Blk N7 b7 _ [.int .u64 0, .int .u64 0, .int .u64 0, .int .u64 0] at B7
  refine op_store (nxl rfl) sz46 rfl rfl rfl rfl rfl B7 (by simp) sel0 (fun N7 B7 => ?_)
  rw [setL_whole (by simp)] at B7
  refine op_store (nxl rfl) sz30 rfl rfl rfl rfl rfl B4 (by simp) sel3 (fun N4 B4 => ?_)
  simp only [setL, List.set] at B4
  refine At.opsNil ?_
  refine At.norm (hk_6 ?_)
  refine At.seq fun K7 hk_7 => ?_
  refine At.region ?_
  refine op_move (nxlf rfl) rfl rfl ?_
  refine op_callA (nxla rfl) (.cons rfl .nil) (hRN) Tryd.func18 rfl rfl (by simp) rfl ?_
  rintro v40 L40 ⟨rfl, rfl⟩
  change At _ _ _ [N4, N7, N6, N20, N15, R] _
  refine op_move (nxlf rfl) rfl rfl ?_
  refine op_extract (nxlf rfl) rfl rfl rfl ?_
  refine op_extract (nxlf rfl) rfl rfl rfl ?_
  refine op_alloc (nxla rfl) ze46 rfl (fun N8 b8 B8 => ?_)
  change Blk N8 b8 _ [.int .u64 0, .int .u64 0, .int .u64 0, .int .u64 0] at B8
  refine op_store (nxl rfl) sz46 rfl rfl rfl rfl rfl B8 (by simp) sel0 (fun N8 B8 => ?_)
  rw [setL_whole (by simp)] at B8
  refine op_store (nxl rfl) sz30 rfl rfl rfl rfl rfl B6 (by simp) sel3 (fun N6 B6 => ?_)
  simp only [setL, List.set] at B6
  refine At.opsNil ?_
  refine At.norm (hk_7 ?_)
  refine At.seq fun K8 hk_8 => ?_
  refine At.seq fun K9 hk_9 => ?_
  refine At.region ?_
  refine op_loadAggB (ds := [_, _]) (nxlf rfl) ag30 rfl B4 rfl rfl mem2 rfl ?_
  refine op_loadAggB (ds := [_, _]) (nxlf rfl) ag30 rfl B6 rfl rfl mem0 rfl ?_
  refine op_neP (nxlf rfl) (by kernel_rfl) (by kernel_rfl) rfl rfl rfl ?_
  rw [hff]
  refine op_move (nxlf rfl) rfl rfl ?_
  refine op_loadAggB (ds := u64s (wl W)) (nxgf rfl rfl rfl rfl) ag46 rfl B7 (by first | (rw [List.drop_zero, List.take_of_length_le (by first | (simp; done) | (simp; omega))]; done) | rfl) (by first | (simp; done) | (simp; omega)) mem3 rfl ?_
  refine op_loadAggB (ds := u64s (wl W)) (nxgf rfl rfl rfl rfl) ag46 rfl B8 (by first | (rw [List.drop_zero, List.take_of_length_le (by first | (simp; done) | (simp; omega))]; done) | rfl) (by first | (simp; done) | (simp; omega)) mem1 rfl ?_
  refine op_neW (a := wl W) (b := wl W) (nxgf rfl rfl rfl rfl) ae46 Tryd.underlying44 (by kernel_rfl) rfl rfl rfl rfl rfl ?_
  rw [decide_eq_false (fun h => h rfl)]
  refine op_pickF (nxlf rfl) rfl rfl rfl ?_
  refine At.opsNil ?_
  refine At.norm (hk_9 ?_)
  refine At.condF rfl ?_
  refine At.skip ?_
  refine At.norm (hk_8 ?_)
  refine At.seq fun K10 hk_10 => ?_
  refine At.region ?_
  refine op_move (nxlf rfl) rfl rfl ?_
  refine op_callA (nxla rfl) (.cons rfl .nil) (hA) Tryd.func19 rfl rfl (by simp) rfl ?_
  rintro v53 L53 ⟨rfl, rfl⟩
  change At _ _ _ [N6, N8, N4, N7, N20, N15, R] _
  refine op_move (nxlf rfl) rfl rfl ?_
  refine op_extract (nxlf rfl) rfl rfl rfl ?_
  refine op_extract (nxlf rfl) rfl rfl rfl ?_
  refine op_alloc (nxla rfl) ze50 rfl (fun N9 b9 B9 => ?_)
  change Blk N9 b9 _ [.int .u8 0, .int .u8 0, .int .u8 0, .int .u8 0, .int .u8 0, .int .u8 0, .int .u8 0, .int .u8 0, .int .u8 0, .int .u8 0, .int .u8 0, .int .u8 0, .int .u8 0, .int .u8 0, .int .u8 0, .int .u8 0, .int .u8 0, .int .u8 0, .int .u8 0, .int .u8 0] at B9
  refine op_store (nxl rfl) sz50 rfl rfl rfl (by simp [u8s]; omega) (all8x _) B9 (by simp [u8s]; omega) sel0 (fun N9 B9 => ?_)
  rw [setL_whole (by simp [u8s]; omega)] at B9
  refine op_store (nxl rfl) sz30 rfl rfl rfl rfl rfl B4 (by simp) sel3 (fun N4 B4 => ?_)
  simp only [setL, List.set] at B4
  refine At.opsNil ?_
  refine At.norm (hk_10 ?_)
  refine At.seq fun K11 hk_11 => ?_
  refine At.region ?_
  refine op_move (nxlf rfl) rfl rfl ?_
  refine op_callA (nxla rfl) (.cons rfl .nil) (hRA) Tryd.func20 rfl rfl (by simp) rfl ?_
  rintro v58 L58 ⟨rfl, rfl⟩
  change At _ _ _ [N4, N9, N6, N8, N7, N20, N15, R] _
  refine op_move (nxlf rfl) rfl rfl ?_
  refine op_extract (nxlf rfl) rfl rfl rfl ?_
  refine op_extract (nxlf rfl) rfl rfl rfl ?_
  refine op_alloc (nxla rfl) ze50 rfl (fun N10 b10 B10 => ?_)
  change Blk N10 b10 _ [.int .u8 0, .int .u8 0, .int .u8 0, .int .u8 0, .int .u8 0, .int .u8 0, .int .u8 0, .int .u8 0, .int .u8 0, .int .u8 0, .int .u8 0, .int .u8 0, .int .u8 0, .int .u8 0, .int .u8 0, .int .u8 0, .int .u8 0, .int .u8 0, .int .u8 0, .int .u8 0] at B10
  refine op_store (nxl rfl) sz50 rfl rfl rfl (by simp [u8s]; omega) (all8x _) B10 (by simp [u8s]; omega) sel0 (fun N10 B10 => ?_)
  rw [setL_whole (by simp [u8s]; omega)] at B10
  refine op_store (nxl rfl) sz30 rfl rfl rfl rfl rfl B6 (by simp) sel3 (fun N6 B6 => ?_)
  simp only [setL, List.set] at B6
  refine At.opsNil ?_
  refine At.norm (hk_11 ?_)
  refine At.seq fun K12 hk_12 => ?_
  refine At.seq fun K13 hk_13 => ?_
  refine At.region ?_
  refine op_loadAggB (ds := [_, _]) (nxlf rfl) ag30 rfl B4 rfl rfl mem2 rfl ?_
  refine op_loadAggB (ds := [_, _]) (nxlf rfl) ag30 rfl B6 rfl rfl mem0 rfl ?_
  refine op_neP (nxlf rfl) (by kernel_rfl) (by kernel_rfl) rfl rfl rfl ?_
  rw [hff]
  refine op_move (nxlf rfl) rfl rfl ?_
  refine op_loadAggB (ds := u8s e) (nxgf rfl rfl rfl rfl) ag50 rfl B9 (by first | (rw [List.drop_zero, List.take_of_length_le (by first | (simp; done) | (simp; omega))]; done) | rfl) (by first | (simp; done) | (simp; omega)) mem3 rfl ?_
  refine op_loadAggB (ds := u8s e) (nxgf rfl rfl rfl rfl) ag50 rfl B10 (by first | (rw [List.drop_zero, List.take_of_length_le (by first | (simp; done) | (simp; omega))]; done) | rfl) (by first | (simp; done) | (simp; omega)) mem1 rfl ?_
  refine op_neW8 (a := e) (b := e) (nxgf rfl rfl rfl rfl) ae50 Tryd.underlying5 (by kernel_rfl) rfl rfl la la rfl ?_
  rw [decide_eq_false (fun h => h rfl)]
  refine op_pickF (nxlf rfl) rfl rfl rfl ?_
  refine At.opsNil ?_
  refine At.norm (hk_13 ?_)
  refine At.condF rfl ?_
  refine At.skip ?_
  refine At.norm (hk_12 ?_)
  refine At.seq fun K14 hk_14 => ?_
  refine At.region ?_
  refine op_move (nxlf rfl) rfl rfl ?_
  refine op_callA (nxla rfl) (.cons rfl .nil) (hH) Tryd.func21 rfl rfl (by simp) rfl ?_
  rintro v71 L71 ⟨rfl, rfl⟩
  change At _ _ _ [N6, N10, N4, N9, N8, N7, N20, N15, R] _
  refine op_move (nxlf rfl) rfl rfl ?_
  refine op_extract (nxlf rfl) rfl rfl rfl ?_
  refine op_extract (nxlf rfl) rfl rfl rfl ?_
  refine op_alloc (nxla rfl) ze54 rfl (fun N11 b11 B11 => ?_)
  change Blk N11 b11 _ [.int .u8 0, .int .u8 0, .int .u8 0, .int .u8 0, .int .u8 0, .int .u8 0, .int .u8 0, .int .u8 0, .int .u8 0, .int .u8 0, .int .u8 0, .int .u8 0, .int .u8 0, .int .u8 0, .int .u8 0, .int .u8 0, .int .u8 0, .int .u8 0, .int .u8 0, .int .u8 0, .int .u8 0, .int .u8 0, .int .u8 0, .int .u8 0, .int .u8 0, .int .u8 0, .int .u8 0, .int .u8 0, .int .u8 0, .int .u8 0, .int .u8 0, .int .u8 0] at B11
  refine op_store (nxl rfl) sz54 rfl rfl rfl (by simp [u8s]; omega) (all8x _) B11 (by simp [u8s]; omega) sel0 (fun N11 B11 => ?_)
  rw [setL_whole (by simp [u8s]; omega)] at B11
  refine op_store (nxl rfl) sz30 rfl rfl rfl rfl rfl B4 (by simp) sel3 (fun N4 B4 => ?_)
  simp only [setL, List.set] at B4
  refine At.opsNil ?_
  refine At.norm (hk_14 ?_)
  refine At.seq fun K15 hk_15 => ?_
  refine At.region ?_
  refine op_move (nxlf rfl) rfl rfl ?_
  refine op_callA (nxla rfl) (.cons rfl .nil) (hRH) Tryd.func22 rfl rfl (by simp) rfl ?_
  rintro v76 L76 ⟨rfl, rfl⟩
  change At _ _ _ [N4, N11, N6, N10, N9, N8, N7, N20, N15, R] _
  refine op_move (nxlf rfl) rfl rfl ?_
  refine op_extract (nxlf rfl) rfl rfl rfl ?_
  refine op_extract (nxlf rfl) rfl rfl rfl ?_
  refine op_alloc (nxla rfl) ze54 rfl (fun N12 b12 B12 => ?_)
  change Blk N12 b12 _ [.int .u8 0, .int .u8 0, .int .u8 0, .int .u8 0, .int .u8 0, .int .u8 0, .int .u8 0, .int .u8 0, .int .u8 0, .int .u8 0, .int .u8 0, .int .u8 0, .int .u8 0, .int .u8 0, .int .u8 0, .int .u8 0, .int .u8 0, .int .u8 0, .int .u8 0, .int .u8 0, .int .u8 0, .int .u8 0, .int .u8 0, .int .u8 0, .int .u8 0, .int .u8 0, .int .u8 0, .int .u8 0, .int .u8 0, .int .u8 0, .int .u8 0, .int .u8 0] at B12
  refine op_store (nxl rfl) sz54 rfl rfl rfl (by simp [u8s]; omega) (all8x _) B12 (by simp [u8s]; omega) sel0 (fun N12 B12 => ?_)
  rw [setL_whole (by simp [u8s]; omega)] at B12
  refine op_store (nxl rfl) sz30 rfl rfl rfl rfl rfl B6 (by simp) sel3 (fun N6 B6 => ?_)
  simp only [setL, List.set] at B6
  refine At.opsNil ?_
  refine At.norm (hk_15 ?_)
  refine At.seq fun K16 hk_16 => ?_
  refine At.region ?_
  refine op_loadAggB (ds := [_, _]) (nxlf rfl) ag30 rfl B4 rfl rfl mem2 rfl ?_
  refine op_loadAggB (ds := [_, _]) (nxlf rfl) ag30 rfl B6 rfl rfl mem0 rfl ?_
  refine op_eqP (nxlf rfl) (by kernel_rfl) (by kernel_rfl) rfl rfl rfl ?_
  rw [decide_eq_true ⟨rfl, rfl⟩]
  refine op_move (nxlf rfl) rfl rfl ?_
  refine op_loadAggB (ds := u8s g) (nxgf rfl rfl rfl rfl) ag54 rfl B11 (by first | (rw [List.drop_zero, List.take_of_length_le (by first | (simp; done) | (simp; omega))]; done) | rfl) (by first | (simp; done) | (simp; omega)) mem3 rfl ?_
  refine op_loadAggB (ds := u8s g) (nxgf rfl rfl rfl rfl) ag54 rfl B12 (by first | (rw [List.drop_zero, List.take_of_length_le (by first | (simp; done) | (simp; omega))]; done) | rfl) (by first | (simp; done) | (simp; omega)) mem1 rfl ?_
  refine op_eqW8 (a := g) (b := g) (nxgf rfl rfl rfl rfl) ae54 Tryd.underlying5 (by kernel_rfl) rfl rfl lh lh rfl ?_
  rw [decide_eq_true rfl]
  refine op_pickT (nxlf rfl) rfl rfl rfl ?_
  refine op_move (nxlf rfl) rfl rfl ?_
  refine op_callA (nxga rfl rfl rfl rfl) .nil (HWakes_f) Tryd.func10 rfl rfl (by simp) rfl ?_
  rintro v88 L88 ⟨rfl, rfl⟩
  change At _ _ _ [N6, N12, N4, N11, N10, N9, N8, N7, N20, N15, R] _
  refine op_pickT (nxlf rfl) rfl rfl rfl ?_
  refine op_assign (nxlf rfl) rfl rfl ?_
  refine At.opsNil ?_
  refine At.norm (hk_16 ?_)
  refine At.ret (?_)
  refine At.sub (L' := [R]) (.cons _ (.cons _ (.cons _ (.cons _ (.cons _ (.cons _ (.cons _ (.cons _ (.cons _ (.cons _ (.cons_cons _ (.slnil)))))))))))) ?_
  refine At.ret1 (L1 := []) rfl (.tmp rfl .nil) (.refl _) (.refl _) ?_
  exact ⟨rfl, rfl⟩
end Go.Proofs.YtlkjfbfenpkmhaaDoor
