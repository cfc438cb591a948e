/- quarrylaw21.HeadHard answers true. No condition. -/
import Derived.Test.YtbmlhdecnfplaaaKHR3
import Derived.Test.YtbmlhdecnfplaaaK22
namespace Go.Proofs.Ytbmlhdecnfplaaa
set_option linter.unusedVariables false
set_option linter.unusedSimpArgs false
open Go Go.RowKit
theorem hardV_ok (f : Int) (de nu d : Nat) (b : Bool) (ti tm : Nat) : (hardV f de nu d b ti tm).1 < WW ∧ ((hardV f de nu d b ti tm).2 = true → 131072 ≤ (hardV f de nu d b ti tm).1) := by
  unfold hardV
  split
  · refine ⟨fitV_lt _, fun e => ?_⟩
    have hlt := of_decide_eq_true e
    rw [fitV_y hlt, hardX]
    have := dif_ge d (dirF f.toNat b (tm - ti))
    omega
  · exact ⟨WW_pos, fun e => absurd e (by decide)⟩
section
variable {h : Hd} {ao : Option Addr} {n cap : Nat} {N : Heaplet} {l : List UInt8}
theorem rCmp_low {x : Nat} (hx : x < WW) : Fn Try.prog 9 #[wo x, .agg #[.int .u64 131072, .int .u64 0, .int .u64 0, .int .u64 0]] [] [] (fun v L => v = .int .i64 (cmpI x 131072) ∧ L = []) := by
  have := rCmp_w hx (y := (131072 : UInt64).toNat) (WW_small (by decide))
  rw [wo_small] at this
  exact this
theorem cmpI_nn {x y : Nat} (h : y ≤ x) : 0 ≤ cmpI x y := by
  unfold cmpI
  split
  · omega
  · split <;> omega
set_option maxRecDepth 100000 in
set_option maxHeartbeats 4000000 in
theorem HeadHard_f (hk : h.Ok) (hA : RSl N 1 ao n cap (u8s l)) (f : Int) (tm : UInt64) : Fn Try.prog 3 #[.int .i64 f, .agg (h.cells ao n cap).toArray, .int .u64 (tm.toNat : Int)] [] [N] (fun v L => v = .bool true ∧ L = []) := by
  have hF := fun a k c => FDiff_f2 (ao := a) (n := k) (cap := c) hk f tm
  have hG := fun a k c => rDiff_f2 (ao := a) (n := k) (cap := c) hk f tm
  have hD := hardV_ok f (mBomb f) h.nu.toNat h.df (decide (h.om ≠ kz)) h.ti.toNat tm.toNat
  generalize hardV f (mBomb f) h.nu.toNat h.df (decide (h.om ≠ kz)) h.ti.toNat tm.toNat = z at hF hG hD
  obtain ⟨D, ok⟩ := z
  try simp only at hF
  try simp only at hG
  try simp only at hD
  obtain ⟨hDW, hDo⟩ := hD
  refine Fn.enter (vs := [.int .i64 f, .agg (h.cells ao n cap).toArray, .int .u64 (tm.toNat : Int)]) Try.func3 rfl rfl rfl ?_
  intro E R hR
  have hA := hA.le (hR N (by simp))
  change At _ _ E [R] _
  refine At.seq fun K1 hk_1 => ?_
  refine At.region ?_
  refine op_box (nxla rfl) rfl rfl rfl (fun N4 b4 B4 => ?_)
  change Blk N4 b4 _ (h.cells ao n cap) at B4
  refine op_assign (nxlf rfl) rfl rfl ?_
  refine At.opsNil ?_
  refine At.norm (hk_1 ?_)
  refine At.seq fun K2 hk_2 => ?_
  refine At.region ?_
  refine op_move (nxlf rfl) rfl rfl ?_
  refine op_loadAggB (ds := h.cells ao n cap) (nxlf rfl) ag33 rfl B4 (Hd.all hk) (Hd.len hk) (by first | exact mem0 | exact mem1 | exact mem2 | exact mem3) rfl ?_
  refine op_callA (nxla rfl) (.cons rfl .nil) (cut_f hk hA) Try.func7 rfl rfl (by simp) rfl ?_
  rintro v14 L14 ⟨N14, a14, k14, c14, rfl, rfl⟩
  change At _ _ _ [N14, N4, R] _
  refine op_move (nxlf rfl) rfl rfl ?_
  refine op_callA (nxla rfl) (.cons rfl (.cons rfl (.cons rfl .nil))) (hF a14 k14 c14) Try.func6 rfl rfl (by simp) rfl ?_
  rintro v16 L16 ⟨rfl, rfl⟩
  change At _ _ _ [N14, N4, R] _
  refine op_move (nxlf rfl) rfl rfl ?_
  refine op_extract (nxlf rfl) rfl rfl rfl ?_
  refine op_extract (nxlf rfl) rfl rfl rfl ?_
  refine op_alloc (nxla rfl) ze29 rfl (fun N7 b7 B7 => ?_)
  change Blk N7 b7 _ [.int .u64 0, .int .u64 0, .int .u64 0, .int .u64 0] at B7
  refine op_store (nxl rfl) sz29 rfl rfl rfl rfl rfl B7 (by simp) sel0 (fun N7 B7 => ?_)
  rw [setL_whole (by simp)] at B7
  refine op_assign (nxlf rfl) rfl rfl ?_
  refine At.opsNil ?_
  refine At.norm (hk_2 ?_)
  refine At.seq fun K3 hk_3 => ?_
  refine At.region ?_
  refine op_move (nxlf rfl) rfl rfl ?_
  refine op_loadAggB (ds := h.cells ao n cap) (nxlf rfl) ag33 rfl B4 (Hd.all hk) (Hd.len hk) (by first | exact mem0 | exact mem1 | exact mem2 | exact mem3) rfl ?_
  refine op_callA (nxla rfl) (.cons rfl .nil) (cut_f hk hA) Try.func7 rfl rfl (by simp) rfl ?_
  rintro v22 L22 ⟨N22, a22, k22, c22, rfl, rfl⟩
  change At _ _ _ [N22, N7, N14, N4, R] _
  refine op_move (nxlf rfl) rfl rfl ?_
  refine op_callA (nxla rfl) (.cons rfl (.cons rfl (.cons rfl .nil))) (hG a22 k22 c22) Try.func8 rfl rfl (by simp) rfl ?_
  rintro v24 L24 ⟨rfl, rfl⟩
  change At _ _ _ [N22, N7, N14, N4, R] _
  refine op_move (nxlf rfl) rfl rfl ?_
  refine op_extract (nxlf rfl) rfl rfl rfl ?_
  refine op_extract (nxlf rfl) rfl rfl rfl ?_
  refine op_alloc (nxla rfl) ze29 rfl (fun N9 b9 B9 => ?_)
  change Blk N9 b9 _ [.int .u64 0, .int .u64 0, .int .u64 0, .int .u64 0] at B9
  refine op_store (nxl rfl) sz29 rfl rfl rfl rfl rfl B9 (by simp) sel0 (fun N9 B9 => ?_)
  rw [setL_whole (by simp)] at B9
  refine op_assign (nxlf rfl) rfl rfl ?_
  refine At.opsNil ?_
  refine At.norm (hk_3 ?_)
  refine At.seq fun K4 hk_4 => ?_
  refine At.seq fun K5 hk_5 => ?_
  refine At.region ?_
  refine op_loadAggB (ds := u64s (wl D)) (nxlf rfl) ag29 rfl B7 (by first | (rw [List.drop_zero, List.take_of_length_le (by first | (simp; done) | (simp; omega))]; done) | rfl) (by first | (simp; done) | (simp; omega)) mem2 rfl ?_
  refine op_loadAggB (ds := u64s (wl D)) (nxlf rfl) ag29 rfl B9 (by first | (rw [List.drop_zero, List.take_of_length_le (by first | (simp; done) | (simp; omega))]; done) | rfl) (by first | (simp; done) | (simp; omega)) mem0 rfl ?_
  refine op_neW (a := wl D) (b := wl D) (nxlf rfl) ae29 Try.underlying27 (by kernel_rfl) rfl rfl rfl rfl rfl ?_
  refine op_move (nxlf rfl) rfl rfl ?_
  refine At.partP (d := 30) rfl (fun g30 => ?_) (fun g30 => ?_)
  · exact absurd rfl g30
  · refine op_move (nxgf rfl rfl rfl rfl) rfl rfl ?_
    refine op_move (nxgf rfl rfl rfl rfl) rfl rfl ?_
    refine op_neB (nxgf rfl rfl rfl rfl) Try.underlying4 rfl rfl rfl ?_
    rw [bne_self_eq_false]
    refine op_pickF (nxlf rfl) rfl rfl rfl ?_
    refine At.opsNil ?_
    refine At.norm (hk_5 ?_)
    refine At.condF rfl ?_
    refine At.skip ?_
    refine At.norm (hk_4 ?_)
    refine At.seq fun K6 hk_6 => ?_
    refine At.region ?_
    refine op_move (nxlf rfl) rfl rfl ?_
    refine op_not (nxlf rfl) rfl rfl ?_
    refine op_move (nxlf rfl) rfl rfl ?_
    refine At.part (d := 37) rfl (fun g37 => ?_) (fun g37 => ?_)
    · refine op_skip rfl rfl rfl rfl rfl rfl rfl ?_
      refine op_skip rfl rfl rfl rfl rfl rfl rfl ?_
      refine op_skip rfl rfl rfl rfl rfl rfl rfl ?_
      refine op_skip rfl rfl rfl rfl rfl rfl rfl ?_
      refine op_pickT (nxlf rfl) rfl rfl rfl ?_
      refine op_move (nxlf rfl) rfl rfl ?_
      refine op_callA (nxga rfl rfl rfl rfl) .nil (Hwakes_f) Try.func10 rfl rfl (by simp) rfl ?_
      rintro v44 L44 ⟨rfl, rfl⟩
      change At _ _ _ [N9, N22, N7, N14, N4, R] _
      refine op_pickT (nxlf rfl) rfl rfl rfl ?_
      refine op_assign (nxlf rfl) rfl rfl ?_
      refine At.opsNil ?_
      refine At.norm (hk_6 ?_)
      refine At.ret (?_)
      refine At.sub (L' := [R]) (.cons _ (.cons _ (.cons _ (.cons _ (.cons _ (.cons_cons _ (.slnil))))))) ?_
      refine At.ret1 (L1 := []) rfl (.tmp rfl .nil) (.refl _) (.refl _) ?_
      exact ⟨rfl, rfl⟩
    · have hok : ok = true := by cases ok <;> simp_all
      have hcm := cmpI_nn (hDo hok)
      refine op_loadAggB (ds := u64s (wl D)) (nxgf rfl rfl rfl rfl) ag29 rfl B7 (by first | (rw [List.drop_zero, List.take_of_length_le (by first | (simp; done) | (simp; omega))]; done) | rfl) (by first | (simp; done) | (simp; omega)) mem2 rfl ?_
      refine op_buildA (out := [_, .int .u64 0, .int .u64 0, .int .u64 0]) (nxgf rfl rfl rfl rfl) ze29 ae29 (.cons rfl .nil) rfl rfl ?_
      refine op_callA (nxga rfl rfl rfl rfl) (.cons rfl (.cons rfl .nil)) (rCmp_low hDW) Try.func9 rfl rfl (by simp) rfl ?_
      rintro v40 L40 ⟨rfl, rfl⟩
      change At _ _ _ [N9, N22, N7, N14, N4, R] _
      refine op_geq (nxgf rfl rfl rfl rfl) rfl rfl rfl ?_
      refine op_pickF (nxlf rfl) rfl rfl rfl ?_
      refine op_move (nxlf rfl) rfl rfl ?_
      refine At.partP (d := 43) rfl (fun g43 => ?_) (fun g43 => ?_)
      · refine op_callA (nxga rfl rfl rfl rfl) .nil (Hwakes_f) Try.func10 rfl rfl (by simp) rfl ?_
        rintro v44 L44 ⟨rfl, rfl⟩
        change At _ _ _ [N9, N22, N7, N14, N4, R] _
        refine op_pickT (nxlf rfl) rfl rfl rfl ?_
        refine op_assign (nxlf rfl) rfl rfl ?_
        refine At.opsNil ?_
        refine At.norm (hk_6 ?_)
        refine At.ret (?_)
        refine At.sub (L' := [R]) (.cons _ (.cons _ (.cons _ (.cons _ (.cons _ (.cons_cons _ (.slnil))))))) ?_
        refine At.ret1 (L1 := []) rfl (.tmp rfl .nil) (.refl _) (.refl _) ?_
        exact ⟨rfl, rfl⟩
      · exfalso; omega
end
end Go.Proofs.Ytbmlhdecnfplaaa
