/- quarrylaw21.HeadSlow answers true. No condition. -/
import Derived.Test.YtbmlhdecnfplaaaK21
namespace Go.Proofs.Ytbmlhdecnfplaaa
set_option linter.unusedVariables false
set_option linter.unusedSimpArgs false
open Go Go.RowKit
theorem slow_gt {gl gu b : Nat} (h : gl / 2 < gu) : b < baseF gl gu b := by
  rw [baseF, if_pos h, moreN]
  split <;> omega
theorem slow_up1 {gl gu b : Nat} (h : gl / 2 < gu) (h2 : gu - gl / 2 ≤ gl / 2) : baseF gl gu b - b ≤ b / 8 + 1 := by
  have := part_le (b := b) h2
  rw [baseF, if_pos h, moreN]
  split <;> omega
theorem slow_up2 {gl gu b : Nat} (h : gl / 2 < gu) (h2 : gu - gl / 2 ≤ gl / 2 + 1) (h0 : 0 < gl / 2) : baseF gl gu b - b ≤ b / 8 + 1 + b := by
  have h3 : partN b (gl / 2) (gu - gl / 2) ≤ b := by
    have h4 : b * (gu - gl / 2) / (gl / 2) ≤ b * 2 := by
      refine Nat.div_le_of_le_mul ?_
      rw [Nat.mul_comm (gl / 2), Nat.mul_assoc]
      exact Nat.mul_le_mul_left _ (by omega)
    unfold partN
    omega
  rw [baseF, if_pos h, moreN]
  split <;> omega
theorem slow_dn {gl gu b : Nat} (h : ¬ gl / 2 < gu) : baseF gl gu b ≤ b ∧ b - baseF gl gu b ≤ b / 8 + 1 := by
  have := part_le (b := b) (show gl / 2 - gu ≤ gl / 2 by omega)
  rw [baseF, if_neg h]
  omega
theorem cmpI_gt {x y : Nat} (h : y < x) : 0 < cmpI x y := by
  unfold cmpI
  split
  · omega
  · omega
theorem cmpI_ge {x y : Nat} (h : y ≤ x) : ¬ cmpI x y < 0 := by
  unfold cmpI
  split
  · omega
  · split <;> omega
theorem rCmp_one {x : Nat} (hx : x < WW) : Fn Try.prog 9 #[wo x, .agg #[.int .u64 1, .int .u64 0, .int .u64 0, .int .u64 0]] [] [] (fun v L => v = .int .i64 (cmpI x 1) ∧ L = []) := by
  have := rCmp_w hx (y := (1 : UInt64).toNat) (WW_small (by decide))
  rw [wo_small] at this
  exact this
section
variable {h : Hd} {ao : Option Addr} {n cap : Nat} {N : Heaplet} {l : List UInt8} {X : Nat}
theorem FBaseFee_y (hk : h.Ok) (hf : feeR false h.gl.toNat h.gu.toNat h.bf = (X, true)) : Fn Try.prog 12 #[.bool false, .agg (h.cells ao n cap).toArray] [] [] (fun v L => v = .tuple #[wo X, .bool true] ∧ L = []) := by
  have := FBaseFee_f (ao := ao) (n := n) (cap := cap) hk false
  rw [hf] at this
  exact this
theorem FBaseFee_n (hk : h.Ok) (hf : feeR false h.gl.toNat h.gu.toNat h.bf = (X, false)) : Fn Try.prog 12 #[.bool false, .agg (h.cells ao n cap).toArray] [] [] (fun v L => v = .tuple #[wo X, .bool false] ∧ L = []) := by
  have := FBaseFee_f (ao := ao) (n := n) (cap := cap) hk false
  rw [hf] at this
  exact this
set_option maxRecDepth 100000 in
set_option maxHeartbeats 4000000 in
theorem HeadSlow_n (hk : h.Ok) (hA : RSl N 1 ao n cap (u8s l)) (hf : feeR false h.gl.toNat h.gu.toNat h.bf = (X, false)) (x y : UInt64) : Fn Try.prog 4 #[.agg (h.cells ao n cap).toArray, .int .u64 (x.toNat : Int), .int .u64 (y.toNat : Int)] [] [N] (fun v L => v = .bool true ∧ L = []) := by
  refine Fn.enter (vs := [.agg (h.cells ao n cap).toArray, .int .u64 (x.toNat : Int), .int .u64 (y.toNat : Int)]) Try.func4 rfl rfl rfl ?_
  intro E R hR
  have hA := hA.le (hR N (by simp))
  change At _ _ E [R] _
  refine At.seq fun K1 hk_1 => ?_
  refine At.region ?_
  refine op_box (nxla rfl) rfl rfl rfl (fun N3 b3 B3 => ?_)
  change Blk N3 b3 _ (h.cells ao n cap) at B3
  refine op_assign (nxlf rfl) rfl rfl ?_
  refine At.opsNil ?_
  refine At.norm (hk_1 ?_)
  refine At.seq fun K2 hk_2 => ?_
  refine At.region ?_
  refine op_loadAggB (ds := h.cells ao n cap) (nxlf rfl) ag33 rfl B3 (Hd.all hk) (Hd.len hk) (by first | exact mem0 | exact mem1 | exact mem2 | exact mem3) rfl ?_
  refine op_callA (nxla rfl) (.cons rfl .nil) (cut_f hk hA) Try.func7 rfl rfl (by simp) rfl ?_
  rintro v15 L15 ⟨N15, a15, k15, c15, rfl, rfl⟩
  change At _ _ _ [N15, N3, R] _
  refine op_alloc (nxla rfl) zeHdr rfl (fun N7 b7 B7 => ?_)
  change Blk N7 b7 _ (zh.cells none 0 0) at B7
  refine op_store (nxl rfl) sz33 rfl rfl (cells_agg _) (Hd.len hk) Hd.ones B7 (by rw [Hd.len zh_ok, Hd.len hk]; exact Nat.le_refl _) sel0 (fun N7 B7 => ?_)
  rw [setL_whole (by rw [Hd.len hk, Hd.len zh_ok])] at B7
  refine At.opsNil ?_
  refine At.norm (hk_2 ?_)
  refine At.seq fun K3 hk_3 => ?_
  refine At.meet (fun fr_ hp_ => ∃ (u w : UInt64), fr_ = [(1, .int .u64 (u.toNat : Int)), (2, .int .u64 (w.toNat : Int)), (7, .pointer (some ⟨b7, 0, none⟩))] ∧ hp_ = [N7, R] ∧ (u.toNat ≤ w.toNat)) ?_ (fun K3_ jk_3 => ?_)
  rotate_left
  · skip
    refine At.seq fun K4 hk_4 => ?_
    refine At.region ?_
    refine op_move (nxlf rfl) rfl rfl ?_
    refine op_move (nxlf rfl) rfl rfl ?_
    refine op_gtr (nxlf rfl) rfl rfl rfl ?_
    refine At.opsNil ?_
    refine At.norm (hk_4 ?_)
    refine At.condP rfl (fun c18 => ?_) (fun c18 => ?_)
    · refine At.region ?_
      refine op_move (nxlf rfl) rfl rfl ?_
      refine op_move (nxlf rfl) rfl rfl ?_
      refine op_assign (nxlf rfl) rfl rfl ?_
      refine op_assign (nxlf rfl) rfl rfl ?_
      refine At.opsNil ?_
      refine At.sub (L' := [N7, R]) (.cons_cons _ (.cons _ (.cons _ (.cons_cons _ (.slnil))))) ?_
      refine At.norm (jk_3 ?_ (.refl _) ⟨y, x, rfl, rfl, by omega⟩)
      exact .cons (by first | exact lkI rfl (by omega) | rfl) (.cons (by first | exact lkI rfl (by omega) | rfl) (.cons (by first | exact lkI rfl (by omega) | rfl) .nil))
    · refine At.skip ?_
      refine At.sub (L' := [N7, R]) (.cons_cons _ (.cons _ (.cons _ (.cons_cons _ (.slnil))))) ?_
      refine At.norm (jk_3 ?_ (.refl _) ⟨x, y, rfl, rfl, by omega⟩)
      exact .cons (by first | exact lkI rfl (by omega) | rfl) (.cons (by first | exact lkI rfl (by omega) | rfl) (.cons (by first | exact lkI rfl (by omega) | rfl) .nil))
  rintro _ _ ⟨u, w, rfl, rfl, huw⟩
  have hm1 : decide (0 < cmpI (blobF u.toNat) (blobF w.toNat)) = false := decide_eq_false (by have := cmpI_le.2 (blobF_mono huw); omega)
  have hm2 : decide (cmpI (blobF u.toNat) 1 < 0) = false := decide_eq_false (cmpI_ge (blobF_one _))
  refine hk_3 ?_
  refine At.seq fun K5 hk_5 => ?_
  refine At.seq fun K6 hk_6 => ?_
  refine At.region ?_
  refine op_move (nxlf rfl) rfl rfl ?_
  refine op_callA (nxla rfl) (.cons rfl .nil) (FBlobFee_f u) Try.func11 rfl rfl (by simp) rfl ?_
  rintro v22 L22 ⟨rfl, rfl⟩
  change At _ _ _ [N7, R] _
  refine op_move (nxlf rfl) rfl rfl ?_
  refine op_callA (nxla rfl) (.cons rfl .nil) (FBlobFee_f w) Try.func11 rfl rfl (by simp) rfl ?_
  rintro v24 L24 ⟨rfl, rfl⟩
  change At _ _ _ [N7, R] _
  refine op_callA (nxla rfl) (.cons rfl (.cons rfl .nil)) (rCmp_w (blobF_lt _) (blobF_lt _)) Try.func9 rfl rfl (by simp) rfl ?_
  rintro v25 L25 ⟨rfl, rfl⟩
  change At _ _ _ [N7, R] _
  refine op_gtr (nxlf rfl) rfl rfl rfl ?_
  rw [hm1]
  refine op_move (nxlf rfl) rfl rfl ?_
  refine op_move (nxgf rfl rfl rfl rfl) rfl rfl ?_
  refine op_callA (nxga rfl rfl rfl rfl) (.cons rfl .nil) (FBlobFee_f u) Try.func11 rfl rfl (by simp) rfl ?_
  rintro v29 L29 ⟨rfl, rfl⟩
  change At _ _ _ [N7, R] _
  refine op_buildA (out := [_, .int .u64 0, .int .u64 0, .int .u64 0]) (nxgf rfl rfl rfl rfl) ze29 ae29 (.cons rfl .nil) rfl rfl ?_
  refine op_callA (nxga rfl rfl rfl rfl) (.cons rfl (.cons rfl .nil)) (rCmp_one (blobF_lt _)) Try.func9 rfl rfl (by simp) rfl ?_
  rintro v31 L31 ⟨rfl, rfl⟩
  change At _ _ _ [N7, R] _
  refine op_lss (nxgf rfl rfl rfl rfl) rfl rfl rfl ?_
  rw [hm2]
  refine op_pickF (nxlf rfl) rfl rfl rfl ?_
  refine op_move (nxlf rfl) rfl rfl ?_
  refine op_callA (nxga rfl rfl rfl rfl) .nil (Hwakes_f) Try.func10 rfl rfl (by simp) rfl ?_
  rintro v35 L35 ⟨rfl, rfl⟩
  change At _ _ _ [N7, R] _
  refine op_not (nxgf rfl rfl rfl rfl) rfl rfl ?_
  refine op_pickF (nxlf rfl) rfl rfl rfl ?_
  refine At.opsNil ?_
  refine At.norm (hk_6 ?_)
  refine At.condF rfl ?_
  refine At.skip ?_
  refine At.norm (hk_5 ?_)
  refine At.seq fun K7 hk_7 => ?_
  refine At.region ?_
  refine op_loadAggB (ds := h.cells a15 k15 c15) (nxlf rfl) ag33 rfl B7 (Hd.all hk) (Hd.len hk) (by first | exact mem0 | exact mem1 | exact mem2 | exact mem3) rfl ?_
  refine op_callA (nxla rfl) (.cons rfl (.cons rfl .nil)) (FBaseFee_n hk hf) Try.func12 rfl rfl (by simp) rfl ?_
  rintro v40 L40 ⟨rfl, rfl⟩
  change At _ _ _ [N7, R] _
  refine op_move (nxlf rfl) rfl rfl ?_
  refine op_extract (nxlf rfl) rfl rfl rfl ?_
  refine op_extract (nxlf rfl) rfl rfl rfl ?_
  refine op_alloc (nxla rfl) ze29 rfl (fun N8 b8 B8 => ?_)
  change Blk N8 b8 _ [.int .u64 0, .int .u64 0, .int .u64 0, .int .u64 0] at B8
  refine op_store (nxl rfl) sz29 rfl rfl rfl rfl rfl B8 (by simp) sel0 (fun N8 B8 => ?_)
  rw [setL_whole (by simp)] at B8
  refine op_assign (nxlf rfl) rfl rfl ?_
  refine At.opsNil ?_
  refine At.norm (hk_7 ?_)
  refine At.seq fun K8 hk_8 => ?_
  refine At.seq fun K9 hk_9 => ?_
  refine At.region ?_
  refine op_move (nxlf rfl) rfl rfl ?_
  refine op_not (nxlf rfl) rfl rfl ?_
  refine op_move (nxlf rfl) rfl rfl ?_
  refine op_skip rfl rfl rfl rfl rfl rfl rfl ?_
  refine op_skip rfl rfl rfl rfl rfl rfl rfl ?_
  refine op_skip rfl rfl rfl rfl rfl rfl rfl ?_
  refine op_skip rfl rfl rfl rfl rfl rfl rfl ?_
  refine op_skip rfl rfl rfl rfl rfl rfl rfl ?_
  refine op_pickT (nxlf rfl) rfl rfl rfl ?_
  refine At.opsNil ?_
  refine At.norm (hk_9 ?_)
  refine At.condT rfl ?_
  refine At.seq fun K10 hk_10 => ?_
  refine At.region ?_
  refine op_assign (nxlf rfl) rfl rfl ?_
  refine At.opsNil ?_
  refine At.norm (hk_10 ?_)
  refine At.ret (At.thenRet (?_))
  refine At.sub (L' := [R]) (.cons _ (.cons _ (.cons_cons _ (.slnil)))) ?_
  refine At.ret1 (L1 := []) rfl (.tmp rfl .nil) (.refl _) (.refl _) ?_
  exact ⟨rfl, rfl⟩
set_option maxRecDepth 100000 in
set_option maxHeartbeats 4000000 in
theorem HeadSlow_y (hk : h.Ok) (hA : RSl N 1 ao n cap (u8s l)) (hf : feeR false h.gl.toNat h.gu.toNat h.bf = (X, true)) (hg0 : 0 < h.gl.toNat / 2) (hX : X = baseF h.gl.toNat h.gu.toNat h.bf) (hXW : X < WW) (x y : UInt64) : Fn Try.prog 4 #[.agg (h.cells ao n cap).toArray, .int .u64 (x.toNat : Int), .int .u64 (y.toNat : Int)] [] [N] (fun v L => v = .bool true ∧ L = []) := by
  have hbf := hk.bf
  have lb := dword_len hbf
  have lX := dword_len hXW
  have l8 : (digsOf (h.bf / 2 ^ 3)).length ≤ 8 := Nat.le_trans (digs_mono (Nat.div_le_self ..)) lb
  have l1 := du64_len 1
  have e1 : (1 : UInt64).toNat = 1 := rfl
  have l81 : (digsOf (h.bf / 2 ^ 3 + 1)).length ≤ 9 := digs_add2 l8 (by rw [e1] at l1; omega)
  obtain ⟨g, hg⟩ : ∃ g, h.gl / 2 = g := ⟨_, rfl⟩
  have hgn : g.toNat = h.gl.toNat / 2 := by rw [← hg, UInt64.toNat_div]; rfl
  obtain ⟨r, hr⟩ : ∃ r, h.gl % 2 = r := ⟨_, rfl⟩
  have hrn : r.toNat = h.gl.toNat % 2 := by rw [← hr, UInt64.toNat_mod]; rfl
  refine Fn.enter (vs := [.agg (h.cells ao n cap).toArray, .int .u64 (x.toNat : Int), .int .u64 (y.toNat : Int)]) Try.func4 rfl rfl rfl ?_
  intro E R hR
  have hA := hA.le (hR N (by simp))
  change At _ _ E [R] _
  refine At.seq fun K1 hk_1 => ?_
  refine At.region ?_
  refine op_box (nxla rfl) rfl rfl rfl (fun N3 b3 B3 => ?_)
  change Blk N3 b3 _ (h.cells ao n cap) at B3
  refine op_assign (nxlf rfl) rfl rfl ?_
  refine At.opsNil ?_
  refine At.norm (hk_1 ?_)
  refine At.seq fun K2 hk_2 => ?_
  refine At.region ?_
  refine op_loadAggB (ds := h.cells ao n cap) (nxlf rfl) ag33 rfl B3 (Hd.all hk) (Hd.len hk) (by first | exact mem0 | exact mem1 | exact mem2 | exact mem3) rfl ?_
  refine op_callA (nxla rfl) (.cons rfl .nil) (cut_f hk hA) Try.func7 rfl rfl (by simp) rfl ?_
  rintro v15 L15 ⟨N15, a15, k15, c15, rfl, rfl⟩
  change At _ _ _ [N15, N3, R] _
  refine op_alloc (nxla rfl) zeHdr rfl (fun N7 b7 B7 => ?_)
  change Blk N7 b7 _ (zh.cells none 0 0) at B7
  refine op_store (nxl rfl) sz33 rfl rfl (cells_agg _) (Hd.len hk) Hd.ones B7 (by rw [Hd.len zh_ok, Hd.len hk]; exact Nat.le_refl _) sel0 (fun N7 B7 => ?_)
  rw [setL_whole (by rw [Hd.len hk, Hd.len zh_ok])] at B7
  refine At.opsNil ?_
  refine At.norm (hk_2 ?_)
  refine At.seq fun K3 hk_3 => ?_
  refine At.meet (fun fr_ hp_ => ∃ (u w : UInt64), fr_ = [(1, .int .u64 (u.toNat : Int)), (2, .int .u64 (w.toNat : Int)), (7, .pointer (some ⟨b7, 0, none⟩))] ∧ hp_ = [N7, R] ∧ (u.toNat ≤ w.toNat)) ?_ (fun K3_ jk_3 => ?_)
  rotate_left
  · skip
    refine At.seq fun K4 hk_4 => ?_
    refine At.region ?_
    refine op_move (nxlf rfl) rfl rfl ?_
    refine op_move (nxlf rfl) rfl rfl ?_
    refine op_gtr (nxlf rfl) rfl rfl rfl ?_
    refine At.opsNil ?_
    refine At.norm (hk_4 ?_)
    refine At.condP rfl (fun c18 => ?_) (fun c18 => ?_)
    · refine At.region ?_
      refine op_move (nxlf rfl) rfl rfl ?_
      refine op_move (nxlf rfl) rfl rfl ?_
      refine op_assign (nxlf rfl) rfl rfl ?_
      refine op_assign (nxlf rfl) rfl rfl ?_
      refine At.opsNil ?_
      refine At.sub (L' := [N7, R]) (.cons_cons _ (.cons _ (.cons _ (.cons_cons _ (.slnil))))) ?_
      refine At.norm (jk_3 ?_ (.refl _) ⟨y, x, rfl, rfl, by omega⟩)
      exact .cons (by first | exact lkI rfl (by omega) | rfl) (.cons (by first | exact lkI rfl (by omega) | rfl) (.cons (by first | exact lkI rfl (by omega) | rfl) .nil))
    · refine At.skip ?_
      refine At.sub (L' := [N7, R]) (.cons_cons _ (.cons _ (.cons _ (.cons_cons _ (.slnil))))) ?_
      refine At.norm (jk_3 ?_ (.refl _) ⟨x, y, rfl, rfl, by omega⟩)
      exact .cons (by first | exact lkI rfl (by omega) | rfl) (.cons (by first | exact lkI rfl (by omega) | rfl) (.cons (by first | exact lkI rfl (by omega) | rfl) .nil))
  rintro _ _ ⟨u, w, rfl, rfl, huw⟩
  have hm1 : decide (0 < cmpI (blobF u.toNat) (blobF w.toNat)) = false := decide_eq_false (by have := cmpI_le.2 (blobF_mono huw); omega)
  have hm2 : decide (cmpI (blobF u.toNat) 1 < 0) = false := decide_eq_false (cmpI_ge (blobF_one _))
  refine hk_3 ?_
  refine At.seq fun K5 hk_5 => ?_
  refine At.seq fun K6 hk_6 => ?_
  refine At.region ?_
  refine op_move (nxlf rfl) rfl rfl ?_
  refine op_callA (nxla rfl) (.cons rfl .nil) (FBlobFee_f u) Try.func11 rfl rfl (by simp) rfl ?_
  rintro v22 L22 ⟨rfl, rfl⟩
  change At _ _ _ [N7, R] _
  refine op_move (nxlf rfl) rfl rfl ?_
  refine op_callA (nxla rfl) (.cons rfl .nil) (FBlobFee_f w) Try.func11 rfl rfl (by simp) rfl ?_
  rintro v24 L24 ⟨rfl, rfl⟩
  change At _ _ _ [N7, R] _
  refine op_callA (nxla rfl) (.cons rfl (.cons rfl .nil)) (rCmp_w (blobF_lt _) (blobF_lt _)) Try.func9 rfl rfl (by simp) rfl ?_
  rintro v25 L25 ⟨rfl, rfl⟩
  change At _ _ _ [N7, R] _
  refine op_gtr (nxlf rfl) rfl rfl rfl ?_
  rw [hm1]
  refine op_move (nxlf rfl) rfl rfl ?_
  refine op_move (nxgf rfl rfl rfl rfl) rfl rfl ?_
  refine op_callA (nxga rfl rfl rfl rfl) (.cons rfl .nil) (FBlobFee_f u) Try.func11 rfl rfl (by simp) rfl ?_
  rintro v29 L29 ⟨rfl, rfl⟩
  change At _ _ _ [N7, R] _
  refine op_buildA (out := [_, .int .u64 0, .int .u64 0, .int .u64 0]) (nxgf rfl rfl rfl rfl) ze29 ae29 (.cons rfl .nil) rfl rfl ?_
  refine op_callA (nxga rfl rfl rfl rfl) (.cons rfl (.cons rfl .nil)) (rCmp_one (blobF_lt _)) Try.func9 rfl rfl (by simp) rfl ?_
  rintro v31 L31 ⟨rfl, rfl⟩
  change At _ _ _ [N7, R] _
  refine op_lss (nxgf rfl rfl rfl rfl) rfl rfl rfl ?_
  rw [hm2]
  refine op_pickF (nxlf rfl) rfl rfl rfl ?_
  refine op_move (nxlf rfl) rfl rfl ?_
  refine op_callA (nxga rfl rfl rfl rfl) .nil (Hwakes_f) Try.func10 rfl rfl (by simp) rfl ?_
  rintro v35 L35 ⟨rfl, rfl⟩
  change At _ _ _ [N7, R] _
  refine op_not (nxgf rfl rfl rfl rfl) rfl rfl ?_
  refine op_pickF (nxlf rfl) rfl rfl rfl ?_
  refine At.opsNil ?_
  refine At.norm (hk_6 ?_)
  refine At.condF rfl ?_
  refine At.skip ?_
  refine At.norm (hk_5 ?_)
  refine At.seq fun K7 hk_7 => ?_
  refine At.region ?_
  refine op_loadAggB (ds := h.cells a15 k15 c15) (nxlf rfl) ag33 rfl B7 (Hd.all hk) (Hd.len hk) (by first | exact mem0 | exact mem1 | exact mem2 | exact mem3) rfl ?_
  refine op_callA (nxla rfl) (.cons rfl (.cons rfl .nil)) (FBaseFee_y hk hf) Try.func12 rfl rfl (by simp) rfl ?_
  rintro v40 L40 ⟨rfl, rfl⟩
  change At _ _ _ [N7, R] _
  refine op_move (nxlf rfl) rfl rfl ?_
  refine op_extract (nxlf rfl) rfl rfl rfl ?_
  refine op_extract (nxlf rfl) rfl rfl rfl ?_
  refine op_alloc (nxla rfl) ze29 rfl (fun N8 b8 B8 => ?_)
  change Blk N8 b8 _ [.int .u64 0, .int .u64 0, .int .u64 0, .int .u64 0] at B8
  refine op_store (nxl rfl) sz29 rfl rfl rfl rfl rfl B8 (by simp) sel0 (fun N8 B8 => ?_)
  rw [setL_whole (by simp)] at B8
  refine op_assign (nxlf rfl) rfl rfl ?_
  refine At.opsNil ?_
  refine At.norm (hk_7 ?_)
  refine At.seq fun K8 hk_8 => ?_
  refine At.seq fun K9 hk_9 => ?_
  refine At.region ?_
  refine op_move (nxlf rfl) rfl rfl ?_
  refine op_not (nxlf rfl) rfl rfl ?_
  refine op_move (nxlf rfl) rfl rfl ?_
  refine op_fieldAddr (nxgf rfl rfl rfl rfl) fl33_11 rfl rfl ?_
  refine op_loadB (nxgf rfl rfl rfl rfl) sc27 rfl B7 (by first | rfl | exact Hd.gl_at hk | exact Hd.gu_at hk) mem1 rfl ?_
  refine op_fieldAddr (nxgf rfl rfl rfl rfl) fl33_10 rfl rfl ?_
  refine op_loadB (nxgf rfl rfl rfl rfl) sc27 rfl B7 (by first | rfl | exact Hd.gl_at hk | exact Hd.gu_at hk) mem1 rfl ?_
  refine op_gtr (nxgf rfl rfl rfl rfl) rfl rfl rfl ?_
  refine op_pickF (nxlf rfl) rfl rfl rfl ?_
  refine At.opsNil ?_
  refine At.norm (hk_9 ?_)
  refine At.condP rfl (fun c51 => ?_) (fun c51 => ?_)
  · refine At.seq fun K10 hk_10 => ?_
    refine At.region ?_
    refine op_assign (nxlf rfl) rfl rfl ?_
    refine At.opsNil ?_
    refine At.norm (hk_10 ?_)
    refine At.ret (At.thenRet (?_))
    refine At.sub (L' := [R]) (.cons _ (.cons _ (.cons_cons _ (.slnil)))) ?_
    refine At.ret1 (L1 := []) rfl (.tmp rfl .nil) (.refl _) (.refl _) ?_
    exact ⟨rfl, rfl⟩
  · refine At.skip ?_
    refine At.norm (hk_8 ?_)
    refine At.seq fun K11 hk_11 => ?_
    refine At.drawn [4] [0,1,3,2,4,5,6] (by kernel_rfl) (by kernel_rfl) ?_
    refine op_fieldAddr (nxof rfl rfl rfl (by kernel_rfl)) fl33_16 rfl rfl ?_
    -- an operation that writes, not last
    refine op_loadAggB (ds := u64s (wl h.bf)) (nxof rfl rfl rfl (by kernel_rfl)) ag29 rfl B7 (Hd.bfs hk) (by rw [u64s_len, length_wl]) (by first | exact mem0 | exact mem1 | exact mem2 | exact mem3) rfl ?_
    refine op_loadAggB (ds := u64s (wl X)) (nxof rfl rfl rfl (by kernel_rfl)) ag29 rfl B8 (by first | (rw [List.drop_zero, List.take_of_length_le (by first | (simp; done) | (simp; omega))]; done) | rfl) (by first | (simp; done) | (simp; omega)) mem0 rfl ?_
    refine op_callA (nxoa rfl rfl rfl) (.cons rfl .nil) (rN_w hbf) Try.func13 rfl rfl (by simp) rfl ?_
    rintro v54 L54 ⟨N54, p54, c54, rfl, rfl, s54⟩
    change At _ _ _ [N54, N8, N7, R] _
    refine op_callA (nxosa rfl rfl rfl rfl) (.cons rfl .nil) (rN_w hXW) Try.func13 rfl rfl (by simp) rfl ?_
    rintro v56 L56 ⟨N56, p56, c56, rfl, rfl, s56⟩
    change At _ _ _ [N56, N54, N8, N7, R] _
    refine op_assign (nxof rfl rfl rfl (by kernel_rfl)) rfl rfl ?_
    refine op_assign (nxof rfl rfl rfl (by kernel_rfl)) rfl rfl ?_
    refine At.oneNil ?_
    refine At.norm (hk_11 ?_)
    refine At.seq fun K12 hk_12 => ?_
    refine At.region ?_
    refine op_move (nxlf rfl) rfl rfl ?_
    refine op_callA (nxla rfl) (.cons rfl (.cons rfl .nil)) (dShr_f s54 3 (by omega) (by omega)) Try.func15 rfl rfl (by simp) rfl ?_
    rintro v58 L58 ⟨N58, p58, c58, rfl, rfl, s58⟩
    change At _ _ _ [N58, N56, N54, N8, N7, R] _
    refine op_callA (nxla rfl) (.cons rfl .nil) (Of32_f 1) Try.func16 rfl rfl (by simp) rfl ?_
    rintro v59 L59 ⟨N59, p59, c59, rfl, rfl, s59⟩
    change At _ _ _ [N59, N58, N56, N54, N8, N7, R] _
    refine op_callA (nxla rfl) (.cons rfl (.cons rfl .nil)) (dAdd_f s58 s59 (by omega) (by omega)) Try.func14 rfl rfl (by simp) rfl ?_
    rintro v60 L60 ⟨N60, p60, c60, rfl, rfl, s60⟩
    change At _ _ _ [N60, N59, N58, N56, N54, N8, N7, R] _
    rw [e1] at s60 ⊢
    refine op_assign (nxlf rfl) rfl rfl ?_
    refine At.opsNil ?_
    refine At.norm (hk_12 ?_)
    refine At.seq fun K13 hk_13 => ?_
    refine At.region ?_
    refine op_fieldAddr (nxlf rfl) fl33_10 rfl rfl ?_
    refine op_loadB (nxlf rfl) sc27 rfl B7 (by first | rfl | exact Hd.gl_at hk | exact Hd.gu_at hk) mem6 rfl ?_
    refine op_quoU (b := 2) (nxlf rfl) rfl rfl (by first | omega | decide) rfl ?_
    rw [hg]
    refine op_assign (nxlf rfl) rfl rfl ?_
    refine At.opsNil ?_
    refine At.norm (hk_13 ?_)
    refine At.seq fun K14 hk_14 => ?_
    refine At.seq fun K15 hk_15 => ?_
    refine At.region ?_
    refine op_fieldAddr (nxlf rfl) fl33_11 rfl rfl ?_
    refine op_loadB (nxlf rfl) sc27 rfl B7 (by first | rfl | exact Hd.gl_at hk | exact Hd.gu_at hk) mem6 rfl ?_
    refine op_move (nxlf rfl) rfl rfl ?_
    refine op_eql (nxlf rfl) rfl rfl rfl ?_
    refine At.opsNil ?_
    refine At.norm (hk_15 ?_)
    refine At.condP rfl (fun c67 => ?_) (fun c67 => ?_)
    · have hXb : X = h.bf := by rw [hX, show h.gu.toNat = h.gl.toNat / 2 by omega, baseF_eq]
      refine At.seq fun K16 hk_16 => ?_
      refine At.region ?_
      refine op_loadAggB (ds := u64s (wl X)) (nxlf rfl) ag29 rfl B8 (by first | (rw [List.drop_zero, List.take_of_length_le (by first | (simp; done) | (simp; omega))]; done) | rfl) (by first | (simp; done) | (simp; omega)) mem5 rfl ?_
      refine op_fieldAddr (nxlf rfl) fl33_16 rfl rfl ?_
      refine op_loadAggB (ds := u64s (wl h.bf)) (nxlf rfl) ag29 rfl B7 (Hd.bfs hk) (by rw [u64s_len, length_wl]) (by first | exact mem0 | exact mem1 | exact mem2 | exact mem3 | exact mem4 | exact mem5 | exact mem6 | exact mem7) rfl ?_
      refine op_eqW (a := wl X) (b := wl h.bf) (nxlf rfl) ae29 Try.underlying27 (by kernel_rfl) rfl rfl rfl rfl rfl ?_
      refine op_assign (nxlf rfl) rfl rfl ?_
      refine At.opsNil ?_
      refine At.norm (hk_16 ?_)
      refine At.ret (At.thenRet (?_))
      refine At.sub (L' := [R]) (.cons _ (.cons _ (.cons _ (.cons _ (.cons _ (.cons _ (.cons _ (.cons_cons _ (.slnil))))))))) ?_
      refine At.ret1 (L1 := []) rfl (.tmp rfl .nil) (.refl _) (.refl _) ?_
      exact ⟨by rw [decide_eq_true (by rw [hXb])], rfl⟩
    · refine At.skip ?_
      refine At.norm (hk_14 ?_)
      refine At.seq fun K17 hk_17 => ?_
      refine At.seq fun K18 hk_18 => ?_
      refine At.region ?_
      refine op_fieldAddr (nxlf rfl) fl33_11 rfl rfl ?_
      refine op_loadB (nxlf rfl) sc27 rfl B7 (by first | rfl | exact Hd.gl_at hk | exact Hd.gu_at hk) mem6 rfl ?_
      refine op_move (nxlf rfl) rfl rfl ?_
      refine op_gtr (nxlf rfl) rfl rfl rfl ?_
      refine At.opsNil ?_
      refine At.norm (hk_18 ?_)
      refine At.condP rfl (fun c75 => ?_) (fun c75 => ?_)
      · have hup : h.gl.toNat / 2 < h.gu.toNat := by omega
        have hgt : decide (0 < cmpI X h.bf) = true := decide_eq_true (cmpI_gt (by rw [hX]; exact slow_gt hup))
        have hle : h.bf ≤ X := by rw [hX]; exact Nat.le_of_lt (slow_gt hup)
        have lD : (digsOf (X - h.bf)).length ≤ 8 := Nat.le_trans (digs_mono (Nat.sub_le ..)) lX
        refine At.seq fun K19 hk_19 => ?_
        refine At.seq fun K20 hk_20 => ?_
        refine At.region ?_
        refine op_fieldAddr (nxlf rfl) fl33_10 rfl rfl ?_
        refine op_loadB (nxlf rfl) sc27 rfl B7 (by first | rfl | exact Hd.gl_at hk | exact Hd.gu_at hk) mem6 rfl ?_
        refine op_remU (b := 2) (nxlf rfl) rfl rfl (by first | omega | decide) rfl ?_
        rw [hr]
        refine op_eql (nxlf rfl) rfl rfl rfl ?_
        refine op_move (nxlf rfl) rfl rfl ?_
        refine At.partP (d := 80) rfl (fun g80 => ?_) (fun g80 => ?_)
        · refine op_fieldAddr (nxgf rfl rfl rfl rfl) fl33_11 rfl rfl ?_
          refine op_loadB (nxgf rfl rfl rfl rfl) sc27 rfl B7 (by first | rfl | exact Hd.gl_at hk | exact Hd.gu_at hk) mem6 rfl ?_
          refine op_fieldAddr (nxgf rfl rfl rfl rfl) fl33_10 rfl rfl ?_
          refine op_loadB (nxgf rfl rfl rfl rfl) sc27 rfl B7 (by first | rfl | exact Hd.gl_at hk | exact Hd.gu_at hk) mem6 rfl ?_
          refine op_eql (nxgf rfl rfl rfl rfl) rfl rfl rfl ?_
          refine op_pickT (nxlf rfl) rfl rfl rfl ?_
          refine At.opsNil ?_
          refine At.norm (hk_20 ?_)
          refine At.condP rfl (fun c86 => ?_) (fun c86 => ?_)
          · refine At.region ?_
            refine op_move (nxlf rfl) rfl rfl ?_
            refine op_move (nxlf rfl) rfl rfl ?_
            refine op_callA (nxla rfl) (.cons rfl (.cons rfl .nil)) (dAdd_f s60 s54 (by omega) (by omega)) Try.func14 rfl rfl (by simp) rfl ?_
            rintro v89 L89 ⟨N89, p89, c89, rfl, rfl, s89⟩
            change At _ _ _ [N89, N60, N59, N58, N56, N54, N8, N7, R] _
            have hM : decide (cmpI (X - h.bf) (h.bf / 2 ^ 3 + 1 + h.bf) ≤ 0) = true := decide_eq_true (cmpI_le.2 (by rw [hX]; exact slow_up2 hup (by omega) hg0))
            have sM := s89
            refine op_assign (nxlf rfl) rfl rfl ?_
            refine At.opsNil ?_
            refine At.norm (hk_19 ?_)
            refine At.seq fun K21 hk_21 => ?_
            refine At.region ?_
            refine op_move (nxlf rfl) rfl rfl ?_
            refine op_move (nxlf rfl) rfl rfl ?_
            refine op_callA (nxla rfl) (.cons rfl (.cons rfl .nil)) (Cmp32_f s56 s54) Try.func17 rfl rfl (by simp) rfl ?_
            rintro v92 L92 ⟨rfl, rfl⟩
            change At _ _ _ [N89, N60, N59, N58, N56, N54, N8, N7, R] _
            refine op_gtr (nxlf rfl) rfl rfl rfl ?_
            rw [hgt]
            refine op_move (nxlf rfl) rfl rfl ?_
            refine op_move (nxgf rfl rfl rfl rfl) rfl rfl ?_
            refine op_move (nxgf rfl rfl rfl rfl) rfl rfl ?_
            refine op_callA (nxga rfl rfl rfl rfl) (.cons rfl (.cons rfl .nil)) (dSub_f s56 s54 (by omega) hle) Try.func18 rfl rfl (by simp) rfl ?_
            rintro v97 L97 ⟨N97, p97, c97, rfl, rfl, s97⟩
            change At _ _ _ [N97, N89, N60, N59, N58, N56, N54, N8, N7, R] _
            refine op_move (nxgf rfl rfl rfl rfl) rfl rfl ?_
            refine op_callA (nxga rfl rfl rfl rfl) (.cons rfl (.cons rfl .nil)) (Cmp32_f s97 sM) Try.func17 rfl rfl (by simp) rfl ?_
            rintro v99 L99 ⟨rfl, rfl⟩
            change At _ _ _ [N97, N89, N60, N59, N58, N56, N54, N8, N7, R] _
            refine op_leq (nxgf rfl rfl rfl rfl) rfl rfl rfl ?_
            rw [hM]
            refine op_pickT (nxlf rfl) rfl rfl rfl ?_
            refine op_assign (nxlf rfl) rfl rfl ?_
            refine At.opsNil ?_
            refine At.norm (hk_21 ?_)
            refine At.ret (At.thenRet (?_))
            refine At.sub (L' := [R]) (.cons _ (.cons _ (.cons _ (.cons _ (.cons _ (.cons _ (.cons _ (.cons _ (.cons _ (.cons_cons _ (.slnil))))))))))) ?_
            refine At.ret1 (L1 := []) rfl (.tmp rfl .nil) (.refl _) (.refl _) ?_
            exact ⟨rfl, rfl⟩
          · have hM : decide (cmpI (X - h.bf) (h.bf / 2 ^ 3 + 1) ≤ 0) = true := decide_eq_true (cmpI_le.2 (by rw [hX]; exact slow_up1 hup (by omega)))
            have sM := s60
            refine At.skip ?_
            refine At.norm (hk_19 ?_)
            refine At.seq fun K22 hk_22 => ?_
            refine At.region ?_
            refine op_move (nxlf rfl) rfl rfl ?_
            refine op_move (nxlf rfl) rfl rfl ?_
            refine op_callA (nxla rfl) (.cons rfl (.cons rfl .nil)) (Cmp32_f s56 s54) Try.func17 rfl rfl (by simp) rfl ?_
            rintro v92 L92 ⟨rfl, rfl⟩
            change At _ _ _ [N60, N59, N58, N56, N54, N8, N7, R] _
            refine op_gtr (nxlf rfl) rfl rfl rfl ?_
            rw [hgt]
            refine op_move (nxlf rfl) rfl rfl ?_
            refine op_move (nxgf rfl rfl rfl rfl) rfl rfl ?_
            refine op_move (nxgf rfl rfl rfl rfl) rfl rfl ?_
            refine op_callA (nxga rfl rfl rfl rfl) (.cons rfl (.cons rfl .nil)) (dSub_f s56 s54 (by omega) hle) Try.func18 rfl rfl (by simp) rfl ?_
            rintro v97 L97 ⟨N97, p97, c97, rfl, rfl, s97⟩
            change At _ _ _ [N97, N60, N59, N58, N56, N54, N8, N7, R] _
            refine op_move (nxgf rfl rfl rfl rfl) rfl rfl ?_
            refine op_callA (nxga rfl rfl rfl rfl) (.cons rfl (.cons rfl .nil)) (Cmp32_f s97 sM) Try.func17 rfl rfl (by simp) rfl ?_
            rintro v99 L99 ⟨rfl, rfl⟩
            change At _ _ _ [N97, N60, N59, N58, N56, N54, N8, N7, R] _
            refine op_leq (nxgf rfl rfl rfl rfl) rfl rfl rfl ?_
            rw [hM]
            refine op_pickT (nxlf rfl) rfl rfl rfl ?_
            refine op_assign (nxlf rfl) rfl rfl ?_
            refine At.opsNil ?_
            refine At.norm (hk_22 ?_)
            refine At.ret (At.thenRet (?_))
            refine At.sub (L' := [R]) (.cons _ (.cons _ (.cons _ (.cons _ (.cons _ (.cons _ (.cons _ (.cons _ (.cons_cons _ (.slnil)))))))))) ?_
            refine At.ret1 (L1 := []) rfl (.tmp rfl .nil) (.refl _) (.refl _) ?_
            exact ⟨rfl, rfl⟩
        · have hM : decide (cmpI (X - h.bf) (h.bf / 2 ^ 3 + 1) ≤ 0) = true := decide_eq_true (cmpI_le.2 (by rw [hX]; exact slow_up1 hup (by omega)))
          have sM := s60
          refine op_skip rfl rfl rfl rfl rfl rfl rfl ?_
          refine op_skip rfl rfl rfl rfl rfl rfl rfl ?_
          refine op_skip rfl rfl rfl rfl rfl rfl rfl ?_
          refine op_skip rfl rfl rfl rfl rfl rfl rfl ?_
          refine op_skip rfl rfl rfl rfl rfl rfl rfl ?_
          refine op_pickF (nxlf rfl) rfl rfl rfl ?_
          refine At.opsNil ?_
          refine At.norm (hk_20 ?_)
          refine At.condF rfl ?_
          refine At.skip ?_
          refine At.norm (hk_19 ?_)
          refine At.seq fun K23 hk_23 => ?_
          refine At.region ?_
          refine op_move (nxlf rfl) rfl rfl ?_
          refine op_move (nxlf rfl) rfl rfl ?_
          refine op_callA (nxla rfl) (.cons rfl (.cons rfl .nil)) (Cmp32_f s56 s54) Try.func17 rfl rfl (by simp) rfl ?_
          rintro v92 L92 ⟨rfl, rfl⟩
          change At _ _ _ [N60, N59, N58, N56, N54, N8, N7, R] _
          refine op_gtr (nxlf rfl) rfl rfl rfl ?_
          rw [hgt]
          refine op_move (nxlf rfl) rfl rfl ?_
          refine op_move (nxgf rfl rfl rfl rfl) rfl rfl ?_
          refine op_move (nxgf rfl rfl rfl rfl) rfl rfl ?_
          refine op_callA (nxga rfl rfl rfl rfl) (.cons rfl (.cons rfl .nil)) (dSub_f s56 s54 (by omega) hle) Try.func18 rfl rfl (by simp) rfl ?_
          rintro v97 L97 ⟨N97, p97, c97, rfl, rfl, s97⟩
          change At _ _ _ [N97, N60, N59, N58, N56, N54, N8, N7, R] _
          refine op_move (nxgf rfl rfl rfl rfl) rfl rfl ?_
          refine op_callA (nxga rfl rfl rfl rfl) (.cons rfl (.cons rfl .nil)) (Cmp32_f s97 sM) Try.func17 rfl rfl (by simp) rfl ?_
          rintro v99 L99 ⟨rfl, rfl⟩
          change At _ _ _ [N97, N60, N59, N58, N56, N54, N8, N7, R] _
          refine op_leq (nxgf rfl rfl rfl rfl) rfl rfl rfl ?_
          rw [hM]
          refine op_pickT (nxlf rfl) rfl rfl rfl ?_
          refine op_assign (nxlf rfl) rfl rfl ?_
          refine At.opsNil ?_
          refine At.norm (hk_23 ?_)
          refine At.ret (At.thenRet (?_))
          refine At.sub (L' := [R]) (.cons _ (.cons _ (.cons _ (.cons _ (.cons _ (.cons _ (.cons _ (.cons _ (.cons_cons _ (.slnil)))))))))) ?_
          refine At.ret1 (L1 := []) rfl (.tmp rfl .nil) (.refl _) (.refl _) ?_
          exact ⟨rfl, rfl⟩
      · obtain ⟨hd1, hd2⟩ := slow_dn (b := h.bf) (show ¬ h.gl.toNat / 2 < h.gu.toNat by omega)
        rw [← hX] at hd1 hd2
        have hgt : decide (cmpI X h.bf ≤ 0) = true := decide_eq_true (cmpI_le.2 hd1)
        have hM : decide (cmpI (h.bf - X) (h.bf / 2 ^ 3 + 1) ≤ 0) = true := decide_eq_true (cmpI_le.2 hd2)
        have lD : (digsOf (h.bf - X)).length ≤ 8 := Nat.le_trans (digs_mono (Nat.sub_le ..)) lb
        refine At.skip ?_
        refine At.norm (hk_17 ?_)
        refine At.seq fun K24 hk_24 => ?_
        refine At.region ?_
        refine op_move (nxlf rfl) rfl rfl ?_
        refine op_move (nxlf rfl) rfl rfl ?_
        refine op_callA (nxla rfl) (.cons rfl (.cons rfl .nil)) (Cmp32_f s56 s54) Try.func17 rfl rfl (by simp) rfl ?_
        rintro v104 L104 ⟨rfl, rfl⟩
        change At _ _ _ [N60, N59, N58, N56, N54, N8, N7, R] _
        refine op_leq (nxlf rfl) rfl rfl rfl ?_
        rw [hgt]
        refine op_move (nxlf rfl) rfl rfl ?_
        refine op_move (nxgf rfl rfl rfl rfl) rfl rfl ?_
        refine op_move (nxgf rfl rfl rfl rfl) rfl rfl ?_
        refine op_callA (nxga rfl rfl rfl rfl) (.cons rfl (.cons rfl .nil)) (dSub_f s54 s56 (by omega) hd1) Try.func18 rfl rfl (by simp) rfl ?_
        rintro v109 L109 ⟨N109, p109, c109, rfl, rfl, s109⟩
        change At _ _ _ [N109, N60, N59, N58, N56, N54, N8, N7, R] _
        refine op_move (nxgf rfl rfl rfl rfl) rfl rfl ?_
        refine op_callA (nxga rfl rfl rfl rfl) (.cons rfl (.cons rfl .nil)) (Cmp32_f s109 s60) Try.func17 rfl rfl (by simp) rfl ?_
        rintro v111 L111 ⟨rfl, rfl⟩
        change At _ _ _ [N109, N60, N59, N58, N56, N54, N8, N7, R] _
        refine op_leq (nxgf rfl rfl rfl rfl) rfl rfl rfl ?_
        rw [hM]
        refine op_pickT (nxlf rfl) rfl rfl rfl ?_
        refine op_assign (nxlf rfl) rfl rfl ?_
        refine At.opsNil ?_
        refine At.norm (hk_24 ?_)
        refine At.ret (?_)
        refine At.sub (L' := [R]) (.cons _ (.cons _ (.cons _ (.cons _ (.cons _ (.cons _ (.cons _ (.cons _ (.cons_cons _ (.slnil)))))))))) ?_
        refine At.ret1 (L1 := []) rfl (.tmp rfl .nil) (.refl _) (.refl _) ?_
        exact ⟨rfl, rfl⟩
theorem HeadSlow_f (hk : h.Ok) (hA : RSl N 1 ao n cap (u8s l)) (x y : UInt64) : Fn Try.prog 4 #[.agg (h.cells ao n cap).toArray, .int .u64 (x.toNat : Int), .int .u64 (y.toNat : Int)] [] [N] (fun v L => v = .bool true ∧ L = []) := by
  by_cases h0 : h.gl.toNat / 2 = 0
  · exact HeadSlow_n hk hA (feeR_0 h0) x y
  · by_cases hw : baseF h.gl.toNat h.gu.toNat h.bf < WW
    · refine HeadSlow_y hk hA (X := baseF h.gl.toNat h.gu.toNat h.bf) ?_ (by omega) rfl hw x y
      rw [feeR_1 h0, fitV_y hw, decide_eq_true hw]
    · refine HeadSlow_n hk hA (X := fitV (baseF h.gl.toNat h.gu.toNat h.bf)) ?_ x y
      rw [feeR_1 h0, decide_eq_false hw]
end
end Go.Proofs.Ytbmlhdecnfplaaa
