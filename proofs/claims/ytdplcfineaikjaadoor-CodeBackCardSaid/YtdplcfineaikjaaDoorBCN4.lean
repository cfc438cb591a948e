/- The operations by the reference; operations by name. Condition: the table of white space is laid. -/
import Derived.Test.YtdplcfineaikjaaDoorBCN3
namespace Go.Proofs.YtdplcfineaikjaaDoor
set_option linter.unusedVariables false
set_option linter.unusedSimpArgs false
open Go Go.RowKit
theorem rRow_no {f op : Int} (hno : opM f op = false) : Fn Tryd.prog 16 #[.int .i64 f, .int .i64 op] [] [] (fun v L => v = .tuple #[str [], .int .i64 0, .int .i64 0, .bool false] ∧ L = []) := by
  refine Fn.enter (vs := [.int .i64 f, .int .i64 op]) Tryd.func16 rfl rfl rfl ?_
  intro E R hR
  change At _ _ E [R] _
  refine At.seq fun K1 hk_1 => ?_
  refine At.region ?_
  refine op_assign (nxlf rfl) rfl rfl ?_
  refine op_assign (nxlf rfl) rfl rfl ?_
  refine op_assign (nxlf rfl) rfl rfl ?_
  refine op_assign (nxlf rfl) rfl rfl ?_
  refine At.opsNil ?_
  refine At.norm (hk_1 ?_)
  refine At.seq fun K2 hk_2 => ?_
  refine At.seq fun K3 hk_3 => ?_
  refine At.region ?_
  refine op_move (nxlf rfl) rfl rfl ?_
  refine op_move (nxlf rfl) rfl rfl ?_
  refine op_callA (nxla rfl) (.cons rfl (.cons rfl .nil)) (rOp_f f op) Tryd.func36 rfl rfl (by simp) rfl ?_
  rintro v12 L12 ⟨rfl, rfl⟩
  change At _ _ _ [R] _
  rw [hno]
  refine op_not (nxlf rfl) rfl rfl ?_
  refine At.opsNil ?_
  refine At.norm (hk_3 ?_)
  refine At.condT rfl ?_
  refine At.seq fun K4 hk_4 => ?_
  refine At.region ?_
  refine op_assign (nxlf rfl) rfl rfl ?_
  refine op_assign (nxlf rfl) rfl rfl ?_
  refine op_assign (nxlf rfl) rfl rfl ?_
  refine op_assign (nxlf rfl) rfl rfl ?_
  refine At.opsNil ?_
  refine At.norm (hk_4 ?_)
  refine At.ret (At.thenRet (?_))
  refine At.retN (L1 := []) rfl (.tmp rfl (.tmp rfl (.tmp rfl (.tmp rfl .nil)))) rfl (.refl _) (.refl _) ?_
  exact ⟨rfl, rfl⟩
theorem rl_find {n i : Nat} (hi : i < 79) (h : (rl.getD i rl0).1 = n) {late : Bool} (h0 : ¬ (n = 68 ∧ late = true)) (hlo : ¬ (95 < n ∧ n ≤ 164)) : (rl.getD i rl0).2.1 = nameN late n ∧ (rl.getD i rl0).2.2.1 = popsN n ∧ (rl.getD i rl0).2.2.2 = pushN n := by
  obtain ⟨_, h1, h2, h3⟩ := rl_row i hi
  rw [h] at h1 h2 h3
  refine ⟨?_, h2.symm, h3.symm⟩
  rw [← h1, nm_row (by simp) hlo, nm_row h0 hlo]
set_option maxRecDepth 100000 in
set_option maxHeartbeats 4000000 in
theorem rRow_y {f : Int} {n : Nat} (hop : opM f (n : Int) = true) (hn : n < 256) (hi : isOp n = true) : Fn Tryd.prog 16 #[.int .i64 f, .int .i64 (n : Int)] [] [] (fun v L => v = .tuple #[str (nameN (decide (13 ≤ f)) n), .int .i64 (popsN n : Int), .int .i64 (pushN n : Int), .bool true] ∧ L = []) := by
  refine Fn.enter (vs := [.int .i64 f, .int .i64 (n : Int)]) Tryd.func16 rfl rfl rfl ?_
  intro E R hR
  change At _ _ E [R] _
  refine At.seq fun K1 hk_1 => ?_
  refine At.region ?_
  refine op_assign (nxlf rfl) rfl rfl ?_
  refine op_assign (nxlf rfl) rfl rfl ?_
  refine op_assign (nxlf rfl) rfl rfl ?_
  refine op_assign (nxlf rfl) rfl rfl ?_
  refine At.opsNil ?_
  refine At.norm (hk_1 ?_)
  refine At.seq fun K2 hk_2 => ?_
  refine At.seq fun K3 hk_3 => ?_
  refine At.region ?_
  refine op_move (nxlf rfl) rfl rfl ?_
  refine op_move (nxlf rfl) rfl rfl ?_
  refine op_callA (nxla rfl) (.cons rfl (.cons rfl .nil)) (rOp_f f n) Tryd.func36 rfl rfl (by simp) rfl ?_
  rintro v12 L12 ⟨rfl, rfl⟩
  change At _ _ _ [R] _
  rw [hop]
  refine op_not (nxlf rfl) rfl rfl ?_
  refine At.opsNil ?_
  refine At.norm (hk_3 ?_)
  refine At.condF rfl ?_
  refine At.skip ?_
  refine At.norm (hk_2 ?_)
  refine At.seq fun K4 hk_4 => ?_
  refine At.meet (fun fr_ hp_ => fr_ = [(1, .int .i64 (n : Int))] ∧ hp_ = [R] ∧ (¬ (95 < n ∧ n ≤ 164)) ∧ (¬ (n = 68 ∧ decide (13 ≤ f) = true))) ?_ (fun K4_ jk_4 => ?_)
  rotate_left
  · skip
    refine At.block ?_
    refine At.seq fun K5 hk_5 => ?_
    refine At.region ?_
    refine op_move (nxlf rfl) rfl rfl ?_
    refine op_eql (nxlf rfl) rfl rfl rfl ?_
    refine op_move (nxlf rfl) rfl rfl ?_
    refine At.partP (d := 17) rfl (fun g17 => ?_) (fun g17 => ?_)
    · refine op_move (nxgf rfl rfl rfl rfl) rfl rfl ?_
      refine op_geq (nxgf rfl rfl rfl rfl) rfl rfl rfl ?_
      refine op_pickT (nxlf rfl) rfl rfl rfl ?_
      refine op_assign (nxlf rfl) rfl rfl ?_
      refine At.opsNil ?_
      refine At.norm (hk_5 ?_)
      refine At.condP rfl (fun c14 => ?_) (fun c14 => ?_)
      · refine At.seq fun K6 hk_6 => ?_
        refine At.region ?_
        refine op_assign (nxlf rfl) rfl rfl ?_
        refine op_assign (nxlf rfl) rfl rfl ?_
        refine op_assign (nxlf rfl) rfl rfl ?_
        refine op_assign (nxlf rfl) rfl rfl ?_
        refine At.opsNil ?_
        refine At.norm (hk_6 ?_)
        refine At.ret (At.inRet (At.thenRet (?_)))
        refine At.retN (L1 := []) rfl (.tmp rfl (.tmp rfl (.tmp rfl (.tmp rfl .nil)))) rfl (.refl _) (.refl _) ?_
        first
          | exact hex.elim
          | (exfalso; omega)
          | exact ⟨by rw [hf1, hf2, hf3], rfl⟩
          | exact ⟨by rw [nm_prev (by omega) (decide_eq_true (by omega)), show n = 68 by omega]; rfl, rfl⟩
          | exact ⟨by rw [nm_push (by omega) (by omega), (sh_push n hn (by omega) (by omega)).1, (sh_push n hn (by omega) (by omega)).2]; rfl, rfl⟩
          | exact ⟨by rw [nm_dup (by omega) (by omega), (sh_dup n hn (by omega) (by omega)).1, (sh_dup n hn (by omega) (by omega)).2, show ((n - 127 : Nat) : Int) = (n : Int) - 127 by omega, show ((n - 126 : Nat) : Int) = (n : Int) - 126 by omega]; rfl, rfl⟩
          | exact ⟨by rw [nm_swap (by omega) (by omega), (sh_swap n hn (by omega) (by omega)).1, (sh_swap n hn (by omega) (by omega)).2, show ((n - 142 : Nat) : Int) = (n : Int) - 142 by omega]; rfl, rfl⟩
          | exact ⟨by rw [nm_log (by omega) (by omega), (sh_log n hn (by omega) (by omega)).1, (sh_log n hn (by omega) (by omega)).2, show ((n - 158 : Nat) : Int) = (n : Int) - 160 + 2 by omega]; rfl, rfl⟩
      · refine At.seq fun K7 hk_7 => ?_
        refine At.region ?_
        refine op_move (nxlf rfl) rfl rfl ?_
        refine op_geq (nxlf rfl) rfl rfl rfl ?_
        refine op_move (nxlf rfl) rfl rfl ?_
        refine At.partP (d := 24) rfl (fun g24 => ?_) (fun g24 => ?_)
        · refine op_move (nxgf rfl rfl rfl rfl) rfl rfl ?_
          refine op_leq (nxgf rfl rfl rfl rfl) rfl rfl rfl ?_
          refine op_pickT (nxlf rfl) rfl rfl rfl ?_
          refine op_assign (nxlf rfl) rfl rfl ?_
          refine At.opsNil ?_
          refine At.norm (hk_7 ?_)
          refine At.condP rfl (fun c21 => ?_) (fun c21 => ?_)
          · refine At.seq fun K8 hk_8 => ?_
            refine At.region ?_
            refine op_move (nxlf rfl) rfl rfl ?_
            refine op_subI (nxlf rfl) rfl rfl (by omega) (by omega) rfl ?_
            rw [show (n : Int) - 95 = ((n - 95 : Nat) : Int) by omega]
            refine op_callA (nxla rfl) (.cons rfl .nil) (rDigits_f (n - 95) (by omega)) Tryd.func33 rfl rfl (by simp) rfl ?_
            rintro v30 L30 ⟨rfl, rfl⟩
            change At _ _ _ [R] _
            rw [dec2_eq (n := n - 95) (by omega)]; have hd := dec2_le (n - 95)
            refine op_addS (a := [80, 85, 83, 72]) (nxlf rfl) rfl rfl (by simp; omega) rfl ?_
            refine op_assign (nxlf rfl) rfl rfl ?_
            refine op_assign (nxlf rfl) rfl rfl ?_
            refine op_assign (nxlf rfl) rfl rfl ?_
            refine op_assign (nxlf rfl) rfl rfl ?_
            refine At.opsNil ?_
            refine At.norm (hk_8 ?_)
            refine At.ret (At.inRet (At.thenRet (?_)))
            refine At.retN (L1 := []) rfl (.tmp rfl (.tmp rfl (.tmp rfl (.tmp rfl .nil)))) rfl (.refl _) (.refl _) ?_
            first
              | exact hex.elim
              | (exfalso; omega)
              | exact ⟨by rw [hf1, hf2, hf3], rfl⟩
              | exact ⟨by rw [nm_prev (by omega) (decide_eq_true (by omega)), show n = 68 by omega]; rfl, rfl⟩
              | exact ⟨by rw [nm_push (by omega) (by omega), (sh_push n hn (by omega) (by omega)).1, (sh_push n hn (by omega) (by omega)).2]; rfl, rfl⟩
              | exact ⟨by rw [nm_dup (by omega) (by omega), (sh_dup n hn (by omega) (by omega)).1, (sh_dup n hn (by omega) (by omega)).2, show ((n - 127 : Nat) : Int) = (n : Int) - 127 by omega, show ((n - 126 : Nat) : Int) = (n : Int) - 126 by omega]; rfl, rfl⟩
              | exact ⟨by rw [nm_swap (by omega) (by omega), (sh_swap n hn (by omega) (by omega)).1, (sh_swap n hn (by omega) (by omega)).2, show ((n - 142 : Nat) : Int) = (n : Int) - 142 by omega]; rfl, rfl⟩
              | exact ⟨by rw [nm_log (by omega) (by omega), (sh_log n hn (by omega) (by omega)).1, (sh_log n hn (by omega) (by omega)).2, show ((n - 158 : Nat) : Int) = (n : Int) - 160 + 2 by omega]; rfl, rfl⟩
          · refine At.seq fun K9 hk_9 => ?_
            refine At.region ?_
            refine op_move (nxlf rfl) rfl rfl ?_
            refine op_geq (nxlf rfl) rfl rfl rfl ?_
            refine op_move (nxlf rfl) rfl rfl ?_
            refine At.partP (d := 35) rfl (fun g35 => ?_) (fun g35 => ?_)
            · refine op_move (nxgf rfl rfl rfl rfl) rfl rfl ?_
              refine op_leq (nxgf rfl rfl rfl rfl) rfl rfl rfl ?_
              refine op_pickT (nxlf rfl) rfl rfl rfl ?_
              refine op_assign (nxlf rfl) rfl rfl ?_
              refine At.opsNil ?_
              refine At.norm (hk_9 ?_)
              refine At.condP rfl (fun c32 => ?_) (fun c32 => ?_)
              · refine At.seq fun K10 hk_10 => ?_
                refine At.region ?_
                refine op_move (nxlf rfl) rfl rfl ?_
                refine op_subI (nxlf rfl) rfl rfl (by omega) (by omega) rfl ?_
                rw [show (n : Int) - 127 = ((n - 127 : Nat) : Int) by omega]
                refine op_callA (nxla rfl) (.cons rfl .nil) (rDigits_f (n - 127) (by omega)) Tryd.func33 rfl rfl (by simp) rfl ?_
                rintro v41 L41 ⟨rfl, rfl⟩
                change At _ _ _ [R] _
                rw [dec2_eq (n := n - 127) (by omega)]; have hd := dec2_le (n - 127)
                refine op_addS (a := [68, 85, 80]) (nxlf rfl) rfl rfl (by simp; omega) rfl ?_
                refine op_move (nxlf rfl) rfl rfl ?_
                refine op_subI (nxlf rfl) rfl rfl (by omega) (by omega) rfl ?_
                refine op_move (nxlf rfl) rfl rfl ?_
                refine op_subI (nxlf rfl) rfl rfl (by omega) (by omega) rfl ?_
                refine op_assign (nxlf rfl) rfl rfl ?_
                refine op_assign (nxlf rfl) rfl rfl ?_
                refine op_assign (nxlf rfl) rfl rfl ?_
                refine op_assign (nxlf rfl) rfl rfl ?_
                refine At.opsNil ?_
                refine At.norm (hk_10 ?_)
                refine At.ret (At.inRet (At.thenRet (?_)))
                refine At.retN (L1 := []) rfl (.tmp rfl (.tmp rfl (.tmp rfl (.tmp rfl .nil)))) rfl (.refl _) (.refl _) ?_
                first
                  | exact hex.elim
                  | (exfalso; omega)
                  | exact ⟨by rw [hf1, hf2, hf3], rfl⟩
                  | exact ⟨by rw [nm_prev (by omega) (decide_eq_true (by omega)), show n = 68 by omega]; rfl, rfl⟩
                  | exact ⟨by rw [nm_push (by omega) (by omega), (sh_push n hn (by omega) (by omega)).1, (sh_push n hn (by omega) (by omega)).2]; rfl, rfl⟩
                  | exact ⟨by rw [nm_dup (by omega) (by omega), (sh_dup n hn (by omega) (by omega)).1, (sh_dup n hn (by omega) (by omega)).2, show ((n - 127 : Nat) : Int) = (n : Int) - 127 by omega, show ((n - 126 : Nat) : Int) = (n : Int) - 126 by omega]; rfl, rfl⟩
                  | exact ⟨by rw [nm_swap (by omega) (by omega), (sh_swap n hn (by omega) (by omega)).1, (sh_swap n hn (by omega) (by omega)).2, show ((n - 142 : Nat) : Int) = (n : Int) - 142 by omega]; rfl, rfl⟩
                  | exact ⟨by rw [nm_log (by omega) (by omega), (sh_log n hn (by omega) (by omega)).1, (sh_log n hn (by omega) (by omega)).2, show ((n - 158 : Nat) : Int) = (n : Int) - 160 + 2 by omega]; rfl, rfl⟩
              · refine At.seq fun K11 hk_11 => ?_
                refine At.region ?_
                refine op_move (nxlf rfl) rfl rfl ?_
                refine op_geq (nxlf rfl) rfl rfl rfl ?_
                refine op_move (nxlf rfl) rfl rfl ?_
                refine At.partP (d := 50) rfl (fun g50 => ?_) (fun g50 => ?_)
                · refine op_move (nxgf rfl rfl rfl rfl) rfl rfl ?_
                  refine op_leq (nxgf rfl rfl rfl rfl) rfl rfl rfl ?_
                  refine op_pickT (nxlf rfl) rfl rfl rfl ?_
                  refine op_assign (nxlf rfl) rfl rfl ?_
                  refine At.opsNil ?_
                  refine At.norm (hk_11 ?_)
                  refine At.condP rfl (fun c47 => ?_) (fun c47 => ?_)
                  · refine At.seq fun K12 hk_12 => ?_
                    refine At.region ?_
                    refine op_move (nxlf rfl) rfl rfl ?_
                    refine op_subI (nxlf rfl) rfl rfl (by omega) (by omega) rfl ?_
                    rw [show (n : Int) - 143 = ((n - 143 : Nat) : Int) by omega]
                    refine op_callA (nxla rfl) (.cons rfl .nil) (rDigits_f (n - 143) (by omega)) Tryd.func33 rfl rfl (by simp) rfl ?_
                    rintro v56 L56 ⟨rfl, rfl⟩
                    change At _ _ _ [R] _
                    rw [dec2_eq (n := n - 143) (by omega)]; have hd := dec2_le (n - 143)
                    refine op_addS (a := [83, 87, 65, 80]) (nxlf rfl) rfl rfl (by simp; omega) rfl ?_
                    refine op_move (nxlf rfl) rfl rfl ?_
                    refine op_subI (nxlf rfl) rfl rfl (by omega) (by omega) rfl ?_
                    refine op_move (nxlf rfl) rfl rfl ?_
                    refine op_subI (nxlf rfl) rfl rfl (by omega) (by omega) rfl ?_
                    refine op_assign (nxlf rfl) rfl rfl ?_
                    refine op_assign (nxlf rfl) rfl rfl ?_
                    refine op_assign (nxlf rfl) rfl rfl ?_
                    refine op_assign (nxlf rfl) rfl rfl ?_
                    refine At.opsNil ?_
                    refine At.norm (hk_12 ?_)
                    refine At.ret (At.inRet (At.thenRet (?_)))
                    refine At.retN (L1 := []) rfl (.tmp rfl (.tmp rfl (.tmp rfl (.tmp rfl .nil)))) rfl (.refl _) (.refl _) ?_
                    first
                      | exact hex.elim
                      | (exfalso; omega)
                      | exact ⟨by rw [hf1, hf2, hf3], rfl⟩
                      | exact ⟨by rw [nm_prev (by omega) (decide_eq_true (by omega)), show n = 68 by omega]; rfl, rfl⟩
                      | exact ⟨by rw [nm_push (by omega) (by omega), (sh_push n hn (by omega) (by omega)).1, (sh_push n hn (by omega) (by omega)).2]; rfl, rfl⟩
                      | exact ⟨by rw [nm_dup (by omega) (by omega), (sh_dup n hn (by omega) (by omega)).1, (sh_dup n hn (by omega) (by omega)).2, show ((n - 127 : Nat) : Int) = (n : Int) - 127 by omega, show ((n - 126 : Nat) : Int) = (n : Int) - 126 by omega]; rfl, rfl⟩
                      | exact ⟨by rw [nm_swap (by omega) (by omega), (sh_swap n hn (by omega) (by omega)).1, (sh_swap n hn (by omega) (by omega)).2, show ((n - 142 : Nat) : Int) = (n : Int) - 142 by omega]; rfl, rfl⟩
                      | exact ⟨by rw [nm_log (by omega) (by omega), (sh_log n hn (by omega) (by omega)).1, (sh_log n hn (by omega) (by omega)).2, show ((n - 158 : Nat) : Int) = (n : Int) - 160 + 2 by omega]; rfl, rfl⟩
                  · refine At.seq fun K13 hk_13 => ?_
                    refine At.region ?_
                    refine op_move (nxlf rfl) rfl rfl ?_
                    refine op_geq (nxlf rfl) rfl rfl rfl ?_
                    refine op_move (nxlf rfl) rfl rfl ?_
                    refine At.partP (d := 65) rfl (fun g65 => ?_) (fun g65 => ?_)
                    · refine op_move (nxgf rfl rfl rfl rfl) rfl rfl ?_
                      refine op_leq (nxgf rfl rfl rfl rfl) rfl rfl rfl ?_
                      refine op_pickT (nxlf rfl) rfl rfl rfl ?_
                      refine op_assign (nxlf rfl) rfl rfl ?_
                      refine At.opsNil ?_
                      refine At.norm (hk_13 ?_)
                      refine At.condP rfl (fun c62 => ?_) (fun c62 => ?_)
                      · refine At.seq fun K14 hk_14 => ?_
                        refine At.region ?_
                        refine op_move (nxlf rfl) rfl rfl ?_
                        refine op_subI (nxlf rfl) rfl rfl (by omega) (by omega) rfl ?_
                        rw [show (n : Int) - 160 = ((n - 160 : Nat) : Int) by omega]
                        refine op_callA (nxla rfl) (.cons rfl .nil) (rDigits_f (n - 160) (by omega)) Tryd.func33 rfl rfl (by simp) rfl ?_
                        rintro v71 L71 ⟨rfl, rfl⟩
                        change At _ _ _ [R] _
                        rw [dec2_eq (n := n - 160) (by omega)]; have hd := dec2_le (n - 160)
                        refine op_addS (a := [76, 79, 71]) (nxlf rfl) rfl rfl (by simp; omega) rfl ?_
                        refine op_move (nxlf rfl) rfl rfl ?_
                        refine op_subI (nxlf rfl) rfl rfl (by omega) (by omega) rfl ?_
                        refine op_addI (nxlf rfl) rfl rfl (by omega) (by omega) rfl ?_
                        refine op_assign (nxlf rfl) rfl rfl ?_
                        refine op_assign (nxlf rfl) rfl rfl ?_
                        refine op_assign (nxlf rfl) rfl rfl ?_
                        refine op_assign (nxlf rfl) rfl rfl ?_
                        refine At.opsNil ?_
                        refine At.norm (hk_14 ?_)
                        refine At.ret (At.inRet (At.thenRet (?_)))
                        refine At.retN (L1 := []) rfl (.tmp rfl (.tmp rfl (.tmp rfl (.tmp rfl .nil)))) rfl (.refl _) (.refl _) ?_
                        first
                          | exact hex.elim
                          | (exfalso; omega)
                          | exact ⟨by rw [hf1, hf2, hf3], rfl⟩
                          | exact ⟨by rw [nm_prev (by omega) (decide_eq_true (by omega)), show n = 68 by omega]; rfl, rfl⟩
                          | exact ⟨by rw [nm_push (by omega) (by omega), (sh_push n hn (by omega) (by omega)).1, (sh_push n hn (by omega) (by omega)).2]; rfl, rfl⟩
                          | exact ⟨by rw [nm_dup (by omega) (by omega), (sh_dup n hn (by omega) (by omega)).1, (sh_dup n hn (by omega) (by omega)).2, show ((n - 127 : Nat) : Int) = (n : Int) - 127 by omega, show ((n - 126 : Nat) : Int) = (n : Int) - 126 by omega]; rfl, rfl⟩
                          | exact ⟨by rw [nm_swap (by omega) (by omega), (sh_swap n hn (by omega) (by omega)).1, (sh_swap n hn (by omega) (by omega)).2, show ((n - 142 : Nat) : Int) = (n : Int) - 142 by omega]; rfl, rfl⟩
                          | exact ⟨by rw [nm_log (by omega) (by omega), (sh_log n hn (by omega) (by omega)).1, (sh_log n hn (by omega) (by omega)).2, show ((n - 158 : Nat) : Int) = (n : Int) - 160 + 2 by omega]; rfl, rfl⟩
                      · refine At.skip ?_
                        refine At.inNorm ?_
                        refine At.norm (jk_4 ?_ (.refl _) ⟨rfl, rfl, (by omega), (fun h => by have := of_decide_eq_true h.2; omega)⟩)
                        exact .cons (by first | exact lkI rfl (by omega) | rfl) .nil
                    · refine op_skip rfl rfl rfl rfl rfl rfl rfl ?_
                      refine op_skip rfl rfl rfl rfl rfl rfl rfl ?_
                      refine op_pickF (nxlf rfl) rfl rfl rfl ?_
                      refine op_assign (nxlf rfl) rfl rfl ?_
                      refine At.opsNil ?_
                      refine At.norm (hk_13 ?_)
                      refine At.condF rfl ?_
                      refine At.skip ?_
                      refine At.inNorm ?_
                      refine At.norm (jk_4 ?_ (.refl _) ⟨rfl, rfl, (by omega), (fun h => by have := of_decide_eq_true h.2; omega)⟩)
                      exact .cons (by first | exact lkI rfl (by omega) | rfl) .nil
                · refine op_skip rfl rfl rfl rfl rfl rfl rfl ?_
                  refine op_skip rfl rfl rfl rfl rfl rfl rfl ?_
                  refine op_pickF (nxlf rfl) rfl rfl rfl ?_
                  refine op_assign (nxlf rfl) rfl rfl ?_
                  refine At.opsNil ?_
                  refine At.norm (hk_11 ?_)
                  refine At.condF rfl ?_
                  refine At.seq fun K15 hk_15 => ?_
                  refine At.region ?_
                  refine op_move (nxlf rfl) rfl rfl ?_
                  refine op_geq (nxlf rfl) rfl rfl rfl ?_
                  refine op_move (nxlf rfl) rfl rfl ?_
                  refine At.partP (d := 65) rfl (fun g65 => ?_) (fun g65 => ?_)
                  · refine op_move (nxgf rfl rfl rfl rfl) rfl rfl ?_
                    refine op_leq (nxgf rfl rfl rfl rfl) rfl rfl rfl ?_
                    refine op_pickT (nxlf rfl) rfl rfl rfl ?_
                    refine op_assign (nxlf rfl) rfl rfl ?_
                    refine At.opsNil ?_
                    refine At.norm (hk_15 ?_)
                    refine At.condP rfl (fun c62 => ?_) (fun c62 => ?_)
                    · refine At.seq fun K16 hk_16 => ?_
                      refine At.region ?_
                      refine op_move (nxlf rfl) rfl rfl ?_
                      refine op_subI (nxlf rfl) rfl rfl (by omega) (by omega) rfl ?_
                      rw [show (n : Int) - 160 = ((n - 160 : Nat) : Int) by omega]
                      refine op_callA (nxla rfl) (.cons rfl .nil) (rDigits_f (n - 160) (by omega)) Tryd.func33 rfl rfl (by simp) rfl ?_
                      rintro v71 L71 ⟨rfl, rfl⟩
                      change At _ _ _ [R] _
                      rw [dec2_eq (n := n - 160) (by omega)]; have hd := dec2_le (n - 160)
                      refine op_addS (a := [76, 79, 71]) (nxlf rfl) rfl rfl (by simp; omega) rfl ?_
                      refine op_move (nxlf rfl) rfl rfl ?_
                      refine op_subI (nxlf rfl) rfl rfl (by omega) (by omega) rfl ?_
                      refine op_addI (nxlf rfl) rfl rfl (by omega) (by omega) rfl ?_
                      refine op_assign (nxlf rfl) rfl rfl ?_
                      refine op_assign (nxlf rfl) rfl rfl ?_
                      refine op_assign (nxlf rfl) rfl rfl ?_
                      refine op_assign (nxlf rfl) rfl rfl ?_
                      refine At.opsNil ?_
                      refine At.norm (hk_16 ?_)
                      refine At.ret (At.inRet (At.thenRet (?_)))
                      refine At.retN (L1 := []) rfl (.tmp rfl (.tmp rfl (.tmp rfl (.tmp rfl .nil)))) rfl (.refl _) (.refl _) ?_
                      first
                        | exact hex.elim
                        | (exfalso; omega)
                        | exact ⟨by rw [hf1, hf2, hf3], rfl⟩
                        | exact ⟨by rw [nm_prev (by omega) (decide_eq_true (by omega)), show n = 68 by omega]; rfl, rfl⟩
                        | exact ⟨by rw [nm_push (by omega) (by omega), (sh_push n hn (by omega) (by omega)).1, (sh_push n hn (by omega) (by omega)).2]; rfl, rfl⟩
                        | exact ⟨by rw [nm_dup (by omega) (by omega), (sh_dup n hn (by omega) (by omega)).1, (sh_dup n hn (by omega) (by omega)).2, show ((n - 127 : Nat) : Int) = (n : Int) - 127 by omega, show ((n - 126 : Nat) : Int) = (n : Int) - 126 by omega]; rfl, rfl⟩
                        | exact ⟨by rw [nm_swap (by omega) (by omega), (sh_swap n hn (by omega) (by omega)).1, (sh_swap n hn (by omega) (by omega)).2, show ((n - 142 : Nat) : Int) = (n : Int) - 142 by omega]; rfl, rfl⟩
                        | exact ⟨by rw [nm_log (by omega) (by omega), (sh_log n hn (by omega) (by omega)).1, (sh_log n hn (by omega) (by omega)).2, show ((n - 158 : Nat) : Int) = (n : Int) - 160 + 2 by omega]; rfl, rfl⟩
                    · refine At.skip ?_
                      refine At.inNorm ?_
                      refine At.norm (jk_4 ?_ (.refl _) ⟨rfl, rfl, (by omega), (fun h => by have := of_decide_eq_true h.2; omega)⟩)
                      exact .cons (by first | exact lkI rfl (by omega) | rfl) .nil
                  · refine op_skip rfl rfl rfl rfl rfl rfl rfl ?_
                    refine op_skip rfl rfl rfl rfl rfl rfl rfl ?_
                    refine op_pickF (nxlf rfl) rfl rfl rfl ?_
                    refine op_assign (nxlf rfl) rfl rfl ?_
                    refine At.opsNil ?_
                    refine At.norm (hk_15 ?_)
                    refine At.condF rfl ?_
                    refine At.skip ?_
                    refine At.inNorm ?_
                    refine At.norm (jk_4 ?_ (.refl _) ⟨rfl, rfl, (by omega), (fun h => by have := of_decide_eq_true h.2; omega)⟩)
                    exact .cons (by first | exact lkI rfl (by omega) | rfl) .nil
            · refine op_skip rfl rfl rfl rfl rfl rfl rfl ?_
              refine op_skip rfl rfl rfl rfl rfl rfl rfl ?_
              refine op_pickF (nxlf rfl) rfl rfl rfl ?_
              refine op_assign (nxlf rfl) rfl rfl ?_
              refine At.opsNil ?_
              refine At.norm (hk_9 ?_)
              refine At.condF rfl ?_
              refine At.seq fun K17 hk_17 => ?_
              refine At.region ?_
              refine op_move (nxlf rfl) rfl rfl ?_
              refine op_geq (nxlf rfl) rfl rfl rfl ?_
              refine op_move (nxlf rfl) rfl rfl ?_
              refine At.partP (d := 50) rfl (fun g50 => ?_) (fun g50 => ?_)
              · refine op_move (nxgf rfl rfl rfl rfl) rfl rfl ?_
                refine op_leq (nxgf rfl rfl rfl rfl) rfl rfl rfl ?_
                refine op_pickT (nxlf rfl) rfl rfl rfl ?_
                refine op_assign (nxlf rfl) rfl rfl ?_
                refine At.opsNil ?_
                refine At.norm (hk_17 ?_)
                refine At.condP rfl (fun c47 => ?_) (fun c47 => ?_)
                · refine At.seq fun K18 hk_18 => ?_
                  refine At.region ?_
                  refine op_move (nxlf rfl) rfl rfl ?_
                  refine op_subI (nxlf rfl) rfl rfl (by omega) (by omega) rfl ?_
                  rw [show (n : Int) - 143 = ((n - 143 : Nat) : Int) by omega]
                  refine op_callA (nxla rfl) (.cons rfl .nil) (rDigits_f (n - 143) (by omega)) Tryd.func33 rfl rfl (by simp) rfl ?_
                  rintro v56 L56 ⟨rfl, rfl⟩
                  change At _ _ _ [R] _
                  rw [dec2_eq (n := n - 143) (by omega)]; have hd := dec2_le (n - 143)
                  refine op_addS (a := [83, 87, 65, 80]) (nxlf rfl) rfl rfl (by simp; omega) rfl ?_
                  refine op_move (nxlf rfl) rfl rfl ?_
                  refine op_subI (nxlf rfl) rfl rfl (by omega) (by omega) rfl ?_
                  refine op_move (nxlf rfl) rfl rfl ?_
                  refine op_subI (nxlf rfl) rfl rfl (by omega) (by omega) rfl ?_
                  refine op_assign (nxlf rfl) rfl rfl ?_
                  refine op_assign (nxlf rfl) rfl rfl ?_
                  refine op_assign (nxlf rfl) rfl rfl ?_
                  refine op_assign (nxlf rfl) rfl rfl ?_
                  refine At.opsNil ?_
                  refine At.norm (hk_18 ?_)
                  refine At.ret (At.inRet (At.thenRet (?_)))
                  refine At.retN (L1 := []) rfl (.tmp rfl (.tmp rfl (.tmp rfl (.tmp rfl .nil)))) rfl (.refl _) (.refl _) ?_
                  first
                    | exact hex.elim
                    | (exfalso; omega)
                    | exact ⟨by rw [hf1, hf2, hf3], rfl⟩
                    | exact ⟨by rw [nm_prev (by omega) (decide_eq_true (by omega)), show n = 68 by omega]; rfl, rfl⟩
                    | exact ⟨by rw [nm_push (by omega) (by omega), (sh_push n hn (by omega) (by omega)).1, (sh_push n hn (by omega) (by omega)).2]; rfl, rfl⟩
                    | exact ⟨by rw [nm_dup (by omega) (by omega), (sh_dup n hn (by omega) (by omega)).1, (sh_dup n hn (by omega) (by omega)).2, show ((n - 127 : Nat) : Int) = (n : Int) - 127 by omega, show ((n - 126 : Nat) : Int) = (n : Int) - 126 by omega]; rfl, rfl⟩
                    | exact ⟨by rw [nm_swap (by omega) (by omega), (sh_swap n hn (by omega) (by omega)).1, (sh_swap n hn (by omega) (by omega)).2, show ((n - 142 : Nat) : Int) = (n : Int) - 142 by omega]; rfl, rfl⟩
                    | exact ⟨by rw [nm_log (by omega) (by omega), (sh_log n hn (by omega) (by omega)).1, (sh_log n hn (by omega) (by omega)).2, show ((n - 158 : Nat) : Int) = (n : Int) - 160 + 2 by omega]; rfl, rfl⟩
                · refine At.seq fun K19 hk_19 => ?_
                  refine At.region ?_
                  refine op_move (nxlf rfl) rfl rfl ?_
                  refine op_geq (nxlf rfl) rfl rfl rfl ?_
                  refine op_move (nxlf rfl) rfl rfl ?_
                  refine At.partP (d := 65) rfl (fun g65 => ?_) (fun g65 => ?_)
                  · refine op_move (nxgf rfl rfl rfl rfl) rfl rfl ?_
                    refine op_leq (nxgf rfl rfl rfl rfl) rfl rfl rfl ?_
                    refine op_pickT (nxlf rfl) rfl rfl rfl ?_
                    refine op_assign (nxlf rfl) rfl rfl ?_
                    refine At.opsNil ?_
                    refine At.norm (hk_19 ?_)
                    refine At.condP rfl (fun c62 => ?_) (fun c62 => ?_)
                    · refine At.seq fun K20 hk_20 => ?_
                      refine At.region ?_
                      refine op_move (nxlf rfl) rfl rfl ?_
                      refine op_subI (nxlf rfl) rfl rfl (by omega) (by omega) rfl ?_
                      rw [show (n : Int) - 160 = ((n - 160 : Nat) : Int) by omega]
                      refine op_callA (nxla rfl) (.cons rfl .nil) (rDigits_f (n - 160) (by omega)) Tryd.func33 rfl rfl (by simp) rfl ?_
                      rintro v71 L71 ⟨rfl, rfl⟩
                      change At _ _ _ [R] _
                      rw [dec2_eq (n := n - 160) (by omega)]; have hd := dec2_le (n - 160)
                      refine op_addS (a := [76, 79, 71]) (nxlf rfl) rfl rfl (by simp; omega) rfl ?_
                      refine op_move (nxlf rfl) rfl rfl ?_
                      refine op_subI (nxlf rfl) rfl rfl (by omega) (by omega) rfl ?_
                      refine op_addI (nxlf rfl) rfl rfl (by omega) (by omega) rfl ?_
                      refine op_assign (nxlf rfl) rfl rfl ?_
                      refine op_assign (nxlf rfl) rfl rfl ?_
                      refine op_assign (nxlf rfl) rfl rfl ?_
                      refine op_assign (nxlf rfl) rfl rfl ?_
                      refine At.opsNil ?_
                      refine At.norm (hk_20 ?_)
                      refine At.ret (At.inRet (At.thenRet (?_)))
                      refine At.retN (L1 := []) rfl (.tmp rfl (.tmp rfl (.tmp rfl (.tmp rfl .nil)))) rfl (.refl _) (.refl _) ?_
                      first
                        | exact hex.elim
                        | (exfalso; omega)
                        | exact ⟨by rw [hf1, hf2, hf3], rfl⟩
                        | exact ⟨by rw [nm_prev (by omega) (decide_eq_true (by omega)), show n = 68 by omega]; rfl, rfl⟩
                        | exact ⟨by rw [nm_push (by omega) (by omega), (sh_push n hn (by omega) (by omega)).1, (sh_push n hn (by omega) (by omega)).2]; rfl, rfl⟩
                        | exact ⟨by rw [nm_dup (by omega) (by omega), (sh_dup n hn (by omega) (by omega)).1, (sh_dup n hn (by omega) (by omega)).2, show ((n - 127 : Nat) : Int) = (n : Int) - 127 by omega, show ((n - 126 : Nat) : Int) = (n : Int) - 126 by omega]; rfl, rfl⟩
                        | exact ⟨by rw [nm_swap (by omega) (by omega), (sh_swap n hn (by omega) (by omega)).1, (sh_swap n hn (by omega) (by omega)).2, show ((n - 142 : Nat) : Int) = (n : Int) - 142 by omega]; rfl, rfl⟩
                        | exact ⟨by rw [nm_log (by omega) (by omega), (sh_log n hn (by omega) (by omega)).1, (sh_log n hn (by omega) (by omega)).2, show ((n - 158 : Nat) : Int) = (n : Int) - 160 + 2 by omega]; rfl, rfl⟩
                    · refine At.skip ?_
                      refine At.inNorm ?_
                      refine At.norm (jk_4 ?_ (.refl _) ⟨rfl, rfl, (by omega), (fun h => by have := of_decide_eq_true h.2; omega)⟩)
                      exact .cons (by first | exact lkI rfl (by omega) | rfl) .nil
                  · refine op_skip rfl rfl rfl rfl rfl rfl rfl ?_
                    refine op_skip rfl rfl rfl rfl rfl rfl rfl ?_
                    refine op_pickF (nxlf rfl) rfl rfl rfl ?_
                    refine op_assign (nxlf rfl) rfl rfl ?_
                    refine At.opsNil ?_
                    refine At.norm (hk_19 ?_)
                    refine At.condF rfl ?_
                    refine At.skip ?_
                    refine At.inNorm ?_
                    refine At.norm (jk_4 ?_ (.refl _) ⟨rfl, rfl, (by omega), (fun h => by have := of_decide_eq_true h.2; omega)⟩)
                    exact .cons (by first | exact lkI rfl (by omega) | rfl) .nil
              · refine op_skip rfl rfl rfl rfl rfl rfl rfl ?_
                refine op_skip rfl rfl rfl rfl rfl rfl rfl ?_
                refine op_pickF (nxlf rfl) rfl rfl rfl ?_
                refine op_assign (nxlf rfl) rfl rfl ?_
                refine At.opsNil ?_
                refine At.norm (hk_17 ?_)
                refine At.condF rfl ?_
                refine At.seq fun K21 hk_21 => ?_
                refine At.region ?_
                refine op_move (nxlf rfl) rfl rfl ?_
                refine op_geq (nxlf rfl) rfl rfl rfl ?_
                refine op_move (nxlf rfl) rfl rfl ?_
                refine At.partP (d := 65) rfl (fun g65 => ?_) (fun g65 => ?_)
                · refine op_move (nxgf rfl rfl rfl rfl) rfl rfl ?_
                  refine op_leq (nxgf rfl rfl rfl rfl) rfl rfl rfl ?_
                  refine op_pickT (nxlf rfl) rfl rfl rfl ?_
                  refine op_assign (nxlf rfl) rfl rfl ?_
                  refine At.opsNil ?_
                  refine At.norm (hk_21 ?_)
                  refine At.condP rfl (fun c62 => ?_) (fun c62 => ?_)
                  · refine At.seq fun K22 hk_22 => ?_
                    refine At.region ?_
                    refine op_move (nxlf rfl) rfl rfl ?_
                    refine op_subI (nxlf rfl) rfl rfl (by omega) (by omega) rfl ?_
                    rw [show (n : Int) - 160 = ((n - 160 : Nat) : Int) by omega]
                    refine op_callA (nxla rfl) (.cons rfl .nil) (rDigits_f (n - 160) (by omega)) Tryd.func33 rfl rfl (by simp) rfl ?_
                    rintro v71 L71 ⟨rfl, rfl⟩
                    change At _ _ _ [R] _
                    rw [dec2_eq (n := n - 160) (by omega)]; have hd := dec2_le (n - 160)
                    refine op_addS (a := [76, 79, 71]) (nxlf rfl) rfl rfl (by simp; omega) rfl ?_
                    refine op_move (nxlf rfl) rfl rfl ?_
                    refine op_subI (nxlf rfl) rfl rfl (by omega) (by omega) rfl ?_
                    refine op_addI (nxlf rfl) rfl rfl (by omega) (by omega) rfl ?_
                    refine op_assign (nxlf rfl) rfl rfl ?_
                    refine op_assign (nxlf rfl) rfl rfl ?_
                    refine op_assign (nxlf rfl) rfl rfl ?_
                    refine op_assign (nxlf rfl) rfl rfl ?_
                    refine At.opsNil ?_
                    refine At.norm (hk_22 ?_)
                    refine At.ret (At.inRet (At.thenRet (?_)))
                    refine At.retN (L1 := []) rfl (.tmp rfl (.tmp rfl (.tmp rfl (.tmp rfl .nil)))) rfl (.refl _) (.refl _) ?_
                    first
                      | exact hex.elim
                      | (exfalso; omega)
                      | exact ⟨by rw [hf1, hf2, hf3], rfl⟩
                      | exact ⟨by rw [nm_prev (by omega) (decide_eq_true (by omega)), show n = 68 by omega]; rfl, rfl⟩
                      | exact ⟨by rw [nm_push (by omega) (by omega), (sh_push n hn (by omega) (by omega)).1, (sh_push n hn (by omega) (by omega)).2]; rfl, rfl⟩
                      | exact ⟨by rw [nm_dup (by omega) (by omega), (sh_dup n hn (by omega) (by omega)).1, (sh_dup n hn (by omega) (by omega)).2, show ((n - 127 : Nat) : Int) = (n : Int) - 127 by omega, show ((n - 126 : Nat) : Int) = (n : Int) - 126 by omega]; rfl, rfl⟩
                      | exact ⟨by rw [nm_swap (by omega) (by omega), (sh_swap n hn (by omega) (by omega)).1, (sh_swap n hn (by omega) (by omega)).2, show ((n - 142 : Nat) : Int) = (n : Int) - 142 by omega]; rfl, rfl⟩
                      | exact ⟨by rw [nm_log (by omega) (by omega), (sh_log n hn (by omega) (by omega)).1, (sh_log n hn (by omega) (by omega)).2, show ((n - 158 : Nat) : Int) = (n : Int) - 160 + 2 by omega]; rfl, rfl⟩
                  · refine At.skip ?_
                    refine At.inNorm ?_
                    refine At.norm (jk_4 ?_ (.refl _) ⟨rfl, rfl, (by omega), (fun h => by have := of_decide_eq_true h.2; omega)⟩)
                    exact .cons (by first | exact lkI rfl (by omega) | rfl) .nil
                · refine op_skip rfl rfl rfl rfl rfl rfl rfl ?_
                  refine op_skip rfl rfl rfl rfl rfl rfl rfl ?_
                  refine op_pickF (nxlf rfl) rfl rfl rfl ?_
                  refine op_assign (nxlf rfl) rfl rfl ?_
                  refine At.opsNil ?_
                  refine At.norm (hk_21 ?_)
                  refine At.condF rfl ?_
                  refine At.skip ?_
                  refine At.inNorm ?_
                  refine At.norm (jk_4 ?_ (.refl _) ⟨rfl, rfl, (by omega), (fun h => by have := of_decide_eq_true h.2; omega)⟩)
                  exact .cons (by first | exact lkI rfl (by omega) | rfl) .nil
        · refine op_skip rfl rfl rfl rfl rfl rfl rfl ?_
          refine op_skip rfl rfl rfl rfl rfl rfl rfl ?_
          refine op_pickF (nxlf rfl) rfl rfl rfl ?_
          refine op_assign (nxlf rfl) rfl rfl ?_
          refine At.opsNil ?_
          refine At.norm (hk_7 ?_)
          refine At.condF rfl ?_
          refine At.seq fun K23 hk_23 => ?_
          refine At.region ?_
          refine op_move (nxlf rfl) rfl rfl ?_
          refine op_geq (nxlf rfl) rfl rfl rfl ?_
          refine op_move (nxlf rfl) rfl rfl ?_
          refine At.partP (d := 35) rfl (fun g35 => ?_) (fun g35 => ?_)
          · refine op_move (nxgf rfl rfl rfl rfl) rfl rfl ?_
            refine op_leq (nxgf rfl rfl rfl rfl) rfl rfl rfl ?_
            refine op_pickT (nxlf rfl) rfl rfl rfl ?_
            refine op_assign (nxlf rfl) rfl rfl ?_
            refine At.opsNil ?_
            refine At.norm (hk_23 ?_)
            refine At.condP rfl (fun c32 => ?_) (fun c32 => ?_)
            · refine At.seq fun K24 hk_24 => ?_
              refine At.region ?_
              refine op_move (nxlf rfl) rfl rfl ?_
              refine op_subI (nxlf rfl) rfl rfl (by omega) (by omega) rfl ?_
              rw [show (n : Int) - 127 = ((n - 127 : Nat) : Int) by omega]
              refine op_callA (nxla rfl) (.cons rfl .nil) (rDigits_f (n - 127) (by omega)) Tryd.func33 rfl rfl (by simp) rfl ?_
              rintro v41 L41 ⟨rfl, rfl⟩
              change At _ _ _ [R] _
              rw [dec2_eq (n := n - 127) (by omega)]; have hd := dec2_le (n - 127)
              refine op_addS (a := [68, 85, 80]) (nxlf rfl) rfl rfl (by simp; omega) rfl ?_
              refine op_move (nxlf rfl) rfl rfl ?_
              refine op_subI (nxlf rfl) rfl rfl (by omega) (by omega) rfl ?_
              refine op_move (nxlf rfl) rfl rfl ?_
              refine op_subI (nxlf rfl) rfl rfl (by omega) (by omega) rfl ?_
              refine op_assign (nxlf rfl) rfl rfl ?_
              refine op_assign (nxlf rfl) rfl rfl ?_
              refine op_assign (nxlf rfl) rfl rfl ?_
              refine op_assign (nxlf rfl) rfl rfl ?_
              refine At.opsNil ?_
              refine At.norm (hk_24 ?_)
              refine At.ret (At.inRet (At.thenRet (?_)))
              refine At.retN (L1 := []) rfl (.tmp rfl (.tmp rfl (.tmp rfl (.tmp rfl .nil)))) rfl (.refl _) (.refl _) ?_
              first
                | exact hex.elim
                | (exfalso; omega)
                | exact ⟨by rw [hf1, hf2, hf3], rfl⟩
                | exact ⟨by rw [nm_prev (by omega) (decide_eq_true (by omega)), show n = 68 by omega]; rfl, rfl⟩
                | exact ⟨by rw [nm_push (by omega) (by omega), (sh_push n hn (by omega) (by omega)).1, (sh_push n hn (by omega) (by omega)).2]; rfl, rfl⟩
                | exact ⟨by rw [nm_dup (by omega) (by omega), (sh_dup n hn (by omega) (by omega)).1, (sh_dup n hn (by omega) (by omega)).2, show ((n - 127 : Nat) : Int) = (n : Int) - 127 by omega, show ((n - 126 : Nat) : Int) = (n : Int) - 126 by omega]; rfl, rfl⟩
                | exact ⟨by rw [nm_swap (by omega) (by omega), (sh_swap n hn (by omega) (by omega)).1, (sh_swap n hn (by omega) (by omega)).2, show ((n - 142 : Nat) : Int) = (n : Int) - 142 by omega]; rfl, rfl⟩
                | exact ⟨by rw [nm_log (by omega) (by omega), (sh_log n hn (by omega) (by omega)).1, (sh_log n hn (by omega) (by omega)).2, show ((n - 158 : Nat) : Int) = (n : Int) - 160 + 2 by omega]; rfl, rfl⟩
            · refine At.seq fun K25 hk_25 => ?_
              refine At.region ?_
              refine op_move (nxlf rfl) rfl rfl ?_
              refine op_geq (nxlf rfl) rfl rfl rfl ?_
              refine op_move (nxlf rfl) rfl rfl ?_
              refine At.partP (d := 50) rfl (fun g50 => ?_) (fun g50 => ?_)
              · refine op_move (nxgf rfl rfl rfl rfl) rfl rfl ?_
                refine op_leq (nxgf rfl rfl rfl rfl) rfl rfl rfl ?_
                refine op_pickT (nxlf rfl) rfl rfl rfl ?_
                refine op_assign (nxlf rfl) rfl rfl ?_
                refine At.opsNil ?_
                refine At.norm (hk_25 ?_)
                refine At.condP rfl (fun c47 => ?_) (fun c47 => ?_)
                · refine At.seq fun K26 hk_26 => ?_
                  refine At.region ?_
                  refine op_move (nxlf rfl) rfl rfl ?_
                  refine op_subI (nxlf rfl) rfl rfl (by omega) (by omega) rfl ?_
                  rw [show (n : Int) - 143 = ((n - 143 : Nat) : Int) by omega]
                  refine op_callA (nxla rfl) (.cons rfl .nil) (rDigits_f (n - 143) (by omega)) Tryd.func33 rfl rfl (by simp) rfl ?_
                  rintro v56 L56 ⟨rfl, rfl⟩
                  change At _ _ _ [R] _
                  rw [dec2_eq (n := n - 143) (by omega)]; have hd := dec2_le (n - 143)
                  refine op_addS (a := [83, 87, 65, 80]) (nxlf rfl) rfl rfl (by simp; omega) rfl ?_
                  refine op_move (nxlf rfl) rfl rfl ?_
                  refine op_subI (nxlf rfl) rfl rfl (by omega) (by omega) rfl ?_
                  refine op_move (nxlf rfl) rfl rfl ?_
                  refine op_subI (nxlf rfl) rfl rfl (by omega) (by omega) rfl ?_
                  refine op_assign (nxlf rfl) rfl rfl ?_
                  refine op_assign (nxlf rfl) rfl rfl ?_
                  refine op_assign (nxlf rfl) rfl rfl ?_
                  refine op_assign (nxlf rfl) rfl rfl ?_
                  refine At.opsNil ?_
                  refine At.norm (hk_26 ?_)
                  refine At.ret (At.inRet (At.thenRet (?_)))
                  refine At.retN (L1 := []) rfl (.tmp rfl (.tmp rfl (.tmp rfl (.tmp rfl .nil)))) rfl (.refl _) (.refl _) ?_
                  first
                    | exact hex.elim
                    | (exfalso; omega)
                    | exact ⟨by rw [hf1, hf2, hf3], rfl⟩
                    | exact ⟨by rw [nm_prev (by omega) (decide_eq_true (by omega)), show n = 68 by omega]; rfl, rfl⟩
                    | exact ⟨by rw [nm_push (by omega) (by omega), (sh_push n hn (by omega) (by omega)).1, (sh_push n hn (by omega) (by omega)).2]; rfl, rfl⟩
                    | exact ⟨by rw [nm_dup (by omega) (by omega), (sh_dup n hn (by omega) (by omega)).1, (sh_dup n hn (by omega) (by omega)).2, show ((n - 127 : Nat) : Int) = (n : Int) - 127 by omega, show ((n - 126 : Nat) : Int) = (n : Int) - 126 by omega]; rfl, rfl⟩
                    | exact ⟨by rw [nm_swap (by omega) (by omega), (sh_swap n hn (by omega) (by omega)).1, (sh_swap n hn (by omega) (by omega)).2, show ((n - 142 : Nat) : Int) = (n : Int) - 142 by omega]; rfl, rfl⟩
                    | exact ⟨by rw [nm_log (by omega) (by omega), (sh_log n hn (by omega) (by omega)).1, (sh_log n hn (by omega) (by omega)).2, show ((n - 158 : Nat) : Int) = (n : Int) - 160 + 2 by omega]; rfl, rfl⟩
                · refine At.seq fun K27 hk_27 => ?_
                  refine At.region ?_
                  refine op_move (nxlf rfl) rfl rfl ?_
                  refine op_geq (nxlf rfl) rfl rfl rfl ?_
                  refine op_move (nxlf rfl) rfl rfl ?_
                  refine At.partP (d := 65) rfl (fun g65 => ?_) (fun g65 => ?_)
                  · refine op_move (nxgf rfl rfl rfl rfl) rfl rfl ?_
                    refine op_leq (nxgf rfl rfl rfl rfl) rfl rfl rfl ?_
                    refine op_pickT (nxlf rfl) rfl rfl rfl ?_
                    refine op_assign (nxlf rfl) rfl rfl ?_
                    refine At.opsNil ?_
                    refine At.norm (hk_27 ?_)
                    refine At.condP rfl (fun c62 => ?_) (fun c62 => ?_)
                    · refine At.seq fun K28 hk_28 => ?_
                      refine At.region ?_
                      refine op_move (nxlf rfl) rfl rfl ?_
                      refine op_subI (nxlf rfl) rfl rfl (by omega) (by omega) rfl ?_
                      rw [show (n : Int) - 160 = ((n - 160 : Nat) : Int) by omega]
                      refine op_callA (nxla rfl) (.cons rfl .nil) (rDigits_f (n - 160) (by omega)) Tryd.func33 rfl rfl (by simp) rfl ?_
                      rintro v71 L71 ⟨rfl, rfl⟩
                      change At _ _ _ [R] _
                      rw [dec2_eq (n := n - 160) (by omega)]; have hd := dec2_le (n - 160)
                      refine op_addS (a := [76, 79, 71]) (nxlf rfl) rfl rfl (by simp; omega) rfl ?_
                      refine op_move (nxlf rfl) rfl rfl ?_
                      refine op_subI (nxlf rfl) rfl rfl (by omega) (by omega) rfl ?_
                      refine op_addI (nxlf rfl) rfl rfl (by omega) (by omega) rfl ?_
                      refine op_assign (nxlf rfl) rfl rfl ?_
                      refine op_assign (nxlf rfl) rfl rfl ?_
                      refine op_assign (nxlf rfl) rfl rfl ?_
                      refine op_assign (nxlf rfl) rfl rfl ?_
                      refine At.opsNil ?_
                      refine At.norm (hk_28 ?_)
                      refine At.ret (At.inRet (At.thenRet (?_)))
                      refine At.retN (L1 := []) rfl (.tmp rfl (.tmp rfl (.tmp rfl (.tmp rfl .nil)))) rfl (.refl _) (.refl _) ?_
                      first
                        | exact hex.elim
                        | (exfalso; omega)
                        | exact ⟨by rw [hf1, hf2, hf3], rfl⟩
                        | exact ⟨by rw [nm_prev (by omega) (decide_eq_true (by omega)), show n = 68 by omega]; rfl, rfl⟩
                        | exact ⟨by rw [nm_push (by omega) (by omega), (sh_push n hn (by omega) (by omega)).1, (sh_push n hn (by omega) (by omega)).2]; rfl, rfl⟩
                        | exact ⟨by rw [nm_dup (by omega) (by omega), (sh_dup n hn (by omega) (by omega)).1, (sh_dup n hn (by omega) (by omega)).2, show ((n - 127 : Nat) : Int) = (n : Int) - 127 by omega, show ((n - 126 : Nat) : Int) = (n : Int) - 126 by omega]; rfl, rfl⟩
                        | exact ⟨by rw [nm_swap (by omega) (by omega), (sh_swap n hn (by omega) (by omega)).1, (sh_swap n hn (by omega) (by omega)).2, show ((n - 142 : Nat) : Int) = (n : Int) - 142 by omega]; rfl, rfl⟩
                        | exact ⟨by rw [nm_log (by omega) (by omega), (sh_log n hn (by omega) (by omega)).1, (sh_log n hn (by omega) (by omega)).2, show ((n - 158 : Nat) : Int) = (n : Int) - 160 + 2 by omega]; rfl, rfl⟩
                    · refine At.skip ?_
                      refine At.inNorm ?_
                      refine At.norm (jk_4 ?_ (.refl _) ⟨rfl, rfl, (by omega), (fun h => by have := of_decide_eq_true h.2; omega)⟩)
                      exact .cons (by first | exact lkI rfl (by omega) | rfl) .nil
                  · refine op_skip rfl rfl rfl rfl rfl rfl rfl ?_
                    refine op_skip rfl rfl rfl rfl rfl rfl rfl ?_
                    refine op_pickF (nxlf rfl) rfl rfl rfl ?_
                    refine op_assign (nxlf rfl) rfl rfl ?_
                    refine At.opsNil ?_
                    refine At.norm (hk_27 ?_)
                    refine At.condF rfl ?_
                    refine At.skip ?_
                    refine At.inNorm ?_
                    refine At.norm (jk_4 ?_ (.refl _) ⟨rfl, rfl, (by omega), (fun h => by have := of_decide_eq_true h.2; omega)⟩)
                    exact .cons (by first | exact lkI rfl (by omega) | rfl) .nil
              · refine op_skip rfl rfl rfl rfl rfl rfl rfl ?_
                refine op_skip rfl rfl rfl rfl rfl rfl rfl ?_
                refine op_pickF (nxlf rfl) rfl rfl rfl ?_
                refine op_assign (nxlf rfl) rfl rfl ?_
                refine At.opsNil ?_
                refine At.norm (hk_25 ?_)
                refine At.condF rfl ?_
                refine At.seq fun K29 hk_29 => ?_
                refine At.region ?_
                refine op_move (nxlf rfl) rfl rfl ?_
                refine op_geq (nxlf rfl) rfl rfl rfl ?_
                refine op_move (nxlf rfl) rfl rfl ?_
                refine At.partP (d := 65) rfl (fun g65 => ?_) (fun g65 => ?_)
                · refine op_move (nxgf rfl rfl rfl rfl) rfl rfl ?_
                  refine op_leq (nxgf rfl rfl rfl rfl) rfl rfl rfl ?_
                  refine op_pickT (nxlf rfl) rfl rfl rfl ?_
                  refine op_assign (nxlf rfl) rfl rfl ?_
                  refine At.opsNil ?_
                  refine At.norm (hk_29 ?_)
                  refine At.condP rfl (fun c62 => ?_) (fun c62 => ?_)
                  · refine At.seq fun K30 hk_30 => ?_
                    refine At.region ?_
                    refine op_move (nxlf rfl) rfl rfl ?_
                    refine op_subI (nxlf rfl) rfl rfl (by omega) (by omega) rfl ?_
                    rw [show (n : Int) - 160 = ((n - 160 : Nat) : Int) by omega]
                    refine op_callA (nxla rfl) (.cons rfl .nil) (rDigits_f (n - 160) (by omega)) Tryd.func33 rfl rfl (by simp) rfl ?_
                    rintro v71 L71 ⟨rfl, rfl⟩
                    change At _ _ _ [R] _
                    rw [dec2_eq (n := n - 160) (by omega)]; have hd := dec2_le (n - 160)
                    refine op_addS (a := [76, 79, 71]) (nxlf rfl) rfl rfl (by simp; omega) rfl ?_
                    refine op_move (nxlf rfl) rfl rfl ?_
                    refine op_subI (nxlf rfl) rfl rfl (by omega) (by omega) rfl ?_
                    refine op_addI (nxlf rfl) rfl rfl (by omega) (by omega) rfl ?_
                    refine op_assign (nxlf rfl) rfl rfl ?_
                    refine op_assign (nxlf rfl) rfl rfl ?_
                    refine op_assign (nxlf rfl) rfl rfl ?_
                    refine op_assign (nxlf rfl) rfl rfl ?_
                    refine At.opsNil ?_
                    refine At.norm (hk_30 ?_)
                    refine At.ret (At.inRet (At.thenRet (?_)))
                    refine At.retN (L1 := []) rfl (.tmp rfl (.tmp rfl (.tmp rfl (.tmp rfl .nil)))) rfl (.refl _) (.refl _) ?_
                    first
                      | exact hex.elim
                      | (exfalso; omega)
                      | exact ⟨by rw [hf1, hf2, hf3], rfl⟩
                      | exact ⟨by rw [nm_prev (by omega) (decide_eq_true (by omega)), show n = 68 by omega]; rfl, rfl⟩
                      | exact ⟨by rw [nm_push (by omega) (by omega), (sh_push n hn (by omega) (by omega)).1, (sh_push n hn (by omega) (by omega)).2]; rfl, rfl⟩
                      | exact ⟨by rw [nm_dup (by omega) (by omega), (sh_dup n hn (by omega) (by omega)).1, (sh_dup n hn (by omega) (by omega)).2, show ((n - 127 : Nat) : Int) = (n : Int) - 127 by omega, show ((n - 126 : Nat) : Int) = (n : Int) - 126 by omega]; rfl, rfl⟩
                      | exact ⟨by rw [nm_swap (by omega) (by omega), (sh_swap n hn (by omega) (by omega)).1, (sh_swap n hn (by omega) (by omega)).2, show ((n - 142 : Nat) : Int) = (n : Int) - 142 by omega]; rfl, rfl⟩
                      | exact ⟨by rw [nm_log (by omega) (by omega), (sh_log n hn (by omega) (by omega)).1, (sh_log n hn (by omega) (by omega)).2, show ((n - 158 : Nat) : Int) = (n : Int) - 160 + 2 by omega]; rfl, rfl⟩
                  · refine At.skip ?_
                    refine At.inNorm ?_
                    refine At.norm (jk_4 ?_ (.refl _) ⟨rfl, rfl, (by omega), (fun h => by have := of_decide_eq_true h.2; omega)⟩)
                    exact .cons (by first | exact lkI rfl (by omega) | rfl) .nil
                · refine op_skip rfl rfl rfl rfl rfl rfl rfl ?_
                  refine op_skip rfl rfl rfl rfl rfl rfl rfl ?_
                  refine op_pickF (nxlf rfl) rfl rfl rfl ?_
                  refine op_assign (nxlf rfl) rfl rfl ?_
                  refine At.opsNil ?_
                  refine At.norm (hk_29 ?_)
                  refine At.condF rfl ?_
                  refine At.skip ?_
                  refine At.inNorm ?_
                  refine At.norm (jk_4 ?_ (.refl _) ⟨rfl, rfl, (by omega), (fun h => by have := of_decide_eq_true h.2; omega)⟩)
                  exact .cons (by first | exact lkI rfl (by omega) | rfl) .nil
          · refine op_skip rfl rfl rfl rfl rfl rfl rfl ?_
            refine op_skip rfl rfl rfl rfl rfl rfl rfl ?_
            refine op_pickF (nxlf rfl) rfl rfl rfl ?_
            refine op_assign (nxlf rfl) rfl rfl ?_
            refine At.opsNil ?_
            refine At.norm (hk_23 ?_)
            refine At.condF rfl ?_
            refine At.seq fun K31 hk_31 => ?_
            refine At.region ?_
            refine op_move (nxlf rfl) rfl rfl ?_
            refine op_geq (nxlf rfl) rfl rfl rfl ?_
            refine op_move (nxlf rfl) rfl rfl ?_
            refine At.partP (d := 50) rfl (fun g50 => ?_) (fun g50 => ?_)
            · refine op_move (nxgf rfl rfl rfl rfl) rfl rfl ?_
              refine op_leq (nxgf rfl rfl rfl rfl) rfl rfl rfl ?_
              refine op_pickT (nxlf rfl) rfl rfl rfl ?_
              refine op_assign (nxlf rfl) rfl rfl ?_
              refine At.opsNil ?_
              refine At.norm (hk_31 ?_)
              refine At.condP rfl (fun c47 => ?_) (fun c47 => ?_)
              · refine At.seq fun K32 hk_32 => ?_
                refine At.region ?_
                refine op_move (nxlf rfl) rfl rfl ?_
                refine op_subI (nxlf rfl) rfl rfl (by omega) (by omega) rfl ?_
                rw [show (n : Int) - 143 = ((n - 143 : Nat) : Int) by omega]
                refine op_callA (nxla rfl) (.cons rfl .nil) (rDigits_f (n - 143) (by omega)) Tryd.func33 rfl rfl (by simp) rfl ?_
                rintro v56 L56 ⟨rfl, rfl⟩
                change At _ _ _ [R] _
                rw [dec2_eq (n := n - 143) (by omega)]; have hd := dec2_le (n - 143)
                refine op_addS (a := [83, 87, 65, 80]) (nxlf rfl) rfl rfl (by simp; omega) rfl ?_
                refine op_move (nxlf rfl) rfl rfl ?_
                refine op_subI (nxlf rfl) rfl rfl (by omega) (by omega) rfl ?_
                refine op_move (nxlf rfl) rfl rfl ?_
                refine op_subI (nxlf rfl) rfl rfl (by omega) (by omega) rfl ?_
                refine op_assign (nxlf rfl) rfl rfl ?_
                refine op_assign (nxlf rfl) rfl rfl ?_
                refine op_assign (nxlf rfl) rfl rfl ?_
                refine op_assign (nxlf rfl) rfl rfl ?_
                refine At.opsNil ?_
                refine At.norm (hk_32 ?_)
                refine At.ret (At.inRet (At.thenRet (?_)))
                refine At.retN (L1 := []) rfl (.tmp rfl (.tmp rfl (.tmp rfl (.tmp rfl .nil)))) rfl (.refl _) (.refl _) ?_
                first
                  | exact hex.elim
                  | (exfalso; omega)
                  | exact ⟨by rw [hf1, hf2, hf3], rfl⟩
                  | exact ⟨by rw [nm_prev (by omega) (decide_eq_true (by omega)), show n = 68 by omega]; rfl, rfl⟩
                  | exact ⟨by rw [nm_push (by omega) (by omega), (sh_push n hn (by omega) (by omega)).1, (sh_push n hn (by omega) (by omega)).2]; rfl, rfl⟩
                  | exact ⟨by rw [nm_dup (by omega) (by omega), (sh_dup n hn (by omega) (by omega)).1, (sh_dup n hn (by omega) (by omega)).2, show ((n - 127 : Nat) : Int) = (n : Int) - 127 by omega, show ((n - 126 : Nat) : Int) = (n : Int) - 126 by omega]; rfl, rfl⟩
                  | exact ⟨by rw [nm_swap (by omega) (by omega), (sh_swap n hn (by omega) (by omega)).1, (sh_swap n hn (by omega) (by omega)).2, show ((n - 142 : Nat) : Int) = (n : Int) - 142 by omega]; rfl, rfl⟩
                  | exact ⟨by rw [nm_log (by omega) (by omega), (sh_log n hn (by omega) (by omega)).1, (sh_log n hn (by omega) (by omega)).2, show ((n - 158 : Nat) : Int) = (n : Int) - 160 + 2 by omega]; rfl, rfl⟩
              · refine At.seq fun K33 hk_33 => ?_
                refine At.region ?_
                refine op_move (nxlf rfl) rfl rfl ?_
                refine op_geq (nxlf rfl) rfl rfl rfl ?_
                refine op_move (nxlf rfl) rfl rfl ?_
                refine At.partP (d := 65) rfl (fun g65 => ?_) (fun g65 => ?_)
                · refine op_move (nxgf rfl rfl rfl rfl) rfl rfl ?_
                  refine op_leq (nxgf rfl rfl rfl rfl) rfl rfl rfl ?_
                  refine op_pickT (nxlf rfl) rfl rfl rfl ?_
                  refine op_assign (nxlf rfl) rfl rfl ?_
                  refine At.opsNil ?_
                  refine At.norm (hk_33 ?_)
                  refine At.condP rfl (fun c62 => ?_) (fun c62 => ?_)
                  · refine At.seq fun K34 hk_34 => ?_
                    refine At.region ?_
                    refine op_move (nxlf rfl) rfl rfl ?_
                    refine op_subI (nxlf rfl) rfl rfl (by omega) (by omega) rfl ?_
                    rw [show (n : Int) - 160 = ((n - 160 : Nat) : Int) by omega]
                    refine op_callA (nxla rfl) (.cons rfl .nil) (rDigits_f (n - 160) (by omega)) Tryd.func33 rfl rfl (by simp) rfl ?_
                    rintro v71 L71 ⟨rfl, rfl⟩
                    change At _ _ _ [R] _
                    rw [dec2_eq (n := n - 160) (by omega)]; have hd := dec2_le (n - 160)
                    refine op_addS (a := [76, 79, 71]) (nxlf rfl) rfl rfl (by simp; omega) rfl ?_
                    refine op_move (nxlf rfl) rfl rfl ?_
                    refine op_subI (nxlf rfl) rfl rfl (by omega) (by omega) rfl ?_
                    refine op_addI (nxlf rfl) rfl rfl (by omega) (by omega) rfl ?_
                    refine op_assign (nxlf rfl) rfl rfl ?_
                    refine op_assign (nxlf rfl) rfl rfl ?_
                    refine op_assign (nxlf rfl) rfl rfl ?_
                    refine op_assign (nxlf rfl) rfl rfl ?_
                    refine At.opsNil ?_
                    refine At.norm (hk_34 ?_)
                    refine At.ret (At.inRet (At.thenRet (?_)))
                    refine At.retN (L1 := []) rfl (.tmp rfl (.tmp rfl (.tmp rfl (.tmp rfl .nil)))) rfl (.refl _) (.refl _) ?_
                    first
                      | exact hex.elim
                      | (exfalso; omega)
                      | exact ⟨by rw [hf1, hf2, hf3], rfl⟩
                      | exact ⟨by rw [nm_prev (by omega) (decide_eq_true (by omega)), show n = 68 by omega]; rfl, rfl⟩
                      | exact ⟨by rw [nm_push (by omega) (by omega), (sh_push n hn (by omega) (by omega)).1, (sh_push n hn (by omega) (by omega)).2]; rfl, rfl⟩
                      | exact ⟨by rw [nm_dup (by omega) (by omega), (sh_dup n hn (by omega) (by omega)).1, (sh_dup n hn (by omega) (by omega)).2, show ((n - 127 : Nat) : Int) = (n : Int) - 127 by omega, show ((n - 126 : Nat) : Int) = (n : Int) - 126 by omega]; rfl, rfl⟩
                      | exact ⟨by rw [nm_swap (by omega) (by omega), (sh_swap n hn (by omega) (by omega)).1, (sh_swap n hn (by omega) (by omega)).2, show ((n - 142 : Nat) : Int) = (n : Int) - 142 by omega]; rfl, rfl⟩
                      | exact ⟨by rw [nm_log (by omega) (by omega), (sh_log n hn (by omega) (by omega)).1, (sh_log n hn (by omega) (by omega)).2, show ((n - 158 : Nat) : Int) = (n : Int) - 160 + 2 by omega]; rfl, rfl⟩
                  · refine At.skip ?_
                    refine At.inNorm ?_
                    refine At.norm (jk_4 ?_ (.refl _) ⟨rfl, rfl, (by omega), (fun h => by have := of_decide_eq_true h.2; omega)⟩)
                    exact .cons (by first | exact lkI rfl (by omega) | rfl) .nil
                · refine op_skip rfl rfl rfl rfl rfl rfl rfl ?_
                  refine op_skip rfl rfl rfl rfl rfl rfl rfl ?_
                  refine op_pickF (nxlf rfl) rfl rfl rfl ?_
                  refine op_assign (nxlf rfl) rfl rfl ?_
                  refine At.opsNil ?_
                  refine At.norm (hk_33 ?_)
                  refine At.condF rfl ?_
                  refine At.skip ?_
                  refine At.inNorm ?_
                  refine At.norm (jk_4 ?_ (.refl _) ⟨rfl, rfl, (by omega), (fun h => by have := of_decide_eq_true h.2; omega)⟩)
                  exact .cons (by first | exact lkI rfl (by omega) | rfl) .nil
            · refine op_skip rfl rfl rfl rfl rfl rfl rfl ?_
              refine op_skip rfl rfl rfl rfl rfl rfl rfl ?_
              refine op_pickF (nxlf rfl) rfl rfl rfl ?_
              refine op_assign (nxlf rfl) rfl rfl ?_
              refine At.opsNil ?_
              refine At.norm (hk_31 ?_)
              refine At.condF rfl ?_
              refine At.seq fun K35 hk_35 => ?_
              refine At.region ?_
              refine op_move (nxlf rfl) rfl rfl ?_
              refine op_geq (nxlf rfl) rfl rfl rfl ?_
              refine op_move (nxlf rfl) rfl rfl ?_
              refine At.partP (d := 65) rfl (fun g65 => ?_) (fun g65 => ?_)
              · refine op_move (nxgf rfl rfl rfl rfl) rfl rfl ?_
                refine op_leq (nxgf rfl rfl rfl rfl) rfl rfl rfl ?_
                refine op_pickT (nxlf rfl) rfl rfl rfl ?_
                refine op_assign (nxlf rfl) rfl rfl ?_
                refine At.opsNil ?_
                refine At.norm (hk_35 ?_)
                refine At.condP rfl (fun c62 => ?_) (fun c62 => ?_)
                · refine At.seq fun K36 hk_36 => ?_
                  refine At.region ?_
                  refine op_move (nxlf rfl) rfl rfl ?_
                  refine op_subI (nxlf rfl) rfl rfl (by omega) (by omega) rfl ?_
                  rw [show (n : Int) - 160 = ((n - 160 : Nat) : Int) by omega]
                  refine op_callA (nxla rfl) (.cons rfl .nil) (rDigits_f (n - 160) (by omega)) Tryd.func33 rfl rfl (by simp) rfl ?_
                  rintro v71 L71 ⟨rfl, rfl⟩
                  change At _ _ _ [R] _
                  rw [dec2_eq (n := n - 160) (by omega)]; have hd := dec2_le (n - 160)
                  refine op_addS (a := [76, 79, 71]) (nxlf rfl) rfl rfl (by simp; omega) rfl ?_
                  refine op_move (nxlf rfl) rfl rfl ?_
                  refine op_subI (nxlf rfl) rfl rfl (by omega) (by omega) rfl ?_
                  refine op_addI (nxlf rfl) rfl rfl (by omega) (by omega) rfl ?_
                  refine op_assign (nxlf rfl) rfl rfl ?_
                  refine op_assign (nxlf rfl) rfl rfl ?_
                  refine op_assign (nxlf rfl) rfl rfl ?_
                  refine op_assign (nxlf rfl) rfl rfl ?_
                  refine At.opsNil ?_
                  refine At.norm (hk_36 ?_)
                  refine At.ret (At.inRet (At.thenRet (?_)))
                  refine At.retN (L1 := []) rfl (.tmp rfl (.tmp rfl (.tmp rfl (.tmp rfl .nil)))) rfl (.refl _) (.refl _) ?_
                  first
                    | exact hex.elim
                    | (exfalso; omega)
                    | exact ⟨by rw [hf1, hf2, hf3], rfl⟩
                    | exact ⟨by rw [nm_prev (by omega) (decide_eq_true (by omega)), show n = 68 by omega]; rfl, rfl⟩
                    | exact ⟨by rw [nm_push (by omega) (by omega), (sh_push n hn (by omega) (by omega)).1, (sh_push n hn (by omega) (by omega)).2]; rfl, rfl⟩
                    | exact ⟨by rw [nm_dup (by omega) (by omega), (sh_dup n hn (by omega) (by omega)).1, (sh_dup n hn (by omega) (by omega)).2, show ((n - 127 : Nat) : Int) = (n : Int) - 127 by omega, show ((n - 126 : Nat) : Int) = (n : Int) - 126 by omega]; rfl, rfl⟩
                    | exact ⟨by rw [nm_swap (by omega) (by omega), (sh_swap n hn (by omega) (by omega)).1, (sh_swap n hn (by omega) (by omega)).2, show ((n - 142 : Nat) : Int) = (n : Int) - 142 by omega]; rfl, rfl⟩
                    | exact ⟨by rw [nm_log (by omega) (by omega), (sh_log n hn (by omega) (by omega)).1, (sh_log n hn (by omega) (by omega)).2, show ((n - 158 : Nat) : Int) = (n : Int) - 160 + 2 by omega]; rfl, rfl⟩
                · refine At.skip ?_
                  refine At.inNorm ?_
                  refine At.norm (jk_4 ?_ (.refl _) ⟨rfl, rfl, (by omega), (fun h => by have := of_decide_eq_true h.2; omega)⟩)
                  exact .cons (by first | exact lkI rfl (by omega) | rfl) .nil
              · refine op_skip rfl rfl rfl rfl rfl rfl rfl ?_
                refine op_skip rfl rfl rfl rfl rfl rfl rfl ?_
                refine op_pickF (nxlf rfl) rfl rfl rfl ?_
                refine op_assign (nxlf rfl) rfl rfl ?_
                refine At.opsNil ?_
                refine At.norm (hk_35 ?_)
                refine At.condF rfl ?_
                refine At.skip ?_
                refine At.inNorm ?_
                refine At.norm (jk_4 ?_ (.refl _) ⟨rfl, rfl, (by omega), (fun h => by have := of_decide_eq_true h.2; omega)⟩)
                exact .cons (by first | exact lkI rfl (by omega) | rfl) .nil
    · refine op_skip rfl rfl rfl rfl rfl rfl rfl ?_
      refine op_skip rfl rfl rfl rfl rfl rfl rfl ?_
      refine op_pickF (nxlf rfl) rfl rfl rfl ?_
      refine op_assign (nxlf rfl) rfl rfl ?_
      refine At.opsNil ?_
      refine At.norm (hk_5 ?_)
      refine At.condF rfl ?_
      refine At.seq fun K37 hk_37 => ?_
      refine At.region ?_
      refine op_move (nxlf rfl) rfl rfl ?_
      refine op_geq (nxlf rfl) rfl rfl rfl ?_
      refine op_move (nxlf rfl) rfl rfl ?_
      refine At.partP (d := 24) rfl (fun g24 => ?_) (fun g24 => ?_)
      · refine op_move (nxgf rfl rfl rfl rfl) rfl rfl ?_
        refine op_leq (nxgf rfl rfl rfl rfl) rfl rfl rfl ?_
        refine op_pickT (nxlf rfl) rfl rfl rfl ?_
        refine op_assign (nxlf rfl) rfl rfl ?_
        refine At.opsNil ?_
        refine At.norm (hk_37 ?_)
        refine At.condP rfl (fun c21 => ?_) (fun c21 => ?_)
        · refine At.seq fun K38 hk_38 => ?_
          refine At.region ?_
          refine op_move (nxlf rfl) rfl rfl ?_
          refine op_subI (nxlf rfl) rfl rfl (by omega) (by omega) rfl ?_
          rw [show (n : Int) - 95 = ((n - 95 : Nat) : Int) by omega]
          refine op_callA (nxla rfl) (.cons rfl .nil) (rDigits_f (n - 95) (by omega)) Tryd.func33 rfl rfl (by simp) rfl ?_
          rintro v30 L30 ⟨rfl, rfl⟩
          change At _ _ _ [R] _
          rw [dec2_eq (n := n - 95) (by omega)]; have hd := dec2_le (n - 95)
          refine op_addS (a := [80, 85, 83, 72]) (nxlf rfl) rfl rfl (by simp; omega) rfl ?_
          refine op_assign (nxlf rfl) rfl rfl ?_
          refine op_assign (nxlf rfl) rfl rfl ?_
          refine op_assign (nxlf rfl) rfl rfl ?_
          refine op_assign (nxlf rfl) rfl rfl ?_
          refine At.opsNil ?_
          refine At.norm (hk_38 ?_)
          refine At.ret (At.inRet (At.thenRet (?_)))
          refine At.retN (L1 := []) rfl (.tmp rfl (.tmp rfl (.tmp rfl (.tmp rfl .nil)))) rfl (.refl _) (.refl _) ?_
          first
            | exact hex.elim
            | (exfalso; omega)
            | exact ⟨by rw [hf1, hf2, hf3], rfl⟩
            | exact ⟨by rw [nm_prev (by omega) (decide_eq_true (by omega)), show n = 68 by omega]; rfl, rfl⟩
            | exact ⟨by rw [nm_push (by omega) (by omega), (sh_push n hn (by omega) (by omega)).1, (sh_push n hn (by omega) (by omega)).2]; rfl, rfl⟩
            | exact ⟨by rw [nm_dup (by omega) (by omega), (sh_dup n hn (by omega) (by omega)).1, (sh_dup n hn (by omega) (by omega)).2, show ((n - 127 : Nat) : Int) = (n : Int) - 127 by omega, show ((n - 126 : Nat) : Int) = (n : Int) - 126 by omega]; rfl, rfl⟩
            | exact ⟨by rw [nm_swap (by omega) (by omega), (sh_swap n hn (by omega) (by omega)).1, (sh_swap n hn (by omega) (by omega)).2, show ((n - 142 : Nat) : Int) = (n : Int) - 142 by omega]; rfl, rfl⟩
            | exact ⟨by rw [nm_log (by omega) (by omega), (sh_log n hn (by omega) (by omega)).1, (sh_log n hn (by omega) (by omega)).2, show ((n - 158 : Nat) : Int) = (n : Int) - 160 + 2 by omega]; rfl, rfl⟩
        · refine At.seq fun K39 hk_39 => ?_
          refine At.region ?_
          refine op_move (nxlf rfl) rfl rfl ?_
          refine op_geq (nxlf rfl) rfl rfl rfl ?_
          refine op_move (nxlf rfl) rfl rfl ?_
          refine At.partP (d := 35) rfl (fun g35 => ?_) (fun g35 => ?_)
          · refine op_move (nxgf rfl rfl rfl rfl) rfl rfl ?_
            refine op_leq (nxgf rfl rfl rfl rfl) rfl rfl rfl ?_
            refine op_pickT (nxlf rfl) rfl rfl rfl ?_
            refine op_assign (nxlf rfl) rfl rfl ?_
            refine At.opsNil ?_
            refine At.norm (hk_39 ?_)
            refine At.condP rfl (fun c32 => ?_) (fun c32 => ?_)
            · refine At.seq fun K40 hk_40 => ?_
              refine At.region ?_
              refine op_move (nxlf rfl) rfl rfl ?_
              refine op_subI (nxlf rfl) rfl rfl (by omega) (by omega) rfl ?_
              rw [show (n : Int) - 127 = ((n - 127 : Nat) : Int) by omega]
              refine op_callA (nxla rfl) (.cons rfl .nil) (rDigits_f (n - 127) (by omega)) Tryd.func33 rfl rfl (by simp) rfl ?_
              rintro v41 L41 ⟨rfl, rfl⟩
              change At _ _ _ [R] _
              rw [dec2_eq (n := n - 127) (by omega)]; have hd := dec2_le (n - 127)
              refine op_addS (a := [68, 85, 80]) (nxlf rfl) rfl rfl (by simp; omega) rfl ?_
              refine op_move (nxlf rfl) rfl rfl ?_
              refine op_subI (nxlf rfl) rfl rfl (by omega) (by omega) rfl ?_
              refine op_move (nxlf rfl) rfl rfl ?_
              refine op_subI (nxlf rfl) rfl rfl (by omega) (by omega) rfl ?_
              refine op_assign (nxlf rfl) rfl rfl ?_
              refine op_assign (nxlf rfl) rfl rfl ?_
              refine op_assign (nxlf rfl) rfl rfl ?_
              refine op_assign (nxlf rfl) rfl rfl ?_
              refine At.opsNil ?_
              refine At.norm (hk_40 ?_)
              refine At.ret (At.inRet (At.thenRet (?_)))
              refine At.retN (L1 := []) rfl (.tmp rfl (.tmp rfl (.tmp rfl (.tmp rfl .nil)))) rfl (.refl _) (.refl _) ?_
              first
                | exact hex.elim
                | (exfalso; omega)
                | exact ⟨by rw [hf1, hf2, hf3], rfl⟩
                | exact ⟨by rw [nm_prev (by omega) (decide_eq_true (by omega)), show n = 68 by omega]; rfl, rfl⟩
                | exact ⟨by rw [nm_push (by omega) (by omega), (sh_push n hn (by omega) (by omega)).1, (sh_push n hn (by omega) (by omega)).2]; rfl, rfl⟩
                | exact ⟨by rw [nm_dup (by omega) (by omega), (sh_dup n hn (by omega) (by omega)).1, (sh_dup n hn (by omega) (by omega)).2, show ((n - 127 : Nat) : Int) = (n : Int) - 127 by omega, show ((n - 126 : Nat) : Int) = (n : Int) - 126 by omega]; rfl, rfl⟩
                | exact ⟨by rw [nm_swap (by omega) (by omega), (sh_swap n hn (by omega) (by omega)).1, (sh_swap n hn (by omega) (by omega)).2, show ((n - 142 : Nat) : Int) = (n : Int) - 142 by omega]; rfl, rfl⟩
                | exact ⟨by rw [nm_log (by omega) (by omega), (sh_log n hn (by omega) (by omega)).1, (sh_log n hn (by omega) (by omega)).2, show ((n - 158 : Nat) : Int) = (n : Int) - 160 + 2 by omega]; rfl, rfl⟩
            · refine At.seq fun K41 hk_41 => ?_
              refine At.region ?_
              refine op_move (nxlf rfl) rfl rfl ?_
              refine op_geq (nxlf rfl) rfl rfl rfl ?_
              refine op_move (nxlf rfl) rfl rfl ?_
              refine At.partP (d := 50) rfl (fun g50 => ?_) (fun g50 => ?_)
              · refine op_move (nxgf rfl rfl rfl rfl) rfl rfl ?_
                refine op_leq (nxgf rfl rfl rfl rfl) rfl rfl rfl ?_
                refine op_pickT (nxlf rfl) rfl rfl rfl ?_
                refine op_assign (nxlf rfl) rfl rfl ?_
                refine At.opsNil ?_
                refine At.norm (hk_41 ?_)
                refine At.condP rfl (fun c47 => ?_) (fun c47 => ?_)
                · refine At.seq fun K42 hk_42 => ?_
                  refine At.region ?_
                  refine op_move (nxlf rfl) rfl rfl ?_
                  refine op_subI (nxlf rfl) rfl rfl (by omega) (by omega) rfl ?_
                  rw [show (n : Int) - 143 = ((n - 143 : Nat) : Int) by omega]
                  refine op_callA (nxla rfl) (.cons rfl .nil) (rDigits_f (n - 143) (by omega)) Tryd.func33 rfl rfl (by simp) rfl ?_
                  rintro v56 L56 ⟨rfl, rfl⟩
                  change At _ _ _ [R] _
                  rw [dec2_eq (n := n - 143) (by omega)]; have hd := dec2_le (n - 143)
                  refine op_addS (a := [83, 87, 65, 80]) (nxlf rfl) rfl rfl (by simp; omega) rfl ?_
                  refine op_move (nxlf rfl) rfl rfl ?_
                  refine op_subI (nxlf rfl) rfl rfl (by omega) (by omega) rfl ?_
                  refine op_move (nxlf rfl) rfl rfl ?_
                  refine op_subI (nxlf rfl) rfl rfl (by omega) (by omega) rfl ?_
                  refine op_assign (nxlf rfl) rfl rfl ?_
                  refine op_assign (nxlf rfl) rfl rfl ?_
                  refine op_assign (nxlf rfl) rfl rfl ?_
                  refine op_assign (nxlf rfl) rfl rfl ?_
                  refine At.opsNil ?_
                  refine At.norm (hk_42 ?_)
                  refine At.ret (At.inRet (At.thenRet (?_)))
                  refine At.retN (L1 := []) rfl (.tmp rfl (.tmp rfl (.tmp rfl (.tmp rfl .nil)))) rfl (.refl _) (.refl _) ?_
                  first
                    | exact hex.elim
                    | (exfalso; omega)
                    | exact ⟨by rw [hf1, hf2, hf3], rfl⟩
                    | exact ⟨by rw [nm_prev (by omega) (decide_eq_true (by omega)), show n = 68 by omega]; rfl, rfl⟩
                    | exact ⟨by rw [nm_push (by omega) (by omega), (sh_push n hn (by omega) (by omega)).1, (sh_push n hn (by omega) (by omega)).2]; rfl, rfl⟩
                    | exact ⟨by rw [nm_dup (by omega) (by omega), (sh_dup n hn (by omega) (by omega)).1, (sh_dup n hn (by omega) (by omega)).2, show ((n - 127 : Nat) : Int) = (n : Int) - 127 by omega, show ((n - 126 : Nat) : Int) = (n : Int) - 126 by omega]; rfl, rfl⟩
                    | exact ⟨by rw [nm_swap (by omega) (by omega), (sh_swap n hn (by omega) (by omega)).1, (sh_swap n hn (by omega) (by omega)).2, show ((n - 142 : Nat) : Int) = (n : Int) - 142 by omega]; rfl, rfl⟩
                    | exact ⟨by rw [nm_log (by omega) (by omega), (sh_log n hn (by omega) (by omega)).1, (sh_log n hn (by omega) (by omega)).2, show ((n - 158 : Nat) : Int) = (n : Int) - 160 + 2 by omega]; rfl, rfl⟩
                · refine At.seq fun K43 hk_43 => ?_
                  refine At.region ?_
                  refine op_move (nxlf rfl) rfl rfl ?_
                  refine op_geq (nxlf rfl) rfl rfl rfl ?_
                  refine op_move (nxlf rfl) rfl rfl ?_
                  refine At.partP (d := 65) rfl (fun g65 => ?_) (fun g65 => ?_)
                  · refine op_move (nxgf rfl rfl rfl rfl) rfl rfl ?_
                    refine op_leq (nxgf rfl rfl rfl rfl) rfl rfl rfl ?_
                    refine op_pickT (nxlf rfl) rfl rfl rfl ?_
                    refine op_assign (nxlf rfl) rfl rfl ?_
                    refine At.opsNil ?_
                    refine At.norm (hk_43 ?_)
                    refine At.condP rfl (fun c62 => ?_) (fun c62 => ?_)
                    · refine At.seq fun K44 hk_44 => ?_
                      refine At.region ?_
                      refine op_move (nxlf rfl) rfl rfl ?_
                      refine op_subI (nxlf rfl) rfl rfl (by omega) (by omega) rfl ?_
                      rw [show (n : Int) - 160 = ((n - 160 : Nat) : Int) by omega]
                      refine op_callA (nxla rfl) (.cons rfl .nil) (rDigits_f (n - 160) (by omega)) Tryd.func33 rfl rfl (by simp) rfl ?_
                      rintro v71 L71 ⟨rfl, rfl⟩
                      change At _ _ _ [R] _
                      rw [dec2_eq (n := n - 160) (by omega)]; have hd := dec2_le (n - 160)
                      refine op_addS (a := [76, 79, 71]) (nxlf rfl) rfl rfl (by simp; omega) rfl ?_
                      refine op_move (nxlf rfl) rfl rfl ?_
                      refine op_subI (nxlf rfl) rfl rfl (by omega) (by omega) rfl ?_
                      refine op_addI (nxlf rfl) rfl rfl (by omega) (by omega) rfl ?_
                      refine op_assign (nxlf rfl) rfl rfl ?_
                      refine op_assign (nxlf rfl) rfl rfl ?_
                      refine op_assign (nxlf rfl) rfl rfl ?_
                      refine op_assign (nxlf rfl) rfl rfl ?_
                      refine At.opsNil ?_
                      refine At.norm (hk_44 ?_)
                      refine At.ret (At.inRet (At.thenRet (?_)))
                      refine At.retN (L1 := []) rfl (.tmp rfl (.tmp rfl (.tmp rfl (.tmp rfl .nil)))) rfl (.refl _) (.refl _) ?_
                      first
                        | exact hex.elim
                        | (exfalso; omega)
                        | exact ⟨by rw [hf1, hf2, hf3], rfl⟩
                        | exact ⟨by rw [nm_prev (by omega) (decide_eq_true (by omega)), show n = 68 by omega]; rfl, rfl⟩
                        | exact ⟨by rw [nm_push (by omega) (by omega), (sh_push n hn (by omega) (by omega)).1, (sh_push n hn (by omega) (by omega)).2]; rfl, rfl⟩
                        | exact ⟨by rw [nm_dup (by omega) (by omega), (sh_dup n hn (by omega) (by omega)).1, (sh_dup n hn (by omega) (by omega)).2, show ((n - 127 : Nat) : Int) = (n : Int) - 127 by omega, show ((n - 126 : Nat) : Int) = (n : Int) - 126 by omega]; rfl, rfl⟩
                        | exact ⟨by rw [nm_swap (by omega) (by omega), (sh_swap n hn (by omega) (by omega)).1, (sh_swap n hn (by omega) (by omega)).2, show ((n - 142 : Nat) : Int) = (n : Int) - 142 by omega]; rfl, rfl⟩
                        | exact ⟨by rw [nm_log (by omega) (by omega), (sh_log n hn (by omega) (by omega)).1, (sh_log n hn (by omega) (by omega)).2, show ((n - 158 : Nat) : Int) = (n : Int) - 160 + 2 by omega]; rfl, rfl⟩
                    · refine At.skip ?_
                      refine At.inNorm ?_
                      refine At.norm (jk_4 ?_ (.refl _) ⟨rfl, rfl, (by omega), (fun h => by have := of_decide_eq_true h.2; omega)⟩)
                      exact .cons (by first | exact lkI rfl (by omega) | rfl) .nil
                  · refine op_skip rfl rfl rfl rfl rfl rfl rfl ?_
                    refine op_skip rfl rfl rfl rfl rfl rfl rfl ?_
                    refine op_pickF (nxlf rfl) rfl rfl rfl ?_
                    refine op_assign (nxlf rfl) rfl rfl ?_
                    refine At.opsNil ?_
                    refine At.norm (hk_43 ?_)
                    refine At.condF rfl ?_
                    refine At.skip ?_
                    refine At.inNorm ?_
                    refine At.norm (jk_4 ?_ (.refl _) ⟨rfl, rfl, (by omega), (fun h => by have := of_decide_eq_true h.2; omega)⟩)
                    exact .cons (by first | exact lkI rfl (by omega) | rfl) .nil
              · refine op_skip rfl rfl rfl rfl rfl rfl rfl ?_
                refine op_skip rfl rfl rfl rfl rfl rfl rfl ?_
                refine op_pickF (nxlf rfl) rfl rfl rfl ?_
                refine op_assign (nxlf rfl) rfl rfl ?_
                refine At.opsNil ?_
                refine At.norm (hk_41 ?_)
                refine At.condF rfl ?_
                refine At.seq fun K45 hk_45 => ?_
                refine At.region ?_
                refine op_move (nxlf rfl) rfl rfl ?_
                refine op_geq (nxlf rfl) rfl rfl rfl ?_
                refine op_move (nxlf rfl) rfl rfl ?_
                refine At.partP (d := 65) rfl (fun g65 => ?_) (fun g65 => ?_)
                · refine op_move (nxgf rfl rfl rfl rfl) rfl rfl ?_
                  refine op_leq (nxgf rfl rfl rfl rfl) rfl rfl rfl ?_
                  refine op_pickT (nxlf rfl) rfl rfl rfl ?_
                  refine op_assign (nxlf rfl) rfl rfl ?_
                  refine At.opsNil ?_
                  refine At.norm (hk_45 ?_)
                  refine At.condP rfl (fun c62 => ?_) (fun c62 => ?_)
                  · refine At.seq fun K46 hk_46 => ?_
                    refine At.region ?_
                    refine op_move (nxlf rfl) rfl rfl ?_
                    refine op_subI (nxlf rfl) rfl rfl (by omega) (by omega) rfl ?_
                    rw [show (n : Int) - 160 = ((n - 160 : Nat) : Int) by omega]
                    refine op_callA (nxla rfl) (.cons rfl .nil) (rDigits_f (n - 160) (by omega)) Tryd.func33 rfl rfl (by simp) rfl ?_
                    rintro v71 L71 ⟨rfl, rfl⟩
                    change At _ _ _ [R] _
                    rw [dec2_eq (n := n - 160) (by omega)]; have hd := dec2_le (n - 160)
                    refine op_addS (a := [76, 79, 71]) (nxlf rfl) rfl rfl (by simp; omega) rfl ?_
                    refine op_move (nxlf rfl) rfl rfl ?_
                    refine op_subI (nxlf rfl) rfl rfl (by omega) (by omega) rfl ?_
                    refine op_addI (nxlf rfl) rfl rfl (by omega) (by omega) rfl ?_
                    refine op_assign (nxlf rfl) rfl rfl ?_
                    refine op_assign (nxlf rfl) rfl rfl ?_
                    refine op_assign (nxlf rfl) rfl rfl ?_
                    refine op_assign (nxlf rfl) rfl rfl ?_
                    refine At.opsNil ?_
                    refine At.norm (hk_46 ?_)
                    refine At.ret (At.inRet (At.thenRet (?_)))
                    refine At.retN (L1 := []) rfl (.tmp rfl (.tmp rfl (.tmp rfl (.tmp rfl .nil)))) rfl (.refl _) (.refl _) ?_
                    first
                      | exact hex.elim
                      | (exfalso; omega)
                      | exact ⟨by rw [hf1, hf2, hf3], rfl⟩
                      | exact ⟨by rw [nm_prev (by omega) (decide_eq_true (by omega)), show n = 68 by omega]; rfl, rfl⟩
                      | exact ⟨by rw [nm_push (by omega) (by omega), (sh_push n hn (by omega) (by omega)).1, (sh_push n hn (by omega) (by omega)).2]; rfl, rfl⟩
                      | exact ⟨by rw [nm_dup (by omega) (by omega), (sh_dup n hn (by omega) (by omega)).1, (sh_dup n hn (by omega) (by omega)).2, show ((n - 127 : Nat) : Int) = (n : Int) - 127 by omega, show ((n - 126 : Nat) : Int) = (n : Int) - 126 by omega]; rfl, rfl⟩
                      | exact ⟨by rw [nm_swap (by omega) (by omega), (sh_swap n hn (by omega) (by omega)).1, (sh_swap n hn (by omega) (by omega)).2, show ((n - 142 : Nat) : Int) = (n : Int) - 142 by omega]; rfl, rfl⟩
                      | exact ⟨by rw [nm_log (by omega) (by omega), (sh_log n hn (by omega) (by omega)).1, (sh_log n hn (by omega) (by omega)).2, show ((n - 158 : Nat) : Int) = (n : Int) - 160 + 2 by omega]; rfl, rfl⟩
                  · refine At.skip ?_
                    refine At.inNorm ?_
                    refine At.norm (jk_4 ?_ (.refl _) ⟨rfl, rfl, (by omega), (fun h => by have := of_decide_eq_true h.2; omega)⟩)
                    exact .cons (by first | exact lkI rfl (by omega) | rfl) .nil
                · refine op_skip rfl rfl rfl rfl rfl rfl rfl ?_
                  refine op_skip rfl rfl rfl rfl rfl rfl rfl ?_
                  refine op_pickF (nxlf rfl) rfl rfl rfl ?_
                  refine op_assign (nxlf rfl) rfl rfl ?_
                  refine At.opsNil ?_
                  refine At.norm (hk_45 ?_)
                  refine At.condF rfl ?_
                  refine At.skip ?_
                  refine At.inNorm ?_
                  refine At.norm (jk_4 ?_ (.refl _) ⟨rfl, rfl, (by omega), (fun h => by have := of_decide_eq_true h.2; omega)⟩)
                  exact .cons (by first | exact lkI rfl (by omega) | rfl) .nil
          · refine op_skip rfl rfl rfl rfl rfl rfl rfl ?_
            refine op_skip rfl rfl rfl rfl rfl rfl rfl ?_
            refine op_pickF (nxlf rfl) rfl rfl rfl ?_
            refine op_assign (nxlf rfl) rfl rfl ?_
            refine At.opsNil ?_
            refine At.norm (hk_39 ?_)
            refine At.condF rfl ?_
            refine At.seq fun K47 hk_47 => ?_
            refine At.region ?_
            refine op_move (nxlf rfl) rfl rfl ?_
            refine op_geq (nxlf rfl) rfl rfl rfl ?_
            refine op_move (nxlf rfl) rfl rfl ?_
            refine At.partP (d := 50) rfl (fun g50 => ?_) (fun g50 => ?_)
            · refine op_move (nxgf rfl rfl rfl rfl) rfl rfl ?_
              refine op_leq (nxgf rfl rfl rfl rfl) rfl rfl rfl ?_
              refine op_pickT (nxlf rfl) rfl rfl rfl ?_
              refine op_assign (nxlf rfl) rfl rfl ?_
              refine At.opsNil ?_
              refine At.norm (hk_47 ?_)
              refine At.condP rfl (fun c47 => ?_) (fun c47 => ?_)
              · refine At.seq fun K48 hk_48 => ?_
                refine At.region ?_
                refine op_move (nxlf rfl) rfl rfl ?_
                refine op_subI (nxlf rfl) rfl rfl (by omega) (by omega) rfl ?_
                rw [show (n : Int) - 143 = ((n - 143 : Nat) : Int) by omega]
                refine op_callA (nxla rfl) (.cons rfl .nil) (rDigits_f (n - 143) (by omega)) Tryd.func33 rfl rfl (by simp) rfl ?_
                rintro v56 L56 ⟨rfl, rfl⟩
                change At _ _ _ [R] _
                rw [dec2_eq (n := n - 143) (by omega)]; have hd := dec2_le (n - 143)
                refine op_addS (a := [83, 87, 65, 80]) (nxlf rfl) rfl rfl (by simp; omega) rfl ?_
                refine op_move (nxlf rfl) rfl rfl ?_
                refine op_subI (nxlf rfl) rfl rfl (by omega) (by omega) rfl ?_
                refine op_move (nxlf rfl) rfl rfl ?_
                refine op_subI (nxlf rfl) rfl rfl (by omega) (by omega) rfl ?_
                refine op_assign (nxlf rfl) rfl rfl ?_
                refine op_assign (nxlf rfl) rfl rfl ?_
                refine op_assign (nxlf rfl) rfl rfl ?_
                refine op_assign (nxlf rfl) rfl rfl ?_
                refine At.opsNil ?_
                refine At.norm (hk_48 ?_)
                refine At.ret (At.inRet (At.thenRet (?_)))
                refine At.retN (L1 := []) rfl (.tmp rfl (.tmp rfl (.tmp rfl (.tmp rfl .nil)))) rfl (.refl _) (.refl _) ?_
                first
                  | exact hex.elim
                  | (exfalso; omega)
                  | exact ⟨by rw [hf1, hf2, hf3], rfl⟩
                  | exact ⟨by rw [nm_prev (by omega) (decide_eq_true (by omega)), show n = 68 by omega]; rfl, rfl⟩
                  | exact ⟨by rw [nm_push (by omega) (by omega), (sh_push n hn (by omega) (by omega)).1, (sh_push n hn (by omega) (by omega)).2]; rfl, rfl⟩
                  | exact ⟨by rw [nm_dup (by omega) (by omega), (sh_dup n hn (by omega) (by omega)).1, (sh_dup n hn (by omega) (by omega)).2, show ((n - 127 : Nat) : Int) = (n : Int) - 127 by omega, show ((n - 126 : Nat) : Int) = (n : Int) - 126 by omega]; rfl, rfl⟩
                  | exact ⟨by rw [nm_swap (by omega) (by omega), (sh_swap n hn (by omega) (by omega)).1, (sh_swap n hn (by omega) (by omega)).2, show ((n - 142 : Nat) : Int) = (n : Int) - 142 by omega]; rfl, rfl⟩
                  | exact ⟨by rw [nm_log (by omega) (by omega), (sh_log n hn (by omega) (by omega)).1, (sh_log n hn (by omega) (by omega)).2, show ((n - 158 : Nat) : Int) = (n : Int) - 160 + 2 by omega]; rfl, rfl⟩
              · refine At.seq fun K49 hk_49 => ?_
                refine At.region ?_
                refine op_move (nxlf rfl) rfl rfl ?_
                refine op_geq (nxlf rfl) rfl rfl rfl ?_
                refine op_move (nxlf rfl) rfl rfl ?_
                refine At.partP (d := 65) rfl (fun g65 => ?_) (fun g65 => ?_)
                · refine op_move (nxgf rfl rfl rfl rfl) rfl rfl ?_
                  refine op_leq (nxgf rfl rfl rfl rfl) rfl rfl rfl ?_
                  refine op_pickT (nxlf rfl) rfl rfl rfl ?_
                  refine op_assign (nxlf rfl) rfl rfl ?_
                  refine At.opsNil ?_
                  refine At.norm (hk_49 ?_)
                  refine At.condP rfl (fun c62 => ?_) (fun c62 => ?_)
                  · refine At.seq fun K50 hk_50 => ?_
                    refine At.region ?_
                    refine op_move (nxlf rfl) rfl rfl ?_
                    refine op_subI (nxlf rfl) rfl rfl (by omega) (by omega) rfl ?_
                    rw [show (n : Int) - 160 = ((n - 160 : Nat) : Int) by omega]
                    refine op_callA (nxla rfl) (.cons rfl .nil) (rDigits_f (n - 160) (by omega)) Tryd.func33 rfl rfl (by simp) rfl ?_
                    rintro v71 L71 ⟨rfl, rfl⟩
                    change At _ _ _ [R] _
                    rw [dec2_eq (n := n - 160) (by omega)]; have hd := dec2_le (n - 160)
                    refine op_addS (a := [76, 79, 71]) (nxlf rfl) rfl rfl (by simp; omega) rfl ?_
                    refine op_move (nxlf rfl) rfl rfl ?_
                    refine op_subI (nxlf rfl) rfl rfl (by omega) (by omega) rfl ?_
                    refine op_addI (nxlf rfl) rfl rfl (by omega) (by omega) rfl ?_
                    refine op_assign (nxlf rfl) rfl rfl ?_
                    refine op_assign (nxlf rfl) rfl rfl ?_
                    refine op_assign (nxlf rfl) rfl rfl ?_
                    refine op_assign (nxlf rfl) rfl rfl ?_
                    refine At.opsNil ?_
                    refine At.norm (hk_50 ?_)
                    refine At.ret (At.inRet (At.thenRet (?_)))
                    refine At.retN (L1 := []) rfl (.tmp rfl (.tmp rfl (.tmp rfl (.tmp rfl .nil)))) rfl (.refl _) (.refl _) ?_
                    first
                      | exact hex.elim
                      | (exfalso; omega)
                      | exact ⟨by rw [hf1, hf2, hf3], rfl⟩
                      | exact ⟨by rw [nm_prev (by omega) (decide_eq_true (by omega)), show n = 68 by omega]; rfl, rfl⟩
                      | exact ⟨by rw [nm_push (by omega) (by omega), (sh_push n hn (by omega) (by omega)).1, (sh_push n hn (by omega) (by omega)).2]; rfl, rfl⟩
                      | exact ⟨by rw [nm_dup (by omega) (by omega), (sh_dup n hn (by omega) (by omega)).1, (sh_dup n hn (by omega) (by omega)).2, show ((n - 127 : Nat) : Int) = (n : Int) - 127 by omega, show ((n - 126 : Nat) : Int) = (n : Int) - 126 by omega]; rfl, rfl⟩
                      | exact ⟨by rw [nm_swap (by omega) (by omega), (sh_swap n hn (by omega) (by omega)).1, (sh_swap n hn (by omega) (by omega)).2, show ((n - 142 : Nat) : Int) = (n : Int) - 142 by omega]; rfl, rfl⟩
                      | exact ⟨by rw [nm_log (by omega) (by omega), (sh_log n hn (by omega) (by omega)).1, (sh_log n hn (by omega) (by omega)).2, show ((n - 158 : Nat) : Int) = (n : Int) - 160 + 2 by omega]; rfl, rfl⟩
                  · refine At.skip ?_
                    refine At.inNorm ?_
                    refine At.norm (jk_4 ?_ (.refl _) ⟨rfl, rfl, (by omega), (fun h => by have := of_decide_eq_true h.2; omega)⟩)
                    exact .cons (by first | exact lkI rfl (by omega) | rfl) .nil
                · refine op_skip rfl rfl rfl rfl rfl rfl rfl ?_
                  refine op_skip rfl rfl rfl rfl rfl rfl rfl ?_
                  refine op_pickF (nxlf rfl) rfl rfl rfl ?_
                  refine op_assign (nxlf rfl) rfl rfl ?_
                  refine At.opsNil ?_
                  refine At.norm (hk_49 ?_)
                  refine At.condF rfl ?_
                  refine At.skip ?_
                  refine At.inNorm ?_
                  refine At.norm (jk_4 ?_ (.refl _) ⟨rfl, rfl, (by omega), (fun h => by have := of_decide_eq_true h.2; omega)⟩)
                  exact .cons (by first | exact lkI rfl (by omega) | rfl) .nil
            · refine op_skip rfl rfl rfl rfl rfl rfl rfl ?_
              refine op_skip rfl rfl rfl rfl rfl rfl rfl ?_
              refine op_pickF (nxlf rfl) rfl rfl rfl ?_
              refine op_assign (nxlf rfl) rfl rfl ?_
              refine At.opsNil ?_
              refine At.norm (hk_47 ?_)
              refine At.condF rfl ?_
              refine At.seq fun K51 hk_51 => ?_
              refine At.region ?_
              refine op_move (nxlf rfl) rfl rfl ?_
              refine op_geq (nxlf rfl) rfl rfl rfl ?_
              refine op_move (nxlf rfl) rfl rfl ?_
              refine At.partP (d := 65) rfl (fun g65 => ?_) (fun g65 => ?_)
              · refine op_move (nxgf rfl rfl rfl rfl) rfl rfl ?_
                refine op_leq (nxgf rfl rfl rfl rfl) rfl rfl rfl ?_
                refine op_pickT (nxlf rfl) rfl rfl rfl ?_
                refine op_assign (nxlf rfl) rfl rfl ?_
                refine At.opsNil ?_
                refine At.norm (hk_51 ?_)
                refine At.condP rfl (fun c62 => ?_) (fun c62 => ?_)
                · refine At.seq fun K52 hk_52 => ?_
                  refine At.region ?_
                  refine op_move (nxlf rfl) rfl rfl ?_
                  refine op_subI (nxlf rfl) rfl rfl (by omega) (by omega) rfl ?_
                  rw [show (n : Int) - 160 = ((n - 160 : Nat) : Int) by omega]
                  refine op_callA (nxla rfl) (.cons rfl .nil) (rDigits_f (n - 160) (by omega)) Tryd.func33 rfl rfl (by simp) rfl ?_
                  rintro v71 L71 ⟨rfl, rfl⟩
                  change At _ _ _ [R] _
                  rw [dec2_eq (n := n - 160) (by omega)]; have hd := dec2_le (n - 160)
                  refine op_addS (a := [76, 79, 71]) (nxlf rfl) rfl rfl (by simp; omega) rfl ?_
                  refine op_move (nxlf rfl) rfl rfl ?_
                  refine op_subI (nxlf rfl) rfl rfl (by omega) (by omega) rfl ?_
                  refine op_addI (nxlf rfl) rfl rfl (by omega) (by omega) rfl ?_
                  refine op_assign (nxlf rfl) rfl rfl ?_
                  refine op_assign (nxlf rfl) rfl rfl ?_
                  refine op_assign (nxlf rfl) rfl rfl ?_
                  refine op_assign (nxlf rfl) rfl rfl ?_
                  refine At.opsNil ?_
                  refine At.norm (hk_52 ?_)
                  refine At.ret (At.inRet (At.thenRet (?_)))
                  refine At.retN (L1 := []) rfl (.tmp rfl (.tmp rfl (.tmp rfl (.tmp rfl .nil)))) rfl (.refl _) (.refl _) ?_
                  first
                    | exact hex.elim
                    | (exfalso; omega)
                    | exact ⟨by rw [hf1, hf2, hf3], rfl⟩
                    | exact ⟨by rw [nm_prev (by omega) (decide_eq_true (by omega)), show n = 68 by omega]; rfl, rfl⟩
                    | exact ⟨by rw [nm_push (by omega) (by omega), (sh_push n hn (by omega) (by omega)).1, (sh_push n hn (by omega) (by omega)).2]; rfl, rfl⟩
                    | exact ⟨by rw [nm_dup (by omega) (by omega), (sh_dup n hn (by omega) (by omega)).1, (sh_dup n hn (by omega) (by omega)).2, show ((n - 127 : Nat) : Int) = (n : Int) - 127 by omega, show ((n - 126 : Nat) : Int) = (n : Int) - 126 by omega]; rfl, rfl⟩
                    | exact ⟨by rw [nm_swap (by omega) (by omega), (sh_swap n hn (by omega) (by omega)).1, (sh_swap n hn (by omega) (by omega)).2, show ((n - 142 : Nat) : Int) = (n : Int) - 142 by omega]; rfl, rfl⟩
                    | exact ⟨by rw [nm_log (by omega) (by omega), (sh_log n hn (by omega) (by omega)).1, (sh_log n hn (by omega) (by omega)).2, show ((n - 158 : Nat) : Int) = (n : Int) - 160 + 2 by omega]; rfl, rfl⟩
                · refine At.skip ?_
                  refine At.inNorm ?_
                  refine At.norm (jk_4 ?_ (.refl _) ⟨rfl, rfl, (by omega), (fun h => by have := of_decide_eq_true h.2; omega)⟩)
                  exact .cons (by first | exact lkI rfl (by omega) | rfl) .nil
              · refine op_skip rfl rfl rfl rfl rfl rfl rfl ?_
                refine op_skip rfl rfl rfl rfl rfl rfl rfl ?_
                refine op_pickF (nxlf rfl) rfl rfl rfl ?_
                refine op_assign (nxlf rfl) rfl rfl ?_
                refine At.opsNil ?_
                refine At.norm (hk_51 ?_)
                refine At.condF rfl ?_
                refine At.skip ?_
                refine At.inNorm ?_
                refine At.norm (jk_4 ?_ (.refl _) ⟨rfl, rfl, (by omega), (fun h => by have := of_decide_eq_true h.2; omega)⟩)
                exact .cons (by first | exact lkI rfl (by omega) | rfl) .nil
      · refine op_skip rfl rfl rfl rfl rfl rfl rfl ?_
        refine op_skip rfl rfl rfl rfl rfl rfl rfl ?_
        refine op_pickF (nxlf rfl) rfl rfl rfl ?_
        refine op_assign (nxlf rfl) rfl rfl ?_
        refine At.opsNil ?_
        refine At.norm (hk_37 ?_)
        refine At.condF rfl ?_
        refine At.seq fun K53 hk_53 => ?_
        refine At.region ?_
        refine op_move (nxlf rfl) rfl rfl ?_
        refine op_geq (nxlf rfl) rfl rfl rfl ?_
        refine op_move (nxlf rfl) rfl rfl ?_
        refine At.partP (d := 35) rfl (fun g35 => ?_) (fun g35 => ?_)
        · refine op_move (nxgf rfl rfl rfl rfl) rfl rfl ?_
          refine op_leq (nxgf rfl rfl rfl rfl) rfl rfl rfl ?_
          refine op_pickT (nxlf rfl) rfl rfl rfl ?_
          refine op_assign (nxlf rfl) rfl rfl ?_
          refine At.opsNil ?_
          refine At.norm (hk_53 ?_)
          refine At.condP rfl (fun c32 => ?_) (fun c32 => ?_)
          · refine At.seq fun K54 hk_54 => ?_
            refine At.region ?_
            refine op_move (nxlf rfl) rfl rfl ?_
            refine op_subI (nxlf rfl) rfl rfl (by omega) (by omega) rfl ?_
            rw [show (n : Int) - 127 = ((n - 127 : Nat) : Int) by omega]
            refine op_callA (nxla rfl) (.cons rfl .nil) (rDigits_f (n - 127) (by omega)) Tryd.func33 rfl rfl (by simp) rfl ?_
            rintro v41 L41 ⟨rfl, rfl⟩
            change At _ _ _ [R] _
            rw [dec2_eq (n := n - 127) (by omega)]; have hd := dec2_le (n - 127)
            refine op_addS (a := [68, 85, 80]) (nxlf rfl) rfl rfl (by simp; omega) rfl ?_
            refine op_move (nxlf rfl) rfl rfl ?_
            refine op_subI (nxlf rfl) rfl rfl (by omega) (by omega) rfl ?_
            refine op_move (nxlf rfl) rfl rfl ?_
            refine op_subI (nxlf rfl) rfl rfl (by omega) (by omega) rfl ?_
            refine op_assign (nxlf rfl) rfl rfl ?_
            refine op_assign (nxlf rfl) rfl rfl ?_
            refine op_assign (nxlf rfl) rfl rfl ?_
            refine op_assign (nxlf rfl) rfl rfl ?_
            refine At.opsNil ?_
            refine At.norm (hk_54 ?_)
            refine At.ret (At.inRet (At.thenRet (?_)))
            refine At.retN (L1 := []) rfl (.tmp rfl (.tmp rfl (.tmp rfl (.tmp rfl .nil)))) rfl (.refl _) (.refl _) ?_
            first
              | exact hex.elim
              | (exfalso; omega)
              | exact ⟨by rw [hf1, hf2, hf3], rfl⟩
              | exact ⟨by rw [nm_prev (by omega) (decide_eq_true (by omega)), show n = 68 by omega]; rfl, rfl⟩
              | exact ⟨by rw [nm_push (by omega) (by omega), (sh_push n hn (by omega) (by omega)).1, (sh_push n hn (by omega) (by omega)).2]; rfl, rfl⟩
              | exact ⟨by rw [nm_dup (by omega) (by omega), (sh_dup n hn (by omega) (by omega)).1, (sh_dup n hn (by omega) (by omega)).2, show ((n - 127 : Nat) : Int) = (n : Int) - 127 by omega, show ((n - 126 : Nat) : Int) = (n : Int) - 126 by omega]; rfl, rfl⟩
              | exact ⟨by rw [nm_swap (by omega) (by omega), (sh_swap n hn (by omega) (by omega)).1, (sh_swap n hn (by omega) (by omega)).2, show ((n - 142 : Nat) : Int) = (n : Int) - 142 by omega]; rfl, rfl⟩
              | exact ⟨by rw [nm_log (by omega) (by omega), (sh_log n hn (by omega) (by omega)).1, (sh_log n hn (by omega) (by omega)).2, show ((n - 158 : Nat) : Int) = (n : Int) - 160 + 2 by omega]; rfl, rfl⟩
          · refine At.seq fun K55 hk_55 => ?_
            refine At.region ?_
            refine op_move (nxlf rfl) rfl rfl ?_
            refine op_geq (nxlf rfl) rfl rfl rfl ?_
            refine op_move (nxlf rfl) rfl rfl ?_
            refine At.partP (d := 50) rfl (fun g50 => ?_) (fun g50 => ?_)
            · refine op_move (nxgf rfl rfl rfl rfl) rfl rfl ?_
              refine op_leq (nxgf rfl rfl rfl rfl) rfl rfl rfl ?_
              refine op_pickT (nxlf rfl) rfl rfl rfl ?_
              refine op_assign (nxlf rfl) rfl rfl ?_
              refine At.opsNil ?_
              refine At.norm (hk_55 ?_)
              refine At.condP rfl (fun c47 => ?_) (fun c47 => ?_)
              · refine At.seq fun K56 hk_56 => ?_
                refine At.region ?_
                refine op_move (nxlf rfl) rfl rfl ?_
                refine op_subI (nxlf rfl) rfl rfl (by omega) (by omega) rfl ?_
                rw [show (n : Int) - 143 = ((n - 143 : Nat) : Int) by omega]
                refine op_callA (nxla rfl) (.cons rfl .nil) (rDigits_f (n - 143) (by omega)) Tryd.func33 rfl rfl (by simp) rfl ?_
                rintro v56 L56 ⟨rfl, rfl⟩
                change At _ _ _ [R] _
                rw [dec2_eq (n := n - 143) (by omega)]; have hd := dec2_le (n - 143)
                refine op_addS (a := [83, 87, 65, 80]) (nxlf rfl) rfl rfl (by simp; omega) rfl ?_
                refine op_move (nxlf rfl) rfl rfl ?_
                refine op_subI (nxlf rfl) rfl rfl (by omega) (by omega) rfl ?_
                refine op_move (nxlf rfl) rfl rfl ?_
                refine op_subI (nxlf rfl) rfl rfl (by omega) (by omega) rfl ?_
                refine op_assign (nxlf rfl) rfl rfl ?_
                refine op_assign (nxlf rfl) rfl rfl ?_
                refine op_assign (nxlf rfl) rfl rfl ?_
                refine op_assign (nxlf rfl) rfl rfl ?_
                refine At.opsNil ?_
                refine At.norm (hk_56 ?_)
                refine At.ret (At.inRet (At.thenRet (?_)))
                refine At.retN (L1 := []) rfl (.tmp rfl (.tmp rfl (.tmp rfl (.tmp rfl .nil)))) rfl (.refl _) (.refl _) ?_
                first
                  | exact hex.elim
                  | (exfalso; omega)
                  | exact ⟨by rw [hf1, hf2, hf3], rfl⟩
                  | exact ⟨by rw [nm_prev (by omega) (decide_eq_true (by omega)), show n = 68 by omega]; rfl, rfl⟩
                  | exact ⟨by rw [nm_push (by omega) (by omega), (sh_push n hn (by omega) (by omega)).1, (sh_push n hn (by omega) (by omega)).2]; rfl, rfl⟩
                  | exact ⟨by rw [nm_dup (by omega) (by omega), (sh_dup n hn (by omega) (by omega)).1, (sh_dup n hn (by omega) (by omega)).2, show ((n - 127 : Nat) : Int) = (n : Int) - 127 by omega, show ((n - 126 : Nat) : Int) = (n : Int) - 126 by omega]; rfl, rfl⟩
                  | exact ⟨by rw [nm_swap (by omega) (by omega), (sh_swap n hn (by omega) (by omega)).1, (sh_swap n hn (by omega) (by omega)).2, show ((n - 142 : Nat) : Int) = (n : Int) - 142 by omega]; rfl, rfl⟩
                  | exact ⟨by rw [nm_log (by omega) (by omega), (sh_log n hn (by omega) (by omega)).1, (sh_log n hn (by omega) (by omega)).2, show ((n - 158 : Nat) : Int) = (n : Int) - 160 + 2 by omega]; rfl, rfl⟩
              · refine At.seq fun K57 hk_57 => ?_
                refine At.region ?_
                refine op_move (nxlf rfl) rfl rfl ?_
                refine op_geq (nxlf rfl) rfl rfl rfl ?_
                refine op_move (nxlf rfl) rfl rfl ?_
                refine At.partP (d := 65) rfl (fun g65 => ?_) (fun g65 => ?_)
                · refine op_move (nxgf rfl rfl rfl rfl) rfl rfl ?_
                  refine op_leq (nxgf rfl rfl rfl rfl) rfl rfl rfl ?_
                  refine op_pickT (nxlf rfl) rfl rfl rfl ?_
                  refine op_assign (nxlf rfl) rfl rfl ?_
                  refine At.opsNil ?_
                  refine At.norm (hk_57 ?_)
                  refine At.condP rfl (fun c62 => ?_) (fun c62 => ?_)
                  · refine At.seq fun K58 hk_58 => ?_
                    refine At.region ?_
                    refine op_move (nxlf rfl) rfl rfl ?_
                    refine op_subI (nxlf rfl) rfl rfl (by omega) (by omega) rfl ?_
                    rw [show (n : Int) - 160 = ((n - 160 : Nat) : Int) by omega]
                    refine op_callA (nxla rfl) (.cons rfl .nil) (rDigits_f (n - 160) (by omega)) Tryd.func33 rfl rfl (by simp) rfl ?_
                    rintro v71 L71 ⟨rfl, rfl⟩
                    change At _ _ _ [R] _
                    rw [dec2_eq (n := n - 160) (by omega)]; have hd := dec2_le (n - 160)
                    refine op_addS (a := [76, 79, 71]) (nxlf rfl) rfl rfl (by simp; omega) rfl ?_
                    refine op_move (nxlf rfl) rfl rfl ?_
                    refine op_subI (nxlf rfl) rfl rfl (by omega) (by omega) rfl ?_
                    refine op_addI (nxlf rfl) rfl rfl (by omega) (by omega) rfl ?_
                    refine op_assign (nxlf rfl) rfl rfl ?_
                    refine op_assign (nxlf rfl) rfl rfl ?_
                    refine op_assign (nxlf rfl) rfl rfl ?_
                    refine op_assign (nxlf rfl) rfl rfl ?_
                    refine At.opsNil ?_
                    refine At.norm (hk_58 ?_)
                    refine At.ret (At.inRet (At.thenRet (?_)))
                    refine At.retN (L1 := []) rfl (.tmp rfl (.tmp rfl (.tmp rfl (.tmp rfl .nil)))) rfl (.refl _) (.refl _) ?_
                    first
                      | exact hex.elim
                      | (exfalso; omega)
                      | exact ⟨by rw [hf1, hf2, hf3], rfl⟩
                      | exact ⟨by rw [nm_prev (by omega) (decide_eq_true (by omega)), show n = 68 by omega]; rfl, rfl⟩
                      | exact ⟨by rw [nm_push (by omega) (by omega), (sh_push n hn (by omega) (by omega)).1, (sh_push n hn (by omega) (by omega)).2]; rfl, rfl⟩
                      | exact ⟨by rw [nm_dup (by omega) (by omega), (sh_dup n hn (by omega) (by omega)).1, (sh_dup n hn (by omega) (by omega)).2, show ((n - 127 : Nat) : Int) = (n : Int) - 127 by omega, show ((n - 126 : Nat) : Int) = (n : Int) - 126 by omega]; rfl, rfl⟩
                      | exact ⟨by rw [nm_swap (by omega) (by omega), (sh_swap n hn (by omega) (by omega)).1, (sh_swap n hn (by omega) (by omega)).2, show ((n - 142 : Nat) : Int) = (n : Int) - 142 by omega]; rfl, rfl⟩
                      | exact ⟨by rw [nm_log (by omega) (by omega), (sh_log n hn (by omega) (by omega)).1, (sh_log n hn (by omega) (by omega)).2, show ((n - 158 : Nat) : Int) = (n : Int) - 160 + 2 by omega]; rfl, rfl⟩
                  · refine At.skip ?_
                    refine At.inNorm ?_
                    refine At.norm (jk_4 ?_ (.refl _) ⟨rfl, rfl, (by omega), (fun h => by have := of_decide_eq_true h.2; omega)⟩)
                    exact .cons (by first | exact lkI rfl (by omega) | rfl) .nil
                · refine op_skip rfl rfl rfl rfl rfl rfl rfl ?_
                  refine op_skip rfl rfl rfl rfl rfl rfl rfl ?_
                  refine op_pickF (nxlf rfl) rfl rfl rfl ?_
                  refine op_assign (nxlf rfl) rfl rfl ?_
                  refine At.opsNil ?_
                  refine At.norm (hk_57 ?_)
                  refine At.condF rfl ?_
                  refine At.skip ?_
                  refine At.inNorm ?_
                  refine At.norm (jk_4 ?_ (.refl _) ⟨rfl, rfl, (by omega), (fun h => by have := of_decide_eq_true h.2; omega)⟩)
                  exact .cons (by first | exact lkI rfl (by omega) | rfl) .nil
            · refine op_skip rfl rfl rfl rfl rfl rfl rfl ?_
              refine op_skip rfl rfl rfl rfl rfl rfl rfl ?_
              refine op_pickF (nxlf rfl) rfl rfl rfl ?_
              refine op_assign (nxlf rfl) rfl rfl ?_
              refine At.opsNil ?_
              refine At.norm (hk_55 ?_)
              refine At.condF rfl ?_
              refine At.seq fun K59 hk_59 => ?_
              refine At.region ?_
              refine op_move (nxlf rfl) rfl rfl ?_
              refine op_geq (nxlf rfl) rfl rfl rfl ?_
              refine op_move (nxlf rfl) rfl rfl ?_
              refine At.partP (d := 65) rfl (fun g65 => ?_) (fun g65 => ?_)
              · refine op_move (nxgf rfl rfl rfl rfl) rfl rfl ?_
                refine op_leq (nxgf rfl rfl rfl rfl) rfl rfl rfl ?_
                refine op_pickT (nxlf rfl) rfl rfl rfl ?_
                refine op_assign (nxlf rfl) rfl rfl ?_
                refine At.opsNil ?_
                refine At.norm (hk_59 ?_)
                refine At.condP rfl (fun c62 => ?_) (fun c62 => ?_)
                · refine At.seq fun K60 hk_60 => ?_
                  refine At.region ?_
                  refine op_move (nxlf rfl) rfl rfl ?_
                  refine op_subI (nxlf rfl) rfl rfl (by omega) (by omega) rfl ?_
                  rw [show (n : Int) - 160 = ((n - 160 : Nat) : Int) by omega]
                  refine op_callA (nxla rfl) (.cons rfl .nil) (rDigits_f (n - 160) (by omega)) Tryd.func33 rfl rfl (by simp) rfl ?_
                  rintro v71 L71 ⟨rfl, rfl⟩
                  change At _ _ _ [R] _
                  rw [dec2_eq (n := n - 160) (by omega)]; have hd := dec2_le (n - 160)
                  refine op_addS (a := [76, 79, 71]) (nxlf rfl) rfl rfl (by simp; omega) rfl ?_
                  refine op_move (nxlf rfl) rfl rfl ?_
                  refine op_subI (nxlf rfl) rfl rfl (by omega) (by omega) rfl ?_
                  refine op_addI (nxlf rfl) rfl rfl (by omega) (by omega) rfl ?_
                  refine op_assign (nxlf rfl) rfl rfl ?_
                  refine op_assign (nxlf rfl) rfl rfl ?_
                  refine op_assign (nxlf rfl) rfl rfl ?_
                  refine op_assign (nxlf rfl) rfl rfl ?_
                  refine At.opsNil ?_
                  refine At.norm (hk_60 ?_)
                  refine At.ret (At.inRet (At.thenRet (?_)))
                  refine At.retN (L1 := []) rfl (.tmp rfl (.tmp rfl (.tmp rfl (.tmp rfl .nil)))) rfl (.refl _) (.refl _) ?_
                  first
                    | exact hex.elim
                    | (exfalso; omega)
                    | exact ⟨by rw [hf1, hf2, hf3], rfl⟩
                    | exact ⟨by rw [nm_prev (by omega) (decide_eq_true (by omega)), show n = 68 by omega]; rfl, rfl⟩
                    | exact ⟨by rw [nm_push (by omega) (by omega), (sh_push n hn (by omega) (by omega)).1, (sh_push n hn (by omega) (by omega)).2]; rfl, rfl⟩
                    | exact ⟨by rw [nm_dup (by omega) (by omega), (sh_dup n hn (by omega) (by omega)).1, (sh_dup n hn (by omega) (by omega)).2, show ((n - 127 : Nat) : Int) = (n : Int) - 127 by omega, show ((n - 126 : Nat) : Int) = (n : Int) - 126 by omega]; rfl, rfl⟩
                    | exact ⟨by rw [nm_swap (by omega) (by omega), (sh_swap n hn (by omega) (by omega)).1, (sh_swap n hn (by omega) (by omega)).2, show ((n - 142 : Nat) : Int) = (n : Int) - 142 by omega]; rfl, rfl⟩
                    | exact ⟨by rw [nm_log (by omega) (by omega), (sh_log n hn (by omega) (by omega)).1, (sh_log n hn (by omega) (by omega)).2, show ((n - 158 : Nat) : Int) = (n : Int) - 160 + 2 by omega]; rfl, rfl⟩
                · refine At.skip ?_
                  refine At.inNorm ?_
                  refine At.norm (jk_4 ?_ (.refl _) ⟨rfl, rfl, (by omega), (fun h => by have := of_decide_eq_true h.2; omega)⟩)
                  exact .cons (by first | exact lkI rfl (by omega) | rfl) .nil
              · refine op_skip rfl rfl rfl rfl rfl rfl rfl ?_
                refine op_skip rfl rfl rfl rfl rfl rfl rfl ?_
                refine op_pickF (nxlf rfl) rfl rfl rfl ?_
                refine op_assign (nxlf rfl) rfl rfl ?_
                refine At.opsNil ?_
                refine At.norm (hk_59 ?_)
                refine At.condF rfl ?_
                refine At.skip ?_
                refine At.inNorm ?_
                refine At.norm (jk_4 ?_ (.refl _) ⟨rfl, rfl, (by omega), (fun h => by have := of_decide_eq_true h.2; omega)⟩)
                exact .cons (by first | exact lkI rfl (by omega) | rfl) .nil
        · refine op_skip rfl rfl rfl rfl rfl rfl rfl ?_
          refine op_skip rfl rfl rfl rfl rfl rfl rfl ?_
          refine op_pickF (nxlf rfl) rfl rfl rfl ?_
          refine op_assign (nxlf rfl) rfl rfl ?_
          refine At.opsNil ?_
          refine At.norm (hk_53 ?_)
          refine At.condF rfl ?_
          refine At.seq fun K61 hk_61 => ?_
          refine At.region ?_
          refine op_move (nxlf rfl) rfl rfl ?_
          refine op_geq (nxlf rfl) rfl rfl rfl ?_
          refine op_move (nxlf rfl) rfl rfl ?_
          refine At.partP (d := 50) rfl (fun g50 => ?_) (fun g50 => ?_)
          · refine op_move (nxgf rfl rfl rfl rfl) rfl rfl ?_
            refine op_leq (nxgf rfl rfl rfl rfl) rfl rfl rfl ?_
            refine op_pickT (nxlf rfl) rfl rfl rfl ?_
            refine op_assign (nxlf rfl) rfl rfl ?_
            refine At.opsNil ?_
            refine At.norm (hk_61 ?_)
            refine At.condP rfl (fun c47 => ?_) (fun c47 => ?_)
            · refine At.seq fun K62 hk_62 => ?_
              refine At.region ?_
              refine op_move (nxlf rfl) rfl rfl ?_
              refine op_subI (nxlf rfl) rfl rfl (by omega) (by omega) rfl ?_
              rw [show (n : Int) - 143 = ((n - 143 : Nat) : Int) by omega]
              refine op_callA (nxla rfl) (.cons rfl .nil) (rDigits_f (n - 143) (by omega)) Tryd.func33 rfl rfl (by simp) rfl ?_
              rintro v56 L56 ⟨rfl, rfl⟩
              change At _ _ _ [R] _
              rw [dec2_eq (n := n - 143) (by omega)]; have hd := dec2_le (n - 143)
              refine op_addS (a := [83, 87, 65, 80]) (nxlf rfl) rfl rfl (by simp; omega) rfl ?_
              refine op_move (nxlf rfl) rfl rfl ?_
              refine op_subI (nxlf rfl) rfl rfl (by omega) (by omega) rfl ?_
              refine op_move (nxlf rfl) rfl rfl ?_
              refine op_subI (nxlf rfl) rfl rfl (by omega) (by omega) rfl ?_
              refine op_assign (nxlf rfl) rfl rfl ?_
              refine op_assign (nxlf rfl) rfl rfl ?_
              refine op_assign (nxlf rfl) rfl rfl ?_
              refine op_assign (nxlf rfl) rfl rfl ?_
              refine At.opsNil ?_
              refine At.norm (hk_62 ?_)
              refine At.ret (At.inRet (At.thenRet (?_)))
              refine At.retN (L1 := []) rfl (.tmp rfl (.tmp rfl (.tmp rfl (.tmp rfl .nil)))) rfl (.refl _) (.refl _) ?_
              first
                | exact hex.elim
                | (exfalso; omega)
                | exact ⟨by rw [hf1, hf2, hf3], rfl⟩
                | exact ⟨by rw [nm_prev (by omega) (decide_eq_true (by omega)), show n = 68 by omega]; rfl, rfl⟩
                | exact ⟨by rw [nm_push (by omega) (by omega), (sh_push n hn (by omega) (by omega)).1, (sh_push n hn (by omega) (by omega)).2]; rfl, rfl⟩
                | exact ⟨by rw [nm_dup (by omega) (by omega), (sh_dup n hn (by omega) (by omega)).1, (sh_dup n hn (by omega) (by omega)).2, show ((n - 127 : Nat) : Int) = (n : Int) - 127 by omega, show ((n - 126 : Nat) : Int) = (n : Int) - 126 by omega]; rfl, rfl⟩
                | exact ⟨by rw [nm_swap (by omega) (by omega), (sh_swap n hn (by omega) (by omega)).1, (sh_swap n hn (by omega) (by omega)).2, show ((n - 142 : Nat) : Int) = (n : Int) - 142 by omega]; rfl, rfl⟩
                | exact ⟨by rw [nm_log (by omega) (by omega), (sh_log n hn (by omega) (by omega)).1, (sh_log n hn (by omega) (by omega)).2, show ((n - 158 : Nat) : Int) = (n : Int) - 160 + 2 by omega]; rfl, rfl⟩
            · refine At.seq fun K63 hk_63 => ?_
              refine At.region ?_
              refine op_move (nxlf rfl) rfl rfl ?_
              refine op_geq (nxlf rfl) rfl rfl rfl ?_
              refine op_move (nxlf rfl) rfl rfl ?_
              refine At.partP (d := 65) rfl (fun g65 => ?_) (fun g65 => ?_)
              · refine op_move (nxgf rfl rfl rfl rfl) rfl rfl ?_
                refine op_leq (nxgf rfl rfl rfl rfl) rfl rfl rfl ?_
                refine op_pickT (nxlf rfl) rfl rfl rfl ?_
                refine op_assign (nxlf rfl) rfl rfl ?_
                refine At.opsNil ?_
                refine At.norm (hk_63 ?_)
                refine At.condP rfl (fun c62 => ?_) (fun c62 => ?_)
                · refine At.seq fun K64 hk_64 => ?_
                  refine At.region ?_
                  refine op_move (nxlf rfl) rfl rfl ?_
                  refine op_subI (nxlf rfl) rfl rfl (by omega) (by omega) rfl ?_
                  rw [show (n : Int) - 160 = ((n - 160 : Nat) : Int) by omega]
                  refine op_callA (nxla rfl) (.cons rfl .nil) (rDigits_f (n - 160) (by omega)) Tryd.func33 rfl rfl (by simp) rfl ?_
                  rintro v71 L71 ⟨rfl, rfl⟩
                  change At _ _ _ [R] _
                  rw [dec2_eq (n := n - 160) (by omega)]; have hd := dec2_le (n - 160)
                  refine op_addS (a := [76, 79, 71]) (nxlf rfl) rfl rfl (by simp; omega) rfl ?_
                  refine op_move (nxlf rfl) rfl rfl ?_
                  refine op_subI (nxlf rfl) rfl rfl (by omega) (by omega) rfl ?_
                  refine op_addI (nxlf rfl) rfl rfl (by omega) (by omega) rfl ?_
                  refine op_assign (nxlf rfl) rfl rfl ?_
                  refine op_assign (nxlf rfl) rfl rfl ?_
                  refine op_assign (nxlf rfl) rfl rfl ?_
                  refine op_assign (nxlf rfl) rfl rfl ?_
                  refine At.opsNil ?_
                  refine At.norm (hk_64 ?_)
                  refine At.ret (At.inRet (At.thenRet (?_)))
                  refine At.retN (L1 := []) rfl (.tmp rfl (.tmp rfl (.tmp rfl (.tmp rfl .nil)))) rfl (.refl _) (.refl _) ?_
                  first
                    | exact hex.elim
                    | (exfalso; omega)
                    | exact ⟨by rw [hf1, hf2, hf3], rfl⟩
                    | exact ⟨by rw [nm_prev (by omega) (decide_eq_true (by omega)), show n = 68 by omega]; rfl, rfl⟩
                    | exact ⟨by rw [nm_push (by omega) (by omega), (sh_push n hn (by omega) (by omega)).1, (sh_push n hn (by omega) (by omega)).2]; rfl, rfl⟩
                    | exact ⟨by rw [nm_dup (by omega) (by omega), (sh_dup n hn (by omega) (by omega)).1, (sh_dup n hn (by omega) (by omega)).2, show ((n - 127 : Nat) : Int) = (n : Int) - 127 by omega, show ((n - 126 : Nat) : Int) = (n : Int) - 126 by omega]; rfl, rfl⟩
                    | exact ⟨by rw [nm_swap (by omega) (by omega), (sh_swap n hn (by omega) (by omega)).1, (sh_swap n hn (by omega) (by omega)).2, show ((n - 142 : Nat) : Int) = (n : Int) - 142 by omega]; rfl, rfl⟩
                    | exact ⟨by rw [nm_log (by omega) (by omega), (sh_log n hn (by omega) (by omega)).1, (sh_log n hn (by omega) (by omega)).2, show ((n - 158 : Nat) : Int) = (n : Int) - 160 + 2 by omega]; rfl, rfl⟩
                · refine At.skip ?_
                  refine At.inNorm ?_
                  refine At.norm (jk_4 ?_ (.refl _) ⟨rfl, rfl, (by omega), (fun h => by have := of_decide_eq_true h.2; omega)⟩)
                  exact .cons (by first | exact lkI rfl (by omega) | rfl) .nil
              · refine op_skip rfl rfl rfl rfl rfl rfl rfl ?_
                refine op_skip rfl rfl rfl rfl rfl rfl rfl ?_
                refine op_pickF (nxlf rfl) rfl rfl rfl ?_
                refine op_assign (nxlf rfl) rfl rfl ?_
                refine At.opsNil ?_
                refine At.norm (hk_63 ?_)
                refine At.condF rfl ?_
                refine At.skip ?_
                refine At.inNorm ?_
                refine At.norm (jk_4 ?_ (.refl _) ⟨rfl, rfl, (by omega), (fun h => by have := of_decide_eq_true h.2; omega)⟩)
                exact .cons (by first | exact lkI rfl (by omega) | rfl) .nil
          · refine op_skip rfl rfl rfl rfl rfl rfl rfl ?_
            refine op_skip rfl rfl rfl rfl rfl rfl rfl ?_
            refine op_pickF (nxlf rfl) rfl rfl rfl ?_
            refine op_assign (nxlf rfl) rfl rfl ?_
            refine At.opsNil ?_
            refine At.norm (hk_61 ?_)
            refine At.condF rfl ?_
            refine At.seq fun K65 hk_65 => ?_
            refine At.region ?_
            refine op_move (nxlf rfl) rfl rfl ?_
            refine op_geq (nxlf rfl) rfl rfl rfl ?_
            refine op_move (nxlf rfl) rfl rfl ?_
            refine At.partP (d := 65) rfl (fun g65 => ?_) (fun g65 => ?_)
            · refine op_move (nxgf rfl rfl rfl rfl) rfl rfl ?_
              refine op_leq (nxgf rfl rfl rfl rfl) rfl rfl rfl ?_
              refine op_pickT (nxlf rfl) rfl rfl rfl ?_
              refine op_assign (nxlf rfl) rfl rfl ?_
              refine At.opsNil ?_
              refine At.norm (hk_65 ?_)
              refine At.condP rfl (fun c62 => ?_) (fun c62 => ?_)
              · refine At.seq fun K66 hk_66 => ?_
                refine At.region ?_
                refine op_move (nxlf rfl) rfl rfl ?_
                refine op_subI (nxlf rfl) rfl rfl (by omega) (by omega) rfl ?_
                rw [show (n : Int) - 160 = ((n - 160 : Nat) : Int) by omega]
                refine op_callA (nxla rfl) (.cons rfl .nil) (rDigits_f (n - 160) (by omega)) Tryd.func33 rfl rfl (by simp) rfl ?_
                rintro v71 L71 ⟨rfl, rfl⟩
                change At _ _ _ [R] _
                rw [dec2_eq (n := n - 160) (by omega)]; have hd := dec2_le (n - 160)
                refine op_addS (a := [76, 79, 71]) (nxlf rfl) rfl rfl (by simp; omega) rfl ?_
                refine op_move (nxlf rfl) rfl rfl ?_
                refine op_subI (nxlf rfl) rfl rfl (by omega) (by omega) rfl ?_
                refine op_addI (nxlf rfl) rfl rfl (by omega) (by omega) rfl ?_
                refine op_assign (nxlf rfl) rfl rfl ?_
                refine op_assign (nxlf rfl) rfl rfl ?_
                refine op_assign (nxlf rfl) rfl rfl ?_
                refine op_assign (nxlf rfl) rfl rfl ?_
                refine At.opsNil ?_
                refine At.norm (hk_66 ?_)
                refine At.ret (At.inRet (At.thenRet (?_)))
                refine At.retN (L1 := []) rfl (.tmp rfl (.tmp rfl (.tmp rfl (.tmp rfl .nil)))) rfl (.refl _) (.refl _) ?_
                first
                  | exact hex.elim
                  | (exfalso; omega)
                  | exact ⟨by rw [hf1, hf2, hf3], rfl⟩
                  | exact ⟨by rw [nm_prev (by omega) (decide_eq_true (by omega)), show n = 68 by omega]; rfl, rfl⟩
                  | exact ⟨by rw [nm_push (by omega) (by omega), (sh_push n hn (by omega) (by omega)).1, (sh_push n hn (by omega) (by omega)).2]; rfl, rfl⟩
                  | exact ⟨by rw [nm_dup (by omega) (by omega), (sh_dup n hn (by omega) (by omega)).1, (sh_dup n hn (by omega) (by omega)).2, show ((n - 127 : Nat) : Int) = (n : Int) - 127 by omega, show ((n - 126 : Nat) : Int) = (n : Int) - 126 by omega]; rfl, rfl⟩
                  | exact ⟨by rw [nm_swap (by omega) (by omega), (sh_swap n hn (by omega) (by omega)).1, (sh_swap n hn (by omega) (by omega)).2, show ((n - 142 : Nat) : Int) = (n : Int) - 142 by omega]; rfl, rfl⟩
                  | exact ⟨by rw [nm_log (by omega) (by omega), (sh_log n hn (by omega) (by omega)).1, (sh_log n hn (by omega) (by omega)).2, show ((n - 158 : Nat) : Int) = (n : Int) - 160 + 2 by omega]; rfl, rfl⟩
              · refine At.skip ?_
                refine At.inNorm ?_
                refine At.norm (jk_4 ?_ (.refl _) ⟨rfl, rfl, (by omega), (fun h => by have := of_decide_eq_true h.2; omega)⟩)
                exact .cons (by first | exact lkI rfl (by omega) | rfl) .nil
            · refine op_skip rfl rfl rfl rfl rfl rfl rfl ?_
              refine op_skip rfl rfl rfl rfl rfl rfl rfl ?_
              refine op_pickF (nxlf rfl) rfl rfl rfl ?_
              refine op_assign (nxlf rfl) rfl rfl ?_
              refine At.opsNil ?_
              refine At.norm (hk_65 ?_)
              refine At.condF rfl ?_
              refine At.skip ?_
              refine At.inNorm ?_
              refine At.norm (jk_4 ?_ (.refl _) ⟨rfl, rfl, (by omega), (fun h => by have := of_decide_eq_true h.2; omega)⟩)
              exact .cons (by first | exact lkI rfl (by omega) | rfl) .nil
  rintro _ _ ⟨rfl, rfl, hlo, hpv⟩
  refine hk_4 ?_
  refine At.seq fun K67 hk_67 => ?_
  refine At.region ?_
  refine op_callA (nxla rfl) .nil (rRows_f) Tryd.func37 rfl rfl (by simp) rfl ?_
  rintro v76 L76 ⟨N76, a76, rfl, rfl, s76⟩
  change At _ _ _ [N76, R] _
  have ha76 := s76.isSome (by decide)
  refine op_assign (nxlf rfl) rfl rfl ?_
  refine At.opsNil ?_
  refine At.norm (hk_67 ?_)
  refine At.seq fun K68 hk_68 => ?_
  refine At.seq fun K69 hk_69 => ?_
  refine At.region ?_
  refine op_assign (nxlf rfl) rfl rfl ?_
  refine At.opsNil ?_
  refine At.norm (hk_69 ?_)
  refine At.block ?_
  refine At.loop (fun fr_ hp_ ms_ => ∃ (i : Nat), fr_ = [(1, .int .i64 (n : Int)), (8, .slice a76 79 79), (9, .int .i64 (i : Int))] ∧ hp_ = [N76, R] ∧ 79 - i = ms_ ∧ (i ≤ 79) ∧ (∀ j, j < i → (rl.getD j rl0).1 ≠ n)) ?_ (.refl _) ⟨0, rfl, rfl, rfl, Nat.zero_le _, fun j hj => absurd hj (Nat.not_lt_zero _)⟩ ?_
  · exact .cons (by first | exact lkI rfl (by omega) | rfl) (.cons (by first | exact lkI rfl (by omega) | rfl) (.cons (by first | exact lkI rfl (by omega) | rfl) .nil))
  rintro _ _ _ ⟨i, rfl, rfl, rfl, hi79, hno⟩
  refine At.seq fun K70 hk_70 => ?_
  refine At.seq fun K71 hk_71 => ?_
  refine At.region ?_
  refine op_move (nxlf rfl) rfl rfl ?_
  refine op_move (nxlf rfl) rfl rfl ?_
  refine op_lenS (nxlf rfl) se59 rfl rfl ?_
  refine op_lss (nxlf rfl) rfl rfl rfl ?_
  refine At.opsNil ?_
  refine At.norm (hk_71 ?_)
  refine At.condP rfl (fun c80 => ?_) (fun c80 => ?_)
  · refine At.skip ?_
    refine At.norm (hk_70 ?_)
    refine At.seq fun K72 hk_72 => ?_
    refine At.block ?_
    refine At.seq fun K73 hk_73 => ?_
    refine At.region ?_
    refine op_move (nxlf rfl) rfl rfl ?_
    refine op_move (nxlf rfl) rfl rfl ?_
    refine op_idxE (nxlf rfl) se59 rfl rfl s76 (show _ = (((i : Nat)) : Int) from by omega) (by omega) rfl ?_
    refine op_fieldAddrE (nxlf rfl) fl62_0 rfl (by first | rfl | assumption) rfl ?_
    refine op_loadE (nxlf rfl) sc3 rfl s76 (by first | exact get8 (by omega) | exact get64 (by omega) | exact get32 (by omega) | exact rc_at rl i 0 (by rw [rl_len]; omega) (by decide)) (by first | exact mem0 | exact mem1 | exact mem2 | exact mem3 | exact mem4 | exact mem5 | exact mem6 | exact mem7 | exact mem8 | exact mem9) rfl ?_
    refine op_move (nxlf rfl) rfl rfl ?_
    refine op_eql (nxlf rfl) rfl rfl rfl ?_
    refine At.opsNil ?_
    refine At.norm (hk_73 ?_)
    refine At.condP rfl (fun c89 => ?_) (fun c89 => ?_)
    · obtain ⟨hf1, hf2, hf3⟩ := rl_find (n := n) (show i < 79 by omega) (by omega) hpv hlo
      refine At.seq fun K74 hk_74 => ?_
      refine At.drawn [] [0,1,2,3,4,5,6,7,8,9,10,11,12,13,14,15,16,17,18] (by kernel_rfl) (by kernel_rfl) ?_
      refine op_move (nxof rfl rfl rfl (by kernel_rfl)) rfl rfl ?_
      refine op_move (nxof rfl rfl rfl (by kernel_rfl)) rfl rfl ?_
      refine op_idxE (nxof rfl rfl rfl (by kernel_rfl)) se59 rfl rfl s76 (show _ = (((i : Nat)) : Int) from by omega) (by omega) rfl ?_
      refine op_fieldAddrE (nxof rfl rfl rfl (by kernel_rfl)) fl62_1 rfl (by first | rfl | assumption) rfl ?_
      refine op_loadE (nxof rfl rfl rfl (by kernel_rfl)) sc9 rfl s76 (by first | exact get8 (by omega) | exact get64 (by omega) | exact get32 (by omega) | exact rc_at rl i 1 (by rw [rl_len]; omega) (by decide)) (by first | exact mem0 | exact mem1 | exact mem2 | exact mem3 | exact mem4 | exact mem5 | exact mem6 | exact mem7 | exact mem8 | exact mem9) rfl ?_
      refine op_move (nxof rfl rfl rfl (by kernel_rfl)) rfl rfl ?_
      refine op_move (nxof rfl rfl rfl (by kernel_rfl)) rfl rfl ?_
      refine op_idxE (nxof rfl rfl rfl (by kernel_rfl)) se59 rfl rfl s76 (show _ = (((i : Nat)) : Int) from by omega) (by omega) rfl ?_
      refine op_fieldAddrE (nxof rfl rfl rfl (by kernel_rfl)) fl62_2 rfl (by first | rfl | assumption) rfl ?_
      refine op_loadE (nxof rfl rfl rfl (by kernel_rfl)) sc3 rfl s76 (by first | exact get8 (by omega) | exact get64 (by omega) | exact get32 (by omega) | exact rc_at rl i 2 (by rw [rl_len]; omega) (by decide)) (by first | exact mem0 | exact mem1 | exact mem2 | exact mem3 | exact mem4 | exact mem5 | exact mem6 | exact mem7 | exact mem8 | exact mem9) rfl ?_
      refine op_move (nxof rfl rfl rfl (by kernel_rfl)) rfl rfl ?_
      refine op_move (nxof rfl rfl rfl (by kernel_rfl)) rfl rfl ?_
      refine op_idxE (nxof rfl rfl rfl (by kernel_rfl)) se59 rfl rfl s76 (show _ = (((i : Nat)) : Int) from by omega) (by omega) rfl ?_
      refine op_fieldAddrE (nxof rfl rfl rfl (by kernel_rfl)) fl62_3 rfl (by first | rfl | assumption) rfl ?_
      refine op_loadE (nxof rfl rfl rfl (by kernel_rfl)) sc3 rfl s76 (by first | exact get8 (by omega) | exact get64 (by omega) | exact get32 (by omega) | exact rc_at rl i 3 (by rw [rl_len]; omega) (by decide)) (by first | exact mem0 | exact mem1 | exact mem2 | exact mem3 | exact mem4 | exact mem5 | exact mem6 | exact mem7 | exact mem8 | exact mem9) rfl ?_
      refine op_assign (nxof rfl rfl rfl (by kernel_rfl)) rfl rfl ?_
      refine op_assign (nxof rfl rfl rfl (by kernel_rfl)) rfl rfl ?_
      refine op_assign (nxof rfl rfl rfl (by kernel_rfl)) rfl rfl ?_
      refine op_assign (nxof rfl rfl rfl (by kernel_rfl)) rfl rfl ?_
      refine At.oneNil ?_
      refine At.norm (hk_74 ?_)
      refine At.ret (At.inRet (At.thenRet (At.thenRet (At.inRet (At.thenRet (?_))))))
      refine At.sub (L' := [R]) (.cons _ (.cons_cons _ (.slnil))) ?_
      refine At.retN (L1 := []) rfl (.tmp rfl (.tmp rfl (.tmp rfl (.tmp rfl .nil)))) rfl (.refl _) (.refl _) ?_
      first
        | exact hex.elim
        | (exfalso; omega)
        | exact ⟨by rw [hf1, hf2, hf3], rfl⟩
        | exact ⟨by rw [nm_prev (by omega) (decide_eq_true (by omega)), show n = 68 by omega]; rfl, rfl⟩
        | exact ⟨by rw [nm_push (by omega) (by omega), (sh_push n hn (by omega) (by omega)).1, (sh_push n hn (by omega) (by omega)).2]; rfl, rfl⟩
        | exact ⟨by rw [nm_dup (by omega) (by omega), (sh_dup n hn (by omega) (by omega)).1, (sh_dup n hn (by omega) (by omega)).2, show ((n - 127 : Nat) : Int) = (n : Int) - 127 by omega, show ((n - 126 : Nat) : Int) = (n : Int) - 126 by omega]; rfl, rfl⟩
        | exact ⟨by rw [nm_swap (by omega) (by omega), (sh_swap n hn (by omega) (by omega)).1, (sh_swap n hn (by omega) (by omega)).2, show ((n - 142 : Nat) : Int) = (n : Int) - 142 by omega]; rfl, rfl⟩
        | exact ⟨by rw [nm_log (by omega) (by omega), (sh_log n hn (by omega) (by omega)).1, (sh_log n hn (by omega) (by omega)).2, show ((n - 158 : Nat) : Int) = (n : Int) - 160 + 2 by omega]; rfl, rfl⟩
    · refine At.skip ?_
      refine At.inNorm ?_
      refine At.norm (hk_72 ?_)
      refine At.region ?_
      refine op_move (nxlf rfl) rfl rfl ?_
      refine op_addI (nxlf rfl) rfl rfl (by omega) (by omega) rfl ?_
      refine op_assign (nxlf rfl) rfl rfl ?_
      refine At.opsNil ?_
      refine At.norm ?_
      refine At.back ?_ (.refl _) ⟨i + 1, rfl, rfl, rfl, by omega, fun j hj => by
        rcases Nat.lt_or_ge j i with hlt | hge
        · exact hno j hlt
        · obtain rfl : j = i := by omega
          omega⟩ ?_
      · exact .cons (by first | exact lkI rfl (by omega) | rfl) (.cons (by first | exact lkI rfl (by omega) | rfl) (.cons (by first | exact lkI rfl (by omega) | rfl) .nil))
      · omega
  · have hex : False := by
      obtain ⟨r, hr, he⟩ := List.mem_map.1 (rl_all n hn (in_row hi hlo))
      obtain ⟨j, hj, hje⟩ := List.mem_iff_getElem.1 hr
      rw [rl_len] at hj
      refine hno j (by omega) ?_
      rw [List.getD_eq_getElem?_getD, List.getElem?_eq_getElem (by rw [rl_len]; exact hj), Option.getD_some, hje]
      exact he
    refine At.exit (At.thenExit (At.thenExit (At.inHit ?_)))
    refine At.norm (hk_68 ?_)
    refine At.seq fun K75 hk_75 => ?_
    refine At.region ?_
    refine op_assign (nxlf rfl) rfl rfl ?_
    refine op_assign (nxlf rfl) rfl rfl ?_
    refine op_assign (nxlf rfl) rfl rfl ?_
    refine op_assign (nxlf rfl) rfl rfl ?_
    refine At.opsNil ?_
    refine At.norm (hk_75 ?_)
    refine At.ret (?_)
    refine At.sub (L' := [R]) (.cons _ (.cons_cons _ (.slnil))) ?_
    refine At.retN (L1 := []) rfl (.tmp rfl (.tmp rfl (.tmp rfl (.tmp rfl .nil)))) rfl (.refl _) (.refl _) ?_
    first
      | exact hex.elim
      | (exfalso; omega)
      | exact ⟨by rw [hf1, hf2, hf3], rfl⟩
      | exact ⟨by rw [nm_prev (by omega) (decide_eq_true (by omega)), show n = 68 by omega]; rfl, rfl⟩
      | exact ⟨by rw [nm_push (by omega) (by omega), (sh_push n hn (by omega) (by omega)).1, (sh_push n hn (by omega) (by omega)).2]; rfl, rfl⟩
      | exact ⟨by rw [nm_dup (by omega) (by omega), (sh_dup n hn (by omega) (by omega)).1, (sh_dup n hn (by omega) (by omega)).2, show ((n - 127 : Nat) : Int) = (n : Int) - 127 by omega, show ((n - 126 : Nat) : Int) = (n : Int) - 126 by omega]; rfl, rfl⟩
      | exact ⟨by rw [nm_swap (by omega) (by omega), (sh_swap n hn (by omega) (by omega)).1, (sh_swap n hn (by omega) (by omega)).2, show ((n - 142 : Nat) : Int) = (n : Int) - 142 by omega]; rfl, rfl⟩
      | exact ⟨by rw [nm_log (by omega) (by omega), (sh_log n hn (by omega) (by omega)).1, (sh_log n hn (by omega) (by omega)).2, show ((n - 158 : Nat) : Int) = (n : Int) - 160 + 2 by omega]; rfl, rfl⟩
theorem rRow_f (f op : Int) : Fn Tryd.prog 16 #[.int .i64 f, .int .i64 op] [] [] (fun v L => v = .tuple #[str (nameC f op), .int .i64 (popsC f op : Int), .int .i64 (pushC f op : Int), .bool (opM f op)] ∧ L = []) := by
  cases h : opM f op with
  | false => rw [nameC_no h, popsC_no h, pushC_no h]; exact rRow_no h
  | true =>
    obtain ⟨n, rfl, hn, hi⟩ := op_range h
    rw [nameC_y h, popsC_y h, pushC_y h]
    exact rRow_y h hn hi
theorem rName_f (f op : Int) : Fn Tryd.prog 34 #[.int .i64 f, .int .i64 op] [] [] (fun v L => v = str (nameC f op) ∧ L = []) := by
  refine Fn.enter (vs := [.int .i64 f, .int .i64 op]) Tryd.func34 rfl rfl rfl ?_
  intro E R hR
  change At _ _ E [R] _
  refine At.seq fun K1 hk_1 => ?_
  refine At.region ?_
  refine op_assign (nxlf rfl) rfl rfl ?_
  refine At.opsNil ?_
  refine At.norm (hk_1 ?_)
  refine At.seq fun K2 hk_2 => ?_
  refine At.region ?_
  refine op_move (nxlf rfl) rfl rfl ?_
  refine op_move (nxlf rfl) rfl rfl ?_
  refine op_callA (nxla rfl) (.cons rfl (.cons rfl .nil)) (rRow_f f op) Tryd.func16 rfl rfl (by simp) rfl ?_
  rintro v12 L12 ⟨rfl, rfl⟩
  change At _ _ _ [R] _
  refine op_move (nxlf rfl) rfl rfl ?_
  refine op_extract (nxlf rfl) rfl rfl rfl ?_
  refine op_extract (nxlf rfl) rfl rfl rfl ?_
  refine op_extract (nxlf rfl) rfl rfl rfl ?_
  refine op_extract (nxlf rfl) rfl rfl rfl ?_
  refine op_assign (nxlf rfl) rfl rfl ?_
  refine op_assign (nxlf rfl) rfl rfl ?_
  refine op_assign (nxlf rfl) rfl rfl ?_
  refine op_assign (nxlf rfl) rfl rfl ?_
  refine At.opsNil ?_
  refine At.norm (hk_2 ?_)
  refine At.seq fun K3 hk_3 => ?_
  refine At.region ?_
  refine op_move (nxlf rfl) rfl rfl ?_
  refine op_assign (nxlf rfl) rfl rfl ?_
  refine At.opsNil ?_
  refine At.norm (hk_3 ?_)
  refine At.ret (?_)
  refine At.ret1 (L1 := []) rfl (.tmp rfl .nil) (.refl _) (.refl _) ?_
  exact ⟨rfl, rfl⟩
theorem rShape_no {f op : Int} (hno : opM f op = false) : Fn Tryd.prog 20 #[.int .i64 f, .int .i64 op] [] [] (fun v L => v = .tuple #[.int .i64 0, .int .i64 0, .bool false] ∧ L = []) := by
  refine Fn.enter (vs := [.int .i64 f, .int .i64 op]) Tryd.func20 rfl rfl rfl ?_
  intro E R hR
  change At _ _ E [R] _
  refine At.seq fun K1 hk_1 => ?_
  refine At.region ?_
  refine op_assign (nxlf rfl) rfl rfl ?_
  refine op_assign (nxlf rfl) rfl rfl ?_
  refine op_assign (nxlf rfl) rfl rfl ?_
  refine At.opsNil ?_
  refine At.norm (hk_1 ?_)
  refine At.seq fun K2 hk_2 => ?_
  refine At.seq fun K3 hk_3 => ?_
  refine At.region ?_
  refine op_move (nxlf rfl) rfl rfl ?_
  refine op_move (nxlf rfl) rfl rfl ?_
  refine op_callA (nxla rfl) (.cons rfl (.cons rfl .nil)) (rOp_f f op) Tryd.func36 rfl rfl (by simp) rfl ?_
  rintro v9 L9 ⟨rfl, rfl⟩
  change At _ _ _ [R] _
  rw [hno]
  refine op_not (nxlf rfl) rfl rfl ?_
  refine At.opsNil ?_
  refine At.norm (hk_3 ?_)
  refine At.condT rfl ?_
  refine At.seq fun K4 hk_4 => ?_
  refine At.region ?_
  refine op_assign (nxlf rfl) rfl rfl ?_
  refine op_assign (nxlf rfl) rfl rfl ?_
  refine op_assign (nxlf rfl) rfl rfl ?_
  refine At.opsNil ?_
  refine At.norm (hk_4 ?_)
  refine At.ret (At.thenRet (?_))
  refine At.retN (L1 := []) rfl (.tmp rfl (.tmp rfl (.tmp rfl .nil))) rfl (.refl _) (.refl _) ?_
  exact ⟨rfl, rfl⟩
theorem popsS_len : popsS.length = 256 := by decide +kernel
theorem laysS_len : laysS.length = 256 := by decide +kernel
set_option maxRecDepth 100000 in
theorem rShape_y {f : Int} {n : Nat} (hop : opM f (n : Int) = true) (hn : n < 256) (hi : isOp n = true) : Fn Tryd.prog 20 #[.int .i64 f, .int .i64 (n : Int)] [] [] (fun v L => v = .tuple #[.int .i64 (popsN n : Int), .int .i64 (pushN n : Int), .bool true] ∧ L = []) := by
  have hp := u8_lt (popsS.getD n 0)
  have hq := u8_lt (laysS.getD n 0)
  have hge := pops_ge n hn hi
  refine Fn.enter (vs := [.int .i64 f, .int .i64 (n : Int)]) Tryd.func20 rfl rfl rfl ?_
  intro E R hR
  change At _ _ E [R] _
  refine At.seq fun K1 hk_1 => ?_
  refine At.region ?_
  refine op_assign (nxlf rfl) rfl rfl ?_
  refine op_assign (nxlf rfl) rfl rfl ?_
  refine op_assign (nxlf rfl) rfl rfl ?_
  refine At.opsNil ?_
  refine At.norm (hk_1 ?_)
  refine At.seq fun K2 hk_2 => ?_
  refine At.seq fun K3 hk_3 => ?_
  refine At.region ?_
  refine op_move (nxlf rfl) rfl rfl ?_
  refine op_move (nxlf rfl) rfl rfl ?_
  refine op_callA (nxla rfl) (.cons rfl (.cons rfl .nil)) (rOp_f f n) Tryd.func36 rfl rfl (by simp) rfl ?_
  rintro v9 L9 ⟨rfl, rfl⟩
  change At _ _ _ [R] _
  rw [hop]
  refine op_not (nxlf rfl) rfl rfl ?_
  refine At.opsNil ?_
  refine At.norm (hk_3 ?_)
  refine At.condF rfl ?_
  refine At.skip ?_
  refine At.norm (hk_2 ?_)
  refine At.seq fun K4 hk_4 => ?_
  refine At.drawn [] [0,1,2,3,4,5,6,7,8,9,10] (by kernel_rfl) (by kernel_rfl) ?_
  refine op_move (nxof rfl rfl rfl (by kernel_rfl)) rfl rfl ?_
  refine op_idxS (bs := popsS) (nxof rfl rfl rfl (by kernel_rfl)) Tryd.underlying9 rfl rfl (show _ = (((n : Nat)) : Int) from by omega) (by rw [popsS_len]; exact hn) rfl ?_
  refine op_convI (nxof rfl rfl rfl (by kernel_rfl)) (und_some Tryd.underlying5) Tryd.underlying3 rfl (by omega) (by omega) rfl ?_
  refine op_subI (nxof rfl rfl rfl (by kernel_rfl)) rfl rfl (by omega) (by omega) rfl ?_
  refine op_move (nxof rfl rfl rfl (by kernel_rfl)) rfl rfl ?_
  refine op_idxS (bs := laysS) (nxof rfl rfl rfl (by kernel_rfl)) Tryd.underlying9 rfl rfl (show _ = (((n : Nat)) : Int) from by omega) (by rw [laysS_len]; exact hn) rfl ?_
  refine op_convI (nxof rfl rfl rfl (by kernel_rfl)) (und_some Tryd.underlying5) Tryd.underlying3 rfl (by omega) (by omega) rfl ?_
  refine op_subI (nxof rfl rfl rfl (by kernel_rfl)) rfl rfl (by omega) (by omega) rfl ?_
  refine op_assign (nxof rfl rfl rfl (by kernel_rfl)) rfl rfl ?_
  refine op_assign (nxof rfl rfl rfl (by kernel_rfl)) rfl rfl ?_
  refine op_assign (nxof rfl rfl rfl (by kernel_rfl)) rfl rfl ?_
  refine At.oneNil ?_
  refine At.norm (hk_4 ?_)
  refine At.ret (?_)
  refine At.retN (L1 := []) rfl (.tmp rfl (.tmp rfl (.tmp rfl .nil))) rfl (.refl _) (.refl _) ?_
  exact ⟨by rw [popsN, pushN, show (((popsS.getD n 0).toNat - 48 : Nat) : Int) = ((popsS.getD n 0).toNat : Int) - 48 by omega, show (((laysS.getD n 0).toNat - 48 : Nat) : Int) = ((laysS.getD n 0).toNat : Int) - 48 by omega], rfl⟩
theorem rShape_f (f op : Int) : Fn Tryd.prog 20 #[.int .i64 f, .int .i64 op] [] [] (fun v L => v = .tuple #[.int .i64 (popsC f op : Int), .int .i64 (pushC f op : Int), .bool (opM f op)] ∧ L = []) := by
  cases h : opM f op with
  | false => rw [popsC_no h, pushC_no h]; exact rShape_no h
  | true =>
    obtain ⟨n, rfl, hn, hi⟩ := op_range h
    rw [popsC_y h, pushC_y h]
    exact rShape_y h hn hi
end Go.Proofs.YtdplcfineaikjaaDoor
