/- What operations take and lay, the reference's rows and digits. No condition. -/
import Derived.Test.YtdplcfineaikjaaDoorB8
import Derived.Test.YtdplcfineaikjaaDoorB4
namespace Go.Proofs.YtdplcfineaikjaaDoor
set_option linter.unusedVariables false
set_option linter.unusedSimpArgs false
open Go Go.RowKit
def popsC (f op : Int) : Nat := if opM f op = true then popsN op.toNat else 0
def pushC (f op : Int) : Nat := if opM f op = true then pushN op.toNat else 0
theorem popsC_no {f op : Int} (h : opM f op = false) : popsC f op = 0 := if_neg (by rw [h]; decide)
theorem pushC_no {f op : Int} (h : opM f op = false) : pushC f op = 0 := if_neg (by rw [h]; decide)
theorem popsC_y {f : Int} {n : Nat} (h : opM f (n : Int) = true) : popsC f (n : Int) = popsN n := if_pos h
theorem pushC_y {f : Int} {n : Nat} (h : opM f (n : Int) = true) : pushC f (n : Int) = pushN n := if_pos h
theorem in_row {n : Nat} (h : isOp n = true) (h2 : ¬ (95 < n ∧ n ≤ 164)) : inRow n = true := by rw [inRow, h, decide_eq_false h2]; rfl
theorem FPops_no {f op : Int} (hno : opM f op = false) : Fn Tryd.prog 17 #[.int .i64 f, .int .i64 op] [] [] (fun v L => v = .tuple #[.int .i64 0, .int .i64 0, .bool false] ∧ L = []) := by
  refine Fn.enter (vs := [.int .i64 f, .int .i64 op]) Tryd.func17 rfl rfl rfl ?_
  intro E R hR
  change At _ _ E [R] _
  refine At.seq fun K1 hk_1 => ?_
  refine At.region ?_
  refine op_assign (nxlf rfl) rfl rfl ?_
  refine op_assign (nxlf rfl) rfl rfl ?_
  refine op_assign (nxlf rfl) rfl rfl ?_
  refine At.opsNil ?_
  refine At.norm (hk_1 ?_)
  refine At.seq fun K2 hk_2 => ?_
  refine At.seq fun K3 hk_3 => ?_
  refine At.region ?_
  refine op_move (nxlf rfl) rfl rfl ?_
  refine op_move (nxlf rfl) rfl rfl ?_
  refine op_callA (nxla rfl) (.cons rfl (.cons rfl .nil)) (FOp_f f op) Tryd.func38 rfl rfl (by simp) rfl ?_
  rintro v11 L11 ⟨rfl, rfl⟩
  change At _ _ _ [R] _
  rw [hno]
  refine op_not (nxlf rfl) rfl rfl ?_
  refine At.opsNil ?_
  refine At.norm (hk_3 ?_)
  refine At.condT rfl ?_
  refine At.seq fun K4 hk_4 => ?_
  refine At.region ?_
  refine op_assign (nxlf rfl) rfl rfl ?_
  refine op_assign (nxlf rfl) rfl rfl ?_
  refine op_assign (nxlf rfl) rfl rfl ?_
  refine At.opsNil ?_
  refine At.norm (hk_4 ?_)
  refine At.ret (At.thenRet (?_))
  refine At.retN (L1 := []) rfl (.tmp rfl (.tmp rfl (.tmp rfl .nil))) rfl (.refl _) (.refl _) ?_
  exact ⟨rfl, rfl⟩
set_option maxRecDepth 100000 in
set_option maxHeartbeats 4000000 in
theorem FPops_y {f : Int} {n : Nat} (hop : opM f (n : Int) = true) (hn : n < 256) (hi : isOp n = true) : Fn Tryd.prog 17 #[.int .i64 f, .int .i64 (n : Int)] [] [] (fun v L => v = .tuple #[.int .i64 (popsN n : Int), .int .i64 (pushN n : Int), .bool true] ∧ L = []) := by
  refine Fn.enter (vs := [.int .i64 f, .int .i64 (n : Int)]) Tryd.func17 rfl rfl rfl ?_
  intro E R hR
  change At _ _ E [R] _
  refine At.seq fun K1 hk_1 => ?_
  refine At.region ?_
  refine op_assign (nxlf rfl) rfl rfl ?_
  refine op_assign (nxlf rfl) rfl rfl ?_
  refine op_assign (nxlf rfl) rfl rfl ?_
  refine At.opsNil ?_
  refine At.norm (hk_1 ?_)
  refine At.seq fun K2 hk_2 => ?_
  refine At.seq fun K3 hk_3 => ?_
  refine At.region ?_
  refine op_move (nxlf rfl) rfl rfl ?_
  refine op_move (nxlf rfl) rfl rfl ?_
  refine op_callA (nxla rfl) (.cons rfl (.cons rfl .nil)) (FOp_f f n) Tryd.func38 rfl rfl (by simp) rfl ?_
  rintro v11 L11 ⟨rfl, rfl⟩
  change At _ _ _ [R] _
  rw [hop]
  refine op_not (nxlf rfl) rfl rfl ?_
  refine At.opsNil ?_
  refine At.norm (hk_3 ?_)
  refine At.condF rfl ?_
  refine At.skip ?_
  refine At.norm (hk_2 ?_)
  refine At.seq fun K4 hk_4 => ?_
  refine At.block ?_
  refine At.seq fun K5 hk_5 => ?_
  refine At.region ?_
  refine op_move (nxlf rfl) rfl rfl ?_
  refine op_geq (nxlf rfl) rfl rfl rfl ?_
  refine op_move (nxlf rfl) rfl rfl ?_
  refine At.partP (d := 16) rfl (fun g16 => ?_) (fun g16 => ?_)
  · refine op_move (nxgf rfl rfl rfl rfl) rfl rfl ?_
    refine op_leq (nxgf rfl rfl rfl rfl) rfl rfl rfl ?_
    refine op_pickT (nxlf rfl) rfl rfl rfl ?_
    refine op_assign (nxlf rfl) rfl rfl ?_
    refine At.opsNil ?_
    refine At.norm (hk_5 ?_)
    refine At.condP rfl (fun c13 => ?_) (fun c13 => ?_)
    · refine At.seq fun K6 hk_6 => ?_
      refine At.region ?_
      refine op_assign (nxlf rfl) rfl rfl ?_
      refine op_assign (nxlf rfl) rfl rfl ?_
      refine op_assign (nxlf rfl) rfl rfl ?_
      refine At.opsNil ?_
      refine At.norm (hk_6 ?_)
      refine At.ret (At.inRet (At.thenRet (?_)))
      refine At.retN (L1 := []) rfl (.tmp rfl (.tmp rfl (.tmp rfl .nil))) rfl (.refl _) (.refl _) ?_
      first
        | (exfalso; omega)
        | (exact ⟨by rw [(sh_push n hn (by omega) (by omega)).1, (sh_push n hn (by omega) (by omega)).2]; rfl, rfl⟩)
        | (exact ⟨by rw [(sh_dup n hn (by omega) (by omega)).1, (sh_dup n hn (by omega) (by omega)).2, show ((n - 127 : Nat) : Int) = (n : Int) - 128 + 1 by omega, show ((n - 126 : Nat) : Int) = (n : Int) - 128 + 2 by omega], rfl⟩)
        | (exact ⟨by rw [(sh_swap n hn (by omega) (by omega)).1, (sh_swap n hn (by omega) (by omega)).2, show ((n - 142 : Nat) : Int) = (n : Int) - 144 + 2 by omega], rfl⟩)
        | (exact ⟨by rw [(sh_log n hn (by omega) (by omega)).1, (sh_log n hn (by omega) (by omega)).2, show ((n - 158 : Nat) : Int) = (n : Int) - 160 + 2 by omega]; rfl, rfl⟩)
        | exact ⟨rfl, rfl⟩
    · refine At.seq fun K7 hk_7 => ?_
      refine At.region ?_
      refine op_move (nxlf rfl) rfl rfl ?_
      refine op_geq (nxlf rfl) rfl rfl rfl ?_
      refine op_move (nxlf rfl) rfl rfl ?_
      refine At.partP (d := 23) rfl (fun g23 => ?_) (fun g23 => ?_)
      · refine op_move (nxgf rfl rfl rfl rfl) rfl rfl ?_
        refine op_lss (nxgf rfl rfl rfl rfl) rfl rfl rfl ?_
        refine op_pickT (nxlf rfl) rfl rfl rfl ?_
        refine op_assign (nxlf rfl) rfl rfl ?_
        refine At.opsNil ?_
        refine At.norm (hk_7 ?_)
        refine At.condP rfl (fun c20 => ?_) (fun c20 => ?_)
        · refine At.seq fun K8 hk_8 => ?_
          refine At.region ?_
          refine op_move (nxlf rfl) rfl rfl ?_
          refine op_subI (nxlf rfl) rfl rfl (by omega) (by omega) rfl ?_
          refine op_addI (nxlf rfl) rfl rfl (by omega) (by omega) rfl ?_
          refine op_move (nxlf rfl) rfl rfl ?_
          refine op_subI (nxlf rfl) rfl rfl (by omega) (by omega) rfl ?_
          refine op_addI (nxlf rfl) rfl rfl (by omega) (by omega) rfl ?_
          refine op_assign (nxlf rfl) rfl rfl ?_
          refine op_assign (nxlf rfl) rfl rfl ?_
          refine op_assign (nxlf rfl) rfl rfl ?_
          refine At.opsNil ?_
          refine At.norm (hk_8 ?_)
          refine At.ret (At.inRet (At.thenRet (?_)))
          refine At.retN (L1 := []) rfl (.tmp rfl (.tmp rfl (.tmp rfl .nil))) rfl (.refl _) (.refl _) ?_
          first
            | (exfalso; omega)
            | (exact ⟨by rw [(sh_push n hn (by omega) (by omega)).1, (sh_push n hn (by omega) (by omega)).2]; rfl, rfl⟩)
            | (exact ⟨by rw [(sh_dup n hn (by omega) (by omega)).1, (sh_dup n hn (by omega) (by omega)).2, show ((n - 127 : Nat) : Int) = (n : Int) - 128 + 1 by omega, show ((n - 126 : Nat) : Int) = (n : Int) - 128 + 2 by omega], rfl⟩)
            | (exact ⟨by rw [(sh_swap n hn (by omega) (by omega)).1, (sh_swap n hn (by omega) (by omega)).2, show ((n - 142 : Nat) : Int) = (n : Int) - 144 + 2 by omega], rfl⟩)
            | (exact ⟨by rw [(sh_log n hn (by omega) (by omega)).1, (sh_log n hn (by omega) (by omega)).2, show ((n - 158 : Nat) : Int) = (n : Int) - 160 + 2 by omega]; rfl, rfl⟩)
            | exact ⟨rfl, rfl⟩
        · refine At.seq fun K9 hk_9 => ?_
          refine At.region ?_
          refine op_move (nxlf rfl) rfl rfl ?_
          refine op_geq (nxlf rfl) rfl rfl rfl ?_
          refine op_move (nxlf rfl) rfl rfl ?_
          refine At.partP (d := 36) rfl (fun g36 => ?_) (fun g36 => ?_)
          · refine op_move (nxgf rfl rfl rfl rfl) rfl rfl ?_
            refine op_lss (nxgf rfl rfl rfl rfl) rfl rfl rfl ?_
            refine op_pickT (nxlf rfl) rfl rfl rfl ?_
            refine op_assign (nxlf rfl) rfl rfl ?_
            refine At.opsNil ?_
            refine At.norm (hk_9 ?_)
            refine At.condP rfl (fun c33 => ?_) (fun c33 => ?_)
            · refine At.seq fun K10 hk_10 => ?_
              refine At.region ?_
              refine op_move (nxlf rfl) rfl rfl ?_
              refine op_subI (nxlf rfl) rfl rfl (by omega) (by omega) rfl ?_
              refine op_addI (nxlf rfl) rfl rfl (by omega) (by omega) rfl ?_
              refine op_move (nxlf rfl) rfl rfl ?_
              refine op_subI (nxlf rfl) rfl rfl (by omega) (by omega) rfl ?_
              refine op_addI (nxlf rfl) rfl rfl (by omega) (by omega) rfl ?_
              refine op_assign (nxlf rfl) rfl rfl ?_
              refine op_assign (nxlf rfl) rfl rfl ?_
              refine op_assign (nxlf rfl) rfl rfl ?_
              refine At.opsNil ?_
              refine At.norm (hk_10 ?_)
              refine At.ret (At.inRet (At.thenRet (?_)))
              refine At.retN (L1 := []) rfl (.tmp rfl (.tmp rfl (.tmp rfl .nil))) rfl (.refl _) (.refl _) ?_
              first
                | (exfalso; omega)
                | (exact ⟨by rw [(sh_push n hn (by omega) (by omega)).1, (sh_push n hn (by omega) (by omega)).2]; rfl, rfl⟩)
                | (exact ⟨by rw [(sh_dup n hn (by omega) (by omega)).1, (sh_dup n hn (by omega) (by omega)).2, show ((n - 127 : Nat) : Int) = (n : Int) - 128 + 1 by omega, show ((n - 126 : Nat) : Int) = (n : Int) - 128 + 2 by omega], rfl⟩)
                | (exact ⟨by rw [(sh_swap n hn (by omega) (by omega)).1, (sh_swap n hn (by omega) (by omega)).2, show ((n - 142 : Nat) : Int) = (n : Int) - 144 + 2 by omega], rfl⟩)
                | (exact ⟨by rw [(sh_log n hn (by omega) (by omega)).1, (sh_log n hn (by omega) (by omega)).2, show ((n - 158 : Nat) : Int) = (n : Int) - 160 + 2 by omega]; rfl, rfl⟩)
                | exact ⟨rfl, rfl⟩
            · refine At.seq fun K11 hk_11 => ?_
              refine At.region ?_
              refine op_move (nxlf rfl) rfl rfl ?_
              refine op_geq (nxlf rfl) rfl rfl rfl ?_
              refine op_move (nxlf rfl) rfl rfl ?_
              refine At.partP (d := 49) rfl (fun g49 => ?_) (fun g49 => ?_)
              · refine op_move (nxgf rfl rfl rfl rfl) rfl rfl ?_
                refine op_leq (nxgf rfl rfl rfl rfl) rfl rfl rfl ?_
                refine op_pickT (nxlf rfl) rfl rfl rfl ?_
                refine op_assign (nxlf rfl) rfl rfl ?_
                refine At.opsNil ?_
                refine At.norm (hk_11 ?_)
                refine At.condP rfl (fun c46 => ?_) (fun c46 => ?_)
                · refine At.seq fun K12 hk_12 => ?_
                  refine At.region ?_
                  refine op_move (nxlf rfl) rfl rfl ?_
                  refine op_subI (nxlf rfl) rfl rfl (by omega) (by omega) rfl ?_
                  refine op_addI (nxlf rfl) rfl rfl (by omega) (by omega) rfl ?_
                  refine op_assign (nxlf rfl) rfl rfl ?_
                  refine op_assign (nxlf rfl) rfl rfl ?_
                  refine op_assign (nxlf rfl) rfl rfl ?_
                  refine At.opsNil ?_
                  refine At.norm (hk_12 ?_)
                  refine At.ret (At.inRet (At.thenRet (?_)))
                  refine At.retN (L1 := []) rfl (.tmp rfl (.tmp rfl (.tmp rfl .nil))) rfl (.refl _) (.refl _) ?_
                  first
                    | (exfalso; omega)
                    | (exact ⟨by rw [(sh_push n hn (by omega) (by omega)).1, (sh_push n hn (by omega) (by omega)).2]; rfl, rfl⟩)
                    | (exact ⟨by rw [(sh_dup n hn (by omega) (by omega)).1, (sh_dup n hn (by omega) (by omega)).2, show ((n - 127 : Nat) : Int) = (n : Int) - 128 + 1 by omega, show ((n - 126 : Nat) : Int) = (n : Int) - 128 + 2 by omega], rfl⟩)
                    | (exact ⟨by rw [(sh_swap n hn (by omega) (by omega)).1, (sh_swap n hn (by omega) (by omega)).2, show ((n - 142 : Nat) : Int) = (n : Int) - 144 + 2 by omega], rfl⟩)
                    | (exact ⟨by rw [(sh_log n hn (by omega) (by omega)).1, (sh_log n hn (by omega) (by omega)).2, show ((n - 158 : Nat) : Int) = (n : Int) - 160 + 2 by omega]; rfl, rfl⟩)
                    | exact ⟨rfl, rfl⟩
                · refine At.skip ?_
                  refine At.inNorm ?_
                  refine At.norm (hk_4 ?_)
                  refine At.seq fun K13 hk_13 => ?_
                  refine At.region ?_
                  refine op_move (nxlf rfl) rfl rfl ?_
                  refine op_callA (nxla rfl) (.cons rfl .nil) (FShape_f hn (in_row hi (by omega)) (by omega)) Tryd.func39 rfl rfl (by simp) rfl ?_
                  rintro v58 L58 ⟨rfl, rfl⟩
                  change At _ _ _ [R] _
                  refine op_move (nxlf rfl) rfl rfl ?_
                  refine op_extract (nxlf rfl) rfl rfl rfl ?_
                  refine op_extract (nxlf rfl) rfl rfl rfl ?_
                  refine op_assign (nxlf rfl) rfl rfl ?_
                  refine op_assign (nxlf rfl) rfl rfl ?_
                  refine At.opsNil ?_
                  refine At.norm (hk_13 ?_)
                  refine At.seq fun K14 hk_14 => ?_
                  refine At.region ?_
                  refine op_move (nxlf rfl) rfl rfl ?_
                  refine op_move (nxlf rfl) rfl rfl ?_
                  refine op_assign (nxlf rfl) rfl rfl ?_
                  refine op_assign (nxlf rfl) rfl rfl ?_
                  refine op_assign (nxlf rfl) rfl rfl ?_
                  refine At.opsNil ?_
                  refine At.norm (hk_14 ?_)
                  refine At.ret (?_)
                  refine At.retN (L1 := []) rfl (.tmp rfl (.tmp rfl (.tmp rfl .nil))) rfl (.refl _) (.refl _) ?_
                  first
                    | (exfalso; omega)
                    | (exact ⟨by rw [(sh_push n hn (by omega) (by omega)).1, (sh_push n hn (by omega) (by omega)).2]; rfl, rfl⟩)
                    | (exact ⟨by rw [(sh_dup n hn (by omega) (by omega)).1, (sh_dup n hn (by omega) (by omega)).2, show ((n - 127 : Nat) : Int) = (n : Int) - 128 + 1 by omega, show ((n - 126 : Nat) : Int) = (n : Int) - 128 + 2 by omega], rfl⟩)
                    | (exact ⟨by rw [(sh_swap n hn (by omega) (by omega)).1, (sh_swap n hn (by omega) (by omega)).2, show ((n - 142 : Nat) : Int) = (n : Int) - 144 + 2 by omega], rfl⟩)
                    | (exact ⟨by rw [(sh_log n hn (by omega) (by omega)).1, (sh_log n hn (by omega) (by omega)).2, show ((n - 158 : Nat) : Int) = (n : Int) - 160 + 2 by omega]; rfl, rfl⟩)
                    | exact ⟨rfl, rfl⟩
              · refine op_skip rfl rfl rfl rfl rfl rfl rfl ?_
                refine op_skip rfl rfl rfl rfl rfl rfl rfl ?_
                refine op_pickF (nxlf rfl) rfl rfl rfl ?_
                refine op_assign (nxlf rfl) rfl rfl ?_
                refine At.opsNil ?_
                refine At.norm (hk_11 ?_)
                refine At.condF rfl ?_
                refine At.skip ?_
                refine At.inNorm ?_
                refine At.norm (hk_4 ?_)
                refine At.seq fun K15 hk_15 => ?_
                refine At.region ?_
                refine op_move (nxlf rfl) rfl rfl ?_
                refine op_callA (nxla rfl) (.cons rfl .nil) (FShape_f hn (in_row hi (by omega)) (by omega)) Tryd.func39 rfl rfl (by simp) rfl ?_
                rintro v58 L58 ⟨rfl, rfl⟩
                change At _ _ _ [R] _
                refine op_move (nxlf rfl) rfl rfl ?_
                refine op_extract (nxlf rfl) rfl rfl rfl ?_
                refine op_extract (nxlf rfl) rfl rfl rfl ?_
                refine op_assign (nxlf rfl) rfl rfl ?_
                refine op_assign (nxlf rfl) rfl rfl ?_
                refine At.opsNil ?_
                refine At.norm (hk_15 ?_)
                refine At.seq fun K16 hk_16 => ?_
                refine At.region ?_
                refine op_move (nxlf rfl) rfl rfl ?_
                refine op_move (nxlf rfl) rfl rfl ?_
                refine op_assign (nxlf rfl) rfl rfl ?_
                refine op_assign (nxlf rfl) rfl rfl ?_
                refine op_assign (nxlf rfl) rfl rfl ?_
                refine At.opsNil ?_
                refine At.norm (hk_16 ?_)
                refine At.ret (?_)
                refine At.retN (L1 := []) rfl (.tmp rfl (.tmp rfl (.tmp rfl .nil))) rfl (.refl _) (.refl _) ?_
                first
                  | (exfalso; omega)
                  | (exact ⟨by rw [(sh_push n hn (by omega) (by omega)).1, (sh_push n hn (by omega) (by omega)).2]; rfl, rfl⟩)
                  | (exact ⟨by rw [(sh_dup n hn (by omega) (by omega)).1, (sh_dup n hn (by omega) (by omega)).2, show ((n - 127 : Nat) : Int) = (n : Int) - 128 + 1 by omega, show ((n - 126 : Nat) : Int) = (n : Int) - 128 + 2 by omega], rfl⟩)
                  | (exact ⟨by rw [(sh_swap n hn (by omega) (by omega)).1, (sh_swap n hn (by omega) (by omega)).2, show ((n - 142 : Nat) : Int) = (n : Int) - 144 + 2 by omega], rfl⟩)
                  | (exact ⟨by rw [(sh_log n hn (by omega) (by omega)).1, (sh_log n hn (by omega) (by omega)).2, show ((n - 158 : Nat) : Int) = (n : Int) - 160 + 2 by omega]; rfl, rfl⟩)
                  | exact ⟨rfl, rfl⟩
          · refine op_skip rfl rfl rfl rfl rfl rfl rfl ?_
            refine op_skip rfl rfl rfl rfl rfl rfl rfl ?_
            refine op_pickF (nxlf rfl) rfl rfl rfl ?_
            refine op_assign (nxlf rfl) rfl rfl ?_
            refine At.opsNil ?_
            refine At.norm (hk_9 ?_)
            refine At.condF rfl ?_
            refine At.seq fun K17 hk_17 => ?_
            refine At.region ?_
            refine op_move (nxlf rfl) rfl rfl ?_
            refine op_geq (nxlf rfl) rfl rfl rfl ?_
            refine op_move (nxlf rfl) rfl rfl ?_
            refine At.partP (d := 49) rfl (fun g49 => ?_) (fun g49 => ?_)
            · refine op_move (nxgf rfl rfl rfl rfl) rfl rfl ?_
              refine op_leq (nxgf rfl rfl rfl rfl) rfl rfl rfl ?_
              refine op_pickT (nxlf rfl) rfl rfl rfl ?_
              refine op_assign (nxlf rfl) rfl rfl ?_
              refine At.opsNil ?_
              refine At.norm (hk_17 ?_)
              refine At.condP rfl (fun c46 => ?_) (fun c46 => ?_)
              · refine At.seq fun K18 hk_18 => ?_
                refine At.region ?_
                refine op_move (nxlf rfl) rfl rfl ?_
                refine op_subI (nxlf rfl) rfl rfl (by omega) (by omega) rfl ?_
                refine op_addI (nxlf rfl) rfl rfl (by omega) (by omega) rfl ?_
                refine op_assign (nxlf rfl) rfl rfl ?_
                refine op_assign (nxlf rfl) rfl rfl ?_
                refine op_assign (nxlf rfl) rfl rfl ?_
                refine At.opsNil ?_
                refine At.norm (hk_18 ?_)
                refine At.ret (At.inRet (At.thenRet (?_)))
                refine At.retN (L1 := []) rfl (.tmp rfl (.tmp rfl (.tmp rfl .nil))) rfl (.refl _) (.refl _) ?_
                first
                  | (exfalso; omega)
                  | (exact ⟨by rw [(sh_push n hn (by omega) (by omega)).1, (sh_push n hn (by omega) (by omega)).2]; rfl, rfl⟩)
                  | (exact ⟨by rw [(sh_dup n hn (by omega) (by omega)).1, (sh_dup n hn (by omega) (by omega)).2, show ((n - 127 : Nat) : Int) = (n : Int) - 128 + 1 by omega, show ((n - 126 : Nat) : Int) = (n : Int) - 128 + 2 by omega], rfl⟩)
                  | (exact ⟨by rw [(sh_swap n hn (by omega) (by omega)).1, (sh_swap n hn (by omega) (by omega)).2, show ((n - 142 : Nat) : Int) = (n : Int) - 144 + 2 by omega], rfl⟩)
                  | (exact ⟨by rw [(sh_log n hn (by omega) (by omega)).1, (sh_log n hn (by omega) (by omega)).2, show ((n - 158 : Nat) : Int) = (n : Int) - 160 + 2 by omega]; rfl, rfl⟩)
                  | exact ⟨rfl, rfl⟩
              · refine At.skip ?_
                refine At.inNorm ?_
                refine At.norm (hk_4 ?_)
                refine At.seq fun K19 hk_19 => ?_
                refine At.region ?_
                refine op_move (nxlf rfl) rfl rfl ?_
                refine op_callA (nxla rfl) (.cons rfl .nil) (FShape_f hn (in_row hi (by omega)) (by omega)) Tryd.func39 rfl rfl (by simp) rfl ?_
                rintro v58 L58 ⟨rfl, rfl⟩
                change At _ _ _ [R] _
                refine op_move (nxlf rfl) rfl rfl ?_
                refine op_extract (nxlf rfl) rfl rfl rfl ?_
                refine op_extract (nxlf rfl) rfl rfl rfl ?_
                refine op_assign (nxlf rfl) rfl rfl ?_
                refine op_assign (nxlf rfl) rfl rfl ?_
                refine At.opsNil ?_
                refine At.norm (hk_19 ?_)
                refine At.seq fun K20 hk_20 => ?_
                refine At.region ?_
                refine op_move (nxlf rfl) rfl rfl ?_
                refine op_move (nxlf rfl) rfl rfl ?_
                refine op_assign (nxlf rfl) rfl rfl ?_
                refine op_assign (nxlf rfl) rfl rfl ?_
                refine op_assign (nxlf rfl) rfl rfl ?_
                refine At.opsNil ?_
                refine At.norm (hk_20 ?_)
                refine At.ret (?_)
                refine At.retN (L1 := []) rfl (.tmp rfl (.tmp rfl (.tmp rfl .nil))) rfl (.refl _) (.refl _) ?_
                first
                  | (exfalso; omega)
                  | (exact ⟨by rw [(sh_push n hn (by omega) (by omega)).1, (sh_push n hn (by omega) (by omega)).2]; rfl, rfl⟩)
                  | (exact ⟨by rw [(sh_dup n hn (by omega) (by omega)).1, (sh_dup n hn (by omega) (by omega)).2, show ((n - 127 : Nat) : Int) = (n : Int) - 128 + 1 by omega, show ((n - 126 : Nat) : Int) = (n : Int) - 128 + 2 by omega], rfl⟩)
                  | (exact ⟨by rw [(sh_swap n hn (by omega) (by omega)).1, (sh_swap n hn (by omega) (by omega)).2, show ((n - 142 : Nat) : Int) = (n : Int) - 144 + 2 by omega], rfl⟩)
                  | (exact ⟨by rw [(sh_log n hn (by omega) (by omega)).1, (sh_log n hn (by omega) (by omega)).2, show ((n - 158 : Nat) : Int) = (n : Int) - 160 + 2 by omega]; rfl, rfl⟩)
                  | exact ⟨rfl, rfl⟩
            · refine op_skip rfl rfl rfl rfl rfl rfl rfl ?_
              refine op_skip rfl rfl rfl rfl rfl rfl rfl ?_
              refine op_pickF (nxlf rfl) rfl rfl rfl ?_
              refine op_assign (nxlf rfl) rfl rfl ?_
              refine At.opsNil ?_
              refine At.norm (hk_17 ?_)
              refine At.condF rfl ?_
              refine At.skip ?_
              refine At.inNorm ?_
              refine At.norm (hk_4 ?_)
              refine At.seq fun K21 hk_21 => ?_
              refine At.region ?_
              refine op_move (nxlf rfl) rfl rfl ?_
              refine op_callA (nxla rfl) (.cons rfl .nil) (FShape_f hn (in_row hi (by omega)) (by omega)) Tryd.func39 rfl rfl (by simp) rfl ?_
              rintro v58 L58 ⟨rfl, rfl⟩
              change At _ _ _ [R] _
              refine op_move (nxlf rfl) rfl rfl ?_
              refine op_extract (nxlf rfl) rfl rfl rfl ?_
              refine op_extract (nxlf rfl) rfl rfl rfl ?_
              refine op_assign (nxlf rfl) rfl rfl ?_
              refine op_assign (nxlf rfl) rfl rfl ?_
              refine At.opsNil ?_
              refine At.norm (hk_21 ?_)
              refine At.seq fun K22 hk_22 => ?_
              refine At.region ?_
              refine op_move (nxlf rfl) rfl rfl ?_
              refine op_move (nxlf rfl) rfl rfl ?_
              refine op_assign (nxlf rfl) rfl rfl ?_
              refine op_assign (nxlf rfl) rfl rfl ?_
              refine op_assign (nxlf rfl) rfl rfl ?_
              refine At.opsNil ?_
              refine At.norm (hk_22 ?_)
              refine At.ret (?_)
              refine At.retN (L1 := []) rfl (.tmp rfl (.tmp rfl (.tmp rfl .nil))) rfl (.refl _) (.refl _) ?_
              first
                | (exfalso; omega)
                | (exact ⟨by rw [(sh_push n hn (by omega) (by omega)).1, (sh_push n hn (by omega) (by omega)).2]; rfl, rfl⟩)
                | (exact ⟨by rw [(sh_dup n hn (by omega) (by omega)).1, (sh_dup n hn (by omega) (by omega)).2, show ((n - 127 : Nat) : Int) = (n : Int) - 128 + 1 by omega, show ((n - 126 : Nat) : Int) = (n : Int) - 128 + 2 by omega], rfl⟩)
                | (exact ⟨by rw [(sh_swap n hn (by omega) (by omega)).1, (sh_swap n hn (by omega) (by omega)).2, show ((n - 142 : Nat) : Int) = (n : Int) - 144 + 2 by omega], rfl⟩)
                | (exact ⟨by rw [(sh_log n hn (by omega) (by omega)).1, (sh_log n hn (by omega) (by omega)).2, show ((n - 158 : Nat) : Int) = (n : Int) - 160 + 2 by omega]; rfl, rfl⟩)
                | exact ⟨rfl, rfl⟩
      · refine op_skip rfl rfl rfl rfl rfl rfl rfl ?_
        refine op_skip rfl rfl rfl rfl rfl rfl rfl ?_
        refine op_pickF (nxlf rfl) rfl rfl rfl ?_
        refine op_assign (nxlf rfl) rfl rfl ?_
        refine At.opsNil ?_
        refine At.norm (hk_7 ?_)
        refine At.condF rfl ?_
        refine At.seq fun K23 hk_23 => ?_
        refine At.region ?_
        refine op_move (nxlf rfl) rfl rfl ?_
        refine op_geq (nxlf rfl) rfl rfl rfl ?_
        refine op_move (nxlf rfl) rfl rfl ?_
        refine At.partP (d := 36) rfl (fun g36 => ?_) (fun g36 => ?_)
        · refine op_move (nxgf rfl rfl rfl rfl) rfl rfl ?_
          refine op_lss (nxgf rfl rfl rfl rfl) rfl rfl rfl ?_
          refine op_pickT (nxlf rfl) rfl rfl rfl ?_
          refine op_assign (nxlf rfl) rfl rfl ?_
          refine At.opsNil ?_
          refine At.norm (hk_23 ?_)
          refine At.condP rfl (fun c33 => ?_) (fun c33 => ?_)
          · refine At.seq fun K24 hk_24 => ?_
            refine At.region ?_
            refine op_move (nxlf rfl) rfl rfl ?_
            refine op_subI (nxlf rfl) rfl rfl (by omega) (by omega) rfl ?_
            refine op_addI (nxlf rfl) rfl rfl (by omega) (by omega) rfl ?_
            refine op_move (nxlf rfl) rfl rfl ?_
            refine op_subI (nxlf rfl) rfl rfl (by omega) (by omega) rfl ?_
            refine op_addI (nxlf rfl) rfl rfl (by omega) (by omega) rfl ?_
            refine op_assign (nxlf rfl) rfl rfl ?_
            refine op_assign (nxlf rfl) rfl rfl ?_
            refine op_assign (nxlf rfl) rfl rfl ?_
            refine At.opsNil ?_
            refine At.norm (hk_24 ?_)
            refine At.ret (At.inRet (At.thenRet (?_)))
            refine At.retN (L1 := []) rfl (.tmp rfl (.tmp rfl (.tmp rfl .nil))) rfl (.refl _) (.refl _) ?_
            first
              | (exfalso; omega)
              | (exact ⟨by rw [(sh_push n hn (by omega) (by omega)).1, (sh_push n hn (by omega) (by omega)).2]; rfl, rfl⟩)
              | (exact ⟨by rw [(sh_dup n hn (by omega) (by omega)).1, (sh_dup n hn (by omega) (by omega)).2, show ((n - 127 : Nat) : Int) = (n : Int) - 128 + 1 by omega, show ((n - 126 : Nat) : Int) = (n : Int) - 128 + 2 by omega], rfl⟩)
              | (exact ⟨by rw [(sh_swap n hn (by omega) (by omega)).1, (sh_swap n hn (by omega) (by omega)).2, show ((n - 142 : Nat) : Int) = (n : Int) - 144 + 2 by omega], rfl⟩)
              | (exact ⟨by rw [(sh_log n hn (by omega) (by omega)).1, (sh_log n hn (by omega) (by omega)).2, show ((n - 158 : Nat) : Int) = (n : Int) - 160 + 2 by omega]; rfl, rfl⟩)
              | exact ⟨rfl, rfl⟩
          · refine At.seq fun K25 hk_25 => ?_
            refine At.region ?_
            refine op_move (nxlf rfl) rfl rfl ?_
            refine op_geq (nxlf rfl) rfl rfl rfl ?_
            refine op_move (nxlf rfl) rfl rfl ?_
            refine At.partP (d := 49) rfl (fun g49 => ?_) (fun g49 => ?_)
            · refine op_move (nxgf rfl rfl rfl rfl) rfl rfl ?_
              refine op_leq (nxgf rfl rfl rfl rfl) rfl rfl rfl ?_
              refine op_pickT (nxlf rfl) rfl rfl rfl ?_
              refine op_assign (nxlf rfl) rfl rfl ?_
              refine At.opsNil ?_
              refine At.norm (hk_25 ?_)
              refine At.condP rfl (fun c46 => ?_) (fun c46 => ?_)
              · refine At.seq fun K26 hk_26 => ?_
                refine At.region ?_
                refine op_move (nxlf rfl) rfl rfl ?_
                refine op_subI (nxlf rfl) rfl rfl (by omega) (by omega) rfl ?_
                refine op_addI (nxlf rfl) rfl rfl (by omega) (by omega) rfl ?_
                refine op_assign (nxlf rfl) rfl rfl ?_
                refine op_assign (nxlf rfl) rfl rfl ?_
                refine op_assign (nxlf rfl) rfl rfl ?_
                refine At.opsNil ?_
                refine At.norm (hk_26 ?_)
                refine At.ret (At.inRet (At.thenRet (?_)))
                refine At.retN (L1 := []) rfl (.tmp rfl (.tmp rfl (.tmp rfl .nil))) rfl (.refl _) (.refl _) ?_
                first
                  | (exfalso; omega)
                  | (exact ⟨by rw [(sh_push n hn (by omega) (by omega)).1, (sh_push n hn (by omega) (by omega)).2]; rfl, rfl⟩)
                  | (exact ⟨by rw [(sh_dup n hn (by omega) (by omega)).1, (sh_dup n hn (by omega) (by omega)).2, show ((n - 127 : Nat) : Int) = (n : Int) - 128 + 1 by omega, show ((n - 126 : Nat) : Int) = (n : Int) - 128 + 2 by omega], rfl⟩)
                  | (exact ⟨by rw [(sh_swap n hn (by omega) (by omega)).1, (sh_swap n hn (by omega) (by omega)).2, show ((n - 142 : Nat) : Int) = (n : Int) - 144 + 2 by omega], rfl⟩)
                  | (exact ⟨by rw [(sh_log n hn (by omega) (by omega)).1, (sh_log n hn (by omega) (by omega)).2, show ((n - 158 : Nat) : Int) = (n : Int) - 160 + 2 by omega]; rfl, rfl⟩)
                  | exact ⟨rfl, rfl⟩
              · refine At.skip ?_
                refine At.inNorm ?_
                refine At.norm (hk_4 ?_)
                refine At.seq fun K27 hk_27 => ?_
                refine At.region ?_
                refine op_move (nxlf rfl) rfl rfl ?_
                refine op_callA (nxla rfl) (.cons rfl .nil) (FShape_f hn (in_row hi (by omega)) (by omega)) Tryd.func39 rfl rfl (by simp) rfl ?_
                rintro v58 L58 ⟨rfl, rfl⟩
                change At _ _ _ [R] _
                refine op_move (nxlf rfl) rfl rfl ?_
                refine op_extract (nxlf rfl) rfl rfl rfl ?_
                refine op_extract (nxlf rfl) rfl rfl rfl ?_
                refine op_assign (nxlf rfl) rfl rfl ?_
                refine op_assign (nxlf rfl) rfl rfl ?_
                refine At.opsNil ?_
                refine At.norm (hk_27 ?_)
                refine At.seq fun K28 hk_28 => ?_
                refine At.region ?_
                refine op_move (nxlf rfl) rfl rfl ?_
                refine op_move (nxlf rfl) rfl rfl ?_
                refine op_assign (nxlf rfl) rfl rfl ?_
                refine op_assign (nxlf rfl) rfl rfl ?_
                refine op_assign (nxlf rfl) rfl rfl ?_
                refine At.opsNil ?_
                refine At.norm (hk_28 ?_)
                refine At.ret (?_)
                refine At.retN (L1 := []) rfl (.tmp rfl (.tmp rfl (.tmp rfl .nil))) rfl (.refl _) (.refl _) ?_
                first
                  | (exfalso; omega)
                  | (exact ⟨by rw [(sh_push n hn (by omega) (by omega)).1, (sh_push n hn (by omega) (by omega)).2]; rfl, rfl⟩)
                  | (exact ⟨by rw [(sh_dup n hn (by omega) (by omega)).1, (sh_dup n hn (by omega) (by omega)).2, show ((n - 127 : Nat) : Int) = (n : Int) - 128 + 1 by omega, show ((n - 126 : Nat) : Int) = (n : Int) - 128 + 2 by omega], rfl⟩)
                  | (exact ⟨by rw [(sh_swap n hn (by omega) (by omega)).1, (sh_swap n hn (by omega) (by omega)).2, show ((n - 142 : Nat) : Int) = (n : Int) - 144 + 2 by omega], rfl⟩)
                  | (exact ⟨by rw [(sh_log n hn (by omega) (by omega)).1, (sh_log n hn (by omega) (by omega)).2, show ((n - 158 : Nat) : Int) = (n : Int) - 160 + 2 by omega]; rfl, rfl⟩)
                  | exact ⟨rfl, rfl⟩
            · refine op_skip rfl rfl rfl rfl rfl rfl rfl ?_
              refine op_skip rfl rfl rfl rfl rfl rfl rfl ?_
              refine op_pickF (nxlf rfl) rfl rfl rfl ?_
              refine op_assign (nxlf rfl) rfl rfl ?_
              refine At.opsNil ?_
              refine At.norm (hk_25 ?_)
              refine At.condF rfl ?_
              refine At.skip ?_
              refine At.inNorm ?_
              refine At.norm (hk_4 ?_)
              refine At.seq fun K29 hk_29 => ?_
              refine At.region ?_
              refine op_move (nxlf rfl) rfl rfl ?_
              refine op_callA (nxla rfl) (.cons rfl .nil) (FShape_f hn (in_row hi (by omega)) (by omega)) Tryd.func39 rfl rfl (by simp) rfl ?_
              rintro v58 L58 ⟨rfl, rfl⟩
              change At _ _ _ [R] _
              refine op_move (nxlf rfl) rfl rfl ?_
              refine op_extract (nxlf rfl) rfl rfl rfl ?_
              refine op_extract (nxlf rfl) rfl rfl rfl ?_
              refine op_assign (nxlf rfl) rfl rfl ?_
              refine op_assign (nxlf rfl) rfl rfl ?_
              refine At.opsNil ?_
              refine At.norm (hk_29 ?_)
              refine At.seq fun K30 hk_30 => ?_
              refine At.region ?_
              refine op_move (nxlf rfl) rfl rfl ?_
              refine op_move (nxlf rfl) rfl rfl ?_
              refine op_assign (nxlf rfl) rfl rfl ?_
              refine op_assign (nxlf rfl) rfl rfl ?_
              refine op_assign (nxlf rfl) rfl rfl ?_
              refine At.opsNil ?_
              refine At.norm (hk_30 ?_)
              refine At.ret (?_)
              refine At.retN (L1 := []) rfl (.tmp rfl (.tmp rfl (.tmp rfl .nil))) rfl (.refl _) (.refl _) ?_
              first
                | (exfalso; omega)
                | (exact ⟨by rw [(sh_push n hn (by omega) (by omega)).1, (sh_push n hn (by omega) (by omega)).2]; rfl, rfl⟩)
                | (exact ⟨by rw [(sh_dup n hn (by omega) (by omega)).1, (sh_dup n hn (by omega) (by omega)).2, show ((n - 127 : Nat) : Int) = (n : Int) - 128 + 1 by omega, show ((n - 126 : Nat) : Int) = (n : Int) - 128 + 2 by omega], rfl⟩)
                | (exact ⟨by rw [(sh_swap n hn (by omega) (by omega)).1, (sh_swap n hn (by omega) (by omega)).2, show ((n - 142 : Nat) : Int) = (n : Int) - 144 + 2 by omega], rfl⟩)
                | (exact ⟨by rw [(sh_log n hn (by omega) (by omega)).1, (sh_log n hn (by omega) (by omega)).2, show ((n - 158 : Nat) : Int) = (n : Int) - 160 + 2 by omega]; rfl, rfl⟩)
                | exact ⟨rfl, rfl⟩
        · refine op_skip rfl rfl rfl rfl rfl rfl rfl ?_
          refine op_skip rfl rfl rfl rfl rfl rfl rfl ?_
          refine op_pickF (nxlf rfl) rfl rfl rfl ?_
          refine op_assign (nxlf rfl) rfl rfl ?_
          refine At.opsNil ?_
          refine At.norm (hk_23 ?_)
          refine At.condF rfl ?_
          refine At.seq fun K31 hk_31 => ?_
          refine At.region ?_
          refine op_move (nxlf rfl) rfl rfl ?_
          refine op_geq (nxlf rfl) rfl rfl rfl ?_
          refine op_move (nxlf rfl) rfl rfl ?_
          refine At.partP (d := 49) rfl (fun g49 => ?_) (fun g49 => ?_)
          · refine op_move (nxgf rfl rfl rfl rfl) rfl rfl ?_
            refine op_leq (nxgf rfl rfl rfl rfl) rfl rfl rfl ?_
            refine op_pickT (nxlf rfl) rfl rfl rfl ?_
            refine op_assign (nxlf rfl) rfl rfl ?_
            refine At.opsNil ?_
            refine At.norm (hk_31 ?_)
            refine At.condP rfl (fun c46 => ?_) (fun c46 => ?_)
            · refine At.seq fun K32 hk_32 => ?_
              refine At.region ?_
              refine op_move (nxlf rfl) rfl rfl ?_
              refine op_subI (nxlf rfl) rfl rfl (by omega) (by omega) rfl ?_
              refine op_addI (nxlf rfl) rfl rfl (by omega) (by omega) rfl ?_
              refine op_assign (nxlf rfl) rfl rfl ?_
              refine op_assign (nxlf rfl) rfl rfl ?_
              refine op_assign (nxlf rfl) rfl rfl ?_
              refine At.opsNil ?_
              refine At.norm (hk_32 ?_)
              refine At.ret (At.inRet (At.thenRet (?_)))
              refine At.retN (L1 := []) rfl (.tmp rfl (.tmp rfl (.tmp rfl .nil))) rfl (.refl _) (.refl _) ?_
              first
                | (exfalso; omega)
                | (exact ⟨by rw [(sh_push n hn (by omega) (by omega)).1, (sh_push n hn (by omega) (by omega)).2]; rfl, rfl⟩)
                | (exact ⟨by rw [(sh_dup n hn (by omega) (by omega)).1, (sh_dup n hn (by omega) (by omega)).2, show ((n - 127 : Nat) : Int) = (n : Int) - 128 + 1 by omega, show ((n - 126 : Nat) : Int) = (n : Int) - 128 + 2 by omega], rfl⟩)
                | (exact ⟨by rw [(sh_swap n hn (by omega) (by omega)).1, (sh_swap n hn (by omega) (by omega)).2, show ((n - 142 : Nat) : Int) = (n : Int) - 144 + 2 by omega], rfl⟩)
                | (exact ⟨by rw [(sh_log n hn (by omega) (by omega)).1, (sh_log n hn (by omega) (by omega)).2, show ((n - 158 : Nat) : Int) = (n : Int) - 160 + 2 by omega]; rfl, rfl⟩)
                | exact ⟨rfl, rfl⟩
            · refine At.skip ?_
              refine At.inNorm ?_
              refine At.norm (hk_4 ?_)
              refine At.seq fun K33 hk_33 => ?_
              refine At.region ?_
              refine op_move (nxlf rfl) rfl rfl ?_
              refine op_callA (nxla rfl) (.cons rfl .nil) (FShape_f hn (in_row hi (by omega)) (by omega)) Tryd.func39 rfl rfl (by simp) rfl ?_
              rintro v58 L58 ⟨rfl, rfl⟩
              change At _ _ _ [R] _
              refine op_move (nxlf rfl) rfl rfl ?_
              refine op_extract (nxlf rfl) rfl rfl rfl ?_
              refine op_extract (nxlf rfl) rfl rfl rfl ?_
              refine op_assign (nxlf rfl) rfl rfl ?_
              refine op_assign (nxlf rfl) rfl rfl ?_
              refine At.opsNil ?_
              refine At.norm (hk_33 ?_)
              refine At.seq fun K34 hk_34 => ?_
              refine At.region ?_
              refine op_move (nxlf rfl) rfl rfl ?_
              refine op_move (nxlf rfl) rfl rfl ?_
              refine op_assign (nxlf rfl) rfl rfl ?_
              refine op_assign (nxlf rfl) rfl rfl ?_
              refine op_assign (nxlf rfl) rfl rfl ?_
              refine At.opsNil ?_
              refine At.norm (hk_34 ?_)
              refine At.ret (?_)
              refine At.retN (L1 := []) rfl (.tmp rfl (.tmp rfl (.tmp rfl .nil))) rfl (.refl _) (.refl _) ?_
              first
                | (exfalso; omega)
                | (exact ⟨by rw [(sh_push n hn (by omega) (by omega)).1, (sh_push n hn (by omega) (by omega)).2]; rfl, rfl⟩)
                | (exact ⟨by rw [(sh_dup n hn (by omega) (by omega)).1, (sh_dup n hn (by omega) (by omega)).2, show ((n - 127 : Nat) : Int) = (n : Int) - 128 + 1 by omega, show ((n - 126 : Nat) : Int) = (n : Int) - 128 + 2 by omega], rfl⟩)
                | (exact ⟨by rw [(sh_swap n hn (by omega) (by omega)).1, (sh_swap n hn (by omega) (by omega)).2, show ((n - 142 : Nat) : Int) = (n : Int) - 144 + 2 by omega], rfl⟩)
                | (exact ⟨by rw [(sh_log n hn (by omega) (by omega)).1, (sh_log n hn (by omega) (by omega)).2, show ((n - 158 : Nat) : Int) = (n : Int) - 160 + 2 by omega]; rfl, rfl⟩)
                | exact ⟨rfl, rfl⟩
          · refine op_skip rfl rfl rfl rfl rfl rfl rfl ?_
            refine op_skip rfl rfl rfl rfl rfl rfl rfl ?_
            refine op_pickF (nxlf rfl) rfl rfl rfl ?_
            refine op_assign (nxlf rfl) rfl rfl ?_
            refine At.opsNil ?_
            refine At.norm (hk_31 ?_)
            refine At.condF rfl ?_
            refine At.skip ?_
            refine At.inNorm ?_
            refine At.norm (hk_4 ?_)
            refine At.seq fun K35 hk_35 => ?_
            refine At.region ?_
            refine op_move (nxlf rfl) rfl rfl ?_
            refine op_callA (nxla rfl) (.cons rfl .nil) (FShape_f hn (in_row hi (by omega)) (by omega)) Tryd.func39 rfl rfl (by simp) rfl ?_
            rintro v58 L58 ⟨rfl, rfl⟩
            change At _ _ _ [R] _
            refine op_move (nxlf rfl) rfl rfl ?_
            refine op_extract (nxlf rfl) rfl rfl rfl ?_
            refine op_extract (nxlf rfl) rfl rfl rfl ?_
            refine op_assign (nxlf rfl) rfl rfl ?_
            refine op_assign (nxlf rfl) rfl rfl ?_
            refine At.opsNil ?_
            refine At.norm (hk_35 ?_)
            refine At.seq fun K36 hk_36 => ?_
            refine At.region ?_
            refine op_move (nxlf rfl) rfl rfl ?_
            refine op_move (nxlf rfl) rfl rfl ?_
            refine op_assign (nxlf rfl) rfl rfl ?_
            refine op_assign (nxlf rfl) rfl rfl ?_
            refine op_assign (nxlf rfl) rfl rfl ?_
            refine At.opsNil ?_
            refine At.norm (hk_36 ?_)
            refine At.ret (?_)
            refine At.retN (L1 := []) rfl (.tmp rfl (.tmp rfl (.tmp rfl .nil))) rfl (.refl _) (.refl _) ?_
            first
              | (exfalso; omega)
              | (exact ⟨by rw [(sh_push n hn (by omega) (by omega)).1, (sh_push n hn (by omega) (by omega)).2]; rfl, rfl⟩)
              | (exact ⟨by rw [(sh_dup n hn (by omega) (by omega)).1, (sh_dup n hn (by omega) (by omega)).2, show ((n - 127 : Nat) : Int) = (n : Int) - 128 + 1 by omega, show ((n - 126 : Nat) : Int) = (n : Int) - 128 + 2 by omega], rfl⟩)
              | (exact ⟨by rw [(sh_swap n hn (by omega) (by omega)).1, (sh_swap n hn (by omega) (by omega)).2, show ((n - 142 : Nat) : Int) = (n : Int) - 144 + 2 by omega], rfl⟩)
              | (exact ⟨by rw [(sh_log n hn (by omega) (by omega)).1, (sh_log n hn (by omega) (by omega)).2, show ((n - 158 : Nat) : Int) = (n : Int) - 160 + 2 by omega]; rfl, rfl⟩)
              | exact ⟨rfl, rfl⟩
  · refine op_skip rfl rfl rfl rfl rfl rfl rfl ?_
    refine op_skip rfl rfl rfl rfl rfl rfl rfl ?_
    refine op_pickF (nxlf rfl) rfl rfl rfl ?_
    refine op_assign (nxlf rfl) rfl rfl ?_
    refine At.opsNil ?_
    refine At.norm (hk_5 ?_)
    refine At.condF rfl ?_
    refine At.seq fun K37 hk_37 => ?_
    refine At.region ?_
    refine op_move (nxlf rfl) rfl rfl ?_
    refine op_geq (nxlf rfl) rfl rfl rfl ?_
    refine op_move (nxlf rfl) rfl rfl ?_
    refine At.partP (d := 23) rfl (fun g23 => ?_) (fun g23 => ?_)
    · refine op_move (nxgf rfl rfl rfl rfl) rfl rfl ?_
      refine op_lss (nxgf rfl rfl rfl rfl) rfl rfl rfl ?_
      refine op_pickT (nxlf rfl) rfl rfl rfl ?_
      refine op_assign (nxlf rfl) rfl rfl ?_
      refine At.opsNil ?_
      refine At.norm (hk_37 ?_)
      refine At.condP rfl (fun c20 => ?_) (fun c20 => ?_)
      · refine At.seq fun K38 hk_38 => ?_
        refine At.region ?_
        refine op_move (nxlf rfl) rfl rfl ?_
        refine op_subI (nxlf rfl) rfl rfl (by omega) (by omega) rfl ?_
        refine op_addI (nxlf rfl) rfl rfl (by omega) (by omega) rfl ?_
        refine op_move (nxlf rfl) rfl rfl ?_
        refine op_subI (nxlf rfl) rfl rfl (by omega) (by omega) rfl ?_
        refine op_addI (nxlf rfl) rfl rfl (by omega) (by omega) rfl ?_
        refine op_assign (nxlf rfl) rfl rfl ?_
        refine op_assign (nxlf rfl) rfl rfl ?_
        refine op_assign (nxlf rfl) rfl rfl ?_
        refine At.opsNil ?_
        refine At.norm (hk_38 ?_)
        refine At.ret (At.inRet (At.thenRet (?_)))
        refine At.retN (L1 := []) rfl (.tmp rfl (.tmp rfl (.tmp rfl .nil))) rfl (.refl _) (.refl _) ?_
        first
          | (exfalso; omega)
          | (exact ⟨by rw [(sh_push n hn (by omega) (by omega)).1, (sh_push n hn (by omega) (by omega)).2]; rfl, rfl⟩)
          | (exact ⟨by rw [(sh_dup n hn (by omega) (by omega)).1, (sh_dup n hn (by omega) (by omega)).2, show ((n - 127 : Nat) : Int) = (n : Int) - 128 + 1 by omega, show ((n - 126 : Nat) : Int) = (n : Int) - 128 + 2 by omega], rfl⟩)
          | (exact ⟨by rw [(sh_swap n hn (by omega) (by omega)).1, (sh_swap n hn (by omega) (by omega)).2, show ((n - 142 : Nat) : Int) = (n : Int) - 144 + 2 by omega], rfl⟩)
          | (exact ⟨by rw [(sh_log n hn (by omega) (by omega)).1, (sh_log n hn (by omega) (by omega)).2, show ((n - 158 : Nat) : Int) = (n : Int) - 160 + 2 by omega]; rfl, rfl⟩)
          | exact ⟨rfl, rfl⟩
      · refine At.seq fun K39 hk_39 => ?_
        refine At.region ?_
        refine op_move (nxlf rfl) rfl rfl ?_
        refine op_geq (nxlf rfl) rfl rfl rfl ?_
        refine op_move (nxlf rfl) rfl rfl ?_
        refine At.partP (d := 36) rfl (fun g36 => ?_) (fun g36 => ?_)
        · refine op_move (nxgf rfl rfl rfl rfl) rfl rfl ?_
          refine op_lss (nxgf rfl rfl rfl rfl) rfl rfl rfl ?_
          refine op_pickT (nxlf rfl) rfl rfl rfl ?_
          refine op_assign (nxlf rfl) rfl rfl ?_
          refine At.opsNil ?_
          refine At.norm (hk_39 ?_)
          refine At.condP rfl (fun c33 => ?_) (fun c33 => ?_)
          · refine At.seq fun K40 hk_40 => ?_
            refine At.region ?_
            refine op_move (nxlf rfl) rfl rfl ?_
            refine op_subI (nxlf rfl) rfl rfl (by omega) (by omega) rfl ?_
            refine op_addI (nxlf rfl) rfl rfl (by omega) (by omega) rfl ?_
            refine op_move (nxlf rfl) rfl rfl ?_
            refine op_subI (nxlf rfl) rfl rfl (by omega) (by omega) rfl ?_
            refine op_addI (nxlf rfl) rfl rfl (by omega) (by omega) rfl ?_
            refine op_assign (nxlf rfl) rfl rfl ?_
            refine op_assign (nxlf rfl) rfl rfl ?_
            refine op_assign (nxlf rfl) rfl rfl ?_
            refine At.opsNil ?_
            refine At.norm (hk_40 ?_)
            refine At.ret (At.inRet (At.thenRet (?_)))
            refine At.retN (L1 := []) rfl (.tmp rfl (.tmp rfl (.tmp rfl .nil))) rfl (.refl _) (.refl _) ?_
            first
              | (exfalso; omega)
              | (exact ⟨by rw [(sh_push n hn (by omega) (by omega)).1, (sh_push n hn (by omega) (by omega)).2]; rfl, rfl⟩)
              | (exact ⟨by rw [(sh_dup n hn (by omega) (by omega)).1, (sh_dup n hn (by omega) (by omega)).2, show ((n - 127 : Nat) : Int) = (n : Int) - 128 + 1 by omega, show ((n - 126 : Nat) : Int) = (n : Int) - 128 + 2 by omega], rfl⟩)
              | (exact ⟨by rw [(sh_swap n hn (by omega) (by omega)).1, (sh_swap n hn (by omega) (by omega)).2, show ((n - 142 : Nat) : Int) = (n : Int) - 144 + 2 by omega], rfl⟩)
              | (exact ⟨by rw [(sh_log n hn (by omega) (by omega)).1, (sh_log n hn (by omega) (by omega)).2, show ((n - 158 : Nat) : Int) = (n : Int) - 160 + 2 by omega]; rfl, rfl⟩)
              | exact ⟨rfl, rfl⟩
          · refine At.seq fun K41 hk_41 => ?_
            refine At.region ?_
            refine op_move (nxlf rfl) rfl rfl ?_
            refine op_geq (nxlf rfl) rfl rfl rfl ?_
            refine op_move (nxlf rfl) rfl rfl ?_
            refine At.partP (d := 49) rfl (fun g49 => ?_) (fun g49 => ?_)
            · refine op_move (nxgf rfl rfl rfl rfl) rfl rfl ?_
              refine op_leq (nxgf rfl rfl rfl rfl) rfl rfl rfl ?_
              refine op_pickT (nxlf rfl) rfl rfl rfl ?_
              refine op_assign (nxlf rfl) rfl rfl ?_
              refine At.opsNil ?_
              refine At.norm (hk_41 ?_)
              refine At.condP rfl (fun c46 => ?_) (fun c46 => ?_)
              · refine At.seq fun K42 hk_42 => ?_
                refine At.region ?_
                refine op_move (nxlf rfl) rfl rfl ?_
                refine op_subI (nxlf rfl) rfl rfl (by omega) (by omega) rfl ?_
                refine op_addI (nxlf rfl) rfl rfl (by omega) (by omega) rfl ?_
                refine op_assign (nxlf rfl) rfl rfl ?_
                refine op_assign (nxlf rfl) rfl rfl ?_
                refine op_assign (nxlf rfl) rfl rfl ?_
                refine At.opsNil ?_
                refine At.norm (hk_42 ?_)
                refine At.ret (At.inRet (At.thenRet (?_)))
                refine At.retN (L1 := []) rfl (.tmp rfl (.tmp rfl (.tmp rfl .nil))) rfl (.refl _) (.refl _) ?_
                first
                  | (exfalso; omega)
                  | (exact ⟨by rw [(sh_push n hn (by omega) (by omega)).1, (sh_push n hn (by omega) (by omega)).2]; rfl, rfl⟩)
                  | (exact ⟨by rw [(sh_dup n hn (by omega) (by omega)).1, (sh_dup n hn (by omega) (by omega)).2, show ((n - 127 : Nat) : Int) = (n : Int) - 128 + 1 by omega, show ((n - 126 : Nat) : Int) = (n : Int) - 128 + 2 by omega], rfl⟩)
                  | (exact ⟨by rw [(sh_swap n hn (by omega) (by omega)).1, (sh_swap n hn (by omega) (by omega)).2, show ((n - 142 : Nat) : Int) = (n : Int) - 144 + 2 by omega], rfl⟩)
                  | (exact ⟨by rw [(sh_log n hn (by omega) (by omega)).1, (sh_log n hn (by omega) (by omega)).2, show ((n - 158 : Nat) : Int) = (n : Int) - 160 + 2 by omega]; rfl, rfl⟩)
                  | exact ⟨rfl, rfl⟩
              · refine At.skip ?_
                refine At.inNorm ?_
                refine At.norm (hk_4 ?_)
                refine At.seq fun K43 hk_43 => ?_
                refine At.region ?_
                refine op_move (nxlf rfl) rfl rfl ?_
                refine op_callA (nxla rfl) (.cons rfl .nil) (FShape_f hn (in_row hi (by omega)) (by omega)) Tryd.func39 rfl rfl (by simp) rfl ?_
                rintro v58 L58 ⟨rfl, rfl⟩
                change At _ _ _ [R] _
                refine op_move (nxlf rfl) rfl rfl ?_
                refine op_extract (nxlf rfl) rfl rfl rfl ?_
                refine op_extract (nxlf rfl) rfl rfl rfl ?_
                refine op_assign (nxlf rfl) rfl rfl ?_
                refine op_assign (nxlf rfl) rfl rfl ?_
                refine At.opsNil ?_
                refine At.norm (hk_43 ?_)
                refine At.seq fun K44 hk_44 => ?_
                refine At.region ?_
                refine op_move (nxlf rfl) rfl rfl ?_
                refine op_move (nxlf rfl) rfl rfl ?_
                refine op_assign (nxlf rfl) rfl rfl ?_
                refine op_assign (nxlf rfl) rfl rfl ?_
                refine op_assign (nxlf rfl) rfl rfl ?_
                refine At.opsNil ?_
                refine At.norm (hk_44 ?_)
                refine At.ret (?_)
                refine At.retN (L1 := []) rfl (.tmp rfl (.tmp rfl (.tmp rfl .nil))) rfl (.refl _) (.refl _) ?_
                first
                  | (exfalso; omega)
                  | (exact ⟨by rw [(sh_push n hn (by omega) (by omega)).1, (sh_push n hn (by omega) (by omega)).2]; rfl, rfl⟩)
                  | (exact ⟨by rw [(sh_dup n hn (by omega) (by omega)).1, (sh_dup n hn (by omega) (by omega)).2, show ((n - 127 : Nat) : Int) = (n : Int) - 128 + 1 by omega, show ((n - 126 : Nat) : Int) = (n : Int) - 128 + 2 by omega], rfl⟩)
                  | (exact ⟨by rw [(sh_swap n hn (by omega) (by omega)).1, (sh_swap n hn (by omega) (by omega)).2, show ((n - 142 : Nat) : Int) = (n : Int) - 144 + 2 by omega], rfl⟩)
                  | (exact ⟨by rw [(sh_log n hn (by omega) (by omega)).1, (sh_log n hn (by omega) (by omega)).2, show ((n - 158 : Nat) : Int) = (n : Int) - 160 + 2 by omega]; rfl, rfl⟩)
                  | exact ⟨rfl, rfl⟩
            · refine op_skip rfl rfl rfl rfl rfl rfl rfl ?_
              refine op_skip rfl rfl rfl rfl rfl rfl rfl ?_
              refine op_pickF (nxlf rfl) rfl rfl rfl ?_
              refine op_assign (nxlf rfl) rfl rfl ?_
              refine At.opsNil ?_
              refine At.norm (hk_41 ?_)
              refine At.condF rfl ?_
              refine At.skip ?_
              refine At.inNorm ?_
              refine At.norm (hk_4 ?_)
              refine At.seq fun K45 hk_45 => ?_
              refine At.region ?_
              refine op_move (nxlf rfl) rfl rfl ?_
              refine op_callA (nxla rfl) (.cons rfl .nil) (FShape_f hn (in_row hi (by omega)) (by omega)) Tryd.func39 rfl rfl (by simp) rfl ?_
              rintro v58 L58 ⟨rfl, rfl⟩
              change At _ _ _ [R] _
              refine op_move (nxlf rfl) rfl rfl ?_
              refine op_extract (nxlf rfl) rfl rfl rfl ?_
              refine op_extract (nxlf rfl) rfl rfl rfl ?_
              refine op_assign (nxlf rfl) rfl rfl ?_
              refine op_assign (nxlf rfl) rfl rfl ?_
              refine At.opsNil ?_
              refine At.norm (hk_45 ?_)
              refine At.seq fun K46 hk_46 => ?_
              refine At.region ?_
              refine op_move (nxlf rfl) rfl rfl ?_
              refine op_move (nxlf rfl) rfl rfl ?_
              refine op_assign (nxlf rfl) rfl rfl ?_
              refine op_assign (nxlf rfl) rfl rfl ?_
              refine op_assign (nxlf rfl) rfl rfl ?_
              refine At.opsNil ?_
              refine At.norm (hk_46 ?_)
              refine At.ret (?_)
              refine At.retN (L1 := []) rfl (.tmp rfl (.tmp rfl (.tmp rfl .nil))) rfl (.refl _) (.refl _) ?_
              first
                | (exfalso; omega)
                | (exact ⟨by rw [(sh_push n hn (by omega) (by omega)).1, (sh_push n hn (by omega) (by omega)).2]; rfl, rfl⟩)
                | (exact ⟨by rw [(sh_dup n hn (by omega) (by omega)).1, (sh_dup n hn (by omega) (by omega)).2, show ((n - 127 : Nat) : Int) = (n : Int) - 128 + 1 by omega, show ((n - 126 : Nat) : Int) = (n : Int) - 128 + 2 by omega], rfl⟩)
                | (exact ⟨by rw [(sh_swap n hn (by omega) (by omega)).1, (sh_swap n hn (by omega) (by omega)).2, show ((n - 142 : Nat) : Int) = (n : Int) - 144 + 2 by omega], rfl⟩)
                | (exact ⟨by rw [(sh_log n hn (by omega) (by omega)).1, (sh_log n hn (by omega) (by omega)).2, show ((n - 158 : Nat) : Int) = (n : Int) - 160 + 2 by omega]; rfl, rfl⟩)
                | exact ⟨rfl, rfl⟩
        · refine op_skip rfl rfl rfl rfl rfl rfl rfl ?_
          refine op_skip rfl rfl rfl rfl rfl rfl rfl ?_
          refine op_pickF (nxlf rfl) rfl rfl rfl ?_
          refine op_assign (nxlf rfl) rfl rfl ?_
          refine At.opsNil ?_
          refine At.norm (hk_39 ?_)
          refine At.condF rfl ?_
          refine At.seq fun K47 hk_47 => ?_
          refine At.region ?_
          refine op_move (nxlf rfl) rfl rfl ?_
          refine op_geq (nxlf rfl) rfl rfl rfl ?_
          refine op_move (nxlf rfl) rfl rfl ?_
          refine At.partP (d := 49) rfl (fun g49 => ?_) (fun g49 => ?_)
          · refine op_move (nxgf rfl rfl rfl rfl) rfl rfl ?_
            refine op_leq (nxgf rfl rfl rfl rfl) rfl rfl rfl ?_
            refine op_pickT (nxlf rfl) rfl rfl rfl ?_
            refine op_assign (nxlf rfl) rfl rfl ?_
            refine At.opsNil ?_
            refine At.norm (hk_47 ?_)
            refine At.condP rfl (fun c46 => ?_) (fun c46 => ?_)
            · refine At.seq fun K48 hk_48 => ?_
              refine At.region ?_
              refine op_move (nxlf rfl) rfl rfl ?_
              refine op_subI (nxlf rfl) rfl rfl (by omega) (by omega) rfl ?_
              refine op_addI (nxlf rfl) rfl rfl (by omega) (by omega) rfl ?_
              refine op_assign (nxlf rfl) rfl rfl ?_
              refine op_assign (nxlf rfl) rfl rfl ?_
              refine op_assign (nxlf rfl) rfl rfl ?_
              refine At.opsNil ?_
              refine At.norm (hk_48 ?_)
              refine At.ret (At.inRet (At.thenRet (?_)))
              refine At.retN (L1 := []) rfl (.tmp rfl (.tmp rfl (.tmp rfl .nil))) rfl (.refl _) (.refl _) ?_
              first
                | (exfalso; omega)
                | (exact ⟨by rw [(sh_push n hn (by omega) (by omega)).1, (sh_push n hn (by omega) (by omega)).2]; rfl, rfl⟩)
                | (exact ⟨by rw [(sh_dup n hn (by omega) (by omega)).1, (sh_dup n hn (by omega) (by omega)).2, show ((n - 127 : Nat) : Int) = (n : Int) - 128 + 1 by omega, show ((n - 126 : Nat) : Int) = (n : Int) - 128 + 2 by omega], rfl⟩)
                | (exact ⟨by rw [(sh_swap n hn (by omega) (by omega)).1, (sh_swap n hn (by omega) (by omega)).2, show ((n - 142 : Nat) : Int) = (n : Int) - 144 + 2 by omega], rfl⟩)
                | (exact ⟨by rw [(sh_log n hn (by omega) (by omega)).1, (sh_log n hn (by omega) (by omega)).2, show ((n - 158 : Nat) : Int) = (n : Int) - 160 + 2 by omega]; rfl, rfl⟩)
                | exact ⟨rfl, rfl⟩
            · refine At.skip ?_
              refine At.inNorm ?_
              refine At.norm (hk_4 ?_)
              refine At.seq fun K49 hk_49 => ?_
              refine At.region ?_
              refine op_move (nxlf rfl) rfl rfl ?_
              refine op_callA (nxla rfl) (.cons rfl .nil) (FShape_f hn (in_row hi (by omega)) (by omega)) Tryd.func39 rfl rfl (by simp) rfl ?_
              rintro v58 L58 ⟨rfl, rfl⟩
              change At _ _ _ [R] _
              refine op_move (nxlf rfl) rfl rfl ?_
              refine op_extract (nxlf rfl) rfl rfl rfl ?_
              refine op_extract (nxlf rfl) rfl rfl rfl ?_
              refine op_assign (nxlf rfl) rfl rfl ?_
              refine op_assign (nxlf rfl) rfl rfl ?_
              refine At.opsNil ?_
              refine At.norm (hk_49 ?_)
              refine At.seq fun K50 hk_50 => ?_
              refine At.region ?_
              refine op_move (nxlf rfl) rfl rfl ?_
              refine op_move (nxlf rfl) rfl rfl ?_
              refine op_assign (nxlf rfl) rfl rfl ?_
              refine op_assign (nxlf rfl) rfl rfl ?_
              refine op_assign (nxlf rfl) rfl rfl ?_
              refine At.opsNil ?_
              refine At.norm (hk_50 ?_)
              refine At.ret (?_)
              refine At.retN (L1 := []) rfl (.tmp rfl (.tmp rfl (.tmp rfl .nil))) rfl (.refl _) (.refl _) ?_
              first
                | (exfalso; omega)
                | (exact ⟨by rw [(sh_push n hn (by omega) (by omega)).1, (sh_push n hn (by omega) (by omega)).2]; rfl, rfl⟩)
                | (exact ⟨by rw [(sh_dup n hn (by omega) (by omega)).1, (sh_dup n hn (by omega) (by omega)).2, show ((n - 127 : Nat) : Int) = (n : Int) - 128 + 1 by omega, show ((n - 126 : Nat) : Int) = (n : Int) - 128 + 2 by omega], rfl⟩)
                | (exact ⟨by rw [(sh_swap n hn (by omega) (by omega)).1, (sh_swap n hn (by omega) (by omega)).2, show ((n - 142 : Nat) : Int) = (n : Int) - 144 + 2 by omega], rfl⟩)
                | (exact ⟨by rw [(sh_log n hn (by omega) (by omega)).1, (sh_log n hn (by omega) (by omega)).2, show ((n - 158 : Nat) : Int) = (n : Int) - 160 + 2 by omega]; rfl, rfl⟩)
                | exact ⟨rfl, rfl⟩
          · refine op_skip rfl rfl rfl rfl rfl rfl rfl ?_
            refine op_skip rfl rfl rfl rfl rfl rfl rfl ?_
            refine op_pickF (nxlf rfl) rfl rfl rfl ?_
            refine op_assign (nxlf rfl) rfl rfl ?_
            refine At.opsNil ?_
            refine At.norm (hk_47 ?_)
            refine At.condF rfl ?_
            refine At.skip ?_
            refine At.inNorm ?_
            refine At.norm (hk_4 ?_)
            refine At.seq fun K51 hk_51 => ?_
            refine At.region ?_
            refine op_move (nxlf rfl) rfl rfl ?_
            refine op_callA (nxla rfl) (.cons rfl .nil) (FShape_f hn (in_row hi (by omega)) (by omega)) Tryd.func39 rfl rfl (by simp) rfl ?_
            rintro v58 L58 ⟨rfl, rfl⟩
            change At _ _ _ [R] _
            refine op_move (nxlf rfl) rfl rfl ?_
            refine op_extract (nxlf rfl) rfl rfl rfl ?_
            refine op_extract (nxlf rfl) rfl rfl rfl ?_
            refine op_assign (nxlf rfl) rfl rfl ?_
            refine op_assign (nxlf rfl) rfl rfl ?_
            refine At.opsNil ?_
            refine At.norm (hk_51 ?_)
            refine At.seq fun K52 hk_52 => ?_
            refine At.region ?_
            refine op_move (nxlf rfl) rfl rfl ?_
            refine op_move (nxlf rfl) rfl rfl ?_
            refine op_assign (nxlf rfl) rfl rfl ?_
            refine op_assign (nxlf rfl) rfl rfl ?_
            refine op_assign (nxlf rfl) rfl rfl ?_
            refine At.opsNil ?_
            refine At.norm (hk_52 ?_)
            refine At.ret (?_)
            refine At.retN (L1 := []) rfl (.tmp rfl (.tmp rfl (.tmp rfl .nil))) rfl (.refl _) (.refl _) ?_
            first
              | (exfalso; omega)
              | (exact ⟨by rw [(sh_push n hn (by omega) (by omega)).1, (sh_push n hn (by omega) (by omega)).2]; rfl, rfl⟩)
              | (exact ⟨by rw [(sh_dup n hn (by omega) (by omega)).1, (sh_dup n hn (by omega) (by omega)).2, show ((n - 127 : Nat) : Int) = (n : Int) - 128 + 1 by omega, show ((n - 126 : Nat) : Int) = (n : Int) - 128 + 2 by omega], rfl⟩)
              | (exact ⟨by rw [(sh_swap n hn (by omega) (by omega)).1, (sh_swap n hn (by omega) (by omega)).2, show ((n - 142 : Nat) : Int) = (n : Int) - 144 + 2 by omega], rfl⟩)
              | (exact ⟨by rw [(sh_log n hn (by omega) (by omega)).1, (sh_log n hn (by omega) (by omega)).2, show ((n - 158 : Nat) : Int) = (n : Int) - 160 + 2 by omega]; rfl, rfl⟩)
              | exact ⟨rfl, rfl⟩
    · refine op_skip rfl rfl rfl rfl rfl rfl rfl ?_
      refine op_skip rfl rfl rfl rfl rfl rfl rfl ?_
      refine op_pickF (nxlf rfl) rfl rfl rfl ?_
      refine op_assign (nxlf rfl) rfl rfl ?_
      refine At.opsNil ?_
      refine At.norm (hk_37 ?_)
      refine At.condF rfl ?_
      refine At.seq fun K53 hk_53 => ?_
      refine At.region ?_
      refine op_move (nxlf rfl) rfl rfl ?_
      refine op_geq (nxlf rfl) rfl rfl rfl ?_
      refine op_move (nxlf rfl) rfl rfl ?_
      refine At.partP (d := 36) rfl (fun g36 => ?_) (fun g36 => ?_)
      · refine op_move (nxgf rfl rfl rfl rfl) rfl rfl ?_
        refine op_lss (nxgf rfl rfl rfl rfl) rfl rfl rfl ?_
        refine op_pickT (nxlf rfl) rfl rfl rfl ?_
        refine op_assign (nxlf rfl) rfl rfl ?_
        refine At.opsNil ?_
        refine At.norm (hk_53 ?_)
        refine At.condP rfl (fun c33 => ?_) (fun c33 => ?_)
        · refine At.seq fun K54 hk_54 => ?_
          refine At.region ?_
          refine op_move (nxlf rfl) rfl rfl ?_
          refine op_subI (nxlf rfl) rfl rfl (by omega) (by omega) rfl ?_
          refine op_addI (nxlf rfl) rfl rfl (by omega) (by omega) rfl ?_
          refine op_move (nxlf rfl) rfl rfl ?_
          refine op_subI (nxlf rfl) rfl rfl (by omega) (by omega) rfl ?_
          refine op_addI (nxlf rfl) rfl rfl (by omega) (by omega) rfl ?_
          refine op_assign (nxlf rfl) rfl rfl ?_
          refine op_assign (nxlf rfl) rfl rfl ?_
          refine op_assign (nxlf rfl) rfl rfl ?_
          refine At.opsNil ?_
          refine At.norm (hk_54 ?_)
          refine At.ret (At.inRet (At.thenRet (?_)))
          refine At.retN (L1 := []) rfl (.tmp rfl (.tmp rfl (.tmp rfl .nil))) rfl (.refl _) (.refl _) ?_
          first
            | (exfalso; omega)
            | (exact ⟨by rw [(sh_push n hn (by omega) (by omega)).1, (sh_push n hn (by omega) (by omega)).2]; rfl, rfl⟩)
            | (exact ⟨by rw [(sh_dup n hn (by omega) (by omega)).1, (sh_dup n hn (by omega) (by omega)).2, show ((n - 127 : Nat) : Int) = (n : Int) - 128 + 1 by omega, show ((n - 126 : Nat) : Int) = (n : Int) - 128 + 2 by omega], rfl⟩)
            | (exact ⟨by rw [(sh_swap n hn (by omega) (by omega)).1, (sh_swap n hn (by omega) (by omega)).2, show ((n - 142 : Nat) : Int) = (n : Int) - 144 + 2 by omega], rfl⟩)
            | (exact ⟨by rw [(sh_log n hn (by omega) (by omega)).1, (sh_log n hn (by omega) (by omega)).2, show ((n - 158 : Nat) : Int) = (n : Int) - 160 + 2 by omega]; rfl, rfl⟩)
            | exact ⟨rfl, rfl⟩
        · refine At.seq fun K55 hk_55 => ?_
          refine At.region ?_
          refine op_move (nxlf rfl) rfl rfl ?_
          refine op_geq (nxlf rfl) rfl rfl rfl ?_
          refine op_move (nxlf rfl) rfl rfl ?_
          refine At.partP (d := 49) rfl (fun g49 => ?_) (fun g49 => ?_)
          · refine op_move (nxgf rfl rfl rfl rfl) rfl rfl ?_
            refine op_leq (nxgf rfl rfl rfl rfl) rfl rfl rfl ?_
            refine op_pickT (nxlf rfl) rfl rfl rfl ?_
            refine op_assign (nxlf rfl) rfl rfl ?_
            refine At.opsNil ?_
            refine At.norm (hk_55 ?_)
            refine At.condP rfl (fun c46 => ?_) (fun c46 => ?_)
            · refine At.seq fun K56 hk_56 => ?_
              refine At.region ?_
              refine op_move (nxlf rfl) rfl rfl ?_
              refine op_subI (nxlf rfl) rfl rfl (by omega) (by omega) rfl ?_
              refine op_addI (nxlf rfl) rfl rfl (by omega) (by omega) rfl ?_
              refine op_assign (nxlf rfl) rfl rfl ?_
              refine op_assign (nxlf rfl) rfl rfl ?_
              refine op_assign (nxlf rfl) rfl rfl ?_
              refine At.opsNil ?_
              refine At.norm (hk_56 ?_)
              refine At.ret (At.inRet (At.thenRet (?_)))
              refine At.retN (L1 := []) rfl (.tmp rfl (.tmp rfl (.tmp rfl .nil))) rfl (.refl _) (.refl _) ?_
              first
                | (exfalso; omega)
                | (exact ⟨by rw [(sh_push n hn (by omega) (by omega)).1, (sh_push n hn (by omega) (by omega)).2]; rfl, rfl⟩)
                | (exact ⟨by rw [(sh_dup n hn (by omega) (by omega)).1, (sh_dup n hn (by omega) (by omega)).2, show ((n - 127 : Nat) : Int) = (n : Int) - 128 + 1 by omega, show ((n - 126 : Nat) : Int) = (n : Int) - 128 + 2 by omega], rfl⟩)
                | (exact ⟨by rw [(sh_swap n hn (by omega) (by omega)).1, (sh_swap n hn (by omega) (by omega)).2, show ((n - 142 : Nat) : Int) = (n : Int) - 144 + 2 by omega], rfl⟩)
                | (exact ⟨by rw [(sh_log n hn (by omega) (by omega)).1, (sh_log n hn (by omega) (by omega)).2, show ((n - 158 : Nat) : Int) = (n : Int) - 160 + 2 by omega]; rfl, rfl⟩)
                | exact ⟨rfl, rfl⟩
            · refine At.skip ?_
              refine At.inNorm ?_
              refine At.norm (hk_4 ?_)
              refine At.seq fun K57 hk_57 => ?_
              refine At.region ?_
              refine op_move (nxlf rfl) rfl rfl ?_
              refine op_callA (nxla rfl) (.cons rfl .nil) (FShape_f hn (in_row hi (by omega)) (by omega)) Tryd.func39 rfl rfl (by simp) rfl ?_
              rintro v58 L58 ⟨rfl, rfl⟩
              change At _ _ _ [R] _
              refine op_move (nxlf rfl) rfl rfl ?_
              refine op_extract (nxlf rfl) rfl rfl rfl ?_
              refine op_extract (nxlf rfl) rfl rfl rfl ?_
              refine op_assign (nxlf rfl) rfl rfl ?_
              refine op_assign (nxlf rfl) rfl rfl ?_
              refine At.opsNil ?_
              refine At.norm (hk_57 ?_)
              refine At.seq fun K58 hk_58 => ?_
              refine At.region ?_
              refine op_move (nxlf rfl) rfl rfl ?_
              refine op_move (nxlf rfl) rfl rfl ?_
              refine op_assign (nxlf rfl) rfl rfl ?_
              refine op_assign (nxlf rfl) rfl rfl ?_
              refine op_assign (nxlf rfl) rfl rfl ?_
              refine At.opsNil ?_
              refine At.norm (hk_58 ?_)
              refine At.ret (?_)
              refine At.retN (L1 := []) rfl (.tmp rfl (.tmp rfl (.tmp rfl .nil))) rfl (.refl _) (.refl _) ?_
              first
                | (exfalso; omega)
                | (exact ⟨by rw [(sh_push n hn (by omega) (by omega)).1, (sh_push n hn (by omega) (by omega)).2]; rfl, rfl⟩)
                | (exact ⟨by rw [(sh_dup n hn (by omega) (by omega)).1, (sh_dup n hn (by omega) (by omega)).2, show ((n - 127 : Nat) : Int) = (n : Int) - 128 + 1 by omega, show ((n - 126 : Nat) : Int) = (n : Int) - 128 + 2 by omega], rfl⟩)
                | (exact ⟨by rw [(sh_swap n hn (by omega) (by omega)).1, (sh_swap n hn (by omega) (by omega)).2, show ((n - 142 : Nat) : Int) = (n : Int) - 144 + 2 by omega], rfl⟩)
                | (exact ⟨by rw [(sh_log n hn (by omega) (by omega)).1, (sh_log n hn (by omega) (by omega)).2, show ((n - 158 : Nat) : Int) = (n : Int) - 160 + 2 by omega]; rfl, rfl⟩)
                | exact ⟨rfl, rfl⟩
          · refine op_skip rfl rfl rfl rfl rfl rfl rfl ?_
            refine op_skip rfl rfl rfl rfl rfl rfl rfl ?_
            refine op_pickF (nxlf rfl) rfl rfl rfl ?_
            refine op_assign (nxlf rfl) rfl rfl ?_
            refine At.opsNil ?_
            refine At.norm (hk_55 ?_)
            refine At.condF rfl ?_
            refine At.skip ?_
            refine At.inNorm ?_
            refine At.norm (hk_4 ?_)
            refine At.seq fun K59 hk_59 => ?_
            refine At.region ?_
            refine op_move (nxlf rfl) rfl rfl ?_
            refine op_callA (nxla rfl) (.cons rfl .nil) (FShape_f hn (in_row hi (by omega)) (by omega)) Tryd.func39 rfl rfl (by simp) rfl ?_
            rintro v58 L58 ⟨rfl, rfl⟩
            change At _ _ _ [R] _
            refine op_move (nxlf rfl) rfl rfl ?_
            refine op_extract (nxlf rfl) rfl rfl rfl ?_
            refine op_extract (nxlf rfl) rfl rfl rfl ?_
            refine op_assign (nxlf rfl) rfl rfl ?_
            refine op_assign (nxlf rfl) rfl rfl ?_
            refine At.opsNil ?_
            refine At.norm (hk_59 ?_)
            refine At.seq fun K60 hk_60 => ?_
            refine At.region ?_
            refine op_move (nxlf rfl) rfl rfl ?_
            refine op_move (nxlf rfl) rfl rfl ?_
            refine op_assign (nxlf rfl) rfl rfl ?_
            refine op_assign (nxlf rfl) rfl rfl ?_
            refine op_assign (nxlf rfl) rfl rfl ?_
            refine At.opsNil ?_
            refine At.norm (hk_60 ?_)
            refine At.ret (?_)
            refine At.retN (L1 := []) rfl (.tmp rfl (.tmp rfl (.tmp rfl .nil))) rfl (.refl _) (.refl _) ?_
            first
              | (exfalso; omega)
              | (exact ⟨by rw [(sh_push n hn (by omega) (by omega)).1, (sh_push n hn (by omega) (by omega)).2]; rfl, rfl⟩)
              | (exact ⟨by rw [(sh_dup n hn (by omega) (by omega)).1, (sh_dup n hn (by omega) (by omega)).2, show ((n - 127 : Nat) : Int) = (n : Int) - 128 + 1 by omega, show ((n - 126 : Nat) : Int) = (n : Int) - 128 + 2 by omega], rfl⟩)
              | (exact ⟨by rw [(sh_swap n hn (by omega) (by omega)).1, (sh_swap n hn (by omega) (by omega)).2, show ((n - 142 : Nat) : Int) = (n : Int) - 144 + 2 by omega], rfl⟩)
              | (exact ⟨by rw [(sh_log n hn (by omega) (by omega)).1, (sh_log n hn (by omega) (by omega)).2, show ((n - 158 : Nat) : Int) = (n : Int) - 160 + 2 by omega]; rfl, rfl⟩)
              | exact ⟨rfl, rfl⟩
      · refine op_skip rfl rfl rfl rfl rfl rfl rfl ?_
        refine op_skip rfl rfl rfl rfl rfl rfl rfl ?_
        refine op_pickF (nxlf rfl) rfl rfl rfl ?_
        refine op_assign (nxlf rfl) rfl rfl ?_
        refine At.opsNil ?_
        refine At.norm (hk_53 ?_)
        refine At.condF rfl ?_
        refine At.seq fun K61 hk_61 => ?_
        refine At.region ?_
        refine op_move (nxlf rfl) rfl rfl ?_
        refine op_geq (nxlf rfl) rfl rfl rfl ?_
        refine op_move (nxlf rfl) rfl rfl ?_
        refine At.partP (d := 49) rfl (fun g49 => ?_) (fun g49 => ?_)
        · refine op_move (nxgf rfl rfl rfl rfl) rfl rfl ?_
          refine op_leq (nxgf rfl rfl rfl rfl) rfl rfl rfl ?_
          refine op_pickT (nxlf rfl) rfl rfl rfl ?_
          refine op_assign (nxlf rfl) rfl rfl ?_
          refine At.opsNil ?_
          refine At.norm (hk_61 ?_)
          refine At.condP rfl (fun c46 => ?_) (fun c46 => ?_)
          · refine At.seq fun K62 hk_62 => ?_
            refine At.region ?_
            refine op_move (nxlf rfl) rfl rfl ?_
            refine op_subI (nxlf rfl) rfl rfl (by omega) (by omega) rfl ?_
            refine op_addI (nxlf rfl) rfl rfl (by omega) (by omega) rfl ?_
            refine op_assign (nxlf rfl) rfl rfl ?_
            refine op_assign (nxlf rfl) rfl rfl ?_
            refine op_assign (nxlf rfl) rfl rfl ?_
            refine At.opsNil ?_
            refine At.norm (hk_62 ?_)
            refine At.ret (At.inRet (At.thenRet (?_)))
            refine At.retN (L1 := []) rfl (.tmp rfl (.tmp rfl (.tmp rfl .nil))) rfl (.refl _) (.refl _) ?_
            first
              | (exfalso; omega)
              | (exact ⟨by rw [(sh_push n hn (by omega) (by omega)).1, (sh_push n hn (by omega) (by omega)).2]; rfl, rfl⟩)
              | (exact ⟨by rw [(sh_dup n hn (by omega) (by omega)).1, (sh_dup n hn (by omega) (by omega)).2, show ((n - 127 : Nat) : Int) = (n : Int) - 128 + 1 by omega, show ((n - 126 : Nat) : Int) = (n : Int) - 128 + 2 by omega], rfl⟩)
              | (exact ⟨by rw [(sh_swap n hn (by omega) (by omega)).1, (sh_swap n hn (by omega) (by omega)).2, show ((n - 142 : Nat) : Int) = (n : Int) - 144 + 2 by omega], rfl⟩)
              | (exact ⟨by rw [(sh_log n hn (by omega) (by omega)).1, (sh_log n hn (by omega) (by omega)).2, show ((n - 158 : Nat) : Int) = (n : Int) - 160 + 2 by omega]; rfl, rfl⟩)
              | exact ⟨rfl, rfl⟩
          · refine At.skip ?_
            refine At.inNorm ?_
            refine At.norm (hk_4 ?_)
            refine At.seq fun K63 hk_63 => ?_
            refine At.region ?_
            refine op_move (nxlf rfl) rfl rfl ?_
            refine op_callA (nxla rfl) (.cons rfl .nil) (FShape_f hn (in_row hi (by omega)) (by omega)) Tryd.func39 rfl rfl (by simp) rfl ?_
            rintro v58 L58 ⟨rfl, rfl⟩
            change At _ _ _ [R] _
            refine op_move (nxlf rfl) rfl rfl ?_
            refine op_extract (nxlf rfl) rfl rfl rfl ?_
            refine op_extract (nxlf rfl) rfl rfl rfl ?_
            refine op_assign (nxlf rfl) rfl rfl ?_
            refine op_assign (nxlf rfl) rfl rfl ?_
            refine At.opsNil ?_
            refine At.norm (hk_63 ?_)
            refine At.seq fun K64 hk_64 => ?_
            refine At.region ?_
            refine op_move (nxlf rfl) rfl rfl ?_
            refine op_move (nxlf rfl) rfl rfl ?_
            refine op_assign (nxlf rfl) rfl rfl ?_
            refine op_assign (nxlf rfl) rfl rfl ?_
            refine op_assign (nxlf rfl) rfl rfl ?_
            refine At.opsNil ?_
            refine At.norm (hk_64 ?_)
            refine At.ret (?_)
            refine At.retN (L1 := []) rfl (.tmp rfl (.tmp rfl (.tmp rfl .nil))) rfl (.refl _) (.refl _) ?_
            first
              | (exfalso; omega)
              | (exact ⟨by rw [(sh_push n hn (by omega) (by omega)).1, (sh_push n hn (by omega) (by omega)).2]; rfl, rfl⟩)
              | (exact ⟨by rw [(sh_dup n hn (by omega) (by omega)).1, (sh_dup n hn (by omega) (by omega)).2, show ((n - 127 : Nat) : Int) = (n : Int) - 128 + 1 by omega, show ((n - 126 : Nat) : Int) = (n : Int) - 128 + 2 by omega], rfl⟩)
              | (exact ⟨by rw [(sh_swap n hn (by omega) (by omega)).1, (sh_swap n hn (by omega) (by omega)).2, show ((n - 142 : Nat) : Int) = (n : Int) - 144 + 2 by omega], rfl⟩)
              | (exact ⟨by rw [(sh_log n hn (by omega) (by omega)).1, (sh_log n hn (by omega) (by omega)).2, show ((n - 158 : Nat) : Int) = (n : Int) - 160 + 2 by omega]; rfl, rfl⟩)
              | exact ⟨rfl, rfl⟩
        · refine op_skip rfl rfl rfl rfl rfl rfl rfl ?_
          refine op_skip rfl rfl rfl rfl rfl rfl rfl ?_
          refine op_pickF (nxlf rfl) rfl rfl rfl ?_
          refine op_assign (nxlf rfl) rfl rfl ?_
          refine At.opsNil ?_
          refine At.norm (hk_61 ?_)
          refine At.condF rfl ?_
          refine At.skip ?_
          refine At.inNorm ?_
          refine At.norm (hk_4 ?_)
          refine At.seq fun K65 hk_65 => ?_
          refine At.region ?_
          refine op_move (nxlf rfl) rfl rfl ?_
          refine op_callA (nxla rfl) (.cons rfl .nil) (FShape_f hn (in_row hi (by omega)) (by omega)) Tryd.func39 rfl rfl (by simp) rfl ?_
          rintro v58 L58 ⟨rfl, rfl⟩
          change At _ _ _ [R] _
          refine op_move (nxlf rfl) rfl rfl ?_
          refine op_extract (nxlf rfl) rfl rfl rfl ?_
          refine op_extract (nxlf rfl) rfl rfl rfl ?_
          refine op_assign (nxlf rfl) rfl rfl ?_
          refine op_assign (nxlf rfl) rfl rfl ?_
          refine At.opsNil ?_
          refine At.norm (hk_65 ?_)
          refine At.seq fun K66 hk_66 => ?_
          refine At.region ?_
          refine op_move (nxlf rfl) rfl rfl ?_
          refine op_move (nxlf rfl) rfl rfl ?_
          refine op_assign (nxlf rfl) rfl rfl ?_
          refine op_assign (nxlf rfl) rfl rfl ?_
          refine op_assign (nxlf rfl) rfl rfl ?_
          refine At.opsNil ?_
          refine At.norm (hk_66 ?_)
          refine At.ret (?_)
          refine At.retN (L1 := []) rfl (.tmp rfl (.tmp rfl (.tmp rfl .nil))) rfl (.refl _) (.refl _) ?_
          first
            | (exfalso; omega)
            | (exact ⟨by rw [(sh_push n hn (by omega) (by omega)).1, (sh_push n hn (by omega) (by omega)).2]; rfl, rfl⟩)
            | (exact ⟨by rw [(sh_dup n hn (by omega) (by omega)).1, (sh_dup n hn (by omega) (by omega)).2, show ((n - 127 : Nat) : Int) = (n : Int) - 128 + 1 by omega, show ((n - 126 : Nat) : Int) = (n : Int) - 128 + 2 by omega], rfl⟩)
            | (exact ⟨by rw [(sh_swap n hn (by omega) (by omega)).1, (sh_swap n hn (by omega) (by omega)).2, show ((n - 142 : Nat) : Int) = (n : Int) - 144 + 2 by omega], rfl⟩)
            | (exact ⟨by rw [(sh_log n hn (by omega) (by omega)).1, (sh_log n hn (by omega) (by omega)).2, show ((n - 158 : Nat) : Int) = (n : Int) - 160 + 2 by omega]; rfl, rfl⟩)
            | exact ⟨rfl, rfl⟩
theorem FPops_f (f op : Int) : Fn Tryd.prog 17 #[.int .i64 f, .int .i64 op] [] [] (fun v L => v = .tuple #[.int .i64 (popsC f op : Int), .int .i64 (pushC f op : Int), .bool (opM f op)] ∧ L = []) := by
  cases h : opM f op with
  | false => rw [popsC_no h, pushC_no h]; exact FPops_no h
  | true =>
    obtain ⟨n, rfl, hn, hi⟩ := op_range h
    rw [popsC_y h, pushC_y h]
    exact FPops_y h hn hi
/-! The reference's rows. -/
def cellR (r : Nat × List UInt8 × Nat × Nat) : List Value := [.int .i64 (r.1 : Int), str r.2.1, .int .i64 (r.2.2.1 : Int), .int .i64 (r.2.2.2 : Int)]
def cellsR (l : List (Nat × List UInt8 × Nat × Nat)) : List Value := l.flatMap cellR
theorem rc_at : ∀ (l : List (Nat × List UInt8 × Nat × Nat)) (j k : Nat), j < l.length → k < 4 → (cellsR l)[j * 4 + k]? = (cellR (l.getD j rl0))[k]? := by
  intro l
  induction l with
  | nil => intro j k h; cases h
  | cons r t ih =>
    intro j k h hk
    have e : cellsR (r :: t) = cellR r ++ cellsR t := rfl
    rw [e]
    cases j with
    | zero =>
      rw [Nat.zero_mul, Nat.zero_add, List.getElem?_append_left (by simpa [cellR] using hk)]
      rfl
    | succ j =>
      rw [List.getElem?_append_right (by simp [cellR]; omega), show (j + 1) * 4 + k - (cellR r).length = j * 4 + k by simp [cellR]; omega]
      exact ih j k (Nat.lt_of_succ_lt_succ h) hk
theorem rl_len : rl.length = 79 := rfl
set_option maxRecDepth 100000 in
set_option maxHeartbeats 4000000 in
theorem rRows_f : Fn Tryd.prog 37 #[] [] [] (fun v L => ∃ M a, v = .slice a 79 79 ∧ L = [M] ∧ RSl M 4 a 79 79 (cellsR rl)) := by
  refine Fn.enter (vs := []) Tryd.func37 rfl rfl rfl ?_
  intro E R hR
  change At _ _ E [R] _
  refine At.seq fun K1 hk_1 => ?_
  refine At.region ?_
  refine op_assign (nxlf rfl) rfl rfl ?_
  refine At.opsNil ?_
  refine At.norm (hk_1 ?_)
  refine At.seq fun K2 hk_2 => ?_
  refine At.region ?_
  refine op_build (out := [_, _, _, _]) (nxlf rfl) ze62 pl62 (.cons rfl (.cons rfl (.cons rfl (.cons rfl .nil)))) rfl rfl ?_
  refine op_build (out := [_, _, _, _]) (nxlf rfl) ze62 pl62 (.cons rfl (.cons rfl (.cons rfl (.cons rfl .nil)))) rfl rfl ?_
  refine op_build (out := [_, _, _, _]) (nxlf rfl) ze62 pl62 (.cons rfl (.cons rfl (.cons rfl (.cons rfl .nil)))) rfl rfl ?_
  refine op_build (out := [_, _, _, _]) (nxlf rfl) ze62 pl62 (.cons rfl (.cons rfl (.cons rfl (.cons rfl .nil)))) rfl rfl ?_
  refine op_build (out := [_, _, _, _]) (nxlf rfl) ze62 pl62 (.cons rfl (.cons rfl (.cons rfl (.cons rfl .nil)))) rfl rfl ?_
  refine op_build (out := [_, _, _, _]) (nxlf rfl) ze62 pl62 (.cons rfl (.cons rfl (.cons rfl (.cons rfl .nil)))) rfl rfl ?_
  refine op_build (out := [_, _, _, _]) (nxlf rfl) ze62 pl62 (.cons rfl (.cons rfl (.cons rfl (.cons rfl .nil)))) rfl rfl ?_
  refine op_build (out := [_, _, _, _]) (nxlf rfl) ze62 pl62 (.cons rfl (.cons rfl (.cons rfl (.cons rfl .nil)))) rfl rfl ?_
  refine op_build (out := [_, _, _, _]) (nxlf rfl) ze62 pl62 (.cons rfl (.cons rfl (.cons rfl (.cons rfl .nil)))) rfl rfl ?_
  refine op_build (out := [_, _, _, _]) (nxlf rfl) ze62 pl62 (.cons rfl (.cons rfl (.cons rfl (.cons rfl .nil)))) rfl rfl ?_
  refine op_build (out := [_, _, _, _]) (nxlf rfl) ze62 pl62 (.cons rfl (.cons rfl (.cons rfl (.cons rfl .nil)))) rfl rfl ?_
  refine op_build (out := [_, _, _, _]) (nxlf rfl) ze62 pl62 (.cons rfl (.cons rfl (.cons rfl (.cons rfl .nil)))) rfl rfl ?_
  refine op_build (out := [_, _, _, _]) (nxlf rfl) ze62 pl62 (.cons rfl (.cons rfl (.cons rfl (.cons rfl .nil)))) rfl rfl ?_
  refine op_build (out := [_, _, _, _]) (nxlf rfl) ze62 pl62 (.cons rfl (.cons rfl (.cons rfl (.cons rfl .nil)))) rfl rfl ?_
  refine op_build (out := [_, _, _, _]) (nxlf rfl) ze62 pl62 (.cons rfl (.cons rfl (.cons rfl (.cons rfl .nil)))) rfl rfl ?_
  refine op_build (out := [_, _, _, _]) (nxlf rfl) ze62 pl62 (.cons rfl (.cons rfl (.cons rfl (.cons rfl .nil)))) rfl rfl ?_
  refine op_build (out := [_, _, _, _]) (nxlf rfl) ze62 pl62 (.cons rfl (.cons rfl (.cons rfl (.cons rfl .nil)))) rfl rfl ?_
  refine op_build (out := [_, _, _, _]) (nxlf rfl) ze62 pl62 (.cons rfl (.cons rfl (.cons rfl (.cons rfl .nil)))) rfl rfl ?_
  refine op_build (out := [_, _, _, _]) (nxlf rfl) ze62 pl62 (.cons rfl (.cons rfl (.cons rfl (.cons rfl .nil)))) rfl rfl ?_
  refine op_build (out := [_, _, _, _]) (nxlf rfl) ze62 pl62 (.cons rfl (.cons rfl (.cons rfl (.cons rfl .nil)))) rfl rfl ?_
  refine op_build (out := [_, _, _, _]) (nxlf rfl) ze62 pl62 (.cons rfl (.cons rfl (.cons rfl (.cons rfl .nil)))) rfl rfl ?_
  refine op_build (out := [_, _, _, _]) (nxlf rfl) ze62 pl62 (.cons rfl (.cons rfl (.cons rfl (.cons rfl .nil)))) rfl rfl ?_
  refine op_build (out := [_, _, _, _]) (nxlf rfl) ze62 pl62 (.cons rfl (.cons rfl (.cons rfl (.cons rfl .nil)))) rfl rfl ?_
  refine op_build (out := [_, _, _, _]) (nxlf rfl) ze62 pl62 (.cons rfl (.cons rfl (.cons rfl (.cons rfl .nil)))) rfl rfl ?_
  refine op_build (out := [_, _, _, _]) (nxlf rfl) ze62 pl62 (.cons rfl (.cons rfl (.cons rfl (.cons rfl .nil)))) rfl rfl ?_
  refine op_build (out := [_, _, _, _]) (nxlf rfl) ze62 pl62 (.cons rfl (.cons rfl (.cons rfl (.cons rfl .nil)))) rfl rfl ?_
  refine op_build (out := [_, _, _, _]) (nxlf rfl) ze62 pl62 (.cons rfl (.cons rfl (.cons rfl (.cons rfl .nil)))) rfl rfl ?_
  refine op_build (out := [_, _, _, _]) (nxlf rfl) ze62 pl62 (.cons rfl (.cons rfl (.cons rfl (.cons rfl .nil)))) rfl rfl ?_
  refine op_build (out := [_, _, _, _]) (nxlf rfl) ze62 pl62 (.cons rfl (.cons rfl (.cons rfl (.cons rfl .nil)))) rfl rfl ?_
  refine op_build (out := [_, _, _, _]) (nxlf rfl) ze62 pl62 (.cons rfl (.cons rfl (.cons rfl (.cons rfl .nil)))) rfl rfl ?_
  refine op_build (out := [_, _, _, _]) (nxlf rfl) ze62 pl62 (.cons rfl (.cons rfl (.cons rfl (.cons rfl .nil)))) rfl rfl ?_
  refine op_build (out := [_, _, _, _]) (nxlf rfl) ze62 pl62 (.cons rfl (.cons rfl (.cons rfl (.cons rfl .nil)))) rfl rfl ?_
  refine op_build (out := [_, _, _, _]) (nxlf rfl) ze62 pl62 (.cons rfl (.cons rfl (.cons rfl (.cons rfl .nil)))) rfl rfl ?_
  refine op_build (out := [_, _, _, _]) (nxlf rfl) ze62 pl62 (.cons rfl (.cons rfl (.cons rfl (.cons rfl .nil)))) rfl rfl ?_
  refine op_build (out := [_, _, _, _]) (nxlf rfl) ze62 pl62 (.cons rfl (.cons rfl (.cons rfl (.cons rfl .nil)))) rfl rfl ?_
  refine op_build (out := [_, _, _, _]) (nxlf rfl) ze62 pl62 (.cons rfl (.cons rfl (.cons rfl (.cons rfl .nil)))) rfl rfl ?_
  refine op_build (out := [_, _, _, _]) (nxlf rfl) ze62 pl62 (.cons rfl (.cons rfl (.cons rfl (.cons rfl .nil)))) rfl rfl ?_
  refine op_build (out := [_, _, _, _]) (nxlf rfl) ze62 pl62 (.cons rfl (.cons rfl (.cons rfl (.cons rfl .nil)))) rfl rfl ?_
  refine op_build (out := [_, _, _, _]) (nxlf rfl) ze62 pl62 (.cons rfl (.cons rfl (.cons rfl (.cons rfl .nil)))) rfl rfl ?_
  refine op_build (out := [_, _, _, _]) (nxlf rfl) ze62 pl62 (.cons rfl (.cons rfl (.cons rfl (.cons rfl .nil)))) rfl rfl ?_
  refine op_build (out := [_, _, _, _]) (nxlf rfl) ze62 pl62 (.cons rfl (.cons rfl (.cons rfl (.cons rfl .nil)))) rfl rfl ?_
  refine op_build (out := [_, _, _, _]) (nxlf rfl) ze62 pl62 (.cons rfl (.cons rfl (.cons rfl (.cons rfl .nil)))) rfl rfl ?_
  refine op_build (out := [_, _, _, _]) (nxlf rfl) ze62 pl62 (.cons rfl (.cons rfl (.cons rfl (.cons rfl .nil)))) rfl rfl ?_
  refine op_build (out := [_, _, _, _]) (nxlf rfl) ze62 pl62 (.cons rfl (.cons rfl (.cons rfl (.cons rfl .nil)))) rfl rfl ?_
  refine op_build (out := [_, _, _, _]) (nxlf rfl) ze62 pl62 (.cons rfl (.cons rfl (.cons rfl (.cons rfl .nil)))) rfl rfl ?_
  refine op_build (out := [_, _, _, _]) (nxlf rfl) ze62 pl62 (.cons rfl (.cons rfl (.cons rfl (.cons rfl .nil)))) rfl rfl ?_
  refine op_build (out := [_, _, _, _]) (nxlf rfl) ze62 pl62 (.cons rfl (.cons rfl (.cons rfl (.cons rfl .nil)))) rfl rfl ?_
  refine op_build (out := [_, _, _, _]) (nxlf rfl) ze62 pl62 (.cons rfl (.cons rfl (.cons rfl (.cons rfl .nil)))) rfl rfl ?_
  refine op_build (out := [_, _, _, _]) (nxlf rfl) ze62 pl62 (.cons rfl (.cons rfl (.cons rfl (.cons rfl .nil)))) rfl rfl ?_
  refine op_build (out := [_, _, _, _]) (nxlf rfl) ze62 pl62 (.cons rfl (.cons rfl (.cons rfl (.cons rfl .nil)))) rfl rfl ?_
  refine op_build (out := [_, _, _, _]) (nxlf rfl) ze62 pl62 (.cons rfl (.cons rfl (.cons rfl (.cons rfl .nil)))) rfl rfl ?_
  refine op_build (out := [_, _, _, _]) (nxlf rfl) ze62 pl62 (.cons rfl (.cons rfl (.cons rfl (.cons rfl .nil)))) rfl rfl ?_
  refine op_build (out := [_, _, _, _]) (nxlf rfl) ze62 pl62 (.cons rfl (.cons rfl (.cons rfl (.cons rfl .nil)))) rfl rfl ?_
  refine op_build (out := [_, _, _, _]) (nxlf rfl) ze62 pl62 (.cons rfl (.cons rfl (.cons rfl (.cons rfl .nil)))) rfl rfl ?_
  refine op_build (out := [_, _, _, _]) (nxlf rfl) ze62 pl62 (.cons rfl (.cons rfl (.cons rfl (.cons rfl .nil)))) rfl rfl ?_
  refine op_build (out := [_, _, _, _]) (nxlf rfl) ze62 pl62 (.cons rfl (.cons rfl (.cons rfl (.cons rfl .nil)))) rfl rfl ?_
  refine op_build (out := [_, _, _, _]) (nxlf rfl) ze62 pl62 (.cons rfl (.cons rfl (.cons rfl (.cons rfl .nil)))) rfl rfl ?_
  refine op_build (out := [_, _, _, _]) (nxlf rfl) ze62 pl62 (.cons rfl (.cons rfl (.cons rfl (.cons rfl .nil)))) rfl rfl ?_
  refine op_build (out := [_, _, _, _]) (nxlf rfl) ze62 pl62 (.cons rfl (.cons rfl (.cons rfl (.cons rfl .nil)))) rfl rfl ?_
  refine op_build (out := [_, _, _, _]) (nxlf rfl) ze62 pl62 (.cons rfl (.cons rfl (.cons rfl (.cons rfl .nil)))) rfl rfl ?_
  refine op_build (out := [_, _, _, _]) (nxlf rfl) ze62 pl62 (.cons rfl (.cons rfl (.cons rfl (.cons rfl .nil)))) rfl rfl ?_
  refine op_build (out := [_, _, _, _]) (nxlf rfl) ze62 pl62 (.cons rfl (.cons rfl (.cons rfl (.cons rfl .nil)))) rfl rfl ?_
  refine op_build (out := [_, _, _, _]) (nxlf rfl) ze62 pl62 (.cons rfl (.cons rfl (.cons rfl (.cons rfl .nil)))) rfl rfl ?_
  refine op_build (out := [_, _, _, _]) (nxlf rfl) ze62 pl62 (.cons rfl (.cons rfl (.cons rfl (.cons rfl .nil)))) rfl rfl ?_
  refine op_build (out := [_, _, _, _]) (nxlf rfl) ze62 pl62 (.cons rfl (.cons rfl (.cons rfl (.cons rfl .nil)))) rfl rfl ?_
  refine op_build (out := [_, _, _, _]) (nxlf rfl) ze62 pl62 (.cons rfl (.cons rfl (.cons rfl (.cons rfl .nil)))) rfl rfl ?_
  refine op_build (out := [_, _, _, _]) (nxlf rfl) ze62 pl62 (.cons rfl (.cons rfl (.cons rfl (.cons rfl .nil)))) rfl rfl ?_
  refine op_build (out := [_, _, _, _]) (nxlf rfl) ze62 pl62 (.cons rfl (.cons rfl (.cons rfl (.cons rfl .nil)))) rfl rfl ?_
  refine op_build (out := [_, _, _, _]) (nxlf rfl) ze62 pl62 (.cons rfl (.cons rfl (.cons rfl (.cons rfl .nil)))) rfl rfl ?_
  refine op_build (out := [_, _, _, _]) (nxlf rfl) ze62 pl62 (.cons rfl (.cons rfl (.cons rfl (.cons rfl .nil)))) rfl rfl ?_
  refine op_build (out := [_, _, _, _]) (nxlf rfl) ze62 pl62 (.cons rfl (.cons rfl (.cons rfl (.cons rfl .nil)))) rfl rfl ?_
  refine op_build (out := [_, _, _, _]) (nxlf rfl) ze62 pl62 (.cons rfl (.cons rfl (.cons rfl (.cons rfl .nil)))) rfl rfl ?_
  refine op_build (out := [_, _, _, _]) (nxlf rfl) ze62 pl62 (.cons rfl (.cons rfl (.cons rfl (.cons rfl .nil)))) rfl rfl ?_
  refine op_build (out := [_, _, _, _]) (nxlf rfl) ze62 pl62 (.cons rfl (.cons rfl (.cons rfl (.cons rfl .nil)))) rfl rfl ?_
  refine op_build (out := [_, _, _, _]) (nxlf rfl) ze62 pl62 (.cons rfl (.cons rfl (.cons rfl (.cons rfl .nil)))) rfl rfl ?_
  refine op_build (out := [_, _, _, _]) (nxlf rfl) ze62 pl62 (.cons rfl (.cons rfl (.cons rfl (.cons rfl .nil)))) rfl rfl ?_
  refine op_build (out := [_, _, _, _]) (nxlf rfl) ze62 pl62 (.cons rfl (.cons rfl (.cons rfl (.cons rfl .nil)))) rfl rfl ?_
  refine op_build (out := [_, _, _, _]) (nxlf rfl) ze62 pl62 (.cons rfl (.cons rfl (.cons rfl (.cons rfl .nil)))) rfl rfl ?_
  refine op_build (out := [_, _, _, _]) (nxlf rfl) ze62 pl62 (.cons rfl (.cons rfl (.cons rfl (.cons rfl .nil)))) rfl rfl ?_
  refine op_lit (nxla rfl) Tryd.underlying59 ze62 sz62 (.cons rfl (.cons rfl (.cons rfl (.cons rfl (.cons rfl (.cons rfl (.cons rfl (.cons rfl (.cons rfl (.cons rfl (.cons rfl (.cons rfl (.cons rfl (.cons rfl (.cons rfl (.cons rfl (.cons rfl (.cons rfl (.cons rfl (.cons rfl (.cons rfl (.cons rfl (.cons rfl (.cons rfl (.cons rfl (.cons rfl (.cons rfl (.cons rfl (.cons rfl (.cons rfl (.cons rfl (.cons rfl (.cons rfl (.cons rfl (.cons rfl (.cons rfl (.cons rfl (.cons rfl (.cons rfl (.cons rfl (.cons rfl (.cons rfl (.cons rfl (.cons rfl (.cons rfl (.cons rfl (.cons rfl (.cons rfl (.cons rfl (.cons rfl (.cons rfl (.cons rfl (.cons rfl (.cons rfl (.cons rfl (.cons rfl (.cons rfl (.cons rfl (.cons rfl (.cons rfl (.cons rfl (.cons rfl (.cons rfl (.cons rfl (.cons rfl (.cons rfl (.cons rfl (.cons rfl (.cons rfl (.cons rfl (.cons rfl (.cons rfl (.cons rfl (.cons rfl (.cons rfl (.cons rfl (.cons rfl (.cons rfl (.cons rfl .nil))))))))))))))))))))))))))))))))))))))))))))))))))))))))))))))))))))))))))))))) rfl rfl (by simp [Value.cells]) rfl rfl rfl (fun N80 a80 r80 => ?_)
  simp only [flatV, List.flatMap_cons, List.flatMap_nil, Value.cells, List.append_nil, List.cons_append, List.nil_append] at r80
  have s80 := r80.rsl
  change Row N80 _ 4 a80 79 79 (cellsR rl) at r80
  refine op_assign (nxlf rfl) rfl rfl ?_
  refine At.opsNil ?_
  refine At.norm (hk_2 ?_)
  refine At.ret (?_)
  refine At.ret1 (L1 := [N80]) rfl (.tmp rfl .nil) (.refl _) (.refl _) ?_
  exact ⟨N80, a80, rfl, rfl, r80.rsl⟩
theorem dec_len (n : Nat) : (Lib.decDigits n).length ≤ n + 1 := by
  induction n using Nat.strongRecOn with
  | ind n ih =>
    rw [Lib.decDigits]
    split
    · simp
    · have := ih (n / 10) (by omega)
      rw [List.length_append, List.length_singleton]
      omega
theorem dec_step {n : Nat} (h : ¬ n < 10) : Lib.decDigits n = Lib.decDigits (n / 10) ++ [UInt8.ofNat (48 + n % 10)] := by
  rw [Lib.decDigits, dif_neg h]
set_option maxRecDepth 100000 in
theorem rDigits_f : ∀ n : Nat, n ≤ 1099511627776 → Fn Tryd.prog 33 #[.int .i64 (n : Int)] [] [] (fun v L => v = str (Lib.decDigits n) ∧ L = []) := by
  intro n
  induction n using Nat.strongRecOn with
  | ind n ih =>
    intro hn
    refine Fn.enter (vs := [.int .i64 (n : Int)]) Tryd.func33 rfl rfl rfl ?_
    intro E R hR
    change At _ _ E [R] _
    refine At.seq fun K1 hk_1 => ?_
    refine At.region ?_
    refine op_assign (nxlf rfl) rfl rfl ?_
    refine At.opsNil ?_
    refine At.norm (hk_1 ?_)
    refine At.seq fun K2 hk_2 => ?_
    refine At.seq fun K3 hk_3 => ?_
    refine At.region ?_
    refine op_move (nxlf rfl) rfl rfl ?_
    refine op_lss (nxlf rfl) rfl rfl rfl ?_
    refine At.opsNil ?_
    refine At.norm (hk_3 ?_)
    refine At.condP rfl (fun c4 => ?_) (fun c4 => ?_)
    · refine At.seq fun K4 hk_4 => ?_
      refine At.region ?_
      refine op_move (nxlf rfl) rfl rfl ?_
      refine op_addI (nxlf rfl) rfl rfl (by omega) (by omega) rfl ?_
      refine op_conv8 (nxlf rfl) (und_some Tryd.underlying3) Tryd.underlying5 rfl (show _ = (((48 + n : Nat)) : Int) from by omega) rfl ?_
      refine op_lit (nxla rfl) Tryd.underlying22 ze5 sz5 (.cons rfl .nil) rfl rfl (by simp [Value.cells]) rfl rfl rfl (fun N8 a8 r8 => ?_)
      simp only [flatV, List.flatMap_cons, List.flatMap_nil, Value.cells, List.append_nil, List.cons_append, List.nil_append] at r8
      have s8 := r8.rsl
      change Row N8 _ 1 a8 1 1 (u8s [UInt8.ofNat (48 + n)]) at r8
      have s8 := r8.rsl
      refine op_str (nxlf rfl) Tryd.underlying22 Tryd.underlying5 Tryd.underlying9 rfl (by assumption) (by first | exact mem0 | exact mem1 | exact mem2 | exact mem3 | exact mem4 | exact mem5 | exact mem6 | exact mem7 | exact mem8 | exact mem9) rfl ?_
      refine op_assign (nxlf rfl) rfl rfl ?_
      refine At.opsNil ?_
      refine At.norm (hk_4 ?_)
      refine At.ret (At.thenRet (?_))
      refine At.sub (L' := [R]) (.cons _ (.cons_cons _ (.slnil))) ?_
      refine At.ret1 (L1 := []) rfl (.tmp rfl .nil) (.refl _) (.refl _) ?_
      exact ⟨by rw [Lib.decDigits_one (by omega)], rfl⟩
    · refine At.skip ?_
      refine At.norm (hk_2 ?_)
      refine At.seq fun K5 hk_5 => ?_
      refine At.planG [R] (.take 0 (.take 1 (.take 3 (.take 4 (.take 5 (.take 6 (.fork 2 false (.fork 7 false (.take 8 (.take 9 (.take 10 .done))) .nofork) (.fork 7 false (.take 8 (.fork 2 false (.take 9 (.take 10 .done)) .nofork)) .nofork)))))))) (by kernel_rfl) (by kernel_rfl) (.refl _) ?_
      refine op_move (nxqf rfl rfl) rfl rfl ?_
      refine op_quoI (nxqf rfl rfl) rfl rfl (by omega) (by omega) (by omega) rfl ?_
      rw [show (n : Int) / 10 = ((n / 10 : Nat) : Int) by omega]
      refine op_move (nxqf rfl rfl) rfl rfl ?_
      refine op_rem (nxqf rfl rfl) rfl rfl (by omega) (by omega) rfl ?_
      refine op_addI (nxqf rfl rfl) rfl rfl (by omega) (by omega) rfl ?_
      refine op_conv8 (nxqf rfl rfl) (und_some Tryd.underlying3) Tryd.underlying5 rfl (show _ = (((48 + n % 10 : Nat)) : Int) from by omega) rfl ?_
      refine At.forkG ?_ ?_
      rotate_left
      · refine At.forkG ?_ ?_
        rotate_left
        · exact At.gNo
        refine op_lit (Nx.agree (nxqa rfl rfl)) Tryd.underlying22 ze5 sz5 (.cons rfl .nil) rfl rfl (by simp [Value.cells]) rfl rfl rfl (fun N17 a17 r17 => ?_)
        simp only [flatV, List.flatMap_cons, List.flatMap_nil, Value.cells, List.append_nil, List.cons_append, List.nil_append] at r17
        have s17 := r17.rsl
        refine At.moreG (Lst := [R]) (Lst' := [N17, R]) (.cons _ (.refl _)) (.refl _) ?_
        change Row N17 _ 1 a17 1 1 (u8s [UInt8.ofNat (48 + n % 10)]) at r17
        have s17 := r17.rsl
        refine op_str (nxqf rfl rfl) Tryd.underlying22 Tryd.underlying5 Tryd.underlying9 rfl (by assumption) (by first | exact mem0 | exact mem1 | exact mem2 | exact mem3 | exact mem4 | exact mem5 | exact mem6 | exact mem7 | exact mem8 | exact mem9) rfl ?_
        refine At.forkG ?_ ?_
        rotate_left
        · exact At.gNo
        refine op_callA (Nx.agree (nxqa rfl rfl)) (.cons rfl .nil) (ih (n / 10) (by omega) (by omega)) Tryd.func33 rfl rfl (by simp) rfl ?_
        rintro v12 L12 ⟨rfl, rfl⟩
        change At _ _ _ [N17, R] _
        have hdl := dec_len (n / 10)
        refine At.moreG (Lst := [N17, R]) (Lst' := [N17, R]) (.refl _) (.refl _) ?_
        refine op_addS (nxqf rfl rfl) rfl rfl (by simp; omega) rfl ?_
        refine op_assign (nxqf rfl rfl) rfl rfl ?_
        refine At.gDone ?_
        refine At.norm (hk_5 ?_)
        refine At.ret (?_)
        refine At.sub (L' := [R]) (.cons _ (.cons_cons _ (.slnil))) ?_
        refine At.ret1 (L1 := []) rfl (.tmp rfl .nil) (.refl _) (.refl _) ?_
        exact ⟨by rw [dec_step (n := n) (by omega)], rfl⟩
      refine op_callA (Nx.agree (nxqa rfl rfl)) (.cons rfl .nil) (ih (n / 10) (by omega) (by omega)) Tryd.func33 rfl rfl (by simp) rfl ?_
      rintro v12 L12 ⟨rfl, rfl⟩
      change At _ _ _ [R] _
      have hdl := dec_len (n / 10)
      refine At.moreG (Lst := [R]) (Lst' := [R]) (.refl _) (.refl _) ?_
      refine At.forkG ?_ ?_
      rotate_left
      · exact At.gNo
      refine op_lit (Nx.agree (nxqa rfl rfl)) Tryd.underlying22 ze5 sz5 (.cons rfl .nil) rfl rfl (by simp [Value.cells]) rfl rfl rfl (fun N17 a17 r17 => ?_)
      simp only [flatV, List.flatMap_cons, List.flatMap_nil, Value.cells, List.append_nil, List.cons_append, List.nil_append] at r17
      have s17 := r17.rsl
      refine At.moreG (Lst := [R]) (Lst' := [N17, R]) (.cons _ (.refl _)) (.refl _) ?_
      change Row N17 _ 1 a17 1 1 (u8s [UInt8.ofNat (48 + n % 10)]) at r17
      have s17 := r17.rsl
      refine op_str (nxqf rfl rfl) Tryd.underlying22 Tryd.underlying5 Tryd.underlying9 rfl (by assumption) (by first | exact mem0 | exact mem1 | exact mem2 | exact mem3 | exact mem4 | exact mem5 | exact mem6 | exact mem7 | exact mem8 | exact mem9) rfl ?_
      refine op_addS (nxqf rfl rfl) rfl rfl (by simp; omega) rfl ?_
      refine op_assign (nxqf rfl rfl) rfl rfl ?_
      refine At.gDone ?_
      refine At.norm (hk_5 ?_)
      refine At.ret (?_)
      refine At.sub (L' := [R]) (.cons _ (.cons_cons _ (.slnil))) ?_
      refine At.ret1 (L1 := []) rfl (.tmp rfl .nil) (.refl _) (.refl _) ?_
      exact ⟨by rw [dec_step (n := n) (by omega)], rfl⟩
end Go.Proofs.YtdplcfineaikjaaDoor
