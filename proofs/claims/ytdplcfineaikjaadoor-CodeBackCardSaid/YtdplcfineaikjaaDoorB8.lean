/- Several texts in one: see the remarks ahead of each part. No condition but those told there. -/
import Derived.Test.YtdplcfineaikjaaDoorB7
import Derived.Test.YtdplcfineaikjaaDoorBCN1
import Derived.Test.YtdplcfineaikjaaDoorB4
/- Operations: the reference's rows, what they take and lay. No condition. -/
namespace Go.Proofs.YtdplcfineaikjaaDoor
set_option linter.unusedVariables false
set_option linter.unusedSimpArgs false
open Go Go.RowKit
/-- The reference's rows: an operation, its name, what it takes and lays. -/
def rl : List (Nat × List UInt8 × Nat × Nat) := [(0, [83, 84, 79, 80], 0, 0), (1, [65, 68, 68], 2, 1), (2, [77, 85, 76], 2, 1), (3, [83, 85, 66], 2, 1), (4, [68, 73, 86], 2, 1), (5, [83, 68, 73, 86], 2, 1), (6, [77, 79, 68], 2, 1), (7, [83, 77, 79, 68], 2, 1), (8, [65, 68, 68, 77, 79, 68], 3, 1), (9, [77, 85, 76, 77, 79, 68], 3, 1), (10, [69, 88, 80], 2, 1), (11, [83, 73, 71, 78, 69, 88, 84, 69, 78, 68], 2, 1), (16, [76, 84], 2, 1), (17, [71, 84], 2, 1), (18, [83, 76, 84], 2, 1), (19, [83, 71, 84], 2, 1), (20, [69, 81], 2, 1), (21, [73, 83, 90, 69, 82, 79], 1, 1), (22, [65, 78, 68], 2, 1), (23, [79, 82], 2, 1), (24, [88, 79, 82], 2, 1), (25, [78, 79, 84], 1, 1), (26, [66, 89, 84, 69], 2, 1), (27, [83, 72, 76], 2, 1), (28, [83, 72, 82], 2, 1), (29, [83, 65, 82], 2, 1), (32, [75, 69, 67, 67, 65, 75, 50, 53, 54], 2, 1), (48, [65, 68, 68, 82, 69, 83, 83], 0, 1), (49, [66, 65, 76, 65, 78, 67, 69], 1, 1), (50, [79, 82, 73, 71, 73, 78], 0, 1), (51, [67, 65, 76, 76, 69, 82], 0, 1), (52, [67, 65, 76, 76, 86, 65, 76, 85, 69], 0, 1), (53, [67, 65, 76, 76, 68, 65, 84, 65, 76, 79, 65, 68], 1, 1), (54, [67, 65, 76, 76, 68, 65, 84, 65, 83, 73, 90, 69], 0, 1), (55, [67, 65, 76, 76, 68, 65, 84, 65, 67, 79, 80, 89], 3, 0), (56, [67, 79, 68, 69, 83, 73, 90, 69], 0, 1), (57, [67, 79, 68, 69, 67, 79, 80, 89], 3, 0), (58, [71, 65, 83, 80, 82, 73, 67, 69], 0, 1), (59, [69, 88, 84, 67, 79, 68, 69, 83, 73, 90, 69], 1, 1), (60, [69, 88, 84, 67, 79, 68, 69, 67, 79, 80, 89], 4, 0), (61, [82, 69, 84, 85, 82, 78, 68, 65, 84, 65, 83, 73, 90, 69], 0, 1), (62, [82, 69, 84, 85, 82, 78, 68, 65, 84, 65, 67, 79, 80, 89], 3, 0), (63, [69, 88, 84, 67, 79, 68, 69, 72, 65, 83, 72], 1, 1), (64, [66, 76, 79, 67, 75, 72, 65, 83, 72], 1, 1), (65, [67, 79, 73, 78, 66, 65, 83, 69], 0, 1), (66, [84, 73, 77, 69, 83, 84, 65, 77, 80], 0, 1), (67, [78, 85, 77, 66, 69, 82], 0, 1), (68, [68, 73, 70, 70, 73, 67, 85, 76, 84, 89], 0, 1), (69, [71, 65, 83, 76, 73, 77, 73, 84], 0, 1), (70, [67, 72, 65, 73, 78, 73, 68], 0, 1), (71, [83, 69, 76, 70, 66, 65, 76, 65, 78, 67, 69], 0, 1), (72, [66, 65, 83, 69, 70, 69, 69], 0, 1), (73, [66, 76, 79, 66, 72, 65, 83, 72], 1, 1), (74, [66, 76, 79, 66, 66, 65, 83, 69, 70, 69, 69], 0, 1), (80, [80, 79, 80], 1, 0), (81, [77, 76, 79, 65, 68], 1, 1), (82, [77, 83, 84, 79, 82, 69], 2, 0), (83, [77, 83, 84, 79, 82, 69, 56], 2, 0), (84, [83, 76, 79, 65, 68], 1, 1), (85, [83, 83, 84, 79, 82, 69], 2, 0), (86, [74, 85, 77, 80], 1, 0), (87, [74, 85, 77, 80, 73], 2, 0), (88, [80, 67], 0, 1), (89, [77, 83, 73, 90, 69], 0, 1), (90, [71, 65, 83], 0, 1), (91, [74, 85, 77, 80, 68, 69, 83, 84], 0, 0), (92, [84, 76, 79, 65, 68], 1, 1), (93, [84, 83, 84, 79, 82, 69], 2, 0), (94, [77, 67, 79, 80, 89], 3, 0), (95, [80, 85, 83, 72, 48], 0, 1), (240, [67, 82, 69, 65, 84, 69], 3, 1), (241, [67, 65, 76, 76], 7, 1), (242, [67, 65, 76, 76, 67, 79, 68, 69], 7, 1), (243, [82, 69, 84, 85, 82, 78], 2, 0), (244, [68, 69, 76, 69, 71, 65, 84, 69, 67, 65, 76, 76], 6, 1), (245, [67, 82, 69, 65, 84, 69, 50], 4, 1), (250, [83, 84, 65, 84, 73, 67, 67, 65, 76, 76], 6, 1), (253, [82, 69, 86, 69, 82, 84], 2, 0), (255, [83, 69, 76, 70, 68, 69, 83, 84, 82, 85, 67, 84], 1, 0)]
def popsS : List UInt8 := [48, 50, 50, 50, 50, 50, 50, 50, 51, 51, 50, 50, 46, 46, 46, 46, 50, 50, 50, 50, 50, 49, 50, 50, 50, 49, 50, 50, 50, 50, 46, 46, 50, 46, 46, 46, 46, 46, 46, 46, 46, 46, 46, 46, 46, 46, 46, 46, 48, 49, 48, 48, 48, 49, 48, 51, 48, 51, 48, 49, 52, 48, 51, 49, 49, 48, 48, 48, 48, 48, 48, 48, 48, 49, 48, 46, 46, 46, 46, 46, 49, 49, 50, 50, 49, 50, 49, 50, 48, 48, 48, 48, 49, 50, 51, 48, 48, 48, 48, 48, 48, 48, 48, 48, 48, 48, 48, 48, 48, 48, 48, 48, 48, 48, 48, 48, 48, 48, 48, 48, 48, 48, 48, 48, 48, 48, 48, 48, 49, 50, 51, 52, 53, 54, 55, 56, 57, 58, 59, 60, 61, 62, 63, 64, 50, 51, 52, 53, 54, 55, 56, 57, 58, 59, 60, 61, 62, 63, 64, 65, 50, 51, 52, 53, 54, 46, 46, 46, 46, 46, 46, 46, 46, 46, 46, 46, 46, 46, 46, 46, 46, 46, 46, 46, 46, 46, 46, 46, 46, 46, 46, 46, 46, 46, 46, 46, 46, 46, 46, 46, 46, 46, 46, 46, 46, 46, 46, 46, 46, 46, 46, 46, 46, 46, 46, 46, 46, 46, 46, 46, 46, 46, 46, 46, 46, 46, 46, 46, 46, 46, 46, 46, 46, 46, 46, 46, 46, 46, 46, 46, 51, 55, 55, 50, 54, 52, 46, 46, 46, 46, 54, 46, 46, 50, 46, 49]
def laysS : List UInt8 := [48, 49, 49, 49, 49, 49, 49, 49, 49, 49, 49, 49, 46, 46, 46, 46, 49, 49, 49, 49, 49, 49, 49, 49, 49, 49, 49, 49, 49, 49, 46, 46, 49, 46, 46, 46, 46, 46, 46, 46, 46, 46, 46, 46, 46, 46, 46, 46, 49, 49, 49, 49, 49, 49, 49, 48, 49, 48, 49, 49, 48, 49, 48, 49, 49, 49, 49, 49, 49, 49, 49, 49, 49, 49, 49, 46, 46, 46, 46, 46, 48, 49, 48, 48, 49, 48, 48, 48, 49, 49, 49, 48, 49, 48, 48, 49, 49, 49, 49, 49, 49, 49, 49, 49, 49, 49, 49, 49, 49, 49, 49, 49, 49, 49, 49, 49, 49, 49, 49, 49, 49, 49, 49, 49, 49, 49, 49, 49, 50, 51, 52, 53, 54, 55, 56, 57, 58, 59, 60, 61, 62, 63, 64, 65, 50, 51, 52, 53, 54, 55, 56, 57, 58, 59, 60, 61, 62, 63, 64, 65, 48, 48, 48, 48, 48, 46, 46, 46, 46, 46, 46, 46, 46, 46, 46, 46, 46, 46, 46, 46, 46, 46, 46, 46, 46, 46, 46, 46, 46, 46, 46, 46, 46, 46, 46, 46, 46, 46, 46, 46, 46, 46, 46, 46, 46, 46, 46, 46, 46, 46, 46, 46, 46, 46, 46, 46, 46, 46, 46, 46, 46, 46, 46, 46, 46, 46, 46, 46, 46, 46, 46, 46, 46, 46, 46, 46, 46, 46, 46, 46, 49, 49, 49, 48, 49, 49, 46, 46, 46, 46, 49, 46, 46, 48, 46, 48]
def popsN (n : Nat) : Nat := (popsS.getD n 0).toNat - 48
def pushN (n : Nat) : Nat := (laysS.getD n 0).toNat - 48
def rl0 : Nat × List UInt8 × Nat × Nat := (0, [], 0, 0)
theorem rl_row : ∀ i, i < 79 → (rl.getD i rl0).1 < 256 ∧ nameN false (rl.getD i rl0).1 = (rl.getD i rl0).2.1 ∧ popsN (rl.getD i rl0).1 = (rl.getD i rl0).2.2.1 ∧ pushN (rl.getD i rl0).1 = (rl.getD i rl0).2.2.2 := by decide +kernel
theorem rl_all : ∀ n, n < 256 → inRow n = true → n ∈ rl.map (·.1) := by decide +kernel
theorem pops_ge : ∀ n, n < 256 → isOp n = true → 48 ≤ (popsS.getD n 0).toNat ∧ 48 ≤ (laysS.getD n 0).toNat := by decide +kernel
/-- The operations whose shape is told one by one. -/
def shL : List Nat := [0, 91, 21, 25, 49, 53, 59, 63, 64, 73, 81, 84, 92, 80, 86, 255, 82, 83, 85, 87, 93, 243, 253, 8, 9, 240, 55, 57, 62, 94, 60, 245, 244, 250, 241, 242]
theorem sh_low : ∀ n, n < 256 → (inRow n = true ∧ n ∉ shL ∧ n ≠ 95 ∧ n < 48) → popsN n = 2 ∧ pushN n = 1 := by decide +kernel
theorem sh_high : ∀ n, n < 256 → (inRow n = true ∧ n ∉ shL ∧ n ≠ 95 ∧ 48 ≤ n) → popsN n = 0 ∧ pushN n = 1 := by decide +kernel
theorem sh_push : ∀ n, n < 256 → 95 ≤ n → n ≤ 127 → popsN n = 0 ∧ pushN n = 1 := by decide +kernel
theorem sh_dup : ∀ n, n < 256 → 128 ≤ n → n < 144 → popsN n = n - 127 ∧ pushN n = n - 126 := by decide +kernel
theorem sh_swap : ∀ n, n < 256 → 144 ≤ n → n < 160 → popsN n = n - 142 ∧ pushN n = n - 142 := by decide +kernel
theorem sh_log : ∀ n, n < 256 → 160 ≤ n → n ≤ 164 → popsN n = n - 158 ∧ pushN n = 0 := by decide +kernel
theorem wP_len : ∀ n, n < 256 → popsN n ≤ 255 ∧ pushN n ≤ 255 := by decide +kernel
/-- No name stands twice. -/
def opsL : List Nat := (List.range 256).filter isOp
theorem names_once (late : Bool) : ((opsL.map (nameN late)).Nodup) := by cases late <;> decide +kernel
theorem names_some (late : Bool) : ∀ n, n < 256 → isOp n = true → nameN late n ≠ [] := by cases late <;> decide +kernel
end Go.Proofs.YtdplcfineaikjaaDoor
/- What operations take and lay, and the reference's rows. No condition. -/
namespace Go.Proofs.YtdplcfineaikjaaDoor
set_option linter.unusedVariables false
set_option linter.unusedSimpArgs false
open Go Go.RowKit
theorem notin_shL {n : Nat} (h : n ∉ shL → False) : n ∈ shL := by
  by_cases e : n ∈ shL
  · exact e
  · exact (h e).elim
set_option maxRecDepth 100000 in
set_option maxHeartbeats 4000000 in
theorem FShape_f {n : Nat} (hn : n < 256) (hr : inRow n = true) (h95 : n ≠ 95) : Fn Tryd.prog 39 #[.int .i64 (n : Int)] [] [] (fun v L => v = .tuple #[.int .i64 (popsN n : Int), .int .i64 (pushN n : Int)] ∧ L = []) := by
  have hlo := sh_low n hn
  have hhi := sh_high n hn
  refine Fn.enter (vs := [.int .i64 (n : Int)]) Tryd.func39 rfl rfl rfl ?_
  intro E R hR
  change At _ _ E [R] _
  refine At.seq fun K1 hk_1 => ?_
  refine At.region ?_
  refine op_assign (nxlf rfl) rfl rfl ?_
  refine op_assign (nxlf rfl) rfl rfl ?_
  refine At.opsNil ?_
  refine At.norm (hk_1 ?_)
  refine At.seq fun K2 hk_2 => ?_
  refine At.seq fun K3 hk_3 => ?_
  refine At.region ?_
  refine op_move (nxlf rfl) rfl rfl ?_
  refine At.opsNil ?_
  refine At.norm (hk_3 ?_)
  refine At.block ?_
  refine At.seq fun K4 hk_4 => ?_
  refine At.seq fun K5 hk_5 => ?_
  refine At.region ?_
  refine op_eql (nxlf rfl) rfl rfl rfl ?_
  refine op_assign (nxlf rfl) rfl rfl ?_
  refine At.opsNil ?_
  refine At.norm (hk_5 ?_)
  refine At.condP rfl (fun c5 => ?_) (fun c5 => ?_)
  · refine At.knowT (d := 5) rfl c5 ?_
    refine At.skip ?_
    refine At.norm (hk_4 ?_)
    refine At.condT rfl ?_
    refine At.seq fun K6 hk_6 => ?_
    refine At.region ?_
    refine op_assign (nxlf rfl) rfl rfl ?_
    refine op_assign (nxlf rfl) rfl rfl ?_
    refine At.opsNil ?_
    refine At.norm (hk_6 ?_)
    refine At.ret (At.inRet (At.thenRet (?_)))
    refine At.retN (L1 := []) rfl (.tmp rfl (.tmp rfl .nil)) rfl (.refl _) (.refl _) ?_
    obtain rfl : n = 0 := by omega
    exact ⟨rfl, rfl⟩
  · refine At.knowF (d := 5) rfl c5 ?_
    refine At.region ?_
    refine op_eql (nxlf rfl) rfl rfl rfl ?_
    refine op_assign (nxlf rfl) rfl rfl ?_
    refine At.opsNil ?_
    refine At.norm (hk_4 ?_)
    refine At.condP rfl (fun c5 => ?_) (fun c5 => ?_)
    · refine At.knowT (d := 5) rfl c5 ?_
      refine At.seq fun K7 hk_7 => ?_
      refine At.region ?_
      refine op_assign (nxlf rfl) rfl rfl ?_
      refine op_assign (nxlf rfl) rfl rfl ?_
      refine At.opsNil ?_
      refine At.norm (hk_7 ?_)
      refine At.ret (At.inRet (At.thenRet (?_)))
      refine At.retN (L1 := []) rfl (.tmp rfl (.tmp rfl .nil)) rfl (.refl _) (.refl _) ?_
      obtain rfl : n = 91 := by omega
      exact ⟨rfl, rfl⟩
    · refine At.knowF (d := 5) rfl c5 ?_
      refine At.seq fun K8 hk_8 => ?_
      refine At.seq fun K9 hk_9 => ?_
      refine At.region ?_
      refine op_eql (nxlf rfl) rfl rfl rfl ?_
      refine op_assign (nxlf rfl) rfl rfl ?_
      refine At.opsNil ?_
      refine At.norm (hk_9 ?_)
      refine At.condP rfl (fun c8 => ?_) (fun c8 => ?_)
      · refine At.knowT (d := 8) rfl c8 ?_
        refine At.skip ?_
        refine At.norm (hk_8 ?_)
        refine At.condT rfl ?_
        refine At.seq fun K10 hk_10 => ?_
        refine At.region ?_
        refine op_assign (nxlf rfl) rfl rfl ?_
        refine op_assign (nxlf rfl) rfl rfl ?_
        refine At.opsNil ?_
        refine At.norm (hk_10 ?_)
        refine At.ret (At.inRet (At.thenRet (?_)))
        refine At.retN (L1 := []) rfl (.tmp rfl (.tmp rfl .nil)) rfl (.refl _) (.refl _) ?_
        obtain rfl : n = 21 := by omega
        exact ⟨rfl, rfl⟩
      · refine At.knowF (d := 8) rfl c8 ?_
        refine At.seq fun K11 hk_11 => ?_
        refine At.region ?_
        refine op_eql (nxlf rfl) rfl rfl rfl ?_
        refine op_assign (nxlf rfl) rfl rfl ?_
        refine At.opsNil ?_
        refine At.norm (hk_11 ?_)
        refine At.condP rfl (fun c8 => ?_) (fun c8 => ?_)
        · refine At.knowT (d := 8) rfl c8 ?_
          refine At.skip ?_
          refine At.norm (hk_8 ?_)
          refine At.condT rfl ?_
          refine At.seq fun K12 hk_12 => ?_
          refine At.region ?_
          refine op_assign (nxlf rfl) rfl rfl ?_
          refine op_assign (nxlf rfl) rfl rfl ?_
          refine At.opsNil ?_
          refine At.norm (hk_12 ?_)
          refine At.ret (At.inRet (At.thenRet (?_)))
          refine At.retN (L1 := []) rfl (.tmp rfl (.tmp rfl .nil)) rfl (.refl _) (.refl _) ?_
          obtain rfl : n = 25 := by omega
          exact ⟨rfl, rfl⟩
        · refine At.knowF (d := 8) rfl c8 ?_
          refine At.seq fun K13 hk_13 => ?_
          refine At.region ?_
          refine op_eql (nxlf rfl) rfl rfl rfl ?_
          refine op_assign (nxlf rfl) rfl rfl ?_
          refine At.opsNil ?_
          refine At.norm (hk_13 ?_)
          refine At.condP rfl (fun c8 => ?_) (fun c8 => ?_)
          · refine At.knowT (d := 8) rfl c8 ?_
            refine At.skip ?_
            refine At.norm (hk_8 ?_)
            refine At.condT rfl ?_
            refine At.seq fun K14 hk_14 => ?_
            refine At.region ?_
            refine op_assign (nxlf rfl) rfl rfl ?_
            refine op_assign (nxlf rfl) rfl rfl ?_
            refine At.opsNil ?_
            refine At.norm (hk_14 ?_)
            refine At.ret (At.inRet (At.thenRet (?_)))
            refine At.retN (L1 := []) rfl (.tmp rfl (.tmp rfl .nil)) rfl (.refl _) (.refl _) ?_
            obtain rfl : n = 49 := by omega
            exact ⟨rfl, rfl⟩
          · refine At.knowF (d := 8) rfl c8 ?_
            refine At.seq fun K15 hk_15 => ?_
            refine At.region ?_
            refine op_eql (nxlf rfl) rfl rfl rfl ?_
            refine op_assign (nxlf rfl) rfl rfl ?_
            refine At.opsNil ?_
            refine At.norm (hk_15 ?_)
            refine At.condP rfl (fun c8 => ?_) (fun c8 => ?_)
            · refine At.knowT (d := 8) rfl c8 ?_
              refine At.skip ?_
              refine At.norm (hk_8 ?_)
              refine At.condT rfl ?_
              refine At.seq fun K16 hk_16 => ?_
              refine At.region ?_
              refine op_assign (nxlf rfl) rfl rfl ?_
              refine op_assign (nxlf rfl) rfl rfl ?_
              refine At.opsNil ?_
              refine At.norm (hk_16 ?_)
              refine At.ret (At.inRet (At.thenRet (?_)))
              refine At.retN (L1 := []) rfl (.tmp rfl (.tmp rfl .nil)) rfl (.refl _) (.refl _) ?_
              obtain rfl : n = 53 := by omega
              exact ⟨rfl, rfl⟩
            · refine At.knowF (d := 8) rfl c8 ?_
              refine At.seq fun K17 hk_17 => ?_
              refine At.region ?_
              refine op_eql (nxlf rfl) rfl rfl rfl ?_
              refine op_assign (nxlf rfl) rfl rfl ?_
              refine At.opsNil ?_
              refine At.norm (hk_17 ?_)
              refine At.condP rfl (fun c8 => ?_) (fun c8 => ?_)
              · refine At.knowT (d := 8) rfl c8 ?_
                refine At.skip ?_
                refine At.norm (hk_8 ?_)
                refine At.condT rfl ?_
                refine At.seq fun K18 hk_18 => ?_
                refine At.region ?_
                refine op_assign (nxlf rfl) rfl rfl ?_
                refine op_assign (nxlf rfl) rfl rfl ?_
                refine At.opsNil ?_
                refine At.norm (hk_18 ?_)
                refine At.ret (At.inRet (At.thenRet (?_)))
                refine At.retN (L1 := []) rfl (.tmp rfl (.tmp rfl .nil)) rfl (.refl _) (.refl _) ?_
                obtain rfl : n = 59 := by omega
                exact ⟨rfl, rfl⟩
              · refine At.knowF (d := 8) rfl c8 ?_
                refine At.seq fun K19 hk_19 => ?_
                refine At.region ?_
                refine op_eql (nxlf rfl) rfl rfl rfl ?_
                refine op_assign (nxlf rfl) rfl rfl ?_
                refine At.opsNil ?_
                refine At.norm (hk_19 ?_)
                refine At.condP rfl (fun c8 => ?_) (fun c8 => ?_)
                · refine At.knowT (d := 8) rfl c8 ?_
                  refine At.skip ?_
                  refine At.norm (hk_8 ?_)
                  refine At.condT rfl ?_
                  refine At.seq fun K20 hk_20 => ?_
                  refine At.region ?_
                  refine op_assign (nxlf rfl) rfl rfl ?_
                  refine op_assign (nxlf rfl) rfl rfl ?_
                  refine At.opsNil ?_
                  refine At.norm (hk_20 ?_)
                  refine At.ret (At.inRet (At.thenRet (?_)))
                  refine At.retN (L1 := []) rfl (.tmp rfl (.tmp rfl .nil)) rfl (.refl _) (.refl _) ?_
                  obtain rfl : n = 63 := by omega
                  exact ⟨rfl, rfl⟩
                · refine At.knowF (d := 8) rfl c8 ?_
                  refine At.seq fun K21 hk_21 => ?_
                  refine At.region ?_
                  refine op_eql (nxlf rfl) rfl rfl rfl ?_
                  refine op_assign (nxlf rfl) rfl rfl ?_
                  refine At.opsNil ?_
                  refine At.norm (hk_21 ?_)
                  refine At.condP rfl (fun c8 => ?_) (fun c8 => ?_)
                  · refine At.knowT (d := 8) rfl c8 ?_
                    refine At.skip ?_
                    refine At.norm (hk_8 ?_)
                    refine At.condT rfl ?_
                    refine At.seq fun K22 hk_22 => ?_
                    refine At.region ?_
                    refine op_assign (nxlf rfl) rfl rfl ?_
                    refine op_assign (nxlf rfl) rfl rfl ?_
                    refine At.opsNil ?_
                    refine At.norm (hk_22 ?_)
                    refine At.ret (At.inRet (At.thenRet (?_)))
                    refine At.retN (L1 := []) rfl (.tmp rfl (.tmp rfl .nil)) rfl (.refl _) (.refl _) ?_
                    obtain rfl : n = 64 := by omega
                    exact ⟨rfl, rfl⟩
                  · refine At.knowF (d := 8) rfl c8 ?_
                    refine At.seq fun K23 hk_23 => ?_
                    refine At.region ?_
                    refine op_eql (nxlf rfl) rfl rfl rfl ?_
                    refine op_assign (nxlf rfl) rfl rfl ?_
                    refine At.opsNil ?_
                    refine At.norm (hk_23 ?_)
                    refine At.condP rfl (fun c8 => ?_) (fun c8 => ?_)
                    · refine At.knowT (d := 8) rfl c8 ?_
                      refine At.skip ?_
                      refine At.norm (hk_8 ?_)
                      refine At.condT rfl ?_
                      refine At.seq fun K24 hk_24 => ?_
                      refine At.region ?_
                      refine op_assign (nxlf rfl) rfl rfl ?_
                      refine op_assign (nxlf rfl) rfl rfl ?_
                      refine At.opsNil ?_
                      refine At.norm (hk_24 ?_)
                      refine At.ret (At.inRet (At.thenRet (?_)))
                      refine At.retN (L1 := []) rfl (.tmp rfl (.tmp rfl .nil)) rfl (.refl _) (.refl _) ?_
                      obtain rfl : n = 73 := by omega
                      exact ⟨rfl, rfl⟩
                    · refine At.knowF (d := 8) rfl c8 ?_
                      refine At.seq fun K25 hk_25 => ?_
                      refine At.region ?_
                      refine op_eql (nxlf rfl) rfl rfl rfl ?_
                      refine op_assign (nxlf rfl) rfl rfl ?_
                      refine At.opsNil ?_
                      refine At.norm (hk_25 ?_)
                      refine At.condP rfl (fun c8 => ?_) (fun c8 => ?_)
                      · refine At.knowT (d := 8) rfl c8 ?_
                        refine At.skip ?_
                        refine At.norm (hk_8 ?_)
                        refine At.condT rfl ?_
                        refine At.seq fun K26 hk_26 => ?_
                        refine At.region ?_
                        refine op_assign (nxlf rfl) rfl rfl ?_
                        refine op_assign (nxlf rfl) rfl rfl ?_
                        refine At.opsNil ?_
                        refine At.norm (hk_26 ?_)
                        refine At.ret (At.inRet (At.thenRet (?_)))
                        refine At.retN (L1 := []) rfl (.tmp rfl (.tmp rfl .nil)) rfl (.refl _) (.refl _) ?_
                        obtain rfl : n = 81 := by omega
                        exact ⟨rfl, rfl⟩
                      · refine At.knowF (d := 8) rfl c8 ?_
                        refine At.seq fun K27 hk_27 => ?_
                        refine At.region ?_
                        refine op_eql (nxlf rfl) rfl rfl rfl ?_
                        refine op_assign (nxlf rfl) rfl rfl ?_
                        refine At.opsNil ?_
                        refine At.norm (hk_27 ?_)
                        refine At.condP rfl (fun c8 => ?_) (fun c8 => ?_)
                        · refine At.knowT (d := 8) rfl c8 ?_
                          refine At.skip ?_
                          refine At.norm (hk_8 ?_)
                          refine At.condT rfl ?_
                          refine At.seq fun K28 hk_28 => ?_
                          refine At.region ?_
                          refine op_assign (nxlf rfl) rfl rfl ?_
                          refine op_assign (nxlf rfl) rfl rfl ?_
                          refine At.opsNil ?_
                          refine At.norm (hk_28 ?_)
                          refine At.ret (At.inRet (At.thenRet (?_)))
                          refine At.retN (L1 := []) rfl (.tmp rfl (.tmp rfl .nil)) rfl (.refl _) (.refl _) ?_
                          obtain rfl : n = 84 := by omega
                          exact ⟨rfl, rfl⟩
                        · refine At.knowF (d := 8) rfl c8 ?_
                          refine At.region ?_
                          refine op_eql (nxlf rfl) rfl rfl rfl ?_
                          refine op_assign (nxlf rfl) rfl rfl ?_
                          refine At.opsNil ?_
                          refine At.norm (hk_8 ?_)
                          refine At.condP rfl (fun c8 => ?_) (fun c8 => ?_)
                          · refine At.knowT (d := 8) rfl c8 ?_
                            refine At.seq fun K29 hk_29 => ?_
                            refine At.region ?_
                            refine op_assign (nxlf rfl) rfl rfl ?_
                            refine op_assign (nxlf rfl) rfl rfl ?_
                            refine At.opsNil ?_
                            refine At.norm (hk_29 ?_)
                            refine At.ret (At.inRet (At.thenRet (?_)))
                            refine At.retN (L1 := []) rfl (.tmp rfl (.tmp rfl .nil)) rfl (.refl _) (.refl _) ?_
                            obtain rfl : n = 92 := by omega
                            exact ⟨rfl, rfl⟩
                          · refine At.knowF (d := 8) rfl c8 ?_
                            refine At.seq fun K30 hk_30 => ?_
                            refine At.seq fun K31 hk_31 => ?_
                            refine At.region ?_
                            refine op_eql (nxlf rfl) rfl rfl rfl ?_
                            refine op_assign (nxlf rfl) rfl rfl ?_
                            refine At.opsNil ?_
                            refine At.norm (hk_31 ?_)
                            refine At.condP rfl (fun c20 => ?_) (fun c20 => ?_)
                            · refine At.knowT (d := 20) rfl c20 ?_
                              refine At.skip ?_
                              refine At.norm (hk_30 ?_)
                              refine At.condT rfl ?_
                              refine At.seq fun K32 hk_32 => ?_
                              refine At.region ?_
                              refine op_assign (nxlf rfl) rfl rfl ?_
                              refine op_assign (nxlf rfl) rfl rfl ?_
                              refine At.opsNil ?_
                              refine At.norm (hk_32 ?_)
                              refine At.ret (At.inRet (At.thenRet (?_)))
                              refine At.retN (L1 := []) rfl (.tmp rfl (.tmp rfl .nil)) rfl (.refl _) (.refl _) ?_
                              obtain rfl : n = 80 := by omega
                              exact ⟨rfl, rfl⟩
                            · refine At.knowF (d := 20) rfl c20 ?_
                              refine At.seq fun K33 hk_33 => ?_
                              refine At.region ?_
                              refine op_eql (nxlf rfl) rfl rfl rfl ?_
                              refine op_assign (nxlf rfl) rfl rfl ?_
                              refine At.opsNil ?_
                              refine At.norm (hk_33 ?_)
                              refine At.condP rfl (fun c20 => ?_) (fun c20 => ?_)
                              · refine At.knowT (d := 20) rfl c20 ?_
                                refine At.skip ?_
                                refine At.norm (hk_30 ?_)
                                refine At.condT rfl ?_
                                refine At.seq fun K34 hk_34 => ?_
                                refine At.region ?_
                                refine op_assign (nxlf rfl) rfl rfl ?_
                                refine op_assign (nxlf rfl) rfl rfl ?_
                                refine At.opsNil ?_
                                refine At.norm (hk_34 ?_)
                                refine At.ret (At.inRet (At.thenRet (?_)))
                                refine At.retN (L1 := []) rfl (.tmp rfl (.tmp rfl .nil)) rfl (.refl _) (.refl _) ?_
                                obtain rfl : n = 86 := by omega
                                exact ⟨rfl, rfl⟩
                              · refine At.knowF (d := 20) rfl c20 ?_
                                refine At.region ?_
                                refine op_eql (nxlf rfl) rfl rfl rfl ?_
                                refine op_assign (nxlf rfl) rfl rfl ?_
                                refine At.opsNil ?_
                                refine At.norm (hk_30 ?_)
                                refine At.condP rfl (fun c20 => ?_) (fun c20 => ?_)
                                · refine At.knowT (d := 20) rfl c20 ?_
                                  refine At.seq fun K35 hk_35 => ?_
                                  refine At.region ?_
                                  refine op_assign (nxlf rfl) rfl rfl ?_
                                  refine op_assign (nxlf rfl) rfl rfl ?_
                                  refine At.opsNil ?_
                                  refine At.norm (hk_35 ?_)
                                  refine At.ret (At.inRet (At.thenRet (?_)))
                                  refine At.retN (L1 := []) rfl (.tmp rfl (.tmp rfl .nil)) rfl (.refl _) (.refl _) ?_
                                  obtain rfl : n = 255 := by omega
                                  exact ⟨rfl, rfl⟩
                                · refine At.knowF (d := 20) rfl c20 ?_
                                  refine At.seq fun K36 hk_36 => ?_
                                  refine At.seq fun K37 hk_37 => ?_
                                  refine At.region ?_
                                  refine op_eql (nxlf rfl) rfl rfl rfl ?_
                                  refine op_assign (nxlf rfl) rfl rfl ?_
                                  refine At.opsNil ?_
                                  refine At.norm (hk_37 ?_)
                                  refine At.condP rfl (fun c24 => ?_) (fun c24 => ?_)
                                  · refine At.knowT (d := 24) rfl c24 ?_
                                    refine At.skip ?_
                                    refine At.norm (hk_36 ?_)
                                    refine At.condT rfl ?_
                                    refine At.seq fun K38 hk_38 => ?_
                                    refine At.region ?_
                                    refine op_assign (nxlf rfl) rfl rfl ?_
                                    refine op_assign (nxlf rfl) rfl rfl ?_
                                    refine At.opsNil ?_
                                    refine At.norm (hk_38 ?_)
                                    refine At.ret (At.inRet (At.thenRet (?_)))
                                    refine At.retN (L1 := []) rfl (.tmp rfl (.tmp rfl .nil)) rfl (.refl _) (.refl _) ?_
                                    obtain rfl : n = 82 := by omega
                                    exact ⟨rfl, rfl⟩
                                  · refine At.knowF (d := 24) rfl c24 ?_
                                    refine At.seq fun K39 hk_39 => ?_
                                    refine At.region ?_
                                    refine op_eql (nxlf rfl) rfl rfl rfl ?_
                                    refine op_assign (nxlf rfl) rfl rfl ?_
                                    refine At.opsNil ?_
                                    refine At.norm (hk_39 ?_)
                                    refine At.condP rfl (fun c24 => ?_) (fun c24 => ?_)
                                    · refine At.knowT (d := 24) rfl c24 ?_
                                      refine At.skip ?_
                                      refine At.norm (hk_36 ?_)
                                      refine At.condT rfl ?_
                                      refine At.seq fun K40 hk_40 => ?_
                                      refine At.region ?_
                                      refine op_assign (nxlf rfl) rfl rfl ?_
                                      refine op_assign (nxlf rfl) rfl rfl ?_
                                      refine At.opsNil ?_
                                      refine At.norm (hk_40 ?_)
                                      refine At.ret (At.inRet (At.thenRet (?_)))
                                      refine At.retN (L1 := []) rfl (.tmp rfl (.tmp rfl .nil)) rfl (.refl _) (.refl _) ?_
                                      obtain rfl : n = 83 := by omega
                                      exact ⟨rfl, rfl⟩
                                    · refine At.knowF (d := 24) rfl c24 ?_
                                      refine At.seq fun K41 hk_41 => ?_
                                      refine At.region ?_
                                      refine op_eql (nxlf rfl) rfl rfl rfl ?_
                                      refine op_assign (nxlf rfl) rfl rfl ?_
                                      refine At.opsNil ?_
                                      refine At.norm (hk_41 ?_)
                                      refine At.condP rfl (fun c24 => ?_) (fun c24 => ?_)
                                      · refine At.knowT (d := 24) rfl c24 ?_
                                        refine At.skip ?_
                                        refine At.norm (hk_36 ?_)
                                        refine At.condT rfl ?_
                                        refine At.seq fun K42 hk_42 => ?_
                                        refine At.region ?_
                                        refine op_assign (nxlf rfl) rfl rfl ?_
                                        refine op_assign (nxlf rfl) rfl rfl ?_
                                        refine At.opsNil ?_
                                        refine At.norm (hk_42 ?_)
                                        refine At.ret (At.inRet (At.thenRet (?_)))
                                        refine At.retN (L1 := []) rfl (.tmp rfl (.tmp rfl .nil)) rfl (.refl _) (.refl _) ?_
                                        obtain rfl : n = 85 := by omega
                                        exact ⟨rfl, rfl⟩
                                      · refine At.knowF (d := 24) rfl c24 ?_
                                        refine At.seq fun K43 hk_43 => ?_
                                        refine At.region ?_
                                        refine op_eql (nxlf rfl) rfl rfl rfl ?_
                                        refine op_assign (nxlf rfl) rfl rfl ?_
                                        refine At.opsNil ?_
                                        refine At.norm (hk_43 ?_)
                                        refine At.condP rfl (fun c24 => ?_) (fun c24 => ?_)
                                        · refine At.knowT (d := 24) rfl c24 ?_
                                          refine At.skip ?_
                                          refine At.norm (hk_36 ?_)
                                          refine At.condT rfl ?_
                                          refine At.seq fun K44 hk_44 => ?_
                                          refine At.region ?_
                                          refine op_assign (nxlf rfl) rfl rfl ?_
                                          refine op_assign (nxlf rfl) rfl rfl ?_
                                          refine At.opsNil ?_
                                          refine At.norm (hk_44 ?_)
                                          refine At.ret (At.inRet (At.thenRet (?_)))
                                          refine At.retN (L1 := []) rfl (.tmp rfl (.tmp rfl .nil)) rfl (.refl _) (.refl _) ?_
                                          obtain rfl : n = 87 := by omega
                                          exact ⟨rfl, rfl⟩
                                        · refine At.knowF (d := 24) rfl c24 ?_
                                          refine At.seq fun K45 hk_45 => ?_
                                          refine At.region ?_
                                          refine op_eql (nxlf rfl) rfl rfl rfl ?_
                                          refine op_assign (nxlf rfl) rfl rfl ?_
                                          refine At.opsNil ?_
                                          refine At.norm (hk_45 ?_)
                                          refine At.condP rfl (fun c24 => ?_) (fun c24 => ?_)
                                          · refine At.knowT (d := 24) rfl c24 ?_
                                            refine At.skip ?_
                                            refine At.norm (hk_36 ?_)
                                            refine At.condT rfl ?_
                                            refine At.seq fun K46 hk_46 => ?_
                                            refine At.region ?_
                                            refine op_assign (nxlf rfl) rfl rfl ?_
                                            refine op_assign (nxlf rfl) rfl rfl ?_
                                            refine At.opsNil ?_
                                            refine At.norm (hk_46 ?_)
                                            refine At.ret (At.inRet (At.thenRet (?_)))
                                            refine At.retN (L1 := []) rfl (.tmp rfl (.tmp rfl .nil)) rfl (.refl _) (.refl _) ?_
                                            obtain rfl : n = 93 := by omega
                                            exact ⟨rfl, rfl⟩
                                          · refine At.knowF (d := 24) rfl c24 ?_
                                            refine At.seq fun K47 hk_47 => ?_
                                            refine At.region ?_
                                            refine op_eql (nxlf rfl) rfl rfl rfl ?_
                                            refine op_assign (nxlf rfl) rfl rfl ?_
                                            refine At.opsNil ?_
                                            refine At.norm (hk_47 ?_)
                                            refine At.condP rfl (fun c24 => ?_) (fun c24 => ?_)
                                            · refine At.knowT (d := 24) rfl c24 ?_
                                              refine At.skip ?_
                                              refine At.norm (hk_36 ?_)
                                              refine At.condT rfl ?_
                                              refine At.seq fun K48 hk_48 => ?_
                                              refine At.region ?_
                                              refine op_assign (nxlf rfl) rfl rfl ?_
                                              refine op_assign (nxlf rfl) rfl rfl ?_
                                              refine At.opsNil ?_
                                              refine At.norm (hk_48 ?_)
                                              refine At.ret (At.inRet (At.thenRet (?_)))
                                              refine At.retN (L1 := []) rfl (.tmp rfl (.tmp rfl .nil)) rfl (.refl _) (.refl _) ?_
                                              obtain rfl : n = 243 := by omega
                                              exact ⟨rfl, rfl⟩
                                            · refine At.knowF (d := 24) rfl c24 ?_
                                              refine At.region ?_
                                              refine op_eql (nxlf rfl) rfl rfl rfl ?_
                                              refine op_assign (nxlf rfl) rfl rfl ?_
                                              refine At.opsNil ?_
                                              refine At.norm (hk_36 ?_)
                                              refine At.condP rfl (fun c24 => ?_) (fun c24 => ?_)
                                              · refine At.knowT (d := 24) rfl c24 ?_
                                                refine At.seq fun K49 hk_49 => ?_
                                                refine At.region ?_
                                                refine op_assign (nxlf rfl) rfl rfl ?_
                                                refine op_assign (nxlf rfl) rfl rfl ?_
                                                refine At.opsNil ?_
                                                refine At.norm (hk_49 ?_)
                                                refine At.ret (At.inRet (At.thenRet (?_)))
                                                refine At.retN (L1 := []) rfl (.tmp rfl (.tmp rfl .nil)) rfl (.refl _) (.refl _) ?_
                                                obtain rfl : n = 253 := by omega
                                                exact ⟨rfl, rfl⟩
                                              · refine At.knowF (d := 24) rfl c24 ?_
                                                refine At.seq fun K50 hk_50 => ?_
                                                refine At.seq fun K51 hk_51 => ?_
                                                refine At.region ?_
                                                refine op_eql (nxlf rfl) rfl rfl rfl ?_
                                                refine op_assign (nxlf rfl) rfl rfl ?_
                                                refine At.opsNil ?_
                                                refine At.norm (hk_51 ?_)
                                                refine At.condP rfl (fun c32 => ?_) (fun c32 => ?_)
                                                · refine At.knowT (d := 32) rfl c32 ?_
                                                  refine At.skip ?_
                                                  refine At.norm (hk_50 ?_)
                                                  refine At.condT rfl ?_
                                                  refine At.seq fun K52 hk_52 => ?_
                                                  refine At.region ?_
                                                  refine op_assign (nxlf rfl) rfl rfl ?_
                                                  refine op_assign (nxlf rfl) rfl rfl ?_
                                                  refine At.opsNil ?_
                                                  refine At.norm (hk_52 ?_)
                                                  refine At.ret (At.inRet (At.thenRet (?_)))
                                                  refine At.retN (L1 := []) rfl (.tmp rfl (.tmp rfl .nil)) rfl (.refl _) (.refl _) ?_
                                                  obtain rfl : n = 8 := by omega
                                                  exact ⟨rfl, rfl⟩
                                                · refine At.knowF (d := 32) rfl c32 ?_
                                                  refine At.seq fun K53 hk_53 => ?_
                                                  refine At.region ?_
                                                  refine op_eql (nxlf rfl) rfl rfl rfl ?_
                                                  refine op_assign (nxlf rfl) rfl rfl ?_
                                                  refine At.opsNil ?_
                                                  refine At.norm (hk_53 ?_)
                                                  refine At.condP rfl (fun c32 => ?_) (fun c32 => ?_)
                                                  · refine At.knowT (d := 32) rfl c32 ?_
                                                    refine At.skip ?_
                                                    refine At.norm (hk_50 ?_)
                                                    refine At.condT rfl ?_
                                                    refine At.seq fun K54 hk_54 => ?_
                                                    refine At.region ?_
                                                    refine op_assign (nxlf rfl) rfl rfl ?_
                                                    refine op_assign (nxlf rfl) rfl rfl ?_
                                                    refine At.opsNil ?_
                                                    refine At.norm (hk_54 ?_)
                                                    refine At.ret (At.inRet (At.thenRet (?_)))
                                                    refine At.retN (L1 := []) rfl (.tmp rfl (.tmp rfl .nil)) rfl (.refl _) (.refl _) ?_
                                                    obtain rfl : n = 9 := by omega
                                                    exact ⟨rfl, rfl⟩
                                                  · refine At.knowF (d := 32) rfl c32 ?_
                                                    refine At.region ?_
                                                    refine op_eql (nxlf rfl) rfl rfl rfl ?_
                                                    refine op_assign (nxlf rfl) rfl rfl ?_
                                                    refine At.opsNil ?_
                                                    refine At.norm (hk_50 ?_)
                                                    refine At.condP rfl (fun c32 => ?_) (fun c32 => ?_)
                                                    · refine At.knowT (d := 32) rfl c32 ?_
                                                      refine At.seq fun K55 hk_55 => ?_
                                                      refine At.region ?_
                                                      refine op_assign (nxlf rfl) rfl rfl ?_
                                                      refine op_assign (nxlf rfl) rfl rfl ?_
                                                      refine At.opsNil ?_
                                                      refine At.norm (hk_55 ?_)
                                                      refine At.ret (At.inRet (At.thenRet (?_)))
                                                      refine At.retN (L1 := []) rfl (.tmp rfl (.tmp rfl .nil)) rfl (.refl _) (.refl _) ?_
                                                      obtain rfl : n = 240 := by omega
                                                      exact ⟨rfl, rfl⟩
                                                    · refine At.knowF (d := 32) rfl c32 ?_
                                                      refine At.seq fun K56 hk_56 => ?_
                                                      refine At.seq fun K57 hk_57 => ?_
                                                      refine At.region ?_
                                                      refine op_eql (nxlf rfl) rfl rfl rfl ?_
                                                      refine op_assign (nxlf rfl) rfl rfl ?_
                                                      refine At.opsNil ?_
                                                      refine At.norm (hk_57 ?_)
                                                      refine At.condP rfl (fun c36 => ?_) (fun c36 => ?_)
                                                      · refine At.knowT (d := 36) rfl c36 ?_
                                                        refine At.skip ?_
                                                        refine At.norm (hk_56 ?_)
                                                        refine At.condT rfl ?_
                                                        refine At.seq fun K58 hk_58 => ?_
                                                        refine At.region ?_
                                                        refine op_assign (nxlf rfl) rfl rfl ?_
                                                        refine op_assign (nxlf rfl) rfl rfl ?_
                                                        refine At.opsNil ?_
                                                        refine At.norm (hk_58 ?_)
                                                        refine At.ret (At.inRet (At.thenRet (?_)))
                                                        refine At.retN (L1 := []) rfl (.tmp rfl (.tmp rfl .nil)) rfl (.refl _) (.refl _) ?_
                                                        obtain rfl : n = 55 := by omega
                                                        exact ⟨rfl, rfl⟩
                                                      · refine At.knowF (d := 36) rfl c36 ?_
                                                        refine At.seq fun K59 hk_59 => ?_
                                                        refine At.region ?_
                                                        refine op_eql (nxlf rfl) rfl rfl rfl ?_
                                                        refine op_assign (nxlf rfl) rfl rfl ?_
                                                        refine At.opsNil ?_
                                                        refine At.norm (hk_59 ?_)
                                                        refine At.condP rfl (fun c36 => ?_) (fun c36 => ?_)
                                                        · refine At.knowT (d := 36) rfl c36 ?_
                                                          refine At.skip ?_
                                                          refine At.norm (hk_56 ?_)
                                                          refine At.condT rfl ?_
                                                          refine At.seq fun K60 hk_60 => ?_
                                                          refine At.region ?_
                                                          refine op_assign (nxlf rfl) rfl rfl ?_
                                                          refine op_assign (nxlf rfl) rfl rfl ?_
                                                          refine At.opsNil ?_
                                                          refine At.norm (hk_60 ?_)
                                                          refine At.ret (At.inRet (At.thenRet (?_)))
                                                          refine At.retN (L1 := []) rfl (.tmp rfl (.tmp rfl .nil)) rfl (.refl _) (.refl _) ?_
                                                          obtain rfl : n = 57 := by omega
                                                          exact ⟨rfl, rfl⟩
                                                        · refine At.knowF (d := 36) rfl c36 ?_
                                                          refine At.seq fun K61 hk_61 => ?_
                                                          refine At.region ?_
                                                          refine op_eql (nxlf rfl) rfl rfl rfl ?_
                                                          refine op_assign (nxlf rfl) rfl rfl ?_
                                                          refine At.opsNil ?_
                                                          refine At.norm (hk_61 ?_)
                                                          refine At.condP rfl (fun c36 => ?_) (fun c36 => ?_)
                                                          · refine At.knowT (d := 36) rfl c36 ?_
                                                            refine At.skip ?_
                                                            refine At.norm (hk_56 ?_)
                                                            refine At.condT rfl ?_
                                                            refine At.seq fun K62 hk_62 => ?_
                                                            refine At.region ?_
                                                            refine op_assign (nxlf rfl) rfl rfl ?_
                                                            refine op_assign (nxlf rfl) rfl rfl ?_
                                                            refine At.opsNil ?_
                                                            refine At.norm (hk_62 ?_)
                                                            refine At.ret (At.inRet (At.thenRet (?_)))
                                                            refine At.retN (L1 := []) rfl (.tmp rfl (.tmp rfl .nil)) rfl (.refl _) (.refl _) ?_
                                                            obtain rfl : n = 62 := by omega
                                                            exact ⟨rfl, rfl⟩
                                                          · refine At.knowF (d := 36) rfl c36 ?_
                                                            refine At.region ?_
                                                            refine op_eql (nxlf rfl) rfl rfl rfl ?_
                                                            refine op_assign (nxlf rfl) rfl rfl ?_
                                                            refine At.opsNil ?_
                                                            refine At.norm (hk_56 ?_)
                                                            refine At.condP rfl (fun c36 => ?_) (fun c36 => ?_)
                                                            · refine At.knowT (d := 36) rfl c36 ?_
                                                              refine At.seq fun K63 hk_63 => ?_
                                                              refine At.region ?_
                                                              refine op_assign (nxlf rfl) rfl rfl ?_
                                                              refine op_assign (nxlf rfl) rfl rfl ?_
                                                              refine At.opsNil ?_
                                                              refine At.norm (hk_63 ?_)
                                                              refine At.ret (At.inRet (At.thenRet (?_)))
                                                              refine At.retN (L1 := []) rfl (.tmp rfl (.tmp rfl .nil)) rfl (.refl _) (.refl _) ?_
                                                              obtain rfl : n = 94 := by omega
                                                              exact ⟨rfl, rfl⟩
                                                            · refine At.knowF (d := 36) rfl c36 ?_
                                                              refine At.seq fun K64 hk_64 => ?_
                                                              refine At.region ?_
                                                              refine op_eql (nxlf rfl) rfl rfl rfl ?_
                                                              refine op_assign (nxlf rfl) rfl rfl ?_
                                                              refine At.opsNil ?_
                                                              refine At.norm (hk_64 ?_)
                                                              refine At.condP rfl (fun c41 => ?_) (fun c41 => ?_)
                                                              · refine At.knowT (d := 41) rfl c41 ?_
                                                                refine At.seq fun K65 hk_65 => ?_
                                                                refine At.region ?_
                                                                refine op_assign (nxlf rfl) rfl rfl ?_
                                                                refine op_assign (nxlf rfl) rfl rfl ?_
                                                                refine At.opsNil ?_
                                                                refine At.norm (hk_65 ?_)
                                                                refine At.ret (At.inRet (At.thenRet (?_)))
                                                                refine At.retN (L1 := []) rfl (.tmp rfl (.tmp rfl .nil)) rfl (.refl _) (.refl _) ?_
                                                                obtain rfl : n = 60 := by omega
                                                                exact ⟨rfl, rfl⟩
                                                              · refine At.knowF (d := 41) rfl c41 ?_
                                                                refine At.seq fun K66 hk_66 => ?_
                                                                refine At.region ?_
                                                                refine op_eql (nxlf rfl) rfl rfl rfl ?_
                                                                refine op_assign (nxlf rfl) rfl rfl ?_
                                                                refine At.opsNil ?_
                                                                refine At.norm (hk_66 ?_)
                                                                refine At.condP rfl (fun c43 => ?_) (fun c43 => ?_)
                                                                · refine At.knowT (d := 43) rfl c43 ?_
                                                                  refine At.seq fun K67 hk_67 => ?_
                                                                  refine At.region ?_
                                                                  refine op_assign (nxlf rfl) rfl rfl ?_
                                                                  refine op_assign (nxlf rfl) rfl rfl ?_
                                                                  refine At.opsNil ?_
                                                                  refine At.norm (hk_67 ?_)
                                                                  refine At.ret (At.inRet (At.thenRet (?_)))
                                                                  refine At.retN (L1 := []) rfl (.tmp rfl (.tmp rfl .nil)) rfl (.refl _) (.refl _) ?_
                                                                  obtain rfl : n = 245 := by omega
                                                                  exact ⟨rfl, rfl⟩
                                                                · refine At.knowF (d := 43) rfl c43 ?_
                                                                  refine At.seq fun K68 hk_68 => ?_
                                                                  refine At.seq fun K69 hk_69 => ?_
                                                                  refine At.region ?_
                                                                  refine op_eql (nxlf rfl) rfl rfl rfl ?_
                                                                  refine op_assign (nxlf rfl) rfl rfl ?_
                                                                  refine At.opsNil ?_
                                                                  refine At.norm (hk_69 ?_)
                                                                  refine At.condP rfl (fun c45 => ?_) (fun c45 => ?_)
                                                                  · refine At.knowT (d := 45) rfl c45 ?_
                                                                    refine At.skip ?_
                                                                    refine At.norm (hk_68 ?_)
                                                                    refine At.condT rfl ?_
                                                                    refine At.seq fun K70 hk_70 => ?_
                                                                    refine At.region ?_
                                                                    refine op_assign (nxlf rfl) rfl rfl ?_
                                                                    refine op_assign (nxlf rfl) rfl rfl ?_
                                                                    refine At.opsNil ?_
                                                                    refine At.norm (hk_70 ?_)
                                                                    refine At.ret (At.inRet (At.thenRet (?_)))
                                                                    refine At.retN (L1 := []) rfl (.tmp rfl (.tmp rfl .nil)) rfl (.refl _) (.refl _) ?_
                                                                    obtain rfl : n = 244 := by omega
                                                                    exact ⟨rfl, rfl⟩
                                                                  · refine At.knowF (d := 45) rfl c45 ?_
                                                                    refine At.region ?_
                                                                    refine op_eql (nxlf rfl) rfl rfl rfl ?_
                                                                    refine op_assign (nxlf rfl) rfl rfl ?_
                                                                    refine At.opsNil ?_
                                                                    refine At.norm (hk_68 ?_)
                                                                    refine At.condP rfl (fun c45 => ?_) (fun c45 => ?_)
                                                                    · refine At.knowT (d := 45) rfl c45 ?_
                                                                      refine At.seq fun K71 hk_71 => ?_
                                                                      refine At.region ?_
                                                                      refine op_assign (nxlf rfl) rfl rfl ?_
                                                                      refine op_assign (nxlf rfl) rfl rfl ?_
                                                                      refine At.opsNil ?_
                                                                      refine At.norm (hk_71 ?_)
                                                                      refine At.ret (At.inRet (At.thenRet (?_)))
                                                                      refine At.retN (L1 := []) rfl (.tmp rfl (.tmp rfl .nil)) rfl (.refl _) (.refl _) ?_
                                                                      obtain rfl : n = 250 := by omega
                                                                      exact ⟨rfl, rfl⟩
                                                                    · refine At.knowF (d := 45) rfl c45 ?_
                                                                      refine At.seq fun K72 hk_72 => ?_
                                                                      refine At.seq fun K73 hk_73 => ?_
                                                                      refine At.region ?_
                                                                      refine op_eql (nxlf rfl) rfl rfl rfl ?_
                                                                      refine op_assign (nxlf rfl) rfl rfl ?_
                                                                      refine At.opsNil ?_
                                                                      refine At.norm (hk_73 ?_)
                                                                      refine At.condP rfl (fun c48 => ?_) (fun c48 => ?_)
                                                                      · refine At.knowT (d := 48) rfl c48 ?_
                                                                        refine At.skip ?_
                                                                        refine At.norm (hk_72 ?_)
                                                                        refine At.condT rfl ?_
                                                                        refine At.seq fun K74 hk_74 => ?_
                                                                        refine At.region ?_
                                                                        refine op_assign (nxlf rfl) rfl rfl ?_
                                                                        refine op_assign (nxlf rfl) rfl rfl ?_
                                                                        refine At.opsNil ?_
                                                                        refine At.norm (hk_74 ?_)
                                                                        refine At.ret (At.inRet (At.thenRet (?_)))
                                                                        refine At.retN (L1 := []) rfl (.tmp rfl (.tmp rfl .nil)) rfl (.refl _) (.refl _) ?_
                                                                        obtain rfl : n = 241 := by omega
                                                                        exact ⟨rfl, rfl⟩
                                                                      · refine At.knowF (d := 48) rfl c48 ?_
                                                                        refine At.region ?_
                                                                        refine op_eql (nxlf rfl) rfl rfl rfl ?_
                                                                        refine op_assign (nxlf rfl) rfl rfl ?_
                                                                        refine At.opsNil ?_
                                                                        refine At.norm (hk_72 ?_)
                                                                        refine At.condP rfl (fun c48 => ?_) (fun c48 => ?_)
                                                                        · refine At.knowT (d := 48) rfl c48 ?_
                                                                          refine At.seq fun K75 hk_75 => ?_
                                                                          refine At.region ?_
                                                                          refine op_assign (nxlf rfl) rfl rfl ?_
                                                                          refine op_assign (nxlf rfl) rfl rfl ?_
                                                                          refine At.opsNil ?_
                                                                          refine At.norm (hk_75 ?_)
                                                                          refine At.ret (At.inRet (At.thenRet (?_)))
                                                                          refine At.retN (L1 := []) rfl (.tmp rfl (.tmp rfl .nil)) rfl (.refl _) (.refl _) ?_
                                                                          obtain rfl : n = 242 := by omega
                                                                          exact ⟨rfl, rfl⟩
                                                                        · refine At.knowF (d := 48) rfl c48 ?_
                                                                          refine At.skip ?_
                                                                          refine At.inNorm ?_
                                                                          refine At.norm (hk_2 ?_)
                                                                          refine At.seq fun K76 hk_76 => ?_
                                                                          refine At.seq fun K77 hk_77 => ?_
                                                                          refine At.region ?_
                                                                          refine op_move (nxlf rfl) rfl rfl ?_
                                                                          refine op_lss (nxlf rfl) rfl rfl rfl ?_
                                                                          refine At.opsNil ?_
                                                                          refine At.norm (hk_77 ?_)
                                                                          refine At.condP rfl (fun c52 => ?_) (fun c52 => ?_)
                                                                          · refine At.knowT (d := 52) rfl c52 ?_
                                                                            refine At.seq fun K78 hk_78 => ?_
                                                                            refine At.region ?_
                                                                            refine op_assign (nxlf rfl) rfl rfl ?_
                                                                            refine op_assign (nxlf rfl) rfl rfl ?_
                                                                            refine At.opsNil ?_
                                                                            refine At.norm (hk_78 ?_)
                                                                            refine At.ret (At.thenRet (?_))
                                                                            refine At.retN (L1 := []) rfl (.tmp rfl (.tmp rfl .nil)) rfl (.refl _) (.refl _) ?_
                                                                            have hns : n ∉ shL := by
                                                                              simp only [shL, List.mem_cons, List.not_mem_nil, or_false]
                                                                              omega
                                                                            obtain ⟨e1, e2⟩ := hlo ⟨hr, hns, h95, by omega⟩
                                                                            exact ⟨by rw [e1, e2]; rfl, rfl⟩
                                                                          · refine At.knowF (d := 52) rfl c52 ?_
                                                                            refine At.skip ?_
                                                                            refine At.norm (hk_76 ?_)
                                                                            refine At.seq fun K79 hk_79 => ?_
                                                                            refine At.region ?_
                                                                            refine op_assign (nxlf rfl) rfl rfl ?_
                                                                            refine op_assign (nxlf rfl) rfl rfl ?_
                                                                            refine At.opsNil ?_
                                                                            refine At.norm (hk_79 ?_)
                                                                            refine At.ret (?_)
                                                                            refine At.retN (L1 := []) rfl (.tmp rfl (.tmp rfl .nil)) rfl (.refl _) (.refl _) ?_
                                                                            have hns : n ∉ shL := by
                                                                              simp only [shL, List.mem_cons, List.not_mem_nil, or_false]
                                                                              omega
                                                                            obtain ⟨e1, e2⟩ := hhi ⟨hr, hns, h95, by omega⟩
                                                                            exact ⟨by rw [e1, e2]; rfl, rfl⟩
end Go.Proofs.YtdplcfineaikjaaDoor
