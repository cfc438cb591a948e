/- Layer 13: quarrylaw13.wakes gives true where the table of white space is laid. No condition but those told below. -/
import Derived.Test.YtoabimaidpbkiaaDoorF6
import Derived.Test.YtoabimaidpbkiaaDoorFW0
import Derived.Test.YtoabimaidpbkiaaDoorF2
import Derived.Test.YtoabimaidpbkiaaDoorF8
namespace Go.Proofs.YtoabimaidpbkiaaDoor
set_option linter.unusedVariables false
set_option linter.unusedSimpArgs false
open Go.RowKit

theorem rules9 : rulesV 9 = .agg #[.int .i64 9, .int .u64 21000, .int .u64 32000, .int .u64 4, .int .u64 16, .int .u64 2400, .int .u64 1900, .int .u64 0, .int .i64 0, .int .i64 24576, .int .u64 0, .int .u64 0, .int .u64 0, .int .u64 0, .int .u64 0, .int .u64 2600, .int .u64 2100, .int .u64 100, .int .u64 5000, .int .u64 25000, .int .u64 24000, .int .u64 50, .int .u64 15000, .int .u64 2, .int .u64 2000000000000000000, .int .u64 9000000] := by kernel_rfl
theorem op1 : opM 1 244 = true := by decide
theorem op0 : opM 0 244 = false := by decide
theorem name15 : nameB 15 = ⟨#[67, 97, 110, 99, 117, 110]⟩ := by decide +kernel
theorem tab_below {w w' : World} {zs : List Int} (h : Lib.TabIs Tryd.prog w "strings.asciiSpace" .u8 zs) (hb : Below w.heap.size w w') : Lib.TabIs Tryd.prog w' "strings.asciiSpace" .u8 zs := by
  have hgn : Tryd.prog.globalNamed "strings.asciiSpace" = some 0 := by kernel_rfl
  unfold Lib.TabIs World.var? at h ⊢
  rw [hgn] at h ⊢
  simp only [Option.bind_some] at h ⊢
  have hlt : 0 < w.heap.size := by
    rcases Nat.lt_or_ge 0 w.heap.size with h' | h'
    · exact h'
    · rw [Array.getElem?_eq_none h'] at h; cases h
  rw [hb.block _ hlt]
  exact h
set_option maxRecDepth 100000 in
set_option maxHeartbeats 4000000 in
theorem wakes_c (w : World) (htab : Lib.TabIs Tryd.prog w "strings.asciiSpace" .u8 Lib.asciiSpaceTab) : Calls Tryd.prog 12 #[] w (Ret w fun v _ => v = .bool true) := by
  have hO := of_c w 9 (by decide) (by decide)
  have hP := op1
  have hQ := op0
  have hN := fun w' (h : Below w.heap.size w w') => name_c w' 15 (by decide) (tab_below htab h)
  rw [rules9] at hO
  simp only [name15] at hN
  generalize namesA = A at hN
  clear htab
  go_enter Tryd.func12, Tryd.ntmps12
  go_wp2_with (first
    | (go_at_call 8; refine hO.mono ?_; rintro e w1 ⟨_, rfl, rfl, hb1⟩
       dsimp only
       refine (‹∀ (a : Act) (w : World), wpList _ _ _ _ a w → _›) _ _ ?_
       refine wpl_value rfl _ rfl ?_
       refine wpl_value rfl _ rfl ?_
       refine wpl_value rfl _ rfl ?_
       refine wpl_alloc rfl rfl ?_
       refine wpList_store_mid rfl 24 _ _ rfl w1.heap.size 0 #[.int .i64 9, .int .u64 21000, .int .u64 32000, .int .u64 4, .int .u64 16, .int .u64 2400, .int .u64 1900, .int .u64 0, .int .i64 0, .int .i64 24576, .int .u64 0, .int .u64 0, .int .u64 0, .int .u64 0, .int .u64 0, .int .u64 2600, .int .u64 2100, .int .u64 100, .int .u64 5000, .int .u64 25000, .int .u64 24000, .int .u64 50, .int .u64 15000, .int .u64 2, .int .u64 2000000000000000000, .int .u64 9000000] rfl rfl (there_new w1 zeroRules _) (by kernel_rfl) (by kernel_rfl) ?_
       have hR := World.rangeAt_setCells_same (w1.alloc (.cells zeroRules 24)) w1.heap.size 0 [.int .i64 9, .int .u64 21000, .int .u64 32000, .int .u64 4, .int .u64 16, .int .u64 2400, .int .u64 1900, .int .u64 0, .int .i64 0, .int .i64 24576, .int .u64 0, .int .u64 0, .int .u64 0, .int .u64 0, .int .u64 0, .int .u64 2600, .int .u64 2100, .int .u64 100, .int .u64 5000, .int .u64 25000, .int .u64 24000, .int .u64 50, .int .u64 15000, .int .u64 2, .int .u64 2000000000000000000, .int .u64 9000000] (there_new w1 zeroRules _)
       have c4 := hR 4 _ rfl
       have c16 := hR 16 _ rfl
       have hb : Below w.heap.size w ((w1.alloc (.cells zeroRules 24)).setCells w1.heap.size 0 [.int .i64 9, .int .u64 21000, .int .u64 32000, .int .u64 4, .int .u64 16, .int .u64 2400, .int .u64 1900, .int .u64 0, .int .i64 0, .int .i64 24576, .int .u64 0, .int .u64 0, .int .u64 0, .int .u64 0, .int .u64 0, .int .u64 2600, .int .u64 2100, .int .u64 100, .int .u64 5000, .int .u64 25000, .int .u64 24000, .int .u64 50, .int .u64 15000, .int .u64 2, .int .u64 2000000000000000000, .int .u64 9000000]) := below_setCells _ _ _ _ (hb1.alloc hb1.size _) hb1.size
       clear hR
       dsimp only
       generalize ((w1.alloc (.cells zeroRules 24)).setCells w1.heap.size 0 [.int .i64 9, .int .u64 21000, .int .u64 32000, .int .u64 4, .int .u64 16, .int .u64 2400, .int .u64 1900, .int .u64 0, .int .i64 0, .int .i64 24576, .int .u64 0, .int .u64 0, .int .u64 0, .int .u64 0, .int .u64 0, .int .u64 2600, .int .u64 2100, .int .u64 100, .int .u64 5000, .int .u64 25000, .int .u64 24000, .int .u64 50, .int .u64 15000, .int .u64 2, .int .u64 2000000000000000000, .int .u64 9000000]) = w2 at c4 c16 hb ⊢)
    | (go_at_call 13; refine (op_c _ _ _).mono ?_; rintro e w9 ⟨rfl, rfl⟩)
    | (go_at_call 10; refine (hN _ ?_).mono ?_; (exact hb); rintro e w3 ⟨rfl, rfl⟩))
  go_ret
  exact ret_of rfl (hb.alloc hb.size _)
end Go.Proofs.YtoabimaidpbkiaaDoor
