/- fork.small, the fields of the names in small letters, slices.Index of texts. Condition: Go's tables of white space and of UTF-8 are laid, where a contract says so. -/
import Derived.Test.YtoabimaidpbkiaaDoorFN2
import Derived.Test.YtoabimaidpbkiaaDoorFMLay
import Derived.Test.YtoabimaidpbkiaaDoorFK1
namespace Go.Proofs.YtoabimaidpbkiaaDoor
set_option linter.unusedVariables false
set_option linter.unusedSimpArgs false
open Go Go.RowKit
/-- The tables of UTF-8, in this part of the memory. -/
def TabU (N : Heaplet) : Prop := ∀ w, N.le (whole w) → Lib.Utf8Tabs (Tryd.laysMap_ren.g 3) (Tryd.laysMap_ren.g 4) w
theorem TabU.le {N M : Heaplet} (h : TabU N) (hl : N.le M) : TabU M := fun w hw => h w (Heaplet.le_trans hl hw)
theorem lowI_t {x : Int} (h : 65 ≤ x ∧ x ≤ 90) : lowI x = x + 32 := if_pos h
theorem lowI_f {x : Int} (h : ¬ (65 ≤ x ∧ x ≤ 90)) : lowI x = x := if_neg h
theorem low_pays (w : World) : MapAtRunes Tryd.prog 39 #[] lowI w := by
  intro W x hx hb
  unfold FnGives
  by_cases h1 : (65 : Int) ≤ (x : Int)
  · by_cases h2 : (x : Int) ≤ 90
    · rw [lowI_t ⟨h1, h2⟩]
      show Calls Tryd.prog 39 #[.int .i32 (x : Int)] W _
      go_enter Tryd.func39, Tryd.ntmps39
      go_wp2
      all_goals go_ret
      all_goals refine ⟨?_, 0, rfl⟩
      all_goals first | rfl | (exfalso; omega) | (refine congrArg (fun x => Ending.returned (Value.int IntKind.i32 x)) ?_; omega)
    · rw [lowI_f (fun h => h2 h.2)]
      show Calls Tryd.prog 39 #[.int .i32 (x : Int)] W _
      go_enter Tryd.func39, Tryd.ntmps39
      go_wp2
      all_goals go_ret
      all_goals refine ⟨?_, 0, rfl⟩
      all_goals first | rfl | (exfalso; omega)
  · rw [lowI_f (fun h => h1 h.1)]
    show Calls Tryd.prog 39 #[.int .i32 (x : Int)] W _
    go_enter Tryd.func39, Tryd.ntmps39
    go_wp2
    all_goals go_ret
    all_goals refine ⟨?_, 0, rfl⟩
    all_goals first | rfl | (exfalso; omega)
set_option maxRecDepth 100000 in
theorem small_c (w : World) {l : List UInt8} (hl : l.length < 35184372088832) (hT : Lib.Utf8Tabs (Tryd.laysMap_ren.g 3) (Tryd.laysMap_ren.g 4) w) :
    Calls Tryd.prog 33 #[str l] w fun e w' => e = .returned (str (Lib.mapD lowI l)) ∧ Below w.heap.size w w' := by
  have hM := Any.strings_Map_runes Tryd.laysMap Tryd.mapExtra 39 #[] (enters_of Tryd.func39 (by kernel_rfl) rfl) lowI ⟨l.toArray⟩ w (by simpa [ByteArray.size] using hl) (low_pays w) (fun x hx => by unfold lowI; split <;> omega) hT
  simp only [List.toList_toArray] at hM
  unfold str
  obtain ⟨s, hs⟩ : ∃ s : ByteArray, (⟨l.toArray⟩ : ByteArray) = s := ⟨_, rfl⟩
  rw [hs] at hM ⊢
  clear hT
  go_enter Tryd.func33, Tryd.ntmps33
  go_wp2_with (go_at_call 38; refine hM.mono ?_; rintro e w' ⟨rfl, hb⟩)
  go_ret
  exact ⟨rfl, hb⟩
theorem FSmall_f {N : Heaplet} (hN : TabU N) {l : List UInt8} (hl : l.length < 35184372088832) : Fn Tryd.prog 33 #[str l] [] [N] (fun v L => v = str (Lib.mapD lowI l) ∧ L = []) :=
  Fn.of_val fun w hr => (small_c w hl (hN w (hr N (by simp)))).mono fun e w' ⟨he, hb⟩ => by subst he; exact ⟨_, rfl, rfl, hb⟩
end Go.Proofs.YtoabimaidpbkiaaDoor
