/- Layer 13: the names of the forks. No condition but those told below. -/
import Derived.Test.YtoabimaidpbkiaaDoorF1
import Derived.Test.YtoabimaidpbkiaaDoorFLay
import Derived.Shelf.Strings.Fields
namespace Go.Proofs.YtoabimaidpbkiaaDoor
set_option linter.unusedVariables false
set_option linter.unusedSimpArgs false
open Go.RowKit Go.Shelf

/-- The names in their order. -/
def namesL : List (List UInt8) := [[70, 114, 111, 110, 116, 105, 101, 114], [72, 111, 109, 101, 115, 116, 101, 97, 100], [84, 97, 110, 103, 101, 114, 105, 110, 101], [83, 112, 117, 114, 105, 111, 117, 115], [66, 121, 122, 97, 110, 116, 105, 117, 109], [67, 111, 110, 115, 116, 97, 110, 116, 105, 110, 111, 112, 108, 101], [80, 101, 116, 101, 114, 115, 98, 117, 114, 103], [73, 115, 116, 97, 110, 98, 117, 108], [77, 117, 105, 114], [66, 101, 114, 108, 105, 110], [76, 111, 110, 100, 111, 110], [65, 114, 114, 111, 119], [71, 114, 97, 121], [80, 97, 114, 105, 115], [83, 104, 97, 110, 103, 104, 97, 105], [67, 97, 110, 99, 117, 110]]
def namesText : List UInt8 := [70, 114, 111, 110, 116, 105, 101, 114, 32, 72, 111, 109, 101, 115, 116, 101, 97, 100, 32, 84, 97, 110, 103, 101, 114, 105, 110, 101, 32, 83, 112, 117, 114, 105, 111, 117, 115, 32, 66, 121, 122, 97, 110, 116, 105, 117, 109, 32, 67, 111, 110, 115, 116, 97, 110, 116, 105, 110, 111, 112, 108, 101, 32, 80, 101, 116, 101, 114, 115, 98, 117, 114, 103, 32, 73, 115, 116, 97, 110, 98, 117, 108, 32, 77, 117, 105, 114, 32, 66, 101, 114, 108, 105, 110, 32, 76, 111, 110, 100, 111, 110, 32, 65, 114, 114, 111, 119, 32, 71, 114, 97, 121, 32, 80, 97, 114, 105, 115, 32, 83, 104, 97, 110, 103, 104, 97, 105, 32, 67, 97, 110, 99, 117, 110]
def nameB (f : Nat) : ByteArray := ⟨((namesL[f]?).getD []).toArray⟩
def namesA : Array Value := (namesL.map fun l => Value.string ⟨l.toArray⟩).toArray
theorem namesA_at (w : World) (T : TypeId) (f : Nat) (hf : f < 16) : (w.alloc (.cells namesA T)).cell? ⟨w.heap.size, f, none⟩ = some (.string (nameB f)) := by
  have hk : (w.alloc (.cells namesA T)).heap[w.heap.size]? = some (.cells namesA T) := by unfold World.alloc; exact Array.getElem?_push_size
  unfold World.cell?
  rw [hk]
  have : namesA[f]? = some (.string (nameB f)) := by
    have h : f < namesL.length := hf
    simp [namesA, nameB, List.getElem?_eq_getElem h]
  simpa using this
theorem fields_names : Lib.fields namesText = namesL := by decide +kernel
theorem fields_c (w : World) (s : ByteArray) (hs : s = ⟨namesText.toArray⟩) (htab : Lib.TabIs Tryd.prog w "strings.asciiSpace" .u8 Lib.asciiSpaceTab) :
    Calls Tryd.prog 26 #[.string s] w fun e w' => e = .returned (.slice (some ⟨w.heap.size, 0, none⟩) 16 16) ∧ w' = w.alloc (.cells namesA 9) := by
  subst hs
  have h := Any.strings_Fields Tryd.laysFields (by kernel_rfl) (by kernel_rfl) ⟨namesText.toArray⟩ w (by decide +kernel) (fun j b hb => by
    have : namesText.all (fun b => decide (b.toNat < 128)) = true := by decide +kernel
    exact of_decide_eq_true (List.all_eq_true.1 this b (List.mem_of_getElem? hb))) htab
  rw [show (⟨namesText.toArray⟩ : ByteArray).data.toList = namesText from by simp, fields_names] at h
  exact h
set_option maxRecDepth 100000 in
theorem name_c (w : World) (f : Nat) (hf : f < 16) (htab : Lib.TabIs Tryd.prog w "strings.asciiSpace" .u8 Lib.asciiSpaceTab) : Calls Tryd.prog 10 #[.int .i64 (f : Int)] w fun e w' => e = .returned (.string (nameB f)) ∧ w' = w.alloc (.cells namesA 9) := by
  have hc := namesA_at w 9 f hf
  have hF := fun s hs => fields_c w s hs htab
  clear htab
  generalize namesA = A at *
  generalize nameB f = s at *
  go_enter Tryd.func10, Tryd.ntmps10
  go_wp2_with (go_at_call 26; refine (hF _ (by rfl)).mono ?_; rintro e w' ⟨rfl, rfl⟩)
  go_ret
  exact ⟨rfl, rfl⟩
set_option maxRecDepth 100000 in
theorem refnames_c (w : World) : Calls Tryd.prog 27 #[] w fun e w' => e = .returned (.slice (some ⟨w.heap.size, 0, none⟩) 16 16) ∧ w' = w.alloc (.cells namesA 9) := by
  go_enter Tryd.func27, Tryd.ntmps27
  go_wp2
  go_ret
  exact ⟨rfl, rfl⟩
set_option maxRecDepth 100000 in
theorem refname_c (w : World) (f : Nat) (hf : f < 16) : Calls Tryd.prog 11 #[.int .i64 (f : Int)] w fun e w' => e = .returned (.string (nameB f)) ∧ w' = w.alloc (.cells namesA 9) := by
  have hc := namesA_at w 9 f hf
  have hF := refnames_c w
  generalize namesA = A at *
  generalize nameB f = s at *
  go_enter Tryd.func11, Tryd.ntmps11
  go_wp2_with (go_at_call 27; refine hF.mono ?_; rintro e w' ⟨rfl, rfl⟩)
  go_ret
  exact ⟨rfl, rfl⟩
end Go.Proofs.YtoabimaidpbkiaaDoor
