/- A slice of bytes as an argument. No condition. -/
import Derived.Test.YtefljbbpaideaaaKZv
import Derived.Deep.Strs
namespace Go.Proofs.Ytefljbbpaideaaa
set_option linter.unusedVariables false
set_option linter.unusedSimpArgs false
open Go Go.RowKit Go.ChangeShapes Go.WideShapes Go.Deep
section
variable {H : Type} {enc : TypeId × Value → H} {w : World} {spare : Nat → Bool} {held : Bool}
set_option maxRecDepth 100000 in
theorem open_bytes {r : Reach} {b0 : Nat} {v : Value} {d : DataW H} {ps : List MemPlace} (hval : Value.okWide Try.prog w r b0 34 v) (hd : DataW.Trod enc Try.prog w 0 spare held 34 v d ps) :
    ∃ ao n cap bs, v = .slice ao n cap ∧ RSl (whole w) 1 ao n cap (u8s bs) := by
  obtain ⟨ao', n', cap', rfl⟩ := okWide_slice Try.underlying34 hval
  obtain ⟨fuel, hf⟩ := hd
  obtain ⟨ao, n, cap, bs, e, h⟩ := open_u8 Try.underlying34 Try.underlying5 (by kernel_rfl) hf
  exact ⟨ao, n, cap, bs, (List.cons.inj e).1, h⟩
end
end Go.Proofs.Ytefljbbpaideaaa
