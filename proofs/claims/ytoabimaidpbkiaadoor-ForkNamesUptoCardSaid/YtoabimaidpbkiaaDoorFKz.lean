/- The table of white space that a fork's rows list. No condition. -/
import Derived.Test.YtoabimaidpbkiaaDoorFK1
import Derived.Test.YtoabimaidpbkiaaDoorCards
import Derived.Test.YtoabimaidpbkiaaDoorTie
import Derived.LaidMore
import Derived.Lib.LaidTab
import Derived.Stop.LaidErr
import Derived.Deep.DeepLaidRun
namespace Go.Proofs.YtoabimaidpbkiaaDoor
set_option linter.unusedVariables false
set_option linter.unusedSimpArgs false
open Go Go.RowKit
theorem gTab : Tryd.prog.globalNamed "strings.asciiSpace" = some 0 := by kernel_rfl
theorem tab_data : (Rows.laid_strings_asciiSpace : DataW Unit) = Lib.tabData .u8 Lib.asciiSpaceTab := by kernel_rfl
theorem tab_of {W : World} {d : DataW Unit} (h : laidMet Tryd.prog [("unicode.White_Space", d), ("strings.asciiSpace", Rows.laid_strings_asciiSpace)] W) : Lib.TabIs Tryd.prog W "strings.asciiSpace" .u8 Lib.asciiSpaceTab := by
  have h2 := laidMet.tail h
  rw [tab_data] at h2
  exact Lib.tabIs_of_head (rest := []) gTab (show (Tryd.prog.globals[0]?).map (·.type) = some 76 by kernel_rfl) Tryd.underlying76 Tryd.underlying5 (by kernel_rfl) (by kernel_rfl) h2
theorem tabH_whole {W : World} (h : Lib.TabIs Tryd.prog W "strings.asciiSpace" .u8 Lib.asciiSpaceTab) : TabH (whole W) := by
  intro w hw
  have hgn := gTab
  unfold Lib.TabIs World.var? at h ⊢
  rw [hgn] at h ⊢
  simp only [Option.bind_some] at h ⊢
  cases hb : W.heap[0]? with
  | none => rw [hb] at h; cases h
  | some o =>
    have := hw 0 o hb
    unfold whole at this
    rw [this]
    rw [hb] at h
    exact h
end Go.Proofs.YtoabimaidpbkiaaDoor
