/- The tables that a code's rows list. No condition. -/
import Derived.Test.YtdplcfineaikjaaDoorCS0
import Derived.Test.YtdplcfineaikjaaDoorCards
import Derived.Test.YtdplcfineaikjaaDoorTie
import Derived.LaidMore
import Derived.Lib.LaidTab
import Derived.Stop.LaidErr
import Derived.Deep.DeepLaidRun
namespace Go.Proofs.YtdplcfineaikjaaDoor
set_option linter.unusedVariables false
set_option linter.unusedSimpArgs false
open Go Go.RowKit
theorem gTab : Tryd.prog.globalNamed "strings.asciiSpace" = some 0 := by kernel_rfl
theorem tab_data : (Rows.laid_strings_asciiSpace : DataW Unit) = Lib.tabData .u8 Lib.asciiSpaceTab := by kernel_rfl
theorem tab_of {W : World} {a b c d : DataW Unit} {n1 n2 n3 n4 : String} (h : laidMet Tryd.prog [(n1, a), (n2, b), (n3, c), (n4, d), ("strings.asciiSpace", Rows.laid_strings_asciiSpace)] W) : Lib.TabIs Tryd.prog W "strings.asciiSpace" .u8 Lib.asciiSpaceTab := by
  have h2 := laidMet.tail (laidMet.tail (laidMet.tail (laidMet.tail h)))
  rw [tab_data] at h2
  exact Lib.tabIs_of_head (rest := []) gTab (show (Tryd.prog.globals[0]?).map (·.type) = some 81 by kernel_rfl) Tryd.underlying81 Tryd.underlying5 (by kernel_rfl) (by kernel_rfl) h2
theorem tabIs_le {k : Nat} {nm : String} {kd : IntKind} {zs : List Int} {W w : World} (hg : Tryd.prog.globalNamed nm = some k) (h : Lib.TabIs Tryd.prog W nm kd zs) (hw : (whole W).le (whole w)) : Lib.TabIs Tryd.prog w nm kd zs := by
  unfold Lib.TabIs World.var? at h ⊢
  rw [hg] at h ⊢
  simp only [Option.bind_some] at h ⊢
  cases hb : W.heap[k]? with
  | none => rw [hb] at h; cases h
  | some o =>
    have := hw k o hb
    unfold whole at this
    rw [this]
    rw [hb] at h
    exact h
theorem tabH_whole {W : World} (h : Lib.TabIs Tryd.prog W "strings.asciiSpace" .u8 Lib.asciiSpaceTab) : TabH (whole W) := fun _ hw => tabIs_le gTab h hw
end Go.Proofs.YtdplcfineaikjaaDoor
