/- The table of powers of ten that a code's rows list. No condition. -/
import Derived.Test.YtdplcfineaikjaaDoorCKz
import Derived.Test.YtdplcfineaikjaaDoorO3
namespace Go.Proofs.YtdplcfineaikjaaDoor
set_option linter.unusedVariables false
set_option linter.unusedSimpArgs false
open Go Go.RowKit
theorem gPow : Tryd.prog.globalNamed "internal/strconv.uint64pow10" = some 2 := by kernel_rfl
theorem pow_data : (Rows.laid_internal_strconv_uint64pow10 : DataW Unit) = Lib.tabData .u64 Lib.pow10Tab := by kernel_rfl
theorem pow_of {W : World} {a b : DataW Unit} {n1 n2 : String} {rest : List (String × DataW Unit)} (h : laidMet Tryd.prog ((n1, a) :: (n2, b) :: ("internal/strconv.uint64pow10", Rows.laid_internal_strconv_uint64pow10) :: rest) W) : Lib.TabIs Tryd.prog W "internal/strconv.uint64pow10" .u64 Lib.pow10Tab := by
  have h2 := laidMet.tail (laidMet.tail h)
  rw [pow_data] at h2
  exact Lib.tabIs_of_head (rest := rest) gPow (show (Tryd.prog.globals[2]?).map (·.type) = some 126 by kernel_rfl) Tryd.underlying126 Tryd.underlying23 (by kernel_rfl) (by kernel_rfl) h2
theorem powH_whole {W : World} (h : Lib.TabIs Tryd.prog W "internal/strconv.uint64pow10" .u64 Lib.pow10Tab) : PowH (whole W) := fun _ hw => tabIs_le gPow h hw
end Go.Proofs.YtdplcfineaikjaaDoor
