/- A number of 64 bits as an argument. No condition. -/
import Derived.Test.YtefljbbpaideaaaK3
namespace Go.Proofs.Ytefljbbpaideaaa
set_option linter.unusedVariables false
set_option linter.unusedSimpArgs false
theorem u64_of {q : Int} (h : 0 ≤ q ∧ q ≤ 18446744073709551615) : ∃ x : UInt64, q = (x.toNat : Int) := ⟨UInt64.ofNat q.toNat, by rw [UInt64.toNat_ofNat']; omega⟩
end Go.Proofs.Ytefljbbpaideaaa
