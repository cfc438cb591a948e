/- Plain laws: words of four limbs, their bytes and bits. No condition. -/
import Derived.Test.YtdpjbefeabokgaaGreatU5
set_option linter.unusedSimpArgs false
set_option linter.unusedVariables false
namespace Go.Proofs.YtdpjbefeabokgaaGreat
end Go.Proofs.YtdpjbefeabokgaaGreat
