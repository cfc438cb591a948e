/- Layer 14, the reference: a block is read out of bytes, or what is wrong first. No condition but that bytes are not longer than a machine holds. -/
import Derived.Test.YtjfagifjajielaaGreatX1
import Derived.Test.YtjfagifjajielaaGreatX24
import Derived.Test.YtjfagifjajielaaGreatX28
import Derived.Test.YtjfagifjajielaaGreatX14
set_option linter.unusedSimpArgs false
set_option linter.unusedVariables false
namespace Go.Proofs.YtjfagifjajielaaGreat
open Go Go.RowKit
set_option maxRecDepth 100000
section
variable {N : Heaplet} {ao : Option Addr} {n cap : Nat} {b : List UInt8}
end
end Go.Proofs.YtjfagifjajielaaGreat
