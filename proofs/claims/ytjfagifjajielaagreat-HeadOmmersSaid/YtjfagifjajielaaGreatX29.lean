/- Several texts in one: see the remarks ahead of each part. No condition but those told there. -/
import Derived.Test.YtjfagifjajielaaGreatX1
import Derived.Test.YtjfagifjajielaaGreatX28
set_option linter.unusedSimpArgs false
set_option linter.unusedVariables false
namespace Go.Proofs.YtjfagifjajielaaGreat
open Go Go.RowKit
set_option maxRecDepth 100000
section
variable {N : Heaplet} {ao : Option Addr} {n cap : Nat} {b p : List UInt8}
end
section
variable {N : Heaplet} {ao : Option Addr} {n cap : Nat} {b p : List UInt8}
end
end Go.Proofs.YtjfagifjajielaaGreat
