/- Several texts in one: see the remarks ahead of each part. No condition but those told there. -/
import Derived.Test.YtjfagifjajielaaGreatU27
set_option linter.unusedSimpArgs false
set_option linter.unusedVariables false
/- Layer 14, the reference: a transaction is read out of bytes. No condition but that bytes are not longer than a machine holds. -/
namespace Go.Proofs.YtjfagifjajielaaGreat
open Go Go.RowKit
set_option maxRecDepth 100000
section
variable {N : Heaplet} {ao : Option Addr} {n cap : Nat} {b p : List UInt8}
end
end Go.Proofs.YtjfagifjajielaaGreat
/- Layer 14, the reference: a transaction is read out of bytes. No condition but that bytes are not longer than a machine holds. -/
namespace Go.Proofs.YtjfagifjajielaaGreat
open Go Go.RowKit
set_option maxRecDepth 100000
section
variable {N : Heaplet} {ao : Option Addr} {n cap : Nat} {b p : List UInt8}
end
end Go.Proofs.YtjfagifjajielaaGreat
