/- limb.From: the number of bytes. No condition. -/
import Derived.Test.YtalmjkcapecpiaaGreatX1
import Derived.Test.YtalmjkcapecpiaaGreatX5
import Derived.Test.YtalmjkcapecpiaaGreatX4
set_option linter.unusedSimpArgs false
set_option linter.unusedVariables false
namespace Go.Proofs.YtalmjkcapecpiaaGreat
open Go Go.RowKit
end Go.Proofs.YtalmjkcapecpiaaGreat
