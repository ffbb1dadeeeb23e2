/- The end of a sum: both at once. -/
import Derived.Test.YtcmcnfjdfcianaaDoorvqgB12
import Derived.Test.YtcmcnfjdfcianaaDoorvE3
set_option linter.unusedVariables false
set_option linter.unusedSimpArgs false
namespace Go.Sy
namespace Bk
open Go.Proofs
attribute [local irreducible] atCall HT runOps runD onC onE onO onG goV goA goS onSt onGuard
end Bk
end Go.Sy
