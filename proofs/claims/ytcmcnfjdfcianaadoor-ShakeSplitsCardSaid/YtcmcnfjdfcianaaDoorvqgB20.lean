/- Sums of bytes: both at once. -/
import Derived.Test.YtcmcnfjdfcianaaDoorvqgB19
import Derived.Test.YtcmcnfjdfcianaaDoorvqgB13
set_option linter.unusedVariables false
set_option linter.unusedSimpArgs false
namespace Go.Sy
namespace Bk
open Go.Proofs
attribute [local irreducible] atCall HT runOps runD onC onE onO onG goV goA goS onSt onGuard
end Bk
end Go.Sy
