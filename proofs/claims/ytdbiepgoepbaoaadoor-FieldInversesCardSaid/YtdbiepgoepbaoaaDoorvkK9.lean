/- What the document reckons: sums, differences. -/
import Derived.Test.YtdbiepgoepbaoaaDoorvkK8
import Derived.Test.YtdbiepgoepbaoaaDoorvE3
set_option linter.unusedVariables false
set_option linter.unusedSimpArgs false
namespace Go.Sy
open Go.Proofs
attribute [local irreducible] atCall HT runOps runD onC onE onO onG goV goA goS onSt onGuard
end Go.Sy

