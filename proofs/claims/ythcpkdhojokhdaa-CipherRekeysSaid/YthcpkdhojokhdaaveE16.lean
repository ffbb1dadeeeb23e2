/- Bytes added to a sum: the contracts joined; their law. -/
import Derived.Test.YthcpkdhojokhdaaveE15
set_option linter.unusedVariables false
set_option linter.unusedSimpArgs false
namespace Go.Sy
open Go.Proofs
attribute [local irreducible] atCall HT runOps runD onC onE onO onG goV goA goS onSt onGuard
end Go.Sy

