/- Numbers read off bytes, the lowest first; bytes of a number. -/
import Derived.Test.YthngiogkogeigaaDoorvP2
set_option linter.unusedVariables false
set_option linter.unusedSimpArgs false
namespace Go.Sy
end Go.Sy

