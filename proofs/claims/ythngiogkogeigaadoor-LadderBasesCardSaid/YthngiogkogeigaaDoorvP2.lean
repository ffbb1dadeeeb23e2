/- Five parts of 26 bits: carried, whole, multiplied. -/
import Derived.Test.YthngiogkogeigaaDoorvP1
set_option linter.unusedVariables false
set_option linter.unusedSimpArgs false
namespace Go.Sy
end Go.Sy

