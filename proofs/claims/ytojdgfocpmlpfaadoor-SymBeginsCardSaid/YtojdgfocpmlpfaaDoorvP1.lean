/- Words of 64 bits, told as numbers; five parts of 26 bits, carried. -/
import Derived.Test.YtojdgfocpmlpfaaDoorvE3
set_option linter.unusedVariables false
set_option linter.unusedSimpArgs false
namespace Go.Sy
end Go.Sy

