/- Sums and differences below the prime. -/
import Derived.Test.YtdbiepgoepbaoaaDoorvkK4
set_option linter.unusedVariables false
set_option linter.unusedSimpArgs false
namespace Go.Sy
open Go.Proofs
attribute [local irreducible] atCall HT runOps runD onC onE onO onG goV goA goS onSt onGuard
theorem mod_m4 (x : Nat) : x % p25 < 115792089237316195423570985008687907853269984665640564039457584007913129639936 := by
 have := Nat.mod_lt x (show 0 < p25 by decide)
 have := p25_is
 omega
end Go.Sy

