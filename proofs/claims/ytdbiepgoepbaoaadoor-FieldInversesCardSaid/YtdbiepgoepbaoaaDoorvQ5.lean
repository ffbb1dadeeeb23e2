/- Sums of digits; who is below the prime. -/
import Derived.Test.YtdbiepgoepbaoaaDoorvQ4
set_option linter.unusedVariables false
set_option linter.unusedSimpArgs false
namespace Go.Sy
theorem not_ge (n : Nat) : (!decide (p25 ≤ n)) = decide (n < p25) := by
  rw [← decide_not]; exact decide_eq_decide.mpr Nat.not_le
theorem mod_lt4 (n : Nat) : n % p25 < m4 := by
  have := Nat.mod_lt n (show 0 < p25 by decide)
  have := p25_is
  have := m4_is
  omega
end Go.Sy

