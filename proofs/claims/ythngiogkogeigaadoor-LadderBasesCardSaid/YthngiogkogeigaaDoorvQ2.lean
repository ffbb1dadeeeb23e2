/- Sums that are carried over, below the prime: in plain numbers. -/
import Derived.Test.YthngiogkogeigaaDoorvQ1
set_option linter.unusedVariables false
set_option linter.unusedSimpArgs false
namespace Go.Sy
theorem p25_is : p25 = 57896044618658097711785492504343953926634992332820282019728792003956564819949 := rfl
def m4 : Nat := 115792089237316195423570985008687907853269984665640564039457584007913129639936
theorem m4_is : m4 = 115792089237316195423570985008687907853269984665640564039457584007913129639936 := rfl
theorem m4_p : m4 = 2 * p25 + 38 := rfl
def plusN (n k : Nat) : Nat := if n + k < m4 then n + k else n + k - m4 + 38
theorem plusN_lt {n k : Nat} (hn : n < m4) (hk : k < 18446744073709551616) : plusN n k < m4 := by
  have := m4_is
  unfold plusN; split <;> omega
theorem add_2p (x c : Nat) : (x + 2 * p25 * c) % p25 = x % p25 := by
  rw [show x + 2 * p25 * c = x + p25 * (2 * c) from by rw [Nat.mul_comm 2 p25, Nat.mul_assoc]]
  exact Nat.add_mul_mod_self_left _ _ _
theorem plusN_mod (n k : Nat) : plusN n k % p25 = (n + k) % p25 := by
  unfold plusN; split
  · rfl
  · rename_i h
    have e2 : n + k = n + k - m4 + 38 + 2 * p25 * 1 := by
      have := m4_p
      generalize p25 = p at *
      generalize m4 = m at *
      omega
    rw [← add_2p (n + k - m4 + 38) 1, ← e2]
theorem fold_mod (s c t : Nat) (h : s + m4 * c = t) : plusN s (38 * c) % p25 = t % p25 := by
  have e : s + m4 * c = s + 38 * c + 2 * p25 * c := by rw [m4_p]; grind
  rw [plusN_mod, ← h, e, add_2p]
theorem vQ_one (k : UInt64) : vQ k 0 0 0 = k.toNat := by simp [vQ]
theorem tn38 {c : UInt64} (h : c.toNat ≤ 38) : (38 * c).toNat = 38 * c.toNat := by
  rw [UInt64.toNat_mul]
  have : (38 : UInt64).toNat = 38 := rfl
  rw [this]; exact Nat.mod_eq_of_lt (by omega)
end Go.Sy

