/- Powers below the prime, from the top and from the bottom. -/
import Derived.Test.YthngiogkogeigaaDoorvQ7
set_option linter.unusedVariables false
set_option linter.unusedSimpArgs false
namespace Go.Sy
def eP : Nat := p25 - 2
def pw (n e : Nat) : Nat := n ^ e % p25
theorem p25_pos : 0 < p25 := by decide
theorem pw_lt (n e : Nat) : pw n e < p25 := Nat.mod_lt _ p25_pos
theorem pw_mul (n d e : Nat) : pw n d * pw n e % p25 = pw n (d + e) := by
  rw [pw, pw, pw, Nat.pow_add, ← Nat.mul_mod]
theorem pw_mul_one (n d : Nat) (hn : n < p25) : pw n d * n % p25 = pw n (d + 1) := by
  rw [pw, pw, Nat.pow_succ, Nat.mod_mul_mod]
theorem pw_zero (n : Nat) : pw n 0 = 1 := by
  rw [pw, Nat.pow_zero]; decide
theorem pw_one (n : Nat) (hn : n < p25) : pw n 1 = n := by
  rw [pw, Nat.pow_one]; exact Nat.mod_eq_of_lt hn
theorem pw_sq (n e : Nat) : pw n e * pw n e % p25 = pw n (2 * e) := by rw [pw_mul, Nat.two_mul]
theorem eP_step (k : Nat) (hk : k < 255) : eP / 2 ^ k = 2 * (eP / 2 ^ (k + 1)) + (if k = 4 ∨ k = 2 then 0 else 1) := by
  have : ∀ k < 255, eP / 2 ^ k = 2 * (eP / 2 ^ (k + 1)) + (if k = 4 ∨ k = 2 then 0 else 1) := by decide +kernel
  exact this k hk
theorem eP_top : eP / 2 ^ 255 = 0 := by decide +kernel
def topE (k : Nat) : Nat := eP / 2 ^ k
theorem topE_full : topE 255 = 0 := eP_top
theorem topE_zero : topE 0 = eP := by simp [topE]
theorem top_skip {k : Nat} (hk : k < 255) (h : k = 4 ∨ k = 2) : topE k = 2 * topE (k + 1) := by
  have := eP_step k hk; rw [if_pos h] at this; exact this
theorem top_take {k : Nat} (hk : k < 255) (h : ¬ (k = 4 ∨ k = 2)) : topE k = 2 * topE (k + 1) + 1 := by
  have := eP_step k hk; rw [if_neg h] at this; exact this
def exL : List UInt64 := [65515, 65535, 65535, 65535, 65535, 65535, 65535, 65535, 65535, 65535, 65535, 65535, 65535, 65535, 65535, 32767]
theorem exL_length : exL.length = 16 := rfl
def bitE (i : Nat) : UInt64 := shr64 (exL.getD (i / 16) 0) (i % 16) % 2
def lowE (i : Nat) : Nat := eP % 2 ^ i
theorem low_step {i : Nat} (hi : i < 255) : lowE (i + 1) = lowE i + (if bitE i = 1 then 2 ^ i else 0) := by
  have : ∀ i < 255, lowE (i + 1) = lowE i + (if bitE i = 1 then 2 ^ i else 0) := by decide +kernel
  exact this i hi
theorem low_zero : lowE 0 = 0 := by decide +kernel
theorem low_full : lowE 255 = eP := by decide +kernel
theorem low_take {i : Nat} (hi : i < 255) (h : bitE i = 1) : lowE (i + 1) = lowE i + 2 ^ i := by rw [low_step hi, if_pos h]
theorem low_skip {i : Nat} (hi : i < 255) (h : ¬ bitE i = 1) : lowE (i + 1) = lowE i := by rw [low_step hi, if_neg h, Nat.add_zero]
theorem pw_two (n i : Nat) : pw n (2 ^ i) * pw n (2 ^ i) % p25 = pw n (2 ^ (i + 1)) := by rw [pw_sq, Nat.pow_succ, Nat.mul_comm]
end Go.Sy

