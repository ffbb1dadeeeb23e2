/- Words of 64 bits, told as numbers; five parts of 26 bits, carried. -/
import Derived.Test.YthngiogkogeigaaDoorvE3
set_option linter.unusedVariables false
set_option linter.unusedSimpArgs false
namespace Go.Sy
theorem tn_shl (x : UInt64) (c : Nat) : (shl64 x c).toNat = x.toNat * 2 ^ c % 18446744073709551616 := by
  simp [shl64, UInt64.toNat_ofNat']
theorem tn_shr (x : UInt64) (c : Nat) : (shr64 x c).toNat = x.toNat / 2 ^ c := by
  have h := x.toNat_lt
  have h2 : x.toNat / 2 ^ c ≤ x.toNat := Nat.div_le_self _ _
  simp only [shr64, UInt64.toNat_ofNat']
  exact Nat.mod_eq_of_lt (by omega)
theorem tn_mask {m : UInt64} (k : Nat) (hm : m.toNat = 2 ^ k - 1) (x : UInt64) : (x &&& m).toNat = x.toNat % 2 ^ k := by
  rw [UInt64.toNat_and, hm, Nat.and_two_pow_sub_one_eq_mod]
theorem tn_or {x y : UInt64} (k : Nat) (hx : x.toNat < 2 ^ k) {z : Nat} (hy : y.toNat = 2 ^ k * z) : (x ||| y).toNat = x.toNat + y.toNat := by
  rw [UInt64.toNat_or, hy, Nat.or_comm, ← Nat.two_pow_add_eq_or_of_lt hx]; omega
theorem tn_add {x y : UInt64} (h : x.toNat + y.toNat < 18446744073709551616) : (x + y).toNat = x.toNat + y.toNat := by
  rw [UInt64.toNat_add]; exact Nat.mod_eq_of_lt h
theorem tn_mul {x y : UInt64} (h : x.toNat * y.toNat < 18446744073709551616) : (x * y).toNat = x.toNat * y.toNat := by
  rw [UInt64.toNat_mul]; exact Nat.mod_eq_of_lt h
end Go.Sy

