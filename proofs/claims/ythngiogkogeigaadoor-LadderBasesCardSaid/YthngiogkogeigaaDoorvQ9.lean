/- Words of bytes, bytes of words. -/
import Derived.Test.YthngiogkogeigaaDoorvQ5
import Derived.Test.YthngiogkogeigaaDoorvP3
set_option linter.unusedVariables false
set_option linter.unusedSimpArgs false
namespace Go.Sy
theorem d256 : (256 : UInt64).toNat = 256 := rfl
theorem q_lo (a : UInt64) (k : Nat) : (q16 a k).toUInt8 = (shr64 a k).toUInt8 := by
  refine UInt8.toNat_inj.mp ?_
  rw [UInt64.toNat_toUInt8, UInt64.toNat_toUInt8, q16, UInt64.toNat_mod, d16]
  omega
theorem q_hi (a : UInt64) (k : Nat) : (q16 a k / 256).toUInt8 = (shr64 a (k + 8)).toUInt8 := by
  refine UInt8.toNat_inj.mp ?_
  rw [UInt64.toNat_toUInt8, UInt64.toNat_toUInt8, UInt64.toNat_div, q16, UInt64.toNat_mod, d16, d256, tn_shr, tn_shr, Nat.pow_add, ← Nat.div_div_eq_div_mul]
  omega
def byW (a : UInt64) : List UInt8 := [(shr64 a 0).toUInt8, (shr64 a 8).toUInt8, (shr64 a 16).toUInt8, (shr64 a 24).toUInt8, (shr64 a 32).toUInt8, (shr64 a 40).toUInt8, (shr64 a 48).toUInt8, (shr64 a 56).toUInt8]
def by4 (a b c d : UInt64) : List UInt8 := byW a ++ (byW b ++ (byW c ++ byW d))
def b6 (x : UInt8) : UInt64 := x.toUInt64
theorem b6_nat (x : UInt8) : (b6 x).toNat = x.toNat := UInt8.toNat_toUInt64 x
def orW (x0 x1 x2 x3 x4 x5 x6 x7 : UInt8) : UInt64 := 0 ||| shl64 (b6 x0) 0 ||| shl64 (b6 x1) 8 ||| shl64 (b6 x2) 16 ||| shl64 (b6 x3) 24 ||| shl64 (b6 x4) 32 ||| shl64 (b6 x5) 40 ||| shl64 (b6 x6) 48 ||| shl64 (b6 x7) 56
def hoW (x0 x1 x2 x3 x4 x5 x6 : UInt8) (t : UInt64) : UInt64 := ((((((t * 256 + b6 x6) * 256 + b6 x5) * 256 + b6 x4) * 256 + b6 x3) * 256 + b6 x2) * 256 + b6 x1) * 256 + b6 x0
def byN (x0 x1 x2 x3 x4 x5 x6 x7 : Nat) : Nat := x0 + 256 * (x1 + 256 * (x2 + 256 * (x3 + 256 * (x4 + 256 * (x5 + 256 * (x6 + 256 * x7))))))
theorem or_step {X y : UInt64} {k n m : Nat} (hX : X.toNat = n) (hn : n < 2 ^ k) (hy : y.toNat = m) (hk : m * 2 ^ k < 18446744073709551616) : (X ||| shl64 y k).toNat = n + 2 ^ k * m := by
  have hs : (shl64 y k).toNat = 2 ^ k * m := by rw [tn_shl, hy, Nat.mod_eq_of_lt hk, Nat.mul_comm]
  rw [tn_or k (by rw [hX]; exact hn) hs, hX, hs]
theorem orW_val (x0 x1 x2 x3 x4 x5 x6 x7 : UInt8) : (orW x0 x1 x2 x3 x4 x5 x6 x7).toNat = byN x0.toNat x1.toNat x2.toNat x3.toNat x4.toNat x5.toNat x6.toNat x7.toNat := by
  have h0 := x0.toNat_lt; have h1 := x1.toNat_lt; have h2 := x2.toNat_lt; have h3 := x3.toNat_lt
  have h4 := x4.toNat_lt; have h5 := x5.toNat_lt; have h6 := x6.toNat_lt; have h7 := x7.toNat_lt
  have e0 := or_step (X := 0) (n := 0) (k := 0) rfl (by decide) (b6_nat x0) (by omega)
  have e1 := or_step (k := 8) e0 (by omega) (b6_nat x1) (by omega)
  have e2 := or_step (k := 16) e1 (by omega) (b6_nat x2) (by omega)
  have e3 := or_step (k := 24) e2 (by omega) (b6_nat x3) (by omega)
  have e4 := or_step (k := 32) e3 (by omega) (b6_nat x4) (by omega)
  have e5 := or_step (k := 40) e4 (by omega) (b6_nat x5) (by omega)
  have e6 := or_step (k := 48) e5 (by omega) (b6_nat x6) (by omega)
  have e7 := or_step (k := 56) e6 (by omega) (b6_nat x7) (by omega)
  rw [orW, e7, byN]; omega
theorem ho_step {t : UInt64} {n : Nat} (x : UInt8) (ht : t.toNat = n) (hn : n < 72057594037927936) : (t * 256 + b6 x).toNat = n * 256 + x.toNat := by
  have hx := x.toNat_lt
  have e : (t * 256).toNat = n * 256 := by rw [tn_mul (by rw [ht, d256]; omega), ht, d256]
  rw [tn_add (by rw [e, b6_nat]; omega), e, b6_nat]
theorem hoW_val (x0 x1 x2 x3 x4 x5 x6 : UInt8) {t : UInt64} {x7 : Nat} (ht : t.toNat = x7) (h7 : x7 < 256) : (hoW x0 x1 x2 x3 x4 x5 x6 t).toNat = byN x0.toNat x1.toNat x2.toNat x3.toNat x4.toNat x5.toNat x6.toNat x7 := by
  have h0 := x0.toNat_lt; have h1 := x1.toNat_lt; have h2 := x2.toNat_lt; have h3 := x3.toNat_lt
  have h4 := x4.toNat_lt; have h5 := x5.toNat_lt; have h6 := x6.toNat_lt
  have e6 := ho_step x6 ht (by omega)
  have e5 := ho_step x5 e6 (by omega)
  have e4 := ho_step x4 e5 (by omega)
  have e3 := ho_step x3 e4 (by omega)
  have e2 := ho_step x2 e3 (by omega)
  have e1 := ho_step x1 e2 (by omega)
  have e0 := ho_step x0 e1 (by omega)
  rw [hoW, e0, byN]; omega
theorem top_val (x0 x1 x2 x3 x4 x5 x6 x7 : UInt8) : (orW x0 x1 x2 x3 x4 x5 x6 x7 &&& 9223372036854775807).toNat = byN x0.toNat x1.toNat x2.toNat x3.toNat x4.toNat x5.toNat x6.toNat (x7.toNat % 128) := by
  have h0 := x0.toNat_lt; have h1 := x1.toNat_lt; have h2 := x2.toNat_lt; have h3 := x3.toNat_lt
  have h4 := x4.toNat_lt; have h5 := x5.toNat_lt; have h6 := x6.toNat_lt; have h7 := x7.toNat_lt
  rw [tn_mask 63 rfl, orW_val]
  simp only [byN]
  omega
theorem first_val (x : UInt8) : (0 * 256 + b6 x).toNat = x.toNat := by
  have := ho_step x (t := 0) (n := 0) rfl (by decide)
  rw [this]; omega
theorem first_mod (x : UInt8) : (0 * 256 + b6 x % 128).toNat = x.toNat % 128 := by
  have e : (0 * 256 : UInt64) = 0 := rfl
  rw [e, UInt64.zero_add, UInt64.toNat_mod, b6_nat]; rfl
theorem cons_of {α : Type} {l : List α} {n : Nat} (h : l.length = n + 1) : ∃ x r, l = x :: r ∧ r.length = n := by
  cases l with
  | nil => simp at h
  | cons x r => exact ⟨x, r, rfl, by simpa using h⟩
end Go.Sy

