/- Numbers read off bytes, the lowest first; bytes of a number. -/
import Derived.Test.YtcmcnfjdfcianaaDoorvP2
set_option linter.unusedVariables false
set_option linter.unusedSimpArgs false
namespace Go.Sy
def leN : List UInt8 → Nat
  | [] => 0
  | b :: r => b.toNat + 256 * leN r
def lev (l : List UInt8) : UInt64 := UInt64.ofNat (leN l)
theorem leN_lt : ∀ l : List UInt8, leN l < 256 ^ l.length
  | [] => by simp [leN]
  | b :: r => by
    have := leN_lt r; have h := b.toNat_lt
    simp only [leN, List.length_cons, Nat.pow_succ]; omega
theorem lev_nat {l : List UInt8} (h : l.length ≤ 8) : (lev l).toNat = leN l := by
  have h1 := leN_lt l
  have h2 : 256 ^ l.length ≤ 256 ^ 8 := Nat.pow_le_pow_right (by decide) h
  simp only [lev, UInt64.toNat_ofNat']
  exact Nat.mod_eq_of_lt (by omega)
theorem b64_nat (b : UInt8) : (UInt64.ofNat b.toNat).toNat = b.toNat := by
  have := b.toNat_lt
  simp only [UInt64.toNat_ofNat']; omega
theorem lev_shl {r : List UInt8} (b : UInt8) (h : r.length ≤ 7) : shl64 (lev r) 8 ||| UInt64.ofNat b.toNat = lev (b :: r) := by
  have h1 := leN_lt r
  have h2 : 256 ^ r.length ≤ 256 ^ 7 := Nat.pow_le_pow_right (by decide) h
  have hb := b.toNat_lt
  have e : (shl64 (lev r) 8).toNat = 2 ^ 8 * leN r := by rw [tn_shl, lev_nat (by omega)]; omega
  apply UInt64.toNat_inj.mp
  rw [UInt64.or_comm, tn_or 8 (by rw [b64_nat]; omega) e, e, lev_nat (by simp only [List.length_cons]; omega), b64_nat]
  simp only [leN]
theorem lev_mul (r : List UInt8) (b : UInt8) : lev r * 256 + UInt64.ofNat b.toNat = lev (b :: r) := by
  apply UInt64.toNat_inj.mp
  have e : (256 : UInt64).toNat = 256 := rfl
  rw [UInt64.toNat_add, UInt64.toNat_mul, b64_nat, e]
  simp only [lev, UInt64.toNat_ofNat', leN]
  omega
def lowB (n : UInt64) : Nat → List UInt8
  | 0 => []
  | k + 1 => UInt8.ofNat n.toNat :: lowB (n / 256) k
theorem lowB_length : ∀ (n : UInt64) (k : Nat), (lowB n k).length = k
  | _, 0 => rfl
  | n, k + 1 => by simp [lowB, lowB_length]
theorem leN_lowB : ∀ (k : Nat) (n : UInt64), leN (lowB n k) = n.toNat % 256 ^ k
  | 0, n => by simp [lowB, leN, Nat.mod_one]
  | k + 1, n => by
    have e : (n / 256).toNat = n.toNat / 256 := by rw [UInt64.toNat_div]; rfl
    simp only [lowB, leN, leN_lowB k, e, UInt8.toNat_ofNat']
    show n.toNat % 256 + 256 * (n.toNat / 256 % 256 ^ k) = n.toNat % 256 ^ (k + 1)
    rw [show 256 ^ (k + 1) = 256 * 256 ^ k from by rw [Nat.pow_succ, Nat.mul_comm], Nat.mod_mul]
theorem lev_low8 (n : UInt64) : lev (lowB n 8) = n := by
  apply UInt64.toNat_inj.mp
  rw [lev_nat (by rw [lowB_length]; omega), leN_lowB]
  exact Nat.mod_eq_of_lt n.toNat_lt
theorem and_step {A a M m : Nat} (ha : a < 256) (hm : m < 256) : (a + 256 * A) &&& (m + 256 * M) = (a &&& m) + 256 * (A &&& M) := by
  have h1 : ((a + 256 * A) &&& (m + 256 * M)) / 2 ^ 8 = A &&& M := by
    rw [Nat.and_div_two_pow]; congr 1 <;> omega
  have h2 : ((a + 256 * A) &&& (m + 256 * M)) % 2 ^ 8 = a &&& m := by
    rw [Nat.and_mod_two_pow]; congr 1 <;> omega
  omega
end Go.Sy
