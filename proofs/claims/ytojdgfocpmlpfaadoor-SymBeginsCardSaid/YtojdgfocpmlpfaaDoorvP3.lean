/- Numbers read off bytes, the lowest first; bytes of a number. -/
import Derived.Test.YtojdgfocpmlpfaaDoorvP2
set_option linter.unusedVariables false
set_option linter.unusedSimpArgs false
namespace Go.Sy
def leN : List UInt8 → Nat
  | [] => 0
  | b :: r => b.toNat + 256 * leN r
def lev (l : List UInt8) : UInt64 := UInt64.ofNat (leN l)
theorem leN_lt : ∀ l : List UInt8, leN l < 256 ^ l.length
  | [] => by simp [leN]
  | b :: r => by
    have := leN_lt r; have h := b.toNat_lt
    simp only [leN, List.length_cons, Nat.pow_succ]; omega
theorem lev_nat {l : List UInt8} (h : l.length ≤ 8) : (lev l).toNat = leN l := by
  have h1 := leN_lt l
  have h2 : 256 ^ l.length ≤ 256 ^ 8 := Nat.pow_le_pow_right (by decide) h
  simp only [lev, UInt64.toNat_ofNat']
  exact Nat.mod_eq_of_lt (by omega)
theorem b64_nat (b : UInt8) : (UInt64.ofNat b.toNat).toNat = b.toNat := by
  have := b.toNat_lt
  simp only [UInt64.toNat_ofNat']; omega
theorem lev_mul (r : List UInt8) (b : UInt8) : lev r * 256 + UInt64.ofNat b.toNat = lev (b :: r) := by
  apply UInt64.toNat_inj.mp
  have e : (256 : UInt64).toNat = 256 := rfl
  rw [UInt64.toNat_add, UInt64.toNat_mul, b64_nat, e]
  simp only [lev, UInt64.toNat_ofNat', leN]
  omega
def lowB (n : UInt64) : Nat → List UInt8
  | 0 => []
  | k + 1 => UInt8.ofNat n.toNat :: lowB (n / 256) k
theorem lowB_length : ∀ (n : UInt64) (k : Nat), (lowB n k).length = k
  | _, 0 => rfl
  | n, k + 1 => by simp [lowB, lowB_length]
end Go.Sy

