/- The ladder as a whole, in plain numbers; secrets clamped. -/
import Derived.Test.YthngiogkogeigaaDoorvR1
import Derived.Test.YthngiogkogeigaaDoorvQ9
set_option linter.unusedVariables false
set_option linter.unusedSimpArgs false
namespace Go.Sy
def bitB (k : List UInt8) (i : Nat) : UInt8 := shr8 (k.getD (i / 8) 0) (i % 8) % 2
def oft (k : List UInt8) (u : Nat) : Nat → Pt × Pt
  | 0 => (⟨1, 0⟩, ⟨u, 1⟩)
  | m + 1 => if bitB k (254 - m) = 1 then (withR (oft k u m).1 (oft k u m).2 u, dblR (oft k u m).2) else (dblR (oft k u m).1, withR (oft k u m).1 (oft k u m).2 u)
theorem dblR_ok (p : Pt) : (dblR p).ok := ⟨fM_lt _ _, fM_lt _ _⟩
theorem withR_ok (p q : Pt) (u : Nat) : (withR p q u).ok := ⟨fM_lt _ _, fM_lt _ _⟩
theorem oft_ok (k : List UInt8) {u : Nat} (hu : u < p25) : ∀ m, (oft k u m).1.ok ∧ (oft k u m).2.ok
  | 0 => ⟨⟨show (1 : Nat) < p25 by decide, show (0 : Nat) < p25 by decide⟩, ⟨hu, show (1 : Nat) < p25 by decide⟩⟩
  | m + 1 => by
    simp only [oft]
    split
    · exact ⟨withR_ok _ _ _, dblR_ok _⟩
    · exact ⟨dblR_ok _, withR_ok _ _ _⟩
def lastB (k : List UInt8) (y : Nat) : Bool := decide (y < 255) && decide (bitB k y = 1)
def clampB (k : List UInt8) : List UInt8 := (k.getD 0 0 &&& 248) :: ((k.drop 1).take 30 ++ [k.getD 31 0 &&& 127 ||| 64])
theorem clampB_length {k : List UInt8} (h : k.length = 32) : (clampB k).length = 32 := by
  simp [clampB, h]
theorem all8 {p : UInt8 → Prop} (h : ∀ n < 256, p (UInt8.ofNat n)) (x : UInt8) : p x := by
  have := h x.toNat x.toNat_lt
  rwa [UInt8.ofNat_toNat] at this
theorem clamp_lo (x : UInt8) : x - x % 8 = x &&& 248 := all8 (p := fun x => x - x % 8 = x &&& 248) (by decide +kernel) x
theorem clamp_hi (x : UInt8) : x % 64 + 64 = x &&& 127 ||| 64 := all8 (p := fun x => x % 64 + 64 = x &&& 127 ||| 64) (by decide +kernel) x
theorem bit_word (x : UInt8) : x.toUInt64 &&& 1 = if x % 2 = 1 then 1 else 0 := all8 (p := fun x => x.toUInt64 &&& 1 = if x % 2 = 1 then 1 else 0) (by decide +kernel) x
theorem x00 : (0 : UInt64) ^^^ 0 = 0 := rfl
theorem x01 : (0 : UInt64) ^^^ 1 = 1 := rfl
theorem x10 : (1 : UInt64) ^^^ 0 = 1 := rfl
theorem x11 : (1 : UInt64) ^^^ 1 = 0 := rfl
def frN (l : List UInt8) : Nat := vQ (orW (l.getD 0 0) (l.getD 1 0) (l.getD 2 0) (l.getD 3 0) (l.getD 4 0) (l.getD 5 0) (l.getD 6 0) (l.getD 7 0)) (orW (l.getD 8 0) (l.getD 9 0) (l.getD 10 0) (l.getD 11 0) (l.getD 12 0) (l.getD 13 0) (l.getD 14 0) (l.getD 15 0)) (orW (l.getD 16 0) (l.getD 17 0) (l.getD 18 0) (l.getD 19 0) (l.getD 20 0) (l.getD 21 0) (l.getD 22 0) (l.getD 23 0)) (orW (l.getD 24 0) (l.getD 25 0) (l.getD 26 0) (l.getD 27 0) (l.getD 28 0) (l.getD 29 0) (l.getD 30 0) (l.getD 31 0) &&& 9223372036854775807) % p25
theorem frN_lt (l : List UInt8) : frN l < p25 := Nat.mod_lt _ p25_pos
def ladN (k u : List UInt8) : Nat := fM (oft (clampB k) (frN u) 255).1.x (pw (oft (clampB k) (frN u) 255).1.z eP)
def wB (n : Nat) : List UInt8 := by4 (UInt64.ofNat (n % 18446744073709551616)) (UInt64.ofNat (n / 18446744073709551616 % 18446744073709551616)) (UInt64.ofNat (n / 18446744073709551616 / 18446744073709551616 % 18446744073709551616)) (UInt64.ofNat (n / 18446744073709551616 / 18446744073709551616 / 18446744073709551616 % 18446744073709551616))
theorem wB_length (n : Nat) : (wB n).length = 32 := rfl
theorem wB_of {n : Nat} {a b c d : UInt64} (h : w4 n = [a, b, c, d]) : by4 a b c d = wB n := by
  have e : w4 n = [UInt64.ofNat (n % 18446744073709551616), UInt64.ofNat (n / 18446744073709551616 % 18446744073709551616), UInt64.ofNat (n / 18446744073709551616 / 18446744073709551616 % 18446744073709551616), UInt64.ofNat (n / 18446744073709551616 / 18446744073709551616 / 18446744073709551616 % 18446744073709551616)] := rfl
  rw [e] at h
  simp only [List.cons.injEq, and_true] at h
  obtain ⟨rfl, rfl, rfl, rfl⟩ := h
  rfl
end Go.Sy

