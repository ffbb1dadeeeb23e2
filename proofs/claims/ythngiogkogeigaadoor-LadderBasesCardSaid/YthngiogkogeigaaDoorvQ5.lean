/- Sums of digits; who is below the prime. -/
import Derived.Test.YthngiogkogeigaaDoorvQ4
set_option linter.unusedVariables false
set_option linter.unusedSimpArgs false
namespace Go.Sy
theorem not_ge (n : Nat) : (!decide (p25 ≤ n)) = decide (n < p25) := by
  rw [← decide_not]; exact decide_eq_decide.mpr Nat.not_le
theorem mod_lt4 (n : Nat) : n % p25 < m4 := by
  have := Nat.mod_lt n (show 0 < p25 by decide)
  have := p25_is
  have := m4_is
  omega
theorem valF_add {f g : Nat → UInt64} {K : Nat} (hK : K ≤ 4611686018427387904) : ∀ {n : Nat}, (∀ i, i < n → (f i).toNat ≤ K) → (∀ i, i < n → (g i).toNat ≤ K) → valF 65536 (fun i => f i + g i) n = valF 65536 f n + valF 65536 g n
  | 0, _, _ => rfl
  | n + 1, hf, hg => by
    have h1 := hf n (by omega)
    have h2 := hg n (by omega)
    have e : (f n + g n).toNat = (f n).toNat + (g n).toNat := tn_add (by omega)
    simp only [valF]
    rw [valF_add hK (fun i hi => hf i (by omega)) (fun i hi => hg i (by omega)), e, Nat.mul_add]
    omega
def addD (x y : List UInt64) : List UInt64 := (List.range 16).map fun i => fL x i + fL y i
theorem addD_length (x y : List UInt64) : (addD x y).length = 16 := by simp [addD]
theorem addD_val {x y : List UInt64} (hx : x.length = 16) (hy : y.length = 16) (h1 : ∀ i, i < 16 → (fL x i).toNat < 65536) (h2 : ∀ i, i < 16 → (fL y i).toNat < 65536) : valB 65536 (addD x y) = valB 65536 x + valB 65536 y ∧ ∀ i, i < 16 → (fL (addD x y) i).toNat ≤ 70368744177664 := by
  refine ⟨?_, fun i hi => ?_⟩
  · rw [addD, valB_range, valF_add (K := 65536) (by decide) (fun i hi => Nat.le_of_lt (h1 i hi)) (fun i hi => Nat.le_of_lt (h2 i hi)), ← valB_fL hx, ← valB_fL hy]
  · rw [addD, range_fL hi]
    have := h1 i hi
    have := h2 i hi
    rw [tn_add (by omega)]; omega
theorem dif_mod {n m : Nat} (hn : n < p25) (hm : m < p25) : (n + (p25 - m) % p25) % p25 = (n + p25 - m) % p25 := by
  rw [Nat.add_mod_mod, Nat.add_sub_assoc (Nat.le_of_lt hm)]
end Go.Sy

