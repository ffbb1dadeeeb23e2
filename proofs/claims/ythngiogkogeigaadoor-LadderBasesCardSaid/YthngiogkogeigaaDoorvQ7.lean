/- Products in sixteen digits. -/
import Derived.Test.YthngiogkogeigaaDoorvQ5
set_option linter.unusedVariables false
set_option linter.unusedSimpArgs false
namespace Go.Sy
structure PrI (x y : List UInt64) (i : Nat) (z : List UInt64) : Prop where
  len : z.length = 32
  le : ∀ l, l < 32 → (fL z l).toNat ≤ i * 16 * 4294967296
  val : valF 65536 (fL z) 32 = valF 65536 (fL x) i * valF 65536 (fL y) 16
structure PrJ (x y : List UInt64) (i j : Nat) (z : List UInt64) : Prop where
  len : z.length = 32
  le : ∀ l, l < 32 → (fL z l).toNat ≤ (i * 16 + j) * 4294967296
  val : valF 65536 (fL z) 32 = valF 65536 (fL x) i * valF 65536 (fL y) 16 + 65536 ^ i * ((fL x i).toNat * valF 65536 (fL y) j)
def z32 : List UInt64 := List.replicate 32 0
theorem fL_z32 (l : Nat) : fL z32 l = 0 := by
  simp only [fL, z32, List.getD, List.getElem?_replicate]
  split <;> rfl
theorem valF_zero {g : Nat → UInt64} (h : ∀ i, g i = 0) : ∀ n, valF 65536 g n = 0
  | 0 => rfl
  | n + 1 => by
    rw [valF, valF_zero h n, h n]
    have : (0 : UInt64).toNat = 0 := rfl
    rw [this]; simp
variable {x y z : List UInt64} {i j : Nat}
theorem pri_zero (x y : List UInt64) : PrI x y 0 z32 := by
  refine ⟨rfl, fun l _ => ?_, ?_⟩
  · rw [fL_z32]; exact Nat.zero_le _
  · rw [valF_zero fL_z32]; simp [valF]
theorem prj_zero (h : PrI x y i z) : PrJ x y i 0 z := by
  refine ⟨h.len, fun l hl => by simpa using h.le l hl, ?_⟩
  rw [h.val]; simp [valF]
theorem prj_full (h : PrJ x y i 16 z) : PrI x y (i + 1) z := by
  refine ⟨h.len, fun l hl => Nat.le_trans (h.le l hl) (Nat.le_of_eq (by rw [show (i + 1) * 16 = i * 16 + 16 from Nat.succ_mul i 16])), ?_⟩
  rw [h.val, show valF 65536 (fL x) (i + 1) = valF 65536 (fL x) i + 65536 ^ i * (fL x i).toNat from rfl]
  generalize valF 65536 (fL y) 16 = Y
  generalize 65536 ^ i = E
  grind
theorem mul_lt {a b : UInt64} (h1 : a.toNat < 65536) (h2 : b.toNat < 65536) : a.toNat * b.toNat ≤ 4294836225 := by
  have := Nat.mul_le_mul (Nat.le_of_lt_succ h1) (Nat.le_of_lt_succ h2)
  exact this
theorem prj_step (h1 : ∀ i, i < 16 → (fL x i).toNat < 65536) (h2 : ∀ i, i < 16 → (fL y i).toNat < 65536) (hi : i < 16) (hj : j < 16) (h : PrJ x y i j z) : PrJ x y i (j + 1) (z.set (i + j) (fL z (i + j) + fL x i * fL y j)) := by
  have hm := mul_lt (h1 i hi) (h2 j hj)
  have hz := h.le (i + j) (by omega)
  have hK : (i * 16 + j) * 4294967296 ≤ 255 * 4294967296 := Nat.mul_le_mul_right 4294967296 (by omega)
  have hK2 : (i * 16 + (j + 1)) * 4294967296 = (i * 16 + j) * 4294967296 + 4294967296 := by rw [← Nat.add_assoc, Nat.succ_mul]
  have hval := h.val
  obtain ⟨K, hKe⟩ : ∃ K, (i * 16 + j) * 4294967296 = K := ⟨_, rfl⟩
  have hle : ∀ l, l < 32 → (fL z l).toNat ≤ K := fun l hl => hKe ▸ h.le l hl
  rw [hKe] at hz hK hK2
  have e1 : (fL x i * fL y j).toNat = (fL x i).toNat * (fL y j).toNat := tn_mul (by omega)
  have e2 : (fL z (i + j) + fL x i * fL y j).toNat = (fL z (i + j)).toNat + (fL x i).toNat * (fL y j).toNat := by
    rw [tn_add (by rw [e1]; omega), e1]
  have hs : i + j < z.length := by rw [h.len]; omega
  refine ⟨by rw [List.length_set]; exact h.len, fun l hl => ?_, ?_⟩
  · rw [fL_set hs]
    split
    · rw [e2, hK2]; omega
    · have := hle l hl; rw [hK2]; omega
  · have hv := valF_set (B := 65536) (f := fL (z.set (i + j) (fL z (i + j) + fL x i * fL y j))) (g := fL z) (k := i + j) (fun l hl => by rw [fL_set hs, if_neg (by omega)]) (n := 32) (by omega)
    rw [fL_set hs, if_pos rfl, e2, hval, Nat.pow_add] at hv
    rw [show valF 65536 (fL y) (j + 1) = valF 65536 (fL y) j + 65536 ^ j * (fL y j).toNat from rfl]
    generalize valF 65536 (fL (z.set (i + j) (fL z (i + j) + fL x i * fL y j))) 32 = V at *
    generalize (fL z (i + j)).toNat = a at *
    generalize (fL x i).toNat = p at *
    generalize (fL y j).toNat = q at *
    generalize 65536 ^ i = E at *
    generalize 65536 ^ j = F at *
    grind
theorem valF_split (B : Nat) (g : Nat → UInt64) (m : Nat) : ∀ n, valF B g (m + n) = valF B g m + B ^ m * valF B (fun i => g (i + m)) n
  | 0 => by simp [valF]
  | n + 1 => by
    rw [← Nat.add_assoc, valF, valF_split B g m n, valF, Nat.pow_add, Nat.add_comm n m]
    grind
theorem valF_lin {f g : Nat → UInt64} : ∀ {n : Nat}, (∀ i, i < n → (f i).toNat ≤ 1152921504606846976) → (∀ i, i < n → (g i).toNat ≤ 72057594037927936) → valF 65536 (fun i => f i + 38 * g i) n = valF 65536 f n + 38 * valF 65536 g n
  | 0, _, _ => rfl
  | n + 1, hf, hg => by
    have h1 := hf n (by omega)
    have h2 := hg n (by omega)
    have e : (f n + 38 * g n).toNat = (f n).toNat + 38 * (g n).toNat := by rw [tn_add (by rw [tn38' h2]; omega), tn38' h2]
    simp only [valF]
    rw [valF_lin (fun i hi => hf i (by omega)) (fun i hi => hg i (by omega)), e]
    grind
def folD (z : List UInt64) : List UInt64 := (List.range 16).map fun i => fL z i + 38 * fL z (16 + i)
theorem folD_length (z : List UInt64) : (folD z).length = 16 := by simp [folD]
theorem folD_val (hx : x.length = 16) (hy : y.length = 16) (h : PrI x y 16 z) : valB 65536 (folD z) % p25 = valB 65536 x * valB 65536 y % p25 ∧ ∀ i, i < 16 → (fL (folD z) i).toNat ≤ 70368744177664 := by
  have hb : ∀ l, l < 32 → (fL z l).toNat ≤ 1099511627776 := fun l hl => h.le l hl
  refine ⟨?_, fun i hi => ?_⟩
  · have hs := valF_split 65536 (fL z) 16 16
    rw [h.val, ← valB_fL hx, ← valB_fL hy, e16] at hs
    have hf : (fun i => fL z i + 38 * fL z (16 + i)) = (fun i => fL z i + 38 * (fun i => fL z (i + 16)) i) := by funext i; rw [Nat.add_comm 16 i]
    rw [folD, valB_range, hf, valF_lin (fun i hi => by have := hb i (by omega); omega) (fun i hi => by have := hb (i + 16) (by omega); omega)]
    rw [hs, ← add_2p _ (valF 65536 (fun i => fL z (i + 16)) 16), m4_p]
    congr 1
    generalize p25 = p
    grind
  · rw [folD, range_fL hi]
    have h1 := hb i (by omega)
    have h2 := hb (16 + i) (by omega)
    rw [tn_add (by rw [tn38' (by omega)]; omega), tn38' (by omega)]; omega
end Go.Sy

