/- Lists of words read and changed place by place; carries and borrows in base 65536. -/
import Derived.Test.YthngiogkogeigaaDoorvQ2
import Derived.Test.YthngiogkogeigaaDoorvE2
set_option linter.unusedVariables false
set_option linter.unusedSimpArgs false
namespace Go.Sy
theorem u64_one {l : List UInt64} {i : Nat} (h : i < l.length) : List.take 1 (List.drop i (u64C l)) = [.pl (.u64 (l.getD i 0))] := by
  rw [List.drop_eq_getElem_cons (by simpa [u64C] using h), List.take_succ_cons, List.take_zero]
  simp [u64C, List.getD, List.getElem?_eq_getElem h]
theorem u64_len (l : List UInt64) : (u64C l).length = l.length := by simp [u64C]
theorem put_set64 {q : List UInt64} {j : Nat} (x : UInt64) (h : j < q.length) : List.take j (u64C q) ++ [L.pl (PL.u64 x)] ++ List.drop (j + 1) (u64C q) = u64C (q.set j x) := by
  rw [List.set_eq_take_append_cons_drop, if_pos h]; simp [u64C]
def valF (B : Nat) (g : Nat → UInt64) : Nat → Nat
  | 0 => 0
  | n + 1 => valF B g n + B ^ n * (g n).toNat
theorem valF_congr {B : Nat} {f g : Nat → UInt64} : ∀ {n : Nat}, (∀ i, i < n → f i = g i) → valF B f n = valF B g n
  | 0, _ => rfl
  | n + 1, h => by rw [valF, valF, valF_congr (fun i hi => h i (by omega)), h n (by omega)]
theorem take_snoc64 {l : List UInt64} {n : Nat} (h : n < l.length) : l.take (n + 1) = l.take n ++ [l.getD n 0] := by
  rw [List.take_succ_eq_append_getElem h]; simp [List.getD, List.getElem?_eq_getElem h]
theorem valB_take (B : Nat) (l : List UInt64) : ∀ {n : Nat}, n ≤ l.length → valB B (l.take n) = valF B (fun i => l.getD i 0) n
  | 0, _ => by simp [valB, valF]
  | n + 1, h => by
    rw [take_snoc64 h, valB_append, valB_take B l (by omega), List.length_take, Nat.min_eq_left (by omega)]
    simp [valB, valF]
theorem valB_valF (B : Nat) (l : List UInt64) : valB B l = valF B (fun i => l.getD i 0) l.length := by
  rw [← valB_take B l (Nat.le_refl _), List.take_length]
def preL (f : Nat → UInt64) (i : Nat) (x : List UInt64) : List UInt64 := (List.range i).map f ++ x.drop i
theorem preL_zero (f : Nat → UInt64) (x : List UInt64) : preL f 0 x = x := by simp [preL]
theorem preL_length {f : Nat → UInt64} {i : Nat} {x : List UInt64} (h : i ≤ x.length) : (preL f i x).length = x.length := by
  simp [preL]; omega
theorem preL_get {f : Nat → UInt64} {i j : Nat} {x : List UInt64} (h : i ≤ j) : (preL f i x).getD j 0 = x.getD j 0 := by
  simp only [preL, List.getD]
  rw [List.getElem?_append_right (by simpa using h)]
  simp only [List.length_map, List.length_range, List.getElem?_drop]
  rw [show i + (j - i) = j from by omega]
theorem preL_set {f : Nat → UInt64} {i : Nat} {x : List UInt64} (h : i < x.length) : (preL f i x).set i (f i) = preL f (i + 1) x := by
  simp only [preL]
  rw [List.set_append_right _ _ (by simp), List.length_map, List.length_range, Nat.sub_self, List.drop_eq_getElem_cons h, List.set_cons_zero, List.range_succ, List.map_append]
  simp
theorem preL_full {f : Nat → UInt64} {x : List UInt64} {n : Nat} (h : x.length = n) : preL f n x = (List.range n).map f := by
  simp [preL, ← h]
theorem rangeD {f : Nat → UInt64} {n i : Nat} (h : i < n) : ((List.range n).map f).getD i 0 = f i := by
  simp [List.getD, h]
theorem valB_range (B : Nat) (f : Nat → UInt64) (n : Nat) : valB B ((List.range n).map f) = valF B f n := by
  rw [valB_valF, List.length_map, List.length_range]
  exact valF_congr fun i hi => rangeD hi
theorem valF_lt {B : Nat} {f : Nat → UInt64} : ∀ {n : Nat}, (∀ i, i < n → (f i).toNat < B) → valF B f n < B ^ n
  | 0, _ => by simp [valF]
  | n + 1, h => by
    have h1 := valF_lt (n := n) (fun i hi => h i (by omega))
    have h2 := h n (by omega)
    have h3 : B ^ n * (f n).toNat + B ^ n ≤ B ^ n * B := by
      have := Nat.mul_le_mul_left (B ^ n) (Nat.succ_le_of_lt h2)
      rwa [Nat.mul_succ] at this
    rw [valF, Nat.pow_succ]; omega
theorem valF_le {f : Nat → UInt64} {K : Nat} : ∀ {n : Nat}, (∀ i, i < n → (f i).toNat ≤ K) → valF 65536 f n ≤ K * 65536 ^ n
  | 0, _ => by simp [valF]
  | n + 1, h => by
    have h1 := valF_le (n := n) (fun i hi => h i (by omega))
    have h2 := Nat.mul_le_mul_left (65536 ^ n) (h n (by omega))
    rw [valF, Nat.pow_succ]
    rw [Nat.mul_comm (65536 ^ n) K] at h2
    have h3 : K * (65536 ^ n * 65536) = K * 65536 ^ n * 65536 := by rw [Nat.mul_assoc]
    omega
def cyN (x : Nat → UInt64) : Nat → UInt64
  | 0 => 0
  | i + 1 => (cyN x i + x i) / 65536
def cyV (x : Nat → UInt64) (i : Nat) : UInt64 := (cyN x i + x i) % 65536
theorem d16 : (65536 : UInt64).toNat = 65536 := rfl
theorem cy_val {x : Nat → UInt64} : ∀ {n : Nat}, (∀ i, i < n → (x i).toNat < 4611686018427387904) → valF 65536 (cyV x) n + 65536 ^ n * (cyN x n).toNat = valF 65536 x n ∧ (cyN x n).toNat < 4611686018427387904
  | 0, _ => ⟨rfl, by show (0 : UInt64).toNat < _; decide⟩
  | n + 1, h => by
    obtain ⟨h1, h2⟩ := cy_val (n := n) (fun i hi => h i (by omega))
    have h3 := h n (by omega)
    have h4 : (cyN x n + x n).toNat = (cyN x n).toNat + (x n).toNat := tn_add (by omega)
    have h5 : (cyN x (n + 1)).toNat = ((cyN x n).toNat + (x n).toNat) / 65536 := by rw [cyN, UInt64.toNat_div, h4, d16]
    have h6 : (cyV x n).toNat = ((cyN x n).toNat + (x n).toNat) % 65536 := by rw [cyV, UInt64.toNat_mod, h4, d16]
    refine ⟨?_, by rw [h5]; omega⟩
    simp only [valF]
    rw [← h1, h5, h6, Nat.pow_succ]
    have h7 := Nat.div_add_mod ((cyN x n).toNat + (x n).toNat) 65536
    generalize ((cyN x n).toNat + (x n).toNat) % 65536 = r at *
    generalize ((cyN x n).toNat + (x n).toNat) / 65536 = t at *
    have h8 : 65536 ^ n * r + 65536 ^ n * 65536 * t = 65536 ^ n * (cyN x n).toNat + 65536 ^ n * (x n).toNat := by
      rw [Nat.mul_assoc, ← Nat.mul_add, ← Nat.mul_add]; congr 1; omega
    omega
theorem cyV_lt (x : Nat → UInt64) (i : Nat) : (cyV x i).toNat < 65536 := by
  rw [cyV, UInt64.toNat_mod, d16]; exact Nat.mod_lt _ (by decide)
def bwN (a b : Nat → UInt64) : Nat → UInt64
  | 0 => 0
  | i + 1 => 1 - (a i + 65536 - b i - bwN a b i) / 65536
def bwV (a b : Nat → UInt64) (i : Nat) : UInt64 := (a i + 65536 - b i - bwN a b i) % 65536
theorem tn_sub {x y : UInt64} (h : y.toNat ≤ x.toNat) : (x - y).toNat = x.toNat - y.toNat := by
  exact UInt64.toNat_sub_of_le _ _ (UInt64.le_iff_toNat_le.mpr h)
theorem bw_val {a b : Nat → UInt64} : ∀ {n : Nat}, (∀ i, i < n → (a i).toNat < 65536) → (∀ i, i < n → (b i).toNat < 65536) → valF 65536 (bwV a b) n + valF 65536 b n = valF 65536 a n + 65536 ^ n * (bwN a b n).toNat ∧ (bwN a b n).toNat ≤ 1
  | 0, _, _ => ⟨by simp [valF, bwN], by simp [bwN]⟩
  | n + 1, ha, hb => by
    obtain ⟨h1, h2⟩ := bw_val (n := n) (fun i hi => ha i (by omega)) (fun i hi => hb i (by omega))
    have h3 := ha n (by omega)
    have h4 := hb n (by omega)
    have e1 : (a n + 65536).toNat = (a n).toNat + 65536 := by rw [tn_add (by rw [d16]; omega), d16]
    have e2 : (a n + 65536 - b n).toNat = (a n).toNat + 65536 - (b n).toNat := by rw [tn_sub (by rw [e1]; omega), e1]
    have e3 : (a n + 65536 - b n - bwN a b n).toNat = (a n).toNat + 65536 - (b n).toNat - (bwN a b n).toNat := by rw [tn_sub (by rw [e2]; omega), e2]
    have o1 : (1 : UInt64).toNat = 1 := rfl
    have h5 : (bwN a b (n + 1)).toNat = 1 - ((a n).toNat + 65536 - (b n).toNat - (bwN a b n).toNat) / 65536 := by
      rw [bwN, tn_sub (by rw [UInt64.toNat_div, e3, d16, o1]; omega), UInt64.toNat_div, e3, d16, o1]
    have h6 : (bwV a b n).toNat = ((a n).toNat + 65536 - (b n).toNat - (bwN a b n).toNat) % 65536 := by rw [bwV, UInt64.toNat_mod, e3, d16]
    have h7 : (bwV a b n).toNat + (b n).toNat + (bwN a b n).toNat = (a n).toNat + 65536 * (bwN a b (n + 1)).toNat := by rw [h5, h6]; omega
    refine ⟨?_, by rw [h5]; omega⟩
    simp only [valF]
    rw [Nat.pow_succ]
    generalize (bwV a b n).toNat = v at *
    generalize (bwN a b (n + 1)).toNat = k1 at *
    generalize (bwN a b n).toNat = k at *
    generalize (b n).toNat = y at *
    generalize (a n).toNat = x at *
    generalize 65536 ^ n = E at *
    have h8 : E * v + E * y + E * k = E * x + E * (65536 * k1) := by rw [← Nat.mul_add, ← Nat.mul_add, ← Nat.mul_add, h7]
    rw [Nat.mul_assoc]
    omega
theorem bwV_lt (a b : Nat → UInt64) (i : Nat) : (bwV a b i).toNat < 65536 := by
  rw [bwV, UInt64.toNat_mod, d16]; exact Nat.mod_lt _ (by decide)
theorem valF_cmp {B : Nat} {f g : Nat → UInt64} {k : Nat} (hf : ∀ i, i < k + 1 → (f i).toNat < B) (h : (f k).toNat < (g k).toNat) : ∀ {n : Nat}, k < n → (∀ i, k < i → i < n → f i = g i) → valF B f n < valF B g n
  | 0, hk, _ => absurd hk (by omega)
  | n + 1, hk, he => by
    by_cases e : k = n
    · subst e
      have h1 := valF_lt (B := B) (f := f) (n := k) (fun i hi => hf i (by omega))
      have h2 := Nat.mul_le_mul_left (B ^ k) (Nat.succ_le_of_lt h)
      rw [Nat.mul_succ] at h2
      rw [valF, valF]; omega
    · have h1 := valF_cmp hf h (n := n) (by omega) (fun i h1 h2 => he i h1 (by omega))
      rw [valF, valF, he n (by omega) (by omega)]; omega
end Go.Sy

