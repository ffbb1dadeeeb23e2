/- Sixteen digits: carried over, compared with the prime, taken from words and put back. -/
import Derived.Test.YthngiogkogeigaaDoorvQ3
set_option linter.unusedVariables false
set_option linter.unusedSimpArgs false
namespace Go.Sy
def D16 (n : Nat) : List UInt64 := dgL 65536 n 16
theorem D16_length (n : Nat) : (D16 n).length = 16 := rfl
def prdL : List UInt64 := [65517, 65535, 65535, 65535, 65535, 65535, 65535, 65535, 65535, 65535, 65535, 65535, 65535, 65535, 65535, 32767]
theorem prd_val : valB 65536 prdL = p25 := by decide +kernel
theorem prd_length : prdL.length = 16 := rfl
def fL (l : List UInt64) (i : Nat) : UInt64 := l.getD i 0
theorem valB_fL {l : List UInt64} (h : l.length = 16) : valB 65536 l = valF 65536 (fL l) 16 := by
  rw [valB_valF, h]; rfl
theorem prd_lt : ∀ i, i < 16 → (fL prdL i).toNat < 65536 := by decide +kernel
theorem all_fL {l : List UInt64} {K : Nat} (h : l.length = 16) : (∀ v ∈ l, v.toNat < K) ↔ ∀ i, i < 16 → (fL l i).toNat < K := by
  constructor
  · intro h1 i hi
    refine h1 _ ?_
    rw [fL, List.getD, List.getElem?_eq_getElem (by omega)]; exact List.getElem_mem _
  · intro h1 v hv
    obtain ⟨i, hi, rfl⟩ := List.mem_iff_getElem.mp hv
    have := h1 i (by omega)
    rwa [fL, List.getD, List.getElem?_eq_getElem hi] at this
theorem D16_lt (n : Nat) : ∀ i, i < 16 → (fL (D16 n) i).toNat < 65536 := (all_fL (D16_length n)).mp (dgL_lt (by decide) (by decide) n 16)
theorem e16 : 65536 ^ 16 = m4 := rfl
theorem D16_val {n : Nat} (h : n < m4) : valB 65536 (D16 n) = n := by
  rw [D16, valB_dgL (by decide) (by decide), e16]; exact Nat.mod_eq_of_lt h
theorem D16_of {l : List UInt64} {n : Nat} (h : l.length = 16) (h1 : ∀ i, i < 16 → (fL l i).toNat < 65536) (h2 : valB 65536 l = n) : l = D16 n := by
  have := dgL_of (B := 65536) (by decide) (by decide) ((all_fL h).mpr h1)
  rw [h2, h] at this; exact this
def rndY (x : List UInt64) : List UInt64 := (List.range 16).map (cyV (fL x))
def rndD (x : List UInt64) : List UInt64 := (rndY x).set 0 ((rndY x).getD 0 0 + 38 * cyN (fL x) 16)
theorem rndY_length (x : List UInt64) : (rndY x).length = 16 := by simp [rndY]
theorem rnd_length (x : List UInt64) : (rndD x).length = 16 := by simp [rndD, rndY_length]
theorem fL_set {q : List UInt64} {i j : Nat} {x : UInt64} (h : i < q.length) : fL (q.set i x) j = if i = j then x else fL q j := by
  simp only [fL, List.getD, List.getElem?_set]
  split
  · rename_i e; subst e; simp [h]
  · rfl
theorem valF_set {B : Nat} {f g : Nat → UInt64} {k : Nat} (h : ∀ j, ¬ j = k → f j = g j) : ∀ {n : Nat}, k < n → valF B f n + B ^ k * (g k).toNat = valF B g n + B ^ k * (f k).toNat
  | 0, hk => absurd hk (by omega)
  | n + 1, hk => by
    by_cases e : k = n
    · subst e
      have := valF_congr (B := B) (f := f) (g := g) (n := k) (fun i hi => h i (by omega))
      rw [valF, valF, this]; omega
    · have h1 := valF_set h (B := B) (n := n) (by omega)
      rw [valF, valF, h n (fun e2 => e e2.symm)]; omega
theorem tn38' {c : UInt64} (h : c.toNat ≤ 72057594037927936) : (38 * c).toNat = 38 * c.toNat := by
  rw [UInt64.toNat_mul]
  have : (38 : UInt64).toNat = 38 := rfl
  rw [this]; exact Nat.mod_eq_of_lt (by omega)
theorem rnd_val {x : List UInt64} (hx : x.length = 16) (h : ∀ i, i < 16 → (fL x i).toNat < 4611686018427387904) (hc : (cyN (fL x) 16).toNat ≤ 72057594037927936) :
    valB 65536 (rndD x) + m4 * (cyN (fL x) 16).toNat = valB 65536 x + 38 * (cyN (fL x) 16).toNat ∧ (∀ i, i < 16 → (fL (rndD x) i).toNat < 65536 + 38 * (cyN (fL x) 16).toNat) := by
  obtain ⟨h1, _⟩ := cy_val (x := fL x) (n := 16) h
  have hy : ∀ i, i < 16 → fL (rndY x) i = cyV (fL x) i := fun i hi => rangeD hi
  have h0 : (fL (rndD x) 0).toNat = (cyV (fL x) 0).toNat + 38 * (cyN (fL x) 16).toNat := by
    have e : fL (rndD x) 0 = fL (rndY x) 0 + 38 * cyN (fL x) 16 := by
      rw [rndD, fL_set (by rw [rndY_length]; decide), if_pos rfl]; rfl
    have := cyV_lt (fL x) 0
    rw [e, hy 0 (by decide), tn_add (by rw [tn38' hc]; omega), tn38' hc]
  have hj : ∀ j, ¬ j = 0 → fL (rndD x) j = fL (rndY x) j := fun j hj => by
    rw [rndD, fL_set (by rw [rndY_length]; decide), if_neg (by omega)]
  have h2 := valF_set (B := 65536) hj (n := 16) (by decide)
  have h3 : valF 65536 (fL (rndY x)) 16 = valF 65536 (cyV (fL x)) 16 := valF_congr hy
  rw [← valB_fL (rnd_length x), h3, h0, hy 0 (by decide)] at h2
  rw [valB_fL hx, ← h1, e16]
  simp only [Nat.pow_zero, Nat.one_mul] at h2
  refine ⟨by omega, fun i hi => ?_⟩
  by_cases e : i = 0
  · subst e; rw [h0]; have := cyV_lt (fL x) 0; omega
  · rw [hj i e, hy i hi]; have := cyV_lt (fL x) i; omega
theorem cy_le {x : List UInt64} (hx : x.length = 16) (h : ∀ i, i < 16 → (fL x i).toNat < 4611686018427387904) : m4 * (cyN (fL x) 16).toNat ≤ valB 65536 x := by
  obtain ⟨h1, _⟩ := cy_val (x := fL x) (n := 16) h
  rw [valB_fL hx, ← h1, e16]; omega
theorem step_mod {v w c : Nat} (h : v + m4 * c = w + 38 * c) : v % p25 = w % p25 := by
  have e : v + m4 * c = v + 38 * c + 2 * p25 * c := by rw [m4_p]; grind
  have : w = v + 2 * p25 * c := by omega
  rw [this, add_2p]
theorem rnd3_val {x : List UInt64} (hx : x.length = 16) (h : ∀ i, i < 16 → (fL x i).toNat ≤ 70368744177664) :
    (rndD (rndD (rndD x))).length = 16 ∧ (∀ i, i < 16 → (fL (rndD (rndD (rndD x))) i).toNat < 65536) ∧ valB 65536 (rndD (rndD (rndD x))) % p25 = valB 65536 x % p25 := by
  have hm := m4_is
  have a1 : ∀ i, i < 16 → (fL x i).toNat < 4611686018427387904 := fun i hi => by have := h i hi; omega
  have a2 := cy_le hx a1
  have a3 := valF_le (n := 16) h
  rw [← valB_fL hx, e16] at a3
  have a4 : (cyN (fL x) 16).toNat ≤ 70368744177664 := by
    refine Nat.le_of_mul_le_mul_left (c := m4) ?_ (by rw [m4_is]; decide)
    rw [Nat.mul_comm m4 70368744177664]; omega
  obtain ⟨b1, b2⟩ := rnd_val hx a1 (by omega)
  obtain ⟨c, hc⟩ : ∃ c, (cyN (fL x) 16).toNat = c := ⟨_, rfl⟩
  rw [hc] at a2 a4 b1 b2
  have bl := rnd_length x
  obtain ⟨y, hy⟩ : ∃ y, rndD x = y := ⟨_, rfl⟩
  rw [hy] at b1 b2 bl ⊢
  -- what is left when the carry is folded in
  have hcy := cy_val (x := fL x) (n := 16) a1
  rw [hc, ← valB_fL hx, e16] at hcy
  have hlo := valF_lt (B := 65536) (f := cyV (fL x)) (n := 16) (fun i _ => cyV_lt _ i)
  rw [e16] at hlo
  have b3 : valB 65536 y < m4 + 38 * c := by have := hcy.1; omega
  have b4 : ∀ i, i < 16 → (fL y i).toNat < 4611686018427387904 := fun i hi => by have := b2 i hi; omega
  have b5 := cy_le bl b4
  have b6 : (cyN (fL y) 16).toNat ≤ 1 := by
    rcases Nat.lt_or_ge 1 (cyN (fL y) 16).toNat with h1 | h1
    · exfalso
      have := Nat.mul_le_mul_left m4 h1
      rw [m4_is] at this b5 b3; omega
    · exact h1
  obtain ⟨d1, d2⟩ := rnd_val bl b4 (by omega)
  have hcy2 := cy_val (x := fL y) (n := 16) b4
  have hlo2 := valF_lt (B := 65536) (f := cyV (fL y)) (n := 16) (fun i _ => cyV_lt _ i)
  rw [e16] at hlo2
  rw [← valB_fL bl, e16] at hcy2
  obtain ⟨k, hk⟩ : ∃ k, (cyN (fL y) 16).toNat = k := ⟨_, rfl⟩
  rw [hk] at d1 d2 b6 hcy2
  have dl := rnd_length y
  obtain ⟨z, hz⟩ : ∃ z, rndD y = z := ⟨_, rfl⟩
  rw [hz] at d1 d2 dl ⊢
  have d3 : valB 65536 z < m4 := by
    have hk01 : k = 0 ∨ k = 1 := by omega
    rcases hk01 with rfl | rfl
    · have := hcy2.1; omega
    · have := hcy2.1; rw [m4_is] at *; omega
  have d4 : ∀ i, i < 16 → (fL z i).toNat < 4611686018427387904 := fun i hi => by have := d2 i hi; omega
  have d5 := cy_le dl d4
  have d6 : (cyN (fL z) 16).toNat = 0 := by
    rcases Nat.eq_zero_or_pos (cyN (fL z) 16).toNat with h1 | h1
    · exact h1
    · exfalso
      have := Nat.mul_le_mul_left m4 h1
      rw [m4_is] at this d5 d3; omega
  obtain ⟨f1, f2⟩ := rnd_val dl d4 (by omega)
  rw [d6] at f1 f2
  refine ⟨rnd_length z, fun i hi => by have := f2 i hi; omega, ?_⟩
  rw [step_mod f1, step_mod d1, step_mod b1]
theorem nb_diff {x : List UInt64} {k : Nat} (hx : x.length = 16) (h : ∀ i, i < 16 → (fL x i).toNat < 65536) (hk : k < 16) (he : ∀ j, k < j → j < 16 → fL x j = fL prdL j) (hn : ¬ fL x k = fL prdL k) : (fL prdL k < fL x k) ↔ p25 ≤ valB 65536 x := by
  rw [UInt64.lt_iff_toNat_lt, ← prd_val, valB_fL hx, valB_fL prd_length]
  constructor
  · intro h1
    exact Nat.le_of_lt (valF_cmp (fun i hi => prd_lt i (by omega)) h1 hk (fun i h2 h3 => (he i h2 h3).symm))
  · intro h1
    rcases Nat.lt_trichotomy (fL prdL k).toNat (fL x k).toNat with h2 | h2 | h2
    · exact h2
    · exact absurd (UInt64.toNat_inj.mp h2).symm hn
    · have := valF_cmp (B := 65536) (fun i hi => h i (by omega)) h2 hk (fun i h2 h3 => he i h2 h3)
      omega
theorem nb_same {x : List UInt64} (hx : x.length = 16) (he : ∀ j, j < 16 → fL x j = fL prdL j) : p25 ≤ valB 65536 x := by
  rw [← prd_val, valB_fL hx, valB_fL prd_length, valF_congr he]; exact Nat.le_refl _
theorem sub_prd {x : List UInt64} (hx : x.length = 16) (h : ∀ i, i < 16 → (fL x i).toNat < 65536) (hp : p25 ≤ valB 65536 x) : valB 65536 ((List.range 16).map (bwV (fL x) (fL prdL))) + p25 = valB 65536 x := by
  obtain ⟨h1, h2⟩ := bw_val (n := 16) h prd_lt
  rw [valB_range]
  rw [← valB_fL hx, ← valB_fL prd_length, prd_val, e16] at h1
  have h3 := valF_lt (B := 65536) (f := bwV (fL x) (fL prdL)) (n := 16) (fun i _ => bwV_lt _ _ i)
  rw [e16] at h3
  have h4 : (bwN (fL x) (fL prdL) 16).toNat = 0 := by
    rcases Nat.eq_zero_or_pos (bwN (fL x) (fL prdL) 16).toNat with h5 | h5
    · exact h5
    · exfalso
      have := Nat.mul_le_mul_left m4 h5
      rw [m4_is] at *; omega
  rw [h4] at h1; omega
theorem opp_prd {x : List UInt64} (hx : x.length = 16) (h : ∀ i, i < 16 → (fL x i).toNat < 65536) (hp : valB 65536 x ≤ p25) : valB 65536 ((List.range 16).map (bwV (fL prdL) (fL x))) = p25 - valB 65536 x := by
  obtain ⟨h1, h2⟩ := bw_val (n := 16) prd_lt h
  rw [valB_range]
  rw [← valB_fL hx, ← valB_fL prd_length, prd_val, e16] at h1
  have h3 := valF_lt (B := 65536) (f := bwV (fL prdL) (fL x)) (n := 16) (fun i _ => bwV_lt _ _ i)
  rw [e16] at h3
  have h4 : (bwN (fL prdL) (fL x) 16).toNat = 0 := by
    rcases Nat.eq_zero_or_pos (bwN (fL prdL) (fL x) 16).toNat with h5 | h5
    · exact h5
    · exfalso
      have := Nat.mul_le_mul_left m4 h5
      rw [m4_is] at *; omega
  rw [h4] at h1; omega
theorem range_fL {f : Nat → UInt64} {n i : Nat} (h : i < n) : fL ((List.range n).map f) i = f i := rangeD h
def q16 (a : UInt64) (k : Nat) : UInt64 := shr64 a k % 65536
theorem q16_val (a : UInt64) : (q16 a 0).toNat + 65536 * ((q16 a 16).toNat + 65536 * ((q16 a 32).toNat + 65536 * (q16 a 48).toNat)) = a.toNat := by
  have ha := a.toNat_lt
  simp only [q16, UInt64.toNat_mod, tn_shr, d16]
  omega
theorem q16_lt (a : UInt64) (k : Nat) : (q16 a k).toNat < 65536 := by
  rw [q16, UInt64.toNat_mod, d16]; exact Nat.mod_lt _ (by decide)
def digs (a b c d : UInt64) : List UInt64 := [q16 a 0, q16 a 16, q16 a 32, q16 a 48, q16 b 0, q16 b 16, q16 b 32, q16 b 48, q16 c 0, q16 c 16, q16 c 32, q16 c 48, q16 d 0, q16 d 16, q16 d 32, q16 d 48]
def four (x y z w : UInt64) : List UInt64 := [x, y, z, w]
theorem four_val (x y z w : UInt64) : valB 65536 (four x y z w) = x.toNat + 65536 * (y.toNat + 65536 * (z.toNat + 65536 * w.toNat)) := by
  simp [four, valB]
theorem fours_val (p q r s : List UInt64) (hp : p.length = 4) (hq : q.length = 4) (hr : r.length = 4) : valB 65536 (p ++ (q ++ (r ++ s))) = valB 65536 p + 18446744073709551616 * (valB 65536 q + 18446744073709551616 * (valB 65536 r + 18446744073709551616 * valB 65536 s)) := by
  rw [valB_append, valB_append, valB_append, hp, hq, hr]
theorem digs_of (a b c d : UInt64) : digs a b c d = D16 (vQ a b c d) := by
  have hl : ∀ v ∈ digs a b c d, v.toNat < 65536 := by
    intro v hv
    simp only [digs, List.mem_cons, List.not_mem_nil, or_false] at hv
    rcases hv with rfl | rfl | rfl | rfl | rfl | rfl | rfl | rfl | rfl | rfl | rfl | rfl | rfl | rfl | rfl | rfl <;> exact q16_lt _ _
  refine D16_of rfl ((all_fL rfl).mp hl) ?_
  have e : digs a b c d = four (q16 a 0) (q16 a 16) (q16 a 32) (q16 a 48) ++ (four (q16 b 0) (q16 b 16) (q16 b 32) (q16 b 48) ++ (four (q16 c 0) (q16 c 16) (q16 c 32) (q16 c 48) ++ four (q16 d 0) (q16 d 16) (q16 d 32) (q16 d 48))) := rfl
  rw [e, fours_val _ _ _ _ rfl rfl rfl, four_val, four_val, four_val, four_val, q16_val, q16_val, q16_val, q16_val]; rfl
def wrd (x y z w : UInt64) : UInt64 := 0 ||| shl64 x 0 ||| shl64 y 16 ||| shl64 z 32 ||| shl64 w 48
theorem wrd_val {x y z w : UInt64} (hx : x.toNat < 65536) (hy : y.toNat < 65536) (hz : z.toNat < 65536) (hw : w.toNat < 65536) : (wrd x y z w).toNat = x.toNat + 65536 * (y.toNat + 65536 * (z.toNat + 65536 * w.toNat)) := by
  have s0 : (shl64 x 0).toNat = x.toNat := by rw [tn_shl]; omega
  have s1 : (shl64 y 16).toNat = 2 ^ 16 * y.toNat := by rw [tn_shl]; omega
  have s2 : (shl64 z 32).toNat = 2 ^ 32 * z.toNat := by rw [tn_shl]; omega
  have s3 : (shl64 w 48).toNat = 2 ^ 48 * w.toNat := by rw [tn_shl]; omega
  have e0 : (0 ||| shl64 x 0).toNat = x.toNat := by
    rw [UInt64.toNat_or, s0]; exact Nat.zero_or _
  have e1 : (0 ||| shl64 x 0 ||| shl64 y 16).toNat = x.toNat + 2 ^ 16 * y.toNat := by rw [tn_or 16 (by rw [e0]; omega) s1, e0, s1]
  have e2 : (0 ||| shl64 x 0 ||| shl64 y 16 ||| shl64 z 32).toNat = x.toNat + 2 ^ 16 * y.toNat + 2 ^ 32 * z.toNat := by rw [tn_or 32 (by rw [e1]; omega) s2, e1, s2]
  rw [wrd, tn_or 48 (by rw [e2]; omega) s3, e2, s3]; omega
theorem wrds_of {x0 x1 x2 x3 x4 x5 x6 x7 x8 x9 xa xb xc xd xe xf : UInt64} (hl : ∀ v ∈ [x0, x1, x2, x3, x4, x5, x6, x7, x8, x9, xa, xb, xc, xd, xe, xf], v.toNat < 65536) : vQ (wrd x0 x1 x2 x3) (wrd x4 x5 x6 x7) (wrd x8 x9 xa xb) (wrd xc xd xe xf) = valB 65536 [x0, x1, x2, x3, x4, x5, x6, x7, x8, x9, xa, xb, xc, xd, xe, xf] := by
  have e : [x0, x1, x2, x3, x4, x5, x6, x7, x8, x9, xa, xb, xc, xd, xe, xf] = four x0 x1 x2 x3 ++ (four x4 x5 x6 x7 ++ (four x8 x9 xa xb ++ four xc xd xe xf)) := rfl
  have g : ∀ v, v ∈ [x0, x1, x2, x3, x4, x5, x6, x7, x8, x9, xa, xb, xc, xd, xe, xf] → v.toNat < 65536 := hl
  rw [e, fours_val _ _ _ _ rfl rfl rfl, four_val, four_val, four_val, four_val, vQ, wrd_val (g _ (by simp)) (g _ (by simp)) (g _ (by simp)) (g _ (by simp)), wrd_val (g _ (by simp)) (g _ (by simp)) (g _ (by simp)) (g _ (by simp)), wrd_val (g _ (by simp)) (g _ (by simp)) (g _ (by simp)) (g _ (by simp)), wrd_val (g _ (by simp)) (g _ (by simp)) (g _ (by simp)) (g _ (by simp))]
theorem D16_get {n : Nat} (hn : n < m4) : ∃ x0 x1 x2 x3 x4 x5 x6 x7 x8 x9 xa xb xc xd xe xf, D16 n = [x0, x1, x2, x3, x4, x5, x6, x7, x8, x9, xa, xb, xc, xd, xe, xf] ∧ [wrd x0 x1 x2 x3, wrd x4 x5 x6 x7, wrd x8 x9 xa xb, wrd xc xd xe xf] = w4 n := by
  refine ⟨_, _, _, _, _, _, _, _, _, _, _, _, _, _, _, _, rfl, w4_eq ?_⟩
  exact (wrds_of (dgL_lt (by decide) (by decide) n 16)).trans (D16_val hn)
end Go.Sy

