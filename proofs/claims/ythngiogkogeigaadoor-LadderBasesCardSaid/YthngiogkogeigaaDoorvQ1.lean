/- Numbers in words: values and digits; sums and differences of four words. -/
import Derived.Test.YthngiogkogeigaaDoorvP4
set_option linter.unusedVariables false
set_option linter.unusedSimpArgs false
namespace Go.Sy
def valB (B : Nat) : List UInt64 → Nat
  | [] => 0
  | v :: r => v.toNat + B * valB B r
theorem valB_append (B : Nat) : ∀ a b : List UInt64, valB B (a ++ b) = valB B a + B ^ a.length * valB B b
  | [], b => by simp [valB]
  | v :: a, b => by
    simp only [List.cons_append, valB, valB_append B a b, List.length_cons, Nat.pow_succ]
    grind
theorem valB_lt {B : Nat} : ∀ {a : List UInt64}, (∀ v ∈ a, v.toNat < B) → valB B a < B ^ a.length
  | [], _ => by simp [valB]
  | v :: a, h => by
    have h1 := h v (by simp)
    have h2 := valB_lt (a := a) (fun x hx => h x (by simp [hx]))
    simp only [valB, List.length_cons, Nat.pow_succ]
    have h3 : B * valB B a + B ≤ B * B ^ a.length := by
      have := Nat.mul_le_mul_left B (Nat.succ_le_of_lt h2)
      rwa [Nat.mul_succ] at this
    rw [Nat.mul_comm (B ^ a.length) B]; omega
theorem valB_inj {B : Nat} : ∀ {a b : List UInt64}, a.length = b.length → (∀ v ∈ a, v.toNat < B) → (∀ v ∈ b, v.toNat < B) → valB B a = valB B b → a = b
  | [], [], _, _, _, _ => rfl
  | v :: a, w :: b, hl, ha, hb, he => by
    simp only [valB] at he
    have h1 := ha v (by simp)
    have h2 := hb w (by simp)
    have e1 : (v.toNat + B * valB B a) % B = (w.toNat + B * valB B b) % B := by rw [he]
    rw [Nat.add_mul_mod_self_left, Nat.add_mul_mod_self_left, Nat.mod_eq_of_lt h1, Nat.mod_eq_of_lt h2] at e1
    have e2 : valB B a = valB B b := by
      rw [e1] at he
      have hB : 0 < B := by omega
      exact Nat.eq_of_mul_eq_mul_left hB (by omega)
    rw [UInt64.toNat_inj.mp e1, valB_inj (by simpa using hl) (fun x hx => ha x (by simp [hx])) (fun x hx => hb x (by simp [hx])) e2]
def dgL (B n : Nat) : Nat → List UInt64
  | 0 => []
  | k + 1 => UInt64.ofNat (n % B) :: dgL B (n / B) k
theorem dgL_length (B : Nat) : ∀ (n k : Nat), (dgL B n k).length = k
  | _, 0 => rfl
  | n, k + 1 => by simp [dgL, dgL_length B]
theorem dg_nat {B n : Nat} (h0 : 0 < B) (hB : B ≤ 18446744073709551616) : (UInt64.ofNat (n % B)).toNat = n % B := by
  rw [UInt64.toNat_ofNat']; exact Nat.mod_eq_of_lt (by have := Nat.mod_lt n h0; omega)
theorem dgL_lt {B : Nat} (h0 : 0 < B) (hB : B ≤ 18446744073709551616) : ∀ (n k : Nat), ∀ v ∈ dgL B n k, v.toNat < B
  | n, 0, v, h => by simp [dgL] at h
  | n, k + 1, v, h => by
    simp only [dgL, List.mem_cons] at h
    rcases h with rfl | h
    · rw [dg_nat h0 hB]; exact Nat.mod_lt n h0
    · exact dgL_lt h0 hB _ k v h
theorem valB_dgL {B : Nat} (h0 : 0 < B) (hB : B ≤ 18446744073709551616) : ∀ (k n : Nat), valB B (dgL B n k) = n % B ^ k
  | 0, n => by simp [dgL, valB, Nat.mod_one]
  | k + 1, n => by
    simp only [dgL, valB, dg_nat h0 hB, valB_dgL h0 hB k]
    rw [Nat.pow_succ, Nat.mul_comm (B ^ k) B, Nat.mod_mul]
theorem dgL_of {B : Nat} (h0 : 0 < B) (hB : B ≤ 18446744073709551616) {a : List UInt64} (h : ∀ v ∈ a, v.toNat < B) : a = dgL B (valB B a) a.length := by
  refine valB_inj (dgL_length _ _ _).symm h (dgL_lt h0 hB _ _) ?_
  rw [valB_dgL h0 hB, Nat.mod_eq_of_lt (valB_lt h)]
def vQ (a b c d : UInt64) : Nat := a.toNat + 18446744073709551616 * (b.toNat + 18446744073709551616 * (c.toNat + 18446744073709551616 * d.toNat))
def w4 (n : Nat) : List UInt64 := dgL 18446744073709551616 n 4
def w4C (n : Nat) : List L := u64C (w4 n)
theorem vQ_val (a b c d : UInt64) : valB 18446744073709551616 [a, b, c, d] = vQ a b c d := by
  simp [valB, vQ]
theorem vQ_lt (a b c d : UInt64) : vQ a b c d < 115792089237316195423570985008687907853269984665640564039457584007913129639936 := by
  have := a.toNat_lt; have := b.toNat_lt; have := c.toNat_lt; have := d.toNat_lt
  unfold vQ; omega
theorem w4_of (a b c d : UInt64) : [a, b, c, d] = w4 (vQ a b c d) := by
  rw [← vQ_val]
  exact dgL_of (by decide) (by decide) (fun v _ => v.toNat_lt)
theorem w4_eq {a b c d : UInt64} {n : Nat} (h : vQ a b c d = n) : [a, b, c, d] = w4 n := by rw [← h]; exact w4_of a b c d
theorem w4_get (n : Nat) (hn : n < 115792089237316195423570985008687907853269984665640564039457584007913129639936) : ∃ a b c d, w4 n = [a, b, c, d] ∧ vQ a b c d = n := by
  refine ⟨UInt64.ofNat (n % 18446744073709551616), UInt64.ofNat (n / 18446744073709551616 % 18446744073709551616), UInt64.ofNat (n / 18446744073709551616 / 18446744073709551616 % 18446744073709551616), UInt64.ofNat (n / 18446744073709551616 / 18446744073709551616 / 18446744073709551616 % 18446744073709551616), rfl, ?_⟩
  rw [← vQ_val]
  show valB 18446744073709551616 (w4 n) = n
  rw [w4, valB_dgL (by decide) (by decide)]; exact Nat.mod_eq_of_lt hn
def sbS (x y c : UInt64) : UInt64 := UInt64.ofNat ((x.toNat + 18446744073709551616 - y.toNat - c.toNat) % 18446744073709551616)
def sbB (x y c : UInt64) : UInt64 := if x.toNat < y.toNat + c.toNat then 1 else 0
theorem sb_val (x y : UInt64) {c : UInt64} (hc : c.toNat ≤ 1) : (sbS x y c).toNat + y.toNat + c.toNat = x.toNat + 18446744073709551616 * (sbB x y c).toNat ∧ (sbB x y c).toNat ≤ 1 := by
  have hx := x.toNat_lt; have hy := y.toNat_lt
  simp only [sbS, sbB, UInt64.toNat_ofNat']
  have o1 : (1 : UInt64).toNat = 1 := rfl
  have o0 : (0 : UInt64).toNat = 0 := rfl
  split
  · rw [o1]; omega
  · rw [o0]; omega
section
variable (a b c d e f g h : UInt64)
def sk1 := sbB a e 0
def sk2 := sbB b f (sk1 a e)
def sk3 := sbB c g (sk2 a b e f)
def sk4 := sbB d h (sk3 a b c e f g)
theorem sub4_val : vQ (sbS a e 0) (sbS b f (sk1 a e)) (sbS c g (sk2 a b e f)) (sbS d h (sk3 a b c e f g)) + vQ e f g h = vQ a b c d + 115792089237316195423570985008687907853269984665640564039457584007913129639936 * (sk4 a b c d e f g h).toNat ∧ (sk4 a b c d e f g h).toNat ≤ 1 := by
  obtain ⟨a1, a2⟩ := sb_val a e (c := 0) (by decide)
  obtain ⟨b1, b2⟩ := sb_val b f (c := sk1 a e) a2
  obtain ⟨c1, c2⟩ := sb_val c g (c := sk2 a b e f) b2
  obtain ⟨d1, d2⟩ := sb_val d h (c := sk3 a b c e f g) c2
  have z : (0 : UInt64).toNat = 0 := rfl
  rw [z] at a1
  refine ⟨?_, d2⟩
  simp only [vQ]
  change (sbS a e 0).toNat + e.toNat + 0 = a.toNat + 18446744073709551616 * (sk1 a e).toNat at a1
  change _ = b.toNat + 18446744073709551616 * (sk2 a b e f).toNat at b1
  change _ = c.toNat + 18446744073709551616 * (sk3 a b c e f g).toNat at c1
  change _ = d.toNat + 18446744073709551616 * (sk4 a b c d e f g h).toNat at d1
  omega
theorem one_iff (x : UInt64) (hx : x.toNat ≤ 1) : (x = 1) ↔ x.toNat = 1 := by
  constructor
  · rintro rfl; rfl
  · intro h; exact UInt64.toNat_inj.mp h
theorem sub4_lt : (sk4 a b c d e f g h = 1) ↔ vQ a b c d < vQ e f g h := by
  obtain ⟨h1, h2⟩ := sub4_val a b c d e f g h
  have h3 := vQ_lt (sbS a e 0) (sbS b f (sk1 a e)) (sbS c g (sk2 a b e f)) (sbS d h (sk3 a b c e f g))
  have h4 := vQ_lt e f g h
  rw [one_iff _ h2]
  omega
theorem sub4_of : [sbS a e 0, sbS b f (sk1 a e), sbS c g (sk2 a b e f), sbS d h (sk3 a b c e f g)] = w4 ((vQ a b c d + 115792089237316195423570985008687907853269984665640564039457584007913129639936 - vQ e f g h) % 115792089237316195423570985008687907853269984665640564039457584007913129639936) := by
  refine w4_eq ?_
  obtain ⟨h1, h2⟩ := sub4_val a b c d e f g h
  have h3 := vQ_lt (sbS a e 0) (sbS b f (sk1 a e)) (sbS c g (sk2 a b e f)) (sbS d h (sk3 a b c e f g))
  have h4 := vQ_lt e f g h
  have h5 := vQ_lt a b c d
  omega
def ak1 := adC a e 0
def ak2 := adC b f (ak1 a e)
def ak3 := adC c g (ak2 a b e f)
def ak4 := adC d h (ak3 a b c e f g)
theorem add4_val : vQ (adS a e 0) (adS b f (ak1 a e)) (adS c g (ak2 a b e f)) (adS d h (ak3 a b c e f g)) + 115792089237316195423570985008687907853269984665640564039457584007913129639936 * (ak4 a b c d e f g h).toNat = vQ a b c d + vQ e f g h ∧ (ak4 a b c d e f g h).toNat ≤ 1 := by
  obtain ⟨a1, a2⟩ := ad_val a e (c := 0) (by decide)
  obtain ⟨b1, b2⟩ := ad_val b f (c := ak1 a e) a2
  obtain ⟨c1, c2⟩ := ad_val c g (c := ak2 a b e f) b2
  obtain ⟨d1, d2⟩ := ad_val d h (c := ak3 a b c e f g) c2
  have z : (0 : UInt64).toNat = 0 := rfl
  rw [z] at a1
  refine ⟨?_, d2⟩
  simp only [vQ]
  change _ + (ak1 a e).toNat * _ = _ at a1
  change _ + (ak2 a b e f).toNat * _ = _ at b1
  change _ + (ak3 a b c e f g).toNat * _ = _ at c1
  change _ + (ak4 a b c d e f g h).toNat * _ = _ at d1
  omega
end
def p25 : Nat := 57896044618658097711785492504343953926634992332820282019728792003956564819949
end Go.Sy

