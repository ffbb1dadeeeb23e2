/- Words of 64 bits, told as numbers; five parts of 26 bits, carried. -/
import Derived.Test.YtcmcnfjdfcianaaDoorvE3
set_option linter.unusedVariables false
set_option linter.unusedSimpArgs false
namespace Go.Sy
theorem tn_lt (x : UInt64) : x.toNat < 18446744073709551616 := x.toNat_lt
theorem tn_shl (x : UInt64) (c : Nat) : (shl64 x c).toNat = x.toNat * 2 ^ c % 18446744073709551616 := by
  simp [shl64, UInt64.toNat_ofNat']
theorem tn_shr (x : UInt64) (c : Nat) : (shr64 x c).toNat = x.toNat / 2 ^ c := by
  have h := x.toNat_lt
  have h2 : x.toNat / 2 ^ c ≤ x.toNat := Nat.div_le_self _ _
  simp only [shr64, UInt64.toNat_ofNat']
  exact Nat.mod_eq_of_lt (by omega)
theorem tn_mask {m : UInt64} (k : Nat) (hm : m.toNat = 2 ^ k - 1) (x : UInt64) : (x &&& m).toNat = x.toNat % 2 ^ k := by
  rw [UInt64.toNat_and, hm, Nat.and_two_pow_sub_one_eq_mod]
theorem tn_or {x y : UInt64} (k : Nat) (hx : x.toNat < 2 ^ k) {z : Nat} (hy : y.toNat = 2 ^ k * z) : (x ||| y).toNat = x.toNat + y.toNat := by
  rw [UInt64.toNat_or, hy, Nat.or_comm, ← Nat.two_pow_add_eq_or_of_lt hx]; omega
theorem tn_add {x y : UInt64} (h : x.toNat + y.toNat < 18446744073709551616) : (x + y).toNat = x.toNat + y.toNat := by
  rw [UInt64.toNat_add]; exact Nat.mod_eq_of_lt h
theorem tn_mul {x y : UInt64} (h : x.toNat * y.toNat < 18446744073709551616) : (x * y).toNat = x.toNat * y.toNat := by
  rw [UInt64.toNat_mul]; exact Nat.mod_eq_of_lt h
structure P5 where
  a : UInt64
  b : UInt64
  c : UInt64
  d : UInt64
  e : UInt64
def P5.val (p : P5) : Nat := p.a.toNat + p.b.toNat * 67108864 + p.c.toNat * 4503599627370496 + p.d.toNat * 302231454903657293676544 + p.e.toNat * 20282409603651670423947251286016
def mk26 (x : UInt64) : UInt64 := x &&& 67108863
def sh26 (x : UInt64) : UInt64 := shr64 x 26
theorem tn_mk26 (x : UInt64) : (mk26 x).toNat = x.toNat % 67108864 := tn_mask 26 rfl x
theorem tn_sh26 (x : UInt64) : (sh26 x).toNat = x.toNat / 67108864 := tn_shr x 26
def P5.c1 (p : P5) : UInt64 := 0 + p.a
def P5.c2 (p : P5) : UInt64 := sh26 p.c1 + p.b
def P5.c3 (p : P5) : UInt64 := sh26 p.c2 + p.c
def P5.c4 (p : P5) : UInt64 := sh26 p.c3 + p.d
def P5.c5 (p : P5) : UInt64 := sh26 p.c4 + p.e
def P5.pass (p : P5) : P5 := ⟨mk26 p.c1 + 5 * sh26 p.c5, mk26 p.c2, mk26 p.c3, mk26 p.c4, mk26 p.c5⟩
def P5.lt (p : P5) (B : Nat) : Prop := p.a.toNat < B ∧ p.b.toNat < B ∧ p.c.toNat < B ∧ p.d.toNat < B ∧ p.e.toNat < B
theorem pass_nat (p : P5) {B : Nat} (h : p.lt B) (hB : B ≤ 4611686018427387904) : ∃ n1 n2 n3 n4 n5 : Nat, n1 = p.a.toNat ∧ n2 = n1 / 67108864 + p.b.toNat ∧ n3 = n2 / 67108864 + p.c.toNat ∧ n4 = n3 / 67108864 + p.d.toNat ∧ n5 = n4 / 67108864 + p.e.toNat ∧
    p.pass.a.toNat = n1 % 67108864 + 5 * (n5 / 67108864) ∧ p.pass.b.toNat = n2 % 67108864 ∧ p.pass.c.toNat = n3 % 67108864 ∧ p.pass.d.toNat = n4 % 67108864 ∧ p.pass.e.toNat = n5 % 67108864 := by
  obtain ⟨h1, h2, h3, h4, h5⟩ := h
  have e1 : p.c1.toNat = p.a.toNat := by rw [P5.c1, tn_add (by simp; omega)]; simp
  have e2 : p.c2.toNat = p.a.toNat / 67108864 + p.b.toNat := by rw [P5.c2, tn_add (by rw [tn_sh26, e1]; omega), tn_sh26, e1]
  have e3 : p.c3.toNat = p.c2.toNat / 67108864 + p.c.toNat := by rw [P5.c3, tn_add (by rw [tn_sh26]; omega), tn_sh26]
  have e4 : p.c4.toNat = p.c3.toNat / 67108864 + p.d.toNat := by rw [P5.c4, tn_add (by rw [tn_sh26]; omega), tn_sh26]
  have e5 : p.c5.toNat = p.c4.toNat / 67108864 + p.e.toNat := by rw [P5.c5, tn_add (by rw [tn_sh26]; omega), tn_sh26]
  have e6 : (5 * sh26 p.c5).toNat = 5 * (p.c5.toNat / 67108864) := by rw [tn_mul (by rw [tn_sh26]; show 5 * _ < _; omega), tn_sh26]; rfl
  refine ⟨p.a.toNat, p.c2.toNat, p.c3.toNat, p.c4.toNat, p.c5.toNat, rfl, e2, e3, e4, e5, ?_, ?_, ?_, ?_, ?_⟩
  · show (mk26 p.c1 + 5 * sh26 p.c5).toNat = _
    rw [tn_add (by rw [tn_mk26, e6]; omega), tn_mk26, e6, e1]
  all_goals exact tn_mk26 _
theorem pass_val (p : P5) {B : Nat} (h : p.lt B) (hB : B ≤ 4611686018427387904) : ∃ c, p.pass.val + c * 1361129467683753853853498429727072845819 = p.val ∧ c * 67108864 ≤ B + B / 67108863 + 1 ∧ p.pass.a.toNat < 67108864 + 5 * c ∧ p.pass.b.toNat < 67108864 ∧ p.pass.c.toNat < 67108864 ∧ p.pass.d.toNat < 67108864 ∧ p.pass.e.toNat < 67108864 ∧ 5 * c ≤ p.pass.a.toNat := by
  obtain ⟨n1, n2, n3, n4, n5, e1, e2, e3, e4, e5, f1, f2, f3, f4, f5⟩ := pass_nat p h hB
  obtain ⟨h1, h2, h3, h4, h5⟩ := h
  refine ⟨n5 / 67108864, ?_, ?_, ?_, ?_, ?_, ?_, ?_, ?_⟩
  · simp only [P5.val, f1, f2, f3, f4, f5]
    omega
  all_goals omega
end Go.Sy
