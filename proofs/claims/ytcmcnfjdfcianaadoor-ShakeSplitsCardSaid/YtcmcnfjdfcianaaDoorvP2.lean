/- Five parts of 26 bits: carried, whole, multiplied. -/
import Derived.Test.YtcmcnfjdfcianaaDoorvP1
set_option linter.unusedVariables false
set_option linter.unusedSimpArgs false
namespace Go.Sy
def pP : Nat := 1361129467683753853853498429727072845819
set_option maxRecDepth 20000 in
theorem pass3 (p : P5) (h : p.lt 2305843009213693952) : (∃ c, p.pass.pass.pass.val + c * 1361129467683753853853498429727072845819 = p.val) ∧ p.pass.pass.pass.lt 67108864 := by
  obtain ⟨c1, g1, g2, g3, g4, g5, g6, g7, g8⟩ := pass_val p h (by omega)
  generalize p.pass = q1 at *
  have hc1 : c1 ≤ 34359739000 := by omega
  have hq1 : q1.lt 4398046511104 := ⟨by omega, by omega, by omega, by omega, by omega⟩
  have hv1 : q1.val < 1361129467683753853853498429727072845824 + 274877906944 := by simp only [P5.val]; omega
  obtain ⟨c2, i1, i2, i3, i4, i5, i6, i7, i8⟩ := pass_val q1 hq1 (by omega)
  generalize q1.pass = q2 at *
  have hc2 : c2 ≤ 1 := by omega
  have hq2 : q2.lt 67108874 := ⟨by omega, by omega, by omega, by omega, by omega⟩
  have hv2 : c2 = 0 → q2.val < 1361129467683753853853498429727072845824 := by intro h; simp only [P5.val]; omega
  obtain ⟨c3, j1, j2, j3, j4, j5, j6, j7, j8⟩ := pass_val q2 hq2 (by omega)
  generalize q2.pass = q3 at *
  have hv3 : q3.a.toNat ≤ q3.val := by simp only [P5.val]; omega
  have hc3 : c3 = 0 := by
    clear g1 g2 g3 g4 g5 g6 g7 g8 hq1 hq2 i2 i3 i4 i5 i6 i7 i8 j2 j3 j4 j5 j6 j7 hc1
    have : q2.val < 1361129467683753853853498429727072845824 := by
      rcases Nat.lt_or_ge c2 1 with h1 | h1
      · exact hv2 (by omega)
      · have : c2 = 1 := by omega
        subst this; clear hv2 hv3 j1 j8; omega
    clear hv1 hv2 i1 hc2
    omega
  subst hc3
  have e : q3.val + (c1 + c2) * 1361129467683753853853498429727072845819 = p.val := by
    rw [Nat.add_mul, ← g1, ← i1, ← j1]
    clear g1 g2 g3 g4 g5 g6 g7 g8 hq1 hq2 i1 i2 i3 i4 i5 i6 i7 i8 j1 j2 j3 j4 j5 j6 j7 j8 hc1 hv1 hv2 hv3 hc2
    omega
  refine ⟨⟨c1 + c2, e⟩, ?_⟩
  clear e g1 i1 j1 hv1 hv2 hv3
  exact ⟨by omega, by omega, by omega, by omega, by omega⟩
def P5.f1 (p : P5) : UInt64 := p.a + 5
def P5.f2 (p : P5) : UInt64 := p.b + sh26 p.f1
def P5.f3 (p : P5) : UInt64 := p.c + sh26 p.f2
def P5.f4 (p : P5) : UInt64 := p.d + sh26 p.f3
def P5.f5 (p : P5) : UInt64 := p.e + sh26 p.f4
def P5.fin (p : P5) : P5 := ⟨mk26 p.f1, mk26 p.f2, mk26 p.f3, mk26 p.f4, p.f5⟩
def P5.car (p : P5) : P5 := if 0 < sh26 p.f5 then ⟨mk26 p.f1, mk26 p.f2, mk26 p.f3, mk26 p.f4, mk26 p.f5⟩ else p
def P5.carried (p : P5) : P5 := p.pass.pass.pass.car
theorem lt_nat {x y : UInt64} : (x < y) ↔ x.toNat < y.toNat := UInt64.lt_iff_toNat_lt
theorem car_val (p : P5) (h : p.lt 67108864) : p.car.val = p.val % 1361129467683753853853498429727072845819 ∧ p.car.lt 67108864 := by
  obtain ⟨h1, h2, h3, h4, h5⟩ := h
  have e1 : p.f1.toNat = p.a.toNat + 5 := by rw [P5.f1, tn_add (by show _ + 5 < _; omega)]; rfl
  have e2 : p.f2.toNat = p.b.toNat + p.f1.toNat / 67108864 := by rw [P5.f2, tn_add (by rw [tn_sh26]; omega), tn_sh26]
  have e3 : p.f3.toNat = p.c.toNat + p.f2.toNat / 67108864 := by rw [P5.f3, tn_add (by rw [tn_sh26]; omega), tn_sh26]
  have e4 : p.f4.toNat = p.d.toNat + p.f3.toNat / 67108864 := by rw [P5.f4, tn_add (by rw [tn_sh26]; omega), tn_sh26]
  have e5 : p.f5.toNat = p.e.toNat + p.f4.toNat / 67108864 := by rw [P5.f5, tn_add (by rw [tn_sh26]; omega), tn_sh26]
  have hc : (0 < sh26 p.f5) ↔ 0 < p.f5.toNat / 67108864 := by rw [lt_nat, tn_sh26]; rfl
  unfold P5.car
  by_cases hp : 0 < p.f5.toNat / 67108864
  · rw [if_pos (hc.mpr hp)]
    have hj : p.f5.toNat / 67108864 = 1 := by omega
    have key : p.f1.toNat % 67108864 + p.f2.toNat % 67108864 * 67108864 + p.f3.toNat % 67108864 * 4503599627370496 + p.f4.toNat % 67108864 * 302231454903657293676544 + p.f5.toNat % 67108864 * 20282409603651670423947251286016 + 1361129467683753853853498429727072845819 = p.val := by
      simp only [P5.val]; omega
    have hlt : p.val < 1361129467683753853853498429727072845824 := by simp only [P5.val]; omega
    refine ⟨?_, by simp only [tn_mk26]; omega, by simp only [tn_mk26]; omega, by simp only [tn_mk26]; omega, by simp only [tn_mk26]; omega, by simp only [tn_mk26]; omega⟩
    rw [← key, Nat.add_mod_right, Nat.mod_eq_of_lt (by omega)]
    simp only [P5.val, tn_mk26]
  · rw [if_neg (fun h => hp (hc.mp h))]
    refine ⟨?_, h1, h2, h3, h4, h5⟩
    have hlt : p.val < 1361129467683753853853498429727072845819 := by simp only [P5.val]; omega
    rw [Nat.mod_eq_of_lt hlt]
theorem carried_val (p : P5) (h : p.lt 2305843009213693952) : p.carried.val = p.val % pP ∧ p.carried.lt 67108864 := by
  obtain ⟨⟨c, h1⟩, h2⟩ := pass3 p h
  obtain ⟨h3, h4⟩ := car_val _ h2
  refine ⟨?_, h4⟩
  show P5.val (P5.car _) = _
  rw [h3, ← h1, pP, Nat.add_mul_mod_self_right]
def val3 (x y z : UInt64) : Nat := x.toNat + y.toNat * 18446744073709551616 + z.toNat * 340282366920938463463374607431768211456
def P5.w0 (p : P5) : UInt64 := p.a ||| shl64 p.b 26 ||| shl64 p.c 52
def P5.w1 (p : P5) : UInt64 := shr64 p.c 12 ||| shl64 p.d 14 ||| shl64 p.e 40
def P5.w2 (p : P5) : UInt64 := shr64 p.e 24
theorem whole_val (p : P5) (h : p.lt 67108864) : val3 p.w0 p.w1 p.w2 = p.val := by
  obtain ⟨h1, h2, h3, h4, h5⟩ := h
  have a1 : (p.a ||| shl64 p.b 26).toNat = p.a.toNat + p.b.toNat * 67108864 := by
    have e : (shl64 p.b 26).toNat = 2 ^ 26 * p.b.toNat := by rw [tn_shl]; omega
    rw [tn_or 26 (by omega) e, e]; omega
  have a2 : p.w0.toNat = p.a.toNat + p.b.toNat * 67108864 + (p.c.toNat % 4096) * 4503599627370496 := by
    have e : (shl64 p.c 52).toNat = 2 ^ 52 * (p.c.toNat % 4096) := by rw [tn_shl]; omega
    rw [P5.w0, tn_or 52 (by rw [a1]; omega) e, e, a1]; omega
  have b0 : (shr64 p.c 12).toNat = p.c.toNat / 4096 := tn_shr _ _
  have b1 : (shr64 p.c 12 ||| shl64 p.d 14).toNat = p.c.toNat / 4096 + p.d.toNat * 16384 := by
    have e : (shl64 p.d 14).toNat = 2 ^ 14 * p.d.toNat := by rw [tn_shl]; omega
    rw [tn_or 14 (by rw [b0]; omega) e, e, b0]; omega
  have b2 : p.w1.toNat = p.c.toNat / 4096 + p.d.toNat * 16384 + (p.e.toNat % 16777216) * 1099511627776 := by
    have e : (shl64 p.e 40).toNat = 2 ^ 40 * (p.e.toNat % 16777216) := by rw [tn_shl]; omega
    rw [P5.w1, tn_or 40 (by rw [b1]; omega) e, e, b1]; omega
  have c0 : p.w2.toNat = p.e.toNat / 16777216 := tn_shr _ _
  simp only [val3, P5.val, a2, b2, c0]
  omega
def parts3 (x y z : UInt64) : P5 := ⟨mk26 x, mk26 (shr64 x 26), mk26 (shr64 x 52 ||| shl64 y 12), mk26 (shr64 y 14), shr64 y 40 ||| shl64 z 24⟩
theorem parts_val (x y z : UInt64) (hz : z.toNat < 4) : (parts3 x y z).val = val3 x y z ∧ (parts3 x y z).lt 67108864 := by
  have hx := x.toNat_lt
  have hy := y.toNat_lt
  have a0 : (shr64 x 52).toNat = x.toNat / 4503599627370496 := tn_shr _ _
  have a1 : (shr64 x 52 ||| shl64 y 12).toNat = x.toNat / 4503599627370496 + (y.toNat % 4503599627370496) * 4096 := by
    have e : (shl64 y 12).toNat = 2 ^ 12 * (y.toNat % 4503599627370496) := by rw [tn_shl]; omega
    rw [tn_or 12 (by rw [a0]; omega) e, e, a0]; omega
  have b0 : (shr64 y 40).toNat = y.toNat / 1099511627776 := tn_shr _ _
  have b1 : (shr64 y 40 ||| shl64 z 24).toNat = y.toNat / 1099511627776 + z.toNat * 16777216 := by
    have e : (shl64 z 24).toNat = 2 ^ 24 * z.toNat := by rw [tn_shl]; omega
    rw [tn_or 24 (by rw [b0]; omega) e, e, b0]; omega
  have c0 : (shr64 x 26).toNat = x.toNat / 67108864 := tn_shr _ _
  have d0 : (shr64 y 14).toNat = y.toNat / 16384 := tn_shr _ _
  simp only [parts3, P5.val, P5.lt, val3, tn_mk26, a1, b1, c0, d0]
  refine ⟨?_, by omega, by omega, by omega, by omega, by omega⟩
  omega
theorem val3_inj {x y z x' y' z' : UInt64} (h : val3 x y z = val3 x' y' z') : x = x' ∧ y = y' ∧ z = z' := by
  have h1 := x.toNat_lt; have h2 := y.toNat_lt; have h3 := x'.toNat_lt; have h4 := y'.toNat_lt
  simp only [val3] at h
  exact ⟨UInt64.toNat_inj.mp (by omega), UInt64.toNat_inj.mp (by omega), UInt64.toNat_inj.mp (by omega)⟩
def sp0 (v : Nat) : UInt64 := UInt64.ofNat v
def sp1 (v : Nat) : UInt64 := UInt64.ofNat (v / 18446744073709551616)
def sp2 (v : Nat) : UInt64 := UInt64.ofNat (v / 340282366920938463463374607431768211456)
theorem sp_val {v : Nat} (h : v < 6277101735386680763835789423207666416102355444464034512896) : val3 (sp0 v) (sp1 v) (sp2 v) = v := by
  simp only [val3, sp0, sp1, sp2, UInt64.toNat_ofNat']
  omega
theorem sp_of {x y z : UInt64} {v : Nat} (h : val3 x y z = v) : x = sp0 v ∧ y = sp1 v ∧ z = sp2 v := by
  have h1 := x.toNat_lt; have h2 := y.toNat_lt; have h3 := z.toNat_lt
  exact val3_inj (by rw [h, sp_val]; simp only [val3] at h; omega)
theorem canon (x y z : UInt64) (hz : z.toNat < 4) : ((parts3 x y z).carried.w0 = x ∧ (parts3 x y z).carried.w1 = y ∧ (parts3 x y z).carried.w2 = z) ↔ val3 x y z < pP := by
  obtain ⟨h1, h2, h3, h4, h5, h6⟩ := parts_val x y z hz
  obtain ⟨g1, g2⟩ := carried_val (parts3 x y z) ⟨by omega, by omega, by omega, by omega, by omega⟩
  have g3 := whole_val _ g2
  rw [g1, h1] at g3
  have hv : val3 x y z < 18446744073709551616 * 18446744073709551616 * 18446744073709551616 := by
    have h1 := x.toNat_lt; have h2 := y.toNat_lt; have h3 := z.toNat_lt
    simp only [val3]; omega
  constructor
  · rintro ⟨e1, e2, e3⟩
    rw [e1, e2, e3] at g3
    rw [g3]; exact Nat.mod_lt _ (by decide)
  · intro h
    rw [Nat.mod_eq_of_lt h] at g3
    exact val3_inj g3
def mul5 (p r : P5) : P5 := ⟨0 + p.a * r.a + p.b * r.e * 5 + p.c * r.d * 5 + p.d * r.c * 5 + p.e * r.b * 5, 0 + p.a * r.b + p.b * r.a + p.c * r.e * 5 + p.d * r.d * 5 + p.e * r.c * 5,
  0 + p.a * r.c + p.b * r.b + p.c * r.a + p.d * r.e * 5 + p.e * r.d * 5, 0 + p.a * r.d + p.b * r.c + p.c * r.b + p.d * r.a + p.e * r.e * 5, 0 + p.a * r.e + p.b * r.d + p.c * r.c + p.d * r.b + p.e * r.a⟩
theorem m_lt {x y : Nat} (hx : x < 67108864) (hy : y < 67108864) : x * y ≤ 67108863 * 67108863 := Nat.mul_le_mul (by omega) (by omega)
theorem tn_m {x y : UInt64} (hx : x.toNat < 67108864) (hy : y.toNat < 67108864) : (x * y).toNat = x.toNat * y.toNat := tn_mul (by have := m_lt hx hy; omega)
theorem tn_m5 {x y : UInt64} (hx : x.toNat < 67108864) (hy : y.toNat < 67108864) : (x * y * 5).toNat = x.toNat * y.toNat * 5 := by
  have := m_lt hx hy
  rw [tn_mul (by rw [tn_m hx hy]; show _ * 5 < _; omega), tn_m hx hy]; rfl
theorem add5 {a b c d e : UInt64} {na nb nc nd ne : Nat} (ha : a.toNat = na) (hb : b.toNat = nb) (hc : c.toNat = nc) (hd : d.toNat = nd) (he : e.toNat = ne) (h : na + nb + nc + nd + ne < 18446744073709551616) : (0 + a + b + c + d + e).toNat = na + nb + nc + nd + ne := by
  subst ha hb hc hd he
  have e0 : (0 + a).toNat = a.toNat := by simp
  rw [tn_add (by rw [tn_add (by rw [tn_add (by rw [tn_add (by rw [e0]; omega), e0]; omega), tn_add (by rw [e0]; omega), e0]; omega), tn_add (by rw [tn_add (by rw [e0]; omega), e0]; omega), tn_add (by rw [e0]; omega), e0]; omega), tn_add (by rw [tn_add (by rw [tn_add (by rw [e0]; omega), e0]; omega), tn_add (by rw [e0]; omega), e0]; omega), tn_add (by rw [tn_add (by rw [e0]; omega), e0]; omega), tn_add (by rw [e0]; omega), e0]
theorem mul5_nat (x1 x2 x3 x4 x5 y1 y2 y3 y4 y5 : Nat) : (x1 * y1 + x2 * y5 * 5 + x3 * y4 * 5 + x4 * y3 * 5 + x5 * y2 * 5 + (x1 * y2 + x2 * y1 + x3 * y5 * 5 + x4 * y4 * 5 + x5 * y3 * 5) * 67108864 + (x1 * y3 + x2 * y2 + x3 * y1 + x4 * y5 * 5 + x5 * y4 * 5) * 4503599627370496 + (x1 * y4 + x2 * y3 + x3 * y2 + x4 * y1 + x5 * y5 * 5) * 302231454903657293676544 + (x1 * y5 + x2 * y4 + x3 * y3 + x4 * y2 + x5 * y1) * 20282409603651670423947251286016) % pP = (x1 + x2 * 67108864 + x3 * 4503599627370496 + x4 * 302231454903657293676544 + x5 * 20282409603651670423947251286016) * (y1 + y2 * 67108864 + y3 * 4503599627370496 + y4 * 302231454903657293676544 + y5 * 20282409603651670423947251286016) % pP := by
  have h : (x1 + x2 * 67108864 + x3 * 4503599627370496 + x4 * 302231454903657293676544 + x5 * 20282409603651670423947251286016) * (y1 + y2 * 67108864 + y3 * 4503599627370496 + y4 * 302231454903657293676544 + y5 * 20282409603651670423947251286016) = x1 * y1 + x2 * y5 * 5 + x3 * y4 * 5 + x4 * y3 * 5 + x5 * y2 * 5 + (x1 * y2 + x2 * y1 + x3 * y5 * 5 + x4 * y4 * 5 + x5 * y3 * 5) * 67108864 + (x1 * y3 + x2 * y2 + x3 * y1 + x4 * y5 * 5 + x5 * y4 * 5) * 4503599627370496 + (x1 * y4 + x2 * y3 + x3 * y2 + x4 * y1 + x5 * y5 * 5) * 302231454903657293676544 + (x1 * y5 + x2 * y4 + x3 * y3 + x4 * y2 + x5 * y1) * 20282409603651670423947251286016 + ((x2 * y5 + x3 * y4 + x4 * y3 + x5 * y2) + (x3 * y5 + x4 * y4 + x5 * y3) * 67108864 + (x4 * y5 + x5 * y4) * 4503599627370496 + (x5 * y5) * 302231454903657293676544) * pP := by
    simp only [Nat.add_mul, Nat.mul_add, pP]
    have e01 : x1 * (y2 * 67108864) = x1 * y2 * 67108864 := by rw [Nat.mul_assoc]
    have e02 : x1 * (y3 * 4503599627370496) = x1 * y3 * 4503599627370496 := by rw [Nat.mul_assoc]
    have e03 : x1 * (y4 * 302231454903657293676544) = x1 * y4 * 302231454903657293676544 := by rw [Nat.mul_assoc]
    have e04 : x1 * (y5 * 20282409603651670423947251286016) = x1 * y5 * 20282409603651670423947251286016 := by rw [Nat.mul_assoc]
    have e10 : x2 * 67108864 * y1 = x2 * y1 * 67108864 := by rw [Nat.mul_right_comm]
    have e11 : x2 * 67108864 * (y2 * 67108864) = x2 * y2 * 4503599627370496 := by rw [Nat.mul_mul_mul_comm]
    have e12 : x2 * 67108864 * (y3 * 4503599627370496) = x2 * y3 * 302231454903657293676544 := by rw [Nat.mul_mul_mul_comm]
    have e13 : x2 * 67108864 * (y4 * 302231454903657293676544) = x2 * y4 * 20282409603651670423947251286016 := by rw [Nat.mul_mul_mul_comm]
    have e14 : x2 * 67108864 * (y5 * 20282409603651670423947251286016) = x2 * y5 * 1361129467683753853853498429727072845824 := by rw [Nat.mul_mul_mul_comm]
    have e20 : x3 * 4503599627370496 * y1 = x3 * y1 * 4503599627370496 := by rw [Nat.mul_right_comm]
    have e21 : x3 * 4503599627370496 * (y2 * 67108864) = x3 * y2 * 302231454903657293676544 := by rw [Nat.mul_mul_mul_comm]
    have e22 : x3 * 4503599627370496 * (y3 * 4503599627370496) = x3 * y3 * 20282409603651670423947251286016 := by rw [Nat.mul_mul_mul_comm]
    have e23 : x3 * 4503599627370496 * (y4 * 302231454903657293676544) = x3 * y4 * 1361129467683753853853498429727072845824 := by rw [Nat.mul_mul_mul_comm]
    have e24 : x3 * 4503599627370496 * (y5 * 20282409603651670423947251286016) = x3 * y5 * 91343852333181432387730302044767688728495783936 := by rw [Nat.mul_mul_mul_comm]
    have e30 : x4 * 302231454903657293676544 * y1 = x4 * y1 * 302231454903657293676544 := by rw [Nat.mul_right_comm]
    have e31 : x4 * 302231454903657293676544 * (y2 * 67108864) = x4 * y2 * 20282409603651670423947251286016 := by rw [Nat.mul_mul_mul_comm]
    have e32 : x4 * 302231454903657293676544 * (y3 * 4503599627370496) = x4 * y3 * 1361129467683753853853498429727072845824 := by rw [Nat.mul_mul_mul_comm]
    have e33 : x4 * 302231454903657293676544 * (y4 * 302231454903657293676544) = x4 * y4 * 91343852333181432387730302044767688728495783936 := by rw [Nat.mul_mul_mul_comm]
    have e34 : x4 * 302231454903657293676544 * (y5 * 20282409603651670423947251286016) = x4 * y5 * 6129982163463555433433388108601236734474956488734408704 := by rw [Nat.mul_mul_mul_comm]
    have e40 : x5 * 20282409603651670423947251286016 * y1 = x5 * y1 * 20282409603651670423947251286016 := by rw [Nat.mul_right_comm]
    have e41 : x5 * 20282409603651670423947251286016 * (y2 * 67108864) = x5 * y2 * 1361129467683753853853498429727072845824 := by rw [Nat.mul_mul_mul_comm]
    have e42 : x5 * 20282409603651670423947251286016 * (y3 * 4503599627370496) = x5 * y3 * 91343852333181432387730302044767688728495783936 := by rw [Nat.mul_mul_mul_comm]
    have e43 : x5 * 20282409603651670423947251286016 * (y4 * 302231454903657293676544) = x5 * y4 * 6129982163463555433433388108601236734474956488734408704 := by rw [Nat.mul_mul_mul_comm]
    have e44 : x5 * 20282409603651670423947251286016 * (y5 * 20282409603651670423947251286016) = x5 * y5 * 411376139330301510538742295639337626245683966408394965837152256 := by rw [Nat.mul_mul_mul_comm]
    rw [e01, e02, e03, e04, e10, e11, e12, e13, e14, e20, e21, e22, e23, e24, e30, e31, e32, e33, e34, e40, e41, e42, e43, e44]
    clear e01 e02 e03 e04 e10 e11 e12 e13 e14 e20 e21 e22 e23 e24 e30 e31 e32 e33 e34 e40 e41 e42 e43 e44
    generalize x1 * y1 = m00
    generalize x1 * y2 = m01
    generalize x1 * y3 = m02
    generalize x1 * y4 = m03
    generalize x1 * y5 = m04
    generalize x2 * y1 = m10
    generalize x2 * y2 = m11
    generalize x2 * y3 = m12
    generalize x2 * y4 = m13
    generalize x2 * y5 = m14
    generalize x3 * y1 = m20
    generalize x3 * y2 = m21
    generalize x3 * y3 = m22
    generalize x3 * y4 = m23
    generalize x3 * y5 = m24
    generalize x4 * y1 = m30
    generalize x4 * y2 = m31
    generalize x4 * y3 = m32
    generalize x4 * y4 = m33
    generalize x4 * y5 = m34
    generalize x5 * y1 = m40
    generalize x5 * y2 = m41
    generalize x5 * y3 = m42
    generalize x5 * y4 = m43
    generalize x5 * y5 = m44
    omega
  rw [h, Nat.add_mul_mod_self_right]
theorem mul5_val (p r : P5) (hp : p.lt 67108864) (hr : r.lt 67108864) : (mul5 p r).val % pP = p.val * r.val % pP ∧ (mul5 p r).lt 2305843009213693952 := by
  obtain ⟨p1, p2, p3, p4, p5⟩ := hp
  obtain ⟨r1, r2, r3, r4, r5⟩ := hr
  have b11 := m_lt p1 r1; have b12 := m_lt p1 r2; have b13 := m_lt p1 r3; have b14 := m_lt p1 r4; have b15 := m_lt p1 r5
  have b21 := m_lt p2 r1; have b22 := m_lt p2 r2; have b23 := m_lt p2 r3; have b24 := m_lt p2 r4; have b25 := m_lt p2 r5
  have b31 := m_lt p3 r1; have b32 := m_lt p3 r2; have b33 := m_lt p3 r3; have b34 := m_lt p3 r4; have b35 := m_lt p3 r5
  have b41 := m_lt p4 r1; have b42 := m_lt p4 r2; have b43 := m_lt p4 r3; have b44 := m_lt p4 r4; have b45 := m_lt p4 r5
  have b51 := m_lt p5 r1; have b52 := m_lt p5 r2; have b53 := m_lt p5 r3; have b54 := m_lt p5 r4; have b55 := m_lt p5 r5
  have e1 := add5 (tn_m p1 r1) (tn_m5 p2 r5) (tn_m5 p3 r4) (tn_m5 p4 r3) (tn_m5 p5 r2) (by omega)
  have e2 := add5 (tn_m p1 r2) (tn_m p2 r1) (tn_m5 p3 r5) (tn_m5 p4 r4) (tn_m5 p5 r3) (by omega)
  have e3 := add5 (tn_m p1 r3) (tn_m p2 r2) (tn_m p3 r1) (tn_m5 p4 r5) (tn_m5 p5 r4) (by omega)
  have e4 := add5 (tn_m p1 r4) (tn_m p2 r3) (tn_m p3 r2) (tn_m p4 r1) (tn_m5 p5 r5) (by omega)
  have e5 := add5 (tn_m p1 r5) (tn_m p2 r4) (tn_m p3 r3) (tn_m p4 r2) (tn_m p5 r1) (by omega)
  simp only [mul5, P5.val, P5.lt, e1, e2, e3, e4, e5]
  refine ⟨?_, by omega, by omega, by omega, by omega, by omega⟩
  clear e1 e2 e3 e4 e5 b11 b12 b13 b14 b15 b21 b22 b23 b24 b25 b31 b32 b33 b34 b35 b41 b42 b43 b44 b45 b51 b52 b53 b54 b55 p1 p2 p3 p4 p5 r1 r2 r3 r4 r5
  generalize p.a.toNat = x1; generalize p.b.toNat = x2; generalize p.c.toNat = x3; generalize p.d.toNat = x4; generalize p.e.toNat = x5
  generalize r.a.toNat = y1; generalize r.b.toNat = y2; generalize r.c.toNat = y3; generalize r.d.toNat = y4; generalize r.e.toNat = y5
  refine mul5_nat x1 x2 x3 x4 x5 y1 y2 y3 y4 y5
end Go.Sy
