/- Three words and three words; three words by two; below the prime. -/
import Derived.Test.YthcpkdhojokhdaavP2
set_option linter.unusedVariables false
set_option linter.unusedSimpArgs false
namespace Go.Sy
def adS (x y c : UInt64) : UInt64 := UInt64.ofNat ((x.toNat + y.toNat + c.toNat) % 18446744073709551616)
def adC (x y c : UInt64) : UInt64 := UInt64.ofNat ((x.toNat + y.toNat + c.toNat) / 18446744073709551616)
theorem ad_val (x y : UInt64) {c : UInt64} (hc : c.toNat ≤ 1) : (adS x y c).toNat + (adC x y c).toNat * 18446744073709551616 = x.toNat + y.toNat + c.toNat ∧ (adC x y c).toNat ≤ 1 := by
  have hx := x.toNat_lt; have hy := y.toNat_lt
  simp only [adS, adC, UInt64.toNat_ofNat']
  omega
structure T3 where
  a : UInt64
  b : UInt64
  c : UInt64
def T3.val (t : T3) : Nat := val3 t.a t.b t.c
def T3.plus (x y : T3) : T3 := ⟨adS x.a y.a 0, adS x.b y.b (adC x.a y.a 0), adS x.c y.c (adC x.b y.b (adC x.a y.a 0))⟩
theorem plus_val (x y : T3) (h : x.val + y.val < 6277101735386680763835789423207666416102355444464034512896) : (x.plus y).val = x.val + y.val := by
  obtain ⟨a1, a2⟩ := ad_val x.a y.a (c := 0) (by decide)
  obtain ⟨b1, b2⟩ := ad_val x.b y.b a2
  obtain ⟨c1, c2⟩ := ad_val x.c y.c b2
  have z : (0 : UInt64).toNat = 0 := rfl
  simp only [T3.val, T3.plus, val3] at h ⊢
  rw [z] at a1
  generalize adC x.a y.a 0 = k1 at *
  generalize adC x.b y.b k1 = k2 at *
  generalize adC x.c y.c k2 = k3 at *
  have := x.a.toNat_lt; have := x.b.toNat_lt; have := x.c.toNat_lt
  have := (adS x.a y.a 0).toNat_lt; have := (adS x.b y.b k1).toNat_lt; have := (adS x.c y.c k2).toNat_lt
  omega
def mx0 (x : UInt64) : UInt64 := x &&& 4294967295
def mx1 (x : UInt64) : UInt64 := shr64 x 32
def mulT (x y : UInt64) : UInt64 := mx1 x * mx0 y + shr64 (mx0 x * mx0 y) 32
def mulH (x y : UInt64) : UInt64 := mx1 x * mx1 y + shr64 (mulT x y) 32 + shr64 (mx0 (mulT x y) + mx0 x * mx1 y) 32
theorem tn_mx0 (x : UInt64) : (mx0 x).toNat = x.toNat % 4294967296 := tn_mask 32 rfl x
theorem tn_mx1 (x : UInt64) : (mx1 x).toNat = x.toNat / 4294967296 := tn_shr x 32
theorem mulH_val (x y : UInt64) : (mulH x y).toNat * 18446744073709551616 + (x * y).toNat = x.toNat * y.toNat ∧ (mulH x y).toNat ≤ 18446744073709551614 := by
  have hx := x.toNat_lt; have hy := y.toNat_lt
  obtain ⟨a0, ha0⟩ : ∃ n, (mx0 x).toNat = n := ⟨_, rfl⟩
  obtain ⟨a1, ha1⟩ : ∃ n, (mx1 x).toNat = n := ⟨_, rfl⟩
  obtain ⟨b0, hb0⟩ : ∃ n, (mx0 y).toNat = n := ⟨_, rfl⟩
  obtain ⟨b1, hb1⟩ : ∃ n, (mx1 y).toNat = n := ⟨_, rfl⟩
  have la0 : a0 ≤ 4294967295 := by rw [← ha0, tn_mx0]; omega
  have la1 : a1 ≤ 4294967295 := by rw [← ha1, tn_mx1]; omega
  have lb0 : b0 ≤ 4294967295 := by rw [← hb0, tn_mx0]; omega
  have lb1 : b1 ≤ 4294967295 := by rw [← hb1, tn_mx1]; omega
  have ex : x.toNat = a0 + a1 * 4294967296 := by rw [← ha0, ← ha1, tn_mx0, tn_mx1]; omega
  have ey : y.toNat = b0 + b1 * 4294967296 := by rw [← hb0, ← hb1, tn_mx0, tn_mx1]; omega
  have m00 : a0 * b0 ≤ 4294967295 * 4294967295 := Nat.mul_le_mul la0 lb0
  have m01 : a0 * b1 ≤ 4294967295 * 4294967295 := Nat.mul_le_mul la0 lb1
  have m10 : a1 * b0 ≤ 4294967295 * 4294967295 := Nat.mul_le_mul la1 lb0
  have m11 : a1 * b1 ≤ 4294967295 * 4294967295 := Nat.mul_le_mul la1 lb1
  have e00 : (mx0 x * mx0 y).toNat = a0 * b0 := by rw [tn_mul (by rw [ha0, hb0]; omega), ha0, hb0]
  have e01 : (mx0 x * mx1 y).toNat = a0 * b1 := by rw [tn_mul (by rw [ha0, hb1]; omega), ha0, hb1]
  have e10 : (mx1 x * mx0 y).toNat = a1 * b0 := by rw [tn_mul (by rw [ha1, hb0]; omega), ha1, hb0]
  have e11 : (mx1 x * mx1 y).toNat = a1 * b1 := by rw [tn_mul (by rw [ha1, hb1]; omega), ha1, hb1]
  have et : (mulT x y).toNat = a1 * b0 + a0 * b0 / 4294967296 := by
    have e : (shr64 (mx0 x * mx0 y) 32).toNat = a0 * b0 / 4294967296 := by rw [tn_shr, e00]
    rw [mulT, tn_add (by rw [e10, e]; omega), e10, e]
  have es : (shr64 (mulT x y) 32).toNat = (a1 * b0 + a0 * b0 / 4294967296) / 4294967296 := by rw [tn_shr, et]
  have eu : (mx0 (mulT x y) + mx0 x * mx1 y).toNat = (a1 * b0 + a0 * b0 / 4294967296) % 4294967296 + a0 * b1 := by
    rw [tn_add (by rw [tn_mx0, et, e01]; omega), tn_mx0, et, e01]
  have ev : (shr64 (mx0 (mulT x y) + mx0 x * mx1 y) 32).toNat = ((a1 * b0 + a0 * b0 / 4294967296) % 4294967296 + a0 * b1) / 4294967296 := by rw [tn_shr, eu]
  have eh : (mulH x y).toNat = a1 * b1 + (a1 * b0 + a0 * b0 / 4294967296) / 4294967296 + ((a1 * b0 + a0 * b0 / 4294967296) % 4294967296 + a0 * b1) / 4294967296 := by
    rw [mulH, tn_add (by rw [tn_add (by rw [e11, es]; omega), e11, es, ev]; omega), tn_add (by rw [e11, es]; omega), e11, es, ev]
  have exy : x.toNat * y.toNat = a0 * b0 + (a0 * b1 + a1 * b0) * 4294967296 + a1 * b1 * 18446744073709551616 := by
    rw [ex, ey, Nat.add_mul, Nat.mul_add, Nat.mul_add, ← Nat.mul_assoc, Nat.mul_right_comm a1 4294967296 b0, Nat.mul_mul_mul_comm a1 4294967296 b1 4294967296]
    omega
  rw [eh, UInt64.toNat_mul, exy]
  generalize a0 * b0 = p at *
  generalize a0 * b1 = q at *
  generalize a1 * b0 = r at *
  generalize a1 * b1 = s at *
  clear e00 e01 e10 e11 et es eu ev eh exy ex ey hx hy ha0 ha1 hb0 hb1 la0 la1 lb0 lb1
  omega
def stL (x y w k : UInt64) : UInt64 := adS (adS (x * y) w 0) k 0
def stK (x y w k : UInt64) : UInt64 := mulH x y + adC (x * y) w 0 + adC (adS (x * y) w 0) k 0
theorem st_val (x y w k : UInt64) : (stL x y w k).toNat + (stK x y w k).toNat * 18446744073709551616 = x.toNat * y.toNat + w.toNat + k.toNat := by
  obtain ⟨h1, h2⟩ := mulH_val x y
  obtain ⟨a1, a2⟩ := ad_val (x * y) w (c := 0) (by decide)
  obtain ⟨b1, b2⟩ := ad_val (adS (x * y) w 0) k (c := 0) (by decide)
  have z : (0 : UInt64).toNat = 0 := rfl
  rw [z] at a1 b1
  have hx := x.toNat_lt; have hy := y.toNat_lt; have hw := w.toNat_lt; have hk := k.toNat_lt
  have hm : x.toNat * y.toNat ≤ 18446744073709551615 * 18446744073709551615 := Nat.mul_le_mul (by omega) (by omega)
  have e1 : (mulH x y + adC (x * y) w 0).toNat = (mulH x y).toNat + (adC (x * y) w 0).toNat := tn_add (by omega)
  have hs := (adS (adS (x * y) w 0) k 0).toNat_lt
  have e2 : (stK x y w k).toNat = (mulH x y).toNat + (adC (x * y) w 0).toNat + (adC (adS (x * y) w 0) k 0).toNat := by
    rw [stK, tn_add (by rw [e1]; omega), e1]
  rw [e2, stL]
  generalize x.toNat * y.toNat = m at *
  clear e1 e2 hs hx hy hw hk hm h2 a2 b2 z
  generalize (adS (adS (x * y) w 0) k 0).toNat = v1 at *
  generalize (adC (adS (x * y) w 0) k 0).toNat = v2 at *
  generalize (adS (x * y) w 0).toNat = v3 at *
  generalize (adC (x * y) w 0).toNat = v4 at *
  generalize (mulH x y).toNat = v5 at *
  generalize (x * y).toNat = v6 at *
  generalize w.toNat = v7 at *
  generalize k.toNat = v8 at *
  rw [Nat.add_mul, Nat.add_mul]
  generalize 18446744073709551616 = B at *
  generalize v5 * B = u5 at *
  generalize v4 * B = u4 at *
  generalize v2 * B = u2 at *
  omega
def k00 (a : T3) (r0 r1 : UInt64) := stK a.a r0 0 0
def k01 (a : T3) (r0 r1 : UInt64) := stK a.a r1 0 (k00 a r0 r1)
def w01 (a : T3) (r0 r1 : UInt64) := stL a.a r1 0 (k00 a r0 r1)
def k10 (a : T3) (r0 r1 : UInt64) := stK a.b r0 (w01 a r0 r1) 0
def w12 (a : T3) (r0 r1 : UInt64) := stL a.b r1 (k01 a r0 r1) (k10 a r0 r1)
def k11 (a : T3) (r0 r1 : UInt64) := stK a.b r1 (k01 a r0 r1) (k10 a r0 r1)
def k20 (a : T3) (r0 r1 : UInt64) := stK a.c r0 (w12 a r0 r1) 0
def q0 (a : T3) (r0 r1 : UInt64) := stL a.a r0 0 0
def q1 (a : T3) (r0 r1 : UInt64) := stL a.b r0 (w01 a r0 r1) 0
def q2 (a : T3) (r0 r1 : UInt64) := stL a.c r0 (w12 a r0 r1) 0
def q3 (a : T3) (r0 r1 : UInt64) := stL a.c r1 (k11 a r0 r1) (k20 a r0 r1)
def q4 (a : T3) (r0 r1 : UInt64) := stK a.c r1 (k11 a r0 r1) (k20 a r0 r1)
theorem q_val (a : T3) (r0 r1 : UInt64) : (q0 a r0 r1).toNat + (q1 a r0 r1).toNat * 18446744073709551616 + (q2 a r0 r1).toNat * 340282366920938463463374607431768211456 + (q3 a r0 r1).toNat * 6277101735386680763835789423207666416102355444464034512896 + (q4 a r0 r1).toNat * 115792089237316195423570985008687907853269984665640564039457584007913129639936 = a.val * (r0.toNat + r1.toNat * 18446744073709551616) := by
  have z : (0 : UInt64).toNat = 0 := rfl
  have e1 := st_val a.a r0 0 0
  have e2 := st_val a.a r1 0 (k00 a r0 r1)
  have e3 := st_val a.b r0 (w01 a r0 r1) 0
  have e4 := st_val a.b r1 (k01 a r0 r1) (k10 a r0 r1)
  have e5 := st_val a.c r0 (w12 a r0 r1) 0
  have e6 := st_val a.c r1 (k11 a r0 r1) (k20 a r0 r1)
  rw [z] at e1 e2 e3 e5
  change (q0 a r0 r1).toNat + (k00 a r0 r1).toNat * _ = _ at e1
  change (w01 a r0 r1).toNat + (k01 a r0 r1).toNat * _ = _ at e2
  change (q1 a r0 r1).toNat + (k10 a r0 r1).toNat * _ = _ at e3
  change (w12 a r0 r1).toNat + (k11 a r0 r1).toNat * _ = _ at e4
  change (q2 a r0 r1).toNat + (k20 a r0 r1).toNat * _ = _ at e5
  change (q3 a r0 r1).toNat + (q4 a r0 r1).toNat * _ = _ at e6
  simp only [T3.val, val3]
  have h : (a.a.toNat + a.b.toNat * 18446744073709551616 + a.c.toNat * 340282366920938463463374607431768211456) * (r0.toNat + r1.toNat * 18446744073709551616) = a.a.toNat * r0.toNat + (a.a.toNat * r1.toNat + a.b.toNat * r0.toNat) * 18446744073709551616 + (a.b.toNat * r1.toNat + a.c.toNat * r0.toNat) * 340282366920938463463374607431768211456 + a.c.toNat * r1.toNat * 6277101735386680763835789423207666416102355444464034512896 := by
    simp only [Nat.add_mul, Nat.mul_add]
    rw [← Nat.mul_assoc a.a.toNat, Nat.mul_right_comm a.b.toNat 18446744073709551616 r0.toNat, Nat.mul_mul_mul_comm a.b.toNat 18446744073709551616, Nat.mul_right_comm a.c.toNat 340282366920938463463374607431768211456 r0.toNat, Nat.mul_mul_mul_comm a.c.toNat 340282366920938463463374607431768211456]
    omega
  rw [h]
  generalize a.a.toNat * r0.toNat = m1 at *
  generalize a.a.toNat * r1.toNat = m2 at *
  generalize a.b.toNat * r0.toNat = m3 at *
  generalize a.b.toNat * r1.toNat = m4 at *
  generalize a.c.toNat * r0.toNat = m5 at *
  generalize a.c.toNat * r1.toNat = m6 at *
  omega
def lowT (a : T3) (r0 r1 : UInt64) : T3 := ⟨q0 a r0 r1, q1 a r0 r1, q2 a r0 r1 &&& 3⟩
def highT (a : T3) (r0 r1 : UInt64) : T3 := ⟨shr64 (q2 a r0 r1) 2 ||| shl64 (q3 a r0 r1) 62, shr64 (q3 a r0 r1) 2 ||| shl64 (q4 a r0 r1) 62, shr64 (q4 a r0 r1) 2⟩
theorem low_high (a : T3) (r0 r1 : UInt64) : (lowT a r0 r1).val + (highT a r0 r1).val * 1361129467683753853853498429727072845824 = a.val * (r0.toNat + r1.toNat * 18446744073709551616) ∧ (lowT a r0 r1).val < 1361129467683753853853498429727072845824 := by
  rw [← q_val]
  have h0 := (q0 a r0 r1).toNat_lt; have h1 := (q1 a r0 r1).toNat_lt; have h2 := (q2 a r0 r1).toNat_lt; have h3 := (q3 a r0 r1).toNat_lt; have h4 := (q4 a r0 r1).toNat_lt
  have m2 : (q2 a r0 r1 &&& 3).toNat = (q2 a r0 r1).toNat % 4 := tn_mask 2 rfl _
  have s2 : (shr64 (q2 a r0 r1) 2).toNat = (q2 a r0 r1).toNat / 4 := tn_shr _ _
  have s3 : (shr64 (q3 a r0 r1) 2).toNat = (q3 a r0 r1).toNat / 4 := tn_shr _ _
  have s4 : (shr64 (q4 a r0 r1) 2).toNat = (q4 a r0 r1).toNat / 4 := tn_shr _ _
  have u3 : (shl64 (q3 a r0 r1) 62).toNat = 2 ^ 62 * ((q3 a r0 r1).toNat % 4) := by rw [tn_shl]; omega
  have u4 : (shl64 (q4 a r0 r1) 62).toNat = 2 ^ 62 * ((q4 a r0 r1).toNat % 4) := by rw [tn_shl]; omega
  have o1 := tn_or 62 (x := shr64 (q2 a r0 r1) 2) (by rw [s2]; omega) u3
  have o2 := tn_or 62 (x := shr64 (q3 a r0 r1) 2) (by rw [s3]; omega) u4
  simp only [lowT, highT, T3.val, val3, m2, o1, o2, s2, s3, s4, u3, u4]
  omega
def low5 (a : T3) (r0 r1 : UInt64) : T3 := (((((lowT a r0 r1).plus (highT a r0 r1)).plus (highT a r0 r1)).plus (highT a r0 r1)).plus (highT a r0 r1)).plus (highT a r0 r1)
def cut3 (t : T3) : T3 := T3.plus ⟨t.a, t.b, t.c &&& 3⟩ ⟨5 * shr64 t.c 2, 0, 0⟩
def red3 (t : T3) : T3 := if 3 < t.c then cut3 t else t
def up3 (t : T3) : T3 := t.plus ⟨5, 0, 0⟩
def fin3 (t : T3) : T3 := if 3 < (up3 t).c then ⟨(up3 t).a, (up3 t).b, (up3 t).c &&& 3⟩ else t
def timesT (a : T3) (r0 r1 : UInt64) : T3 := fin3 (red3 (low5 a r0 r1))
end Go.Sy

