/- Products of four words and four words, folded below 2^256. -/
import Derived.Test.YthngiogkogeigaaDoorvQ2
set_option linter.unusedVariables false
set_option linter.unusedSimpArgs false
namespace Go.Sy
structure Stp (x y w k l c : UInt64) : Prop where
  e : l.toNat + c.toNat * 18446744073709551616 = x.toNat * y.toNat + w.toNat + k.toNat
theorem stp {x y w k p h s c1 l c2 : UInt64} (hp : x * y = p) (hh : mulH x y = h) (hs : adS p w 0 = s) (hc1 : adC p w 0 = c1) (hl : adS s k 0 = l) (hc2 : adC s k 0 = c2) : Stp x y w k l (h + c1 + c2) := by
  have := st_val x y w k
  simp only [stL, stK, hp, hh, hs, hc1, hl, hc2] at this
  exact ⟨this⟩
theorem stp_row {x y0 y1 y2 y3 w0 w1 w2 w3 l0 l1 l2 l3 c0 c1 c2 c3 : UInt64} (h0 : Stp x y0 w0 0 l0 c0) (h1 : Stp x y1 w1 c0 l1 c1) (h2 : Stp x y2 w2 c1 l2 c2) (h3 : Stp x y3 w3 c2 l3 c3) :
    vQ l0 l1 l2 l3 + m4 * c3.toNat = x.toNat * vQ y0 y1 y2 y3 + vQ w0 w1 w2 w3 := by
  obtain ⟨h0⟩ := h0
  obtain ⟨h1⟩ := h1
  obtain ⟨h2⟩ := h2
  obtain ⟨h3⟩ := h3
  have z : (0 : UInt64).toNat = 0 := rfl
  rw [z] at h0
  simp only [vQ]
  rw [show m4 = 18446744073709551616 * (18446744073709551616 * (18446744073709551616 * 18446744073709551616)) from rfl]
  generalize (18446744073709551616 : Nat) = Q at *
  grind
theorem vQ_zero : vQ 0 0 0 0 = 0 := rfl
theorem prod_val {a b c d y0 y1 y2 y3 : UInt64} {r00 r01 r02 r03 k0 r10 r11 r12 r13 k1 r20 r21 r22 r23 k2 r30 r31 r32 r33 k3 : UInt64}
    (h0 : vQ r00 r01 r02 r03 + m4 * k0.toNat = a.toNat * vQ y0 y1 y2 y3 + vQ 0 0 0 0)
    (h1 : vQ r10 r11 r12 r13 + m4 * k1.toNat = b.toNat * vQ y0 y1 y2 y3 + vQ r01 r02 r03 k0)
    (h2 : vQ r20 r21 r22 r23 + m4 * k2.toNat = c.toNat * vQ y0 y1 y2 y3 + vQ r11 r12 r13 k1)
    (h3 : vQ r30 r31 r32 r33 + m4 * k3.toNat = d.toNat * vQ y0 y1 y2 y3 + vQ r21 r22 r23 k2) :
    vQ r00 r10 r20 r30 + m4 * vQ r31 r32 r33 k3 = vQ a b c d * vQ y0 y1 y2 y3 := by
  rw [vQ_zero] at h0
  rw [show vQ a b c d = a.toNat + 18446744073709551616 * (b.toNat + 18446744073709551616 * (c.toNat + 18446744073709551616 * d.toNat)) from rfl]
  generalize vQ y0 y1 y2 y3 = Y at *
  simp only [vQ] at *
  rw [show m4 = 18446744073709551616 * (18446744073709551616 * (18446744073709551616 * 18446744073709551616)) from rfl] at *
  generalize (18446744073709551616 : Nat) = Q at *
  replace h1 := congrArg (Q * ·) h1
  replace h2 := congrArg (Q * Q * ·) h2
  replace h3 := congrArg (Q * Q * Q * ·) h3
  grind
theorem fold_val {lo hi r k P : Nat} (h1 : lo + m4 * hi = P) (h2 : r + m4 * k = 38 * hi + lo) : (r + m4 * k) % p25 = P % p25 := by
  have e : P = r + m4 * k + 2 * p25 * hi := by rw [← h1, h2, m4_p]; grind
  rw [e, add_2p]
theorem fold_le {lo hi r k : Nat} (h2 : r + m4 * k = 38 * hi + lo) (hl : lo < m4) (hh : hi < m4) : k ≤ 38 := by
  have := m4_is
  rcases Nat.lt_or_ge 38 k with h | h
  · have := Nat.mul_le_mul_left m4 h
    omega
  · exact h
end Go.Sy

