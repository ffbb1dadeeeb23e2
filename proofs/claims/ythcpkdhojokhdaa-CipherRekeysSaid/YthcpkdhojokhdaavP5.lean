/- Three words by two, below the prime: what it gives. -/
import Derived.Test.YthcpkdhojokhdaavP4
set_option linter.unusedVariables false
set_option linter.unusedSimpArgs false
namespace Go.Sy
theorem low5_val (a : T3) (r0 r1 : UInt64) (ha : a.val < 2722258935367507707706996859454145691648) (hr : r1.toNat < 1152921504606846976) : (low5 a r0 r1).val = (lowT a r0 r1).val + 5 * (highT a r0 r1).val ∧ (low5 a r0 r1).val < 1701411834604692317316873037158841057280 := by
  obtain ⟨h1, h2⟩ := low_high a r0 r1
  have h3 : a.val * (r0.toNat + r1.toNat * 18446744073709551616) ≤ 2722258935367507707706996859454145691648 * (1152921504606846976 * 18446744073709551616) := Nat.mul_le_mul (Nat.le_of_lt ha) (by have := r0.toNat_lt; omega)
  rw [← h1] at h3
  have h4 : (highT a r0 r1).val ≤ 42535295865117307932921825928971026432 := by
    generalize (lowT a r0 r1).val = x at *
    generalize (highT a r0 r1).val = y at *
    clear h1 ha hr
    omega
  generalize hx : (lowT a r0 r1).val = x at *
  generalize hy : (highT a r0 r1).val = y at *
  clear h1 h3 ha hr
  unfold low5
  have e1 := plus_val (lowT a r0 r1) (highT a r0 r1) (by rw [hx, hy]; omega)
  generalize (lowT a r0 r1).plus (highT a r0 r1) = t1 at *
  have e2 := plus_val t1 (highT a r0 r1) (by rw [e1, hx, hy]; omega)
  generalize t1.plus (highT a r0 r1) = t2 at *
  have e3 := plus_val t2 (highT a r0 r1) (by rw [e2, e1, hx, hy]; omega)
  generalize t2.plus (highT a r0 r1) = t3 at *
  have e4 := plus_val t3 (highT a r0 r1) (by rw [e3, e2, e1, hx, hy]; omega)
  generalize t3.plus (highT a r0 r1) = t4 at *
  have e5 := plus_val t4 (highT a r0 r1) (by rw [e4, e3, e2, e1, hx, hy]; omega)
  generalize t4.plus (highT a r0 r1) = t5 at *
  rw [e5, e4, e3, e2, e1, hx, hy]
  constructor <;> omega
theorem three_lt {x : UInt64} : (3 < x) ↔ 3 < x.toNat := by rw [UInt64.lt_iff_toNat_lt]; rfl
theorem and3 (x : UInt64) : (x &&& 3).toNat = x.toNat % 4 := tn_mask 2 rfl x
theorem top_le {t : T3} {k : Nat} (h : t.val < (k + 1) * 340282366920938463463374607431768211456) : t.c.toNat ≤ k := by
  simp only [T3.val, val3] at h
  have := t.a.toNat_lt; have := t.b.toNat_lt
  rw [Nat.add_mul] at h
  omega
theorem top_ge {t : T3} (h : ¬ 3 < t.c.toNat) : t.val < 1361129467683753853853498429727072845824 := by
  simp only [T3.val, val3]
  have := t.a.toNat_lt; have := t.b.toNat_lt
  omega
theorem cut_val {t : T3} (h : t.val < 1701411834604692317316873037158841057280) (h3 : 3 < t.c.toNat) : (cut3 t).val + 1361129467683753853853498429727072845819 = t.val ∧ ¬ 3 < (cut3 t).c.toNat := by
  have hc : t.c.toNat ≤ 7 := top_le (k := 7) (by omega)
  have e1 : (5 * shr64 t.c 2).toNat = 5 := by
    have : (shr64 t.c 2).toNat = 1 := by rw [tn_shr]; omega
    rw [tn_mul (by rw [this]; decide), this]; rfl
  have z : (0 : UInt64).toNat = 0 := rfl
  have ha := t.a.toNat_lt
  have hb := t.b.toNat_lt
  have v1 : T3.val ⟨t.a, t.b, t.c &&& 3⟩ + 1361129467683753853853498429727072845824 = t.val := by
    simp only [T3.val, val3, and3]; omega
  have v2 : T3.val ⟨5 * shr64 t.c 2, 0, 0⟩ = 5 := by simp only [T3.val, val3, e1, z]
  have v3 : (cut3 t).val = T3.val ⟨t.a, t.b, t.c &&& 3⟩ + 5 := by
    rw [cut3, plus_val _ _ (by rw [v2]; omega), v2]
  have v4 : (cut3 t).val + 1361129467683753853853498429727072845819 = t.val := by omega
  refine ⟨v4, ?_⟩
  have : (cut3 t).c.toNat ≤ 4 := top_le (k := 4) (by omega)
  intro h4
  have h5 : 4 * 340282366920938463463374607431768211456 ≤ (cut3 t).val := by simp only [T3.val, val3]; omega
  omega
theorem red_val {t : T3} (h : t.val < 1701411834604692317316873037158841057280) : (∃ c, (red3 t).val + c * 1361129467683753853853498429727072845819 = t.val) ∧ (red3 t).val < 1361129467683753853853498429727072845824 := by
  unfold red3
  by_cases h3 : 3 < t.c.toNat
  · rw [if_pos (three_lt.mpr h3)]
    obtain ⟨g1, g2⟩ := cut_val h h3
    exact ⟨⟨1, by omega⟩, top_ge g2⟩
  · rw [if_neg (fun h => h3 (three_lt.mp h))]
    exact ⟨⟨0, by omega⟩, top_ge h3⟩
theorem fin_val {t : T3} (h : t.val < 1361129467683753853853498429727072845824) : (fin3 t).val = t.val % 1361129467683753853853498429727072845819 := by
  have z : (0 : UInt64).toNat = 0 := rfl
  have v5 : T3.val ⟨5, 0, 0⟩ = 5 := rfl
  have hu : (up3 t).val = t.val + 5 := by rw [up3, plus_val _ _ (by rw [v5]; omega), v5]
  unfold fin3
  have ha := (up3 t).a.toNat_lt
  have hb := (up3 t).b.toNat_lt
  by_cases h3 : 3 < (up3 t).c.toNat
  · rw [if_pos (three_lt.mpr h3)]
    have hc : (up3 t).c.toNat ≤ 4 := top_le (k := 4) (by omega)
    have e : T3.val ⟨(up3 t).a, (up3 t).b, (up3 t).c &&& 3⟩ + 1361129467683753853853498429727072845819 = t.val := by
      simp only [T3.val, val3, and3] at hu ⊢; omega
    rw [← e, Nat.add_mod_right, Nat.mod_eq_of_lt (by omega)]
  · rw [if_neg (fun h => h3 (three_lt.mp h))]
    have := top_ge h3
    rw [Nat.mod_eq_of_lt (by omega)]
theorem times_val (a : T3) (r0 r1 : UInt64) (ha : a.val < 2722258935367507707706996859454145691648) (hr : r1.toNat < 1152921504606846976) : (timesT a r0 r1).val = a.val * (r0.toNat + r1.toNat * 18446744073709551616) % pP := by
  obtain ⟨h1, h2⟩ := low5_val a r0 r1 ha hr
  obtain ⟨⟨c, h3⟩, h4⟩ := red_val h2
  rw [timesT, fin_val h4, pP, ← (low_high a r0 r1).1]
  have e : (lowT a r0 r1).val + (highT a r0 r1).val * 1361129467683753853853498429727072845824 = (low5 a r0 r1).val + (highT a r0 r1).val * 1361129467683753853853498429727072845819 := by rw [h1]; omega
  rw [e, Nat.add_mul_mod_self_right, ← h3, Nat.add_mul_mod_self_right]
end Go.Sy

