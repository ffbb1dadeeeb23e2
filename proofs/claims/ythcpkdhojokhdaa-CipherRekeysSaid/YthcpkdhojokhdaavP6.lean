/- A block taken in: both ways give one number. -/
import Derived.Test.YthcpkdhojokhdaavP5
import Derived.Test.YthcpkdhojokhdaavP3
set_option linter.unusedVariables false
set_option linter.unusedSimpArgs false
namespace Go.Sy
theorem leN_append : ∀ (a b : List UInt8), leN (a ++ b) = leN a + 256 ^ a.length * leN b
  | [], b => by simp [leN]
  | x :: a, b => by
    simp only [List.cons_append, leN, leN_append a b, List.length_cons, Nat.pow_succ, Nat.mul_add]
    rw [Nat.mul_comm (256 ^ a.length) 256, Nat.mul_assoc]; omega
theorem leN_zeros (n : Nat) : leN (List.replicate n 0) = 0 := by
  induction n with
  | zero => rfl
  | succ n ih => simp [List.replicate_succ, leN, ih]
theorem leN_split (l : List UInt8) (k : Nat) (hk : k ≤ l.length) : leN l = leN (l.take k) + 256 ^ k * leN (l.drop k) := by
  have := leN_append (l.take k) (l.drop k)
  rw [List.take_append_drop, List.length_take, Nat.min_eq_left hk] at this
  exact this
theorem pieces24 {b : List UInt8} (h : b.length = 24) : val3 (lev (b.take 8)) (lev ((b.drop 8).take 8)) (lev ((b.drop 16).take 8)) = leN b := by
  have e1 := leN_split b 8 (by omega)
  have e2 := leN_split (b.drop 8) 8 (by rw [List.length_drop]; omega)
  rw [List.drop_drop] at e2
  have e3 : (b.drop 16).take 8 = b.drop 16 := List.take_of_length_le (by rw [List.length_drop]; omega)
  have l1 : (lev (b.take 8)).toNat = leN (b.take 8) := lev_nat (by rw [List.length_take]; omega)
  have l2 : (lev ((b.drop 8).take 8)).toNat = leN ((b.drop 8).take 8) := lev_nat (by rw [List.length_take]; omega)
  have l3 : (lev ((b.drop 16).take 8)).toNat = leN ((b.drop 16).take 8) := lev_nat (by rw [List.length_take]; omega)
  simp only [val3, l1, l2, l3]
  rw [e3, e1, e2]
  have p8 : 256 ^ 8 = 18446744073709551616 := rfl
  rw [p8, Nat.mul_add, ← Nat.mul_assoc]
  show _ = leN (b.take 8) + (18446744073709551616 * leN ((b.drop 8).take 8) + 18446744073709551616 * 18446744073709551616 * leN (b.drop 16))
  omega
def soakV (a0 a1 a2 r0 r1 : UInt64) (l : List UInt8) : Nat := (val3 a0 a1 a2 + (leN l + 256 ^ l.length)) * (r0.toNat + r1.toNat * 18446744073709551616) % pP
theorem soakV_lt (a0 a1 a2 r0 r1 : UInt64) (l : List UInt8) : soakV a0 a1 a2 r0 r1 l < pP := Nat.mod_lt _ (by decide)
theorem blk_lt {l : List UInt8} (h : l.length ≤ 16) : leN l + 256 ^ l.length < 680564733841876926926749214863536422912 := by
  have h1 := leN_lt l
  have h2 : 256 ^ l.length ≤ 256 ^ 16 := Nat.pow_le_pow_right (by decide) h
  have : 256 ^ 16 = 340282366920938463463374607431768211456 := rfl
  omega
section
variable {a0 a1 a2 r0 r1 x y z : UInt64} {l : List UInt8}
theorem soak_of (hn : val3 x y z = leN l + 256 ^ l.length) (hl : l.length ≤ 16) (ha : val3 a0 a1 a2 < pP) (hr : r1.toNat < 1152921504606846976) :
    (timesT (T3.plus ⟨a0, a1, a2⟩ ⟨x, y, z⟩) r0 r1).a = sp0 (soakV a0 a1 a2 r0 r1 l) ∧ (timesT (T3.plus ⟨a0, a1, a2⟩ ⟨x, y, z⟩) r0 r1).b = sp1 (soakV a0 a1 a2 r0 r1 l) ∧ (timesT (T3.plus ⟨a0, a1, a2⟩ ⟨x, y, z⟩) r0 r1).c = sp2 (soakV a0 a1 a2 r0 r1 l) := by
  have hb := blk_lt hl
  have ha2 : val3 a0 a1 a2 < 1361129467683753853853498429727072845819 := ha
  have hp : (T3.plus ⟨a0, a1, a2⟩ ⟨x, y, z⟩).val = val3 a0 a1 a2 + (leN l + 256 ^ l.length) := by
    rw [plus_val _ _ (by show val3 a0 a1 a2 + val3 x y z < _; rw [hn]; omega)]
    show val3 a0 a1 a2 + val3 x y z = _
    rw [hn]
  have hv := times_val (T3.plus ⟨a0, a1, a2⟩ ⟨x, y, z⟩) r0 r1 (by rw [hp]; omega) hr
  rw [hp] at hv
  exact sp_of (v := soakV a0 a1 a2 r0 r1 l) hv
def P5.addP (p q : P5) : P5 := ⟨p.a + q.a, p.b + q.b, p.c + q.c, p.d + q.d, p.e + q.e⟩
theorem addP_val {p q : P5} (hp : p.lt 67108864) (hq : q.lt 67108864) : (p.addP q).val = p.val + q.val ∧ (p.addP q).lt 2305843009213693952 := by
  obtain ⟨p1, p2, p3, p4, p5⟩ := hp
  obtain ⟨q1, q2, q3, q4, q5⟩ := hq
  have e1 : (p.a + q.a).toNat = p.a.toNat + q.a.toNat := tn_add (by omega)
  have e2 : (p.b + q.b).toNat = p.b.toNat + q.b.toNat := tn_add (by omega)
  have e3 : (p.c + q.c).toNat = p.c.toNat + q.c.toNat := tn_add (by omega)
  have e4 : (p.d + q.d).toNat = p.d.toNat + q.d.toNat := tn_add (by omega)
  have e5 : (p.e + q.e).toNat = p.e.toNat + q.e.toNat := tn_add (by omega)
  refine ⟨?_, ?_⟩
  · simp only [P5.addP, P5.val, e1, e2, e3, e4, e5, Nat.add_mul]; omega
  · simp only [P5.addP, P5.lt, e1, e2, e3, e4, e5]; omega
theorem psoak_val (hn : val3 x y z = leN l + 256 ^ l.length) (hl : l.length ≤ 16) (ha : a2.toNat < 4) :
    P5.val (mul5 ((parts3 a0 a1 a2).addP (parts3 x y z)).carried (parts3 r0 r1 0)) % pP = soakV a0 a1 a2 r0 r1 l ∧ (mul5 ((parts3 a0 a1 a2).addP (parts3 x y z)).carried (parts3 r0 r1 0)).lt 2305843009213693952 := by
  have hb := blk_lt hl
  have hz : z.toNat < 4 := by
    rw [← hn] at hb
    simp only [val3] at hb; omega
  obtain ⟨va, la⟩ := parts_val a0 a1 a2 ha
  obtain ⟨vn, ln⟩ := parts_val x y z hz
  obtain ⟨vr, lr⟩ := parts_val r0 r1 0 (by decide)
  obtain ⟨vs, ls⟩ := addP_val la ln
  obtain ⟨vc, lc⟩ := carried_val _ ls
  generalize P5.carried (P5.addP (parts3 a0 a1 a2) (parts3 x y z)) = c at *
  generalize parts3 r0 r1 0 = r at *
  obtain ⟨vm, lm⟩ := mul5_val _ _ lc lr
  refine ⟨?_, lm⟩
  have hr : val3 r0 r1 0 = r0.toNat + r1.toNat * 18446744073709551616 := by unfold val3; rw [show (0 : UInt64).toNat = 0 from rfl, Nat.zero_mul, Nat.add_zero]
  rw [vm, vc, vs, va, vn, vr, hn, hr, soakV]
  generalize val3 a0 a1 a2 + (leN l + 256 ^ l.length) = u
  generalize r0.toNat + r1.toNat * 18446744073709551616 = w
  rw [Nat.mod_mul_mod]
theorem psoak_of (hn : val3 x y z = leN l + 256 ^ l.length) (hl : l.length ≤ 16) (ha : a2.toNat < 4) :
    ((mul5 ((parts3 a0 a1 a2).addP (parts3 x y z)).carried (parts3 r0 r1 0)).carried).w0 = sp0 (soakV a0 a1 a2 r0 r1 l) ∧ ((mul5 ((parts3 a0 a1 a2).addP (parts3 x y z)).carried (parts3 r0 r1 0)).carried).w1 = sp1 (soakV a0 a1 a2 r0 r1 l) ∧ ((mul5 ((parts3 a0 a1 a2).addP (parts3 x y z)).carried (parts3 r0 r1 0)).carried).w2 = sp2 (soakV a0 a1 a2 r0 r1 l) := by
  obtain ⟨h1, h2⟩ := psoak_val (a0 := a0) (a1 := a1) (r0 := r0) (r1 := r1) hn hl ha
  generalize soakV a0 a1 a2 r0 r1 l = v at *
  generalize mul5 ((parts3 a0 a1 a2).addP (parts3 x y z)).carried (parts3 r0 r1 0) = m at *
  obtain ⟨vt, lt⟩ := carried_val _ h2
  have hw := whole_val _ lt
  rw [vt, h1] at hw
  exact sp_of hw
end
theorem short_val {held : List UInt8} {k : Nat} (hh : held.length = 16) (hk : k < 16) (hz : ∀ j, k ≤ j → j < 16 → held.getD j 0 = 0) :
    (k < 8 → val3 (lev (held.take 8) ||| shl64 1 (8 * k)) (lev ((held.drop 8).take 8)) 0 = leN (held.take k) + 256 ^ (held.take k).length) ∧
    (8 ≤ k → val3 (lev (held.take 8)) (lev ((held.drop 8).take 8) ||| shl64 1 (8 * (k - 8))) 0 = leN (held.take k) + 256 ^ (held.take k).length) := by
  have hd : held.drop k = List.replicate (16 - k) 0 := by
    apply List.ext_getElem
    · rw [List.length_drop, List.length_replicate]; omega
    · intro i h1 h2
      rw [List.length_replicate] at h2
      have := hz (k + i) (by omega) (by omega)
      rw [List.getElem_drop, List.getElem_replicate]
      simpa [List.getD, List.getElem?_eq_getElem (show k + i < held.length by omega)] using this
  have hlk : (held.take k).length = k := by rw [List.length_take]; omega
  have hlt := leN_lt (held.take k)
  rw [hlk] at hlt
  have l1 : (lev (held.take 8)).toNat = leN (held.take 8) := lev_nat (by rw [List.length_take]; omega)
  have l2 : (lev ((held.drop 8).take 8)).toNat = leN ((held.drop 8).take 8) := lev_nat (by rw [List.length_take]; omega)
  have hcat : held = held.take k ++ List.replicate (16 - k) 0 := by rw [← hd, List.take_append_drop]
  have z0 : (0 : UInt64).toNat = 0 := rfl
  have o1 : (1 : UInt64).toNat = 1 := rfl
  rw [hlk]
  constructor
  · intro h8
    have t8 : held.take 8 = held.take k ++ List.replicate (8 - k) 0 := by
      conv => lhs; rw [hcat]
      rw [List.take_append, hlk, List.take_of_length_le (by omega), List.take_replicate]; congr 2; omega
    have d8 : (held.drop 8).take 8 = List.replicate 8 0 := by
      conv => lhs; rw [hcat]
      rw [List.drop_append, hlk, List.drop_of_length_le (by omega), List.drop_replicate, List.nil_append, List.take_replicate]; congr 1; omega
    have e1 : leN (held.take 8) = leN (held.take k) := by rw [t8, leN_append, leN_zeros]; omega
    have e2 : leN ((held.drop 8).take 8) = 0 := by rw [d8, leN_zeros]
    have hp : (256 : Nat) ^ k = 2 ^ (8 * k) := by rw [show (256 : Nat) = 2 ^ 8 from rfl, ← Nat.pow_mul]
    have hpl : 256 ^ k ≤ 256 ^ 7 := Nat.pow_le_pow_right (by decide) (by omega)
    have es : (shl64 1 (8 * k)).toNat = 2 ^ (8 * k) * 1 := by
      rw [tn_shl, o1, ← hp, Nat.mod_eq_of_lt (by omega)]; omega
    have eo := tn_or (8 * k) (x := lev (held.take 8)) (by rw [l1, e1, ← hp]; exact hlt) es
    simp only [val3, eo, l1, l2, e1, e2, es, z0, ← hp]; omega
  · intro h8
    have t8 : held.take 8 = (held.take k).take 8 := by rw [List.take_take, Nat.min_eq_left h8]
    have d8 : (held.drop 8).take 8 = (held.take k).drop 8 ++ List.replicate (16 - k) 0 := by
      conv => lhs; rw [hcat]
      rw [List.drop_append, hlk, show 8 - k = 0 from by omega, List.drop_zero, List.take_of_length_le]
      rw [List.length_append, List.length_drop, hlk, List.length_replicate]; omega
    have e3 := leN_split (held.take k) 8 (by omega)
    rw [← t8] at e3
    have e2 : leN ((held.drop 8).take 8) = leN ((held.take k).drop 8) := by rw [d8, leN_append, leN_zeros]; omega
    have hl2 := leN_lt ((held.take k).drop 8)
    rw [List.length_drop, hlk] at hl2
    have hp : (256 : Nat) ^ (k - 8) = 2 ^ (8 * (k - 8)) := by rw [show (256 : Nat) = 2 ^ 8 from rfl, ← Nat.pow_mul]
    have hpl : 256 ^ (k - 8) ≤ 256 ^ 7 := Nat.pow_le_pow_right (by decide) (by omega)
    have es : (shl64 1 (8 * (k - 8))).toNat = 2 ^ (8 * (k - 8)) * 1 := by
      rw [tn_shl, o1, ← hp, Nat.mod_eq_of_lt (by omega)]; omega
    have eo := tn_or (8 * (k - 8)) (x := lev ((held.drop 8).take 8)) (by rw [l2, e2, ← hp]; exact hl2) es
    have hpk : (256 : Nat) ^ k = 18446744073709551616 * 256 ^ (k - 8) := by
      rw [show (18446744073709551616 : Nat) = 256 ^ 8 from rfl, ← Nat.pow_add]; congr 1; omega
    have e8 : (256 : Nat) ^ 8 = 18446744073709551616 := rfl
    rw [e8] at e3
    simp only [val3, eo, l1, l2, e2, es, z0, ← hp, hpk]
    generalize 256 ^ (k - 8) = q at *
    rw [e3]; omega
theorem full_val {held : List UInt8} (hh : held.length = 16) : val3 (lev (held.take 8)) (lev ((held.drop 8).take 8)) 1 = leN held + 256 ^ held.length := by
  have e := leN_split held 8 (by omega)
  have l1 : (lev (held.take 8)).toNat = leN (held.take 8) := lev_nat (by rw [List.length_take]; omega)
  have l2 : (lev ((held.drop 8).take 8)).toNat = leN ((held.drop 8).take 8) := lev_nat (by rw [List.length_take]; omega)
  have t : (held.drop 8).take 8 = held.drop 8 := List.take_of_length_le (by rw [List.length_drop]; omega)
  have o1 : (1 : UInt64).toNat = 1 := rfl
  have e8 : (256 : Nat) ^ 8 = 18446744073709551616 := rfl
  have e16 : (256 : Nat) ^ 16 = 340282366920938463463374607431768211456 := rfl
  rw [e8] at e
  simp only [val3, l1, l2, o1]
  rw [t, e, hh, e16]; omega
end Go.Sy

