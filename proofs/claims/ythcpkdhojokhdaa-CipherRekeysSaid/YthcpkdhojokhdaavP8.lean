/- Sums of bytes: what comes out at the end. -/
import Derived.Test.YthcpkdhojokhdaavP7
set_option linter.unusedVariables false
set_option linter.unusedSimpArgs false
namespace Go.Sy
def nB (v : Nat) : Nat → List UInt8
  | 0 => []
  | k + 1 => UInt8.ofNat v :: nB (v / 256) k
theorem nB_length : ∀ (v k : Nat), (nB v k).length = k
  | _, 0 => rfl
  | v, k + 1 => by simp [nB, nB_length]
theorem nB_append : ∀ (j v k : Nat), nB v (j + k) = nB v j ++ nB (v / 256 ^ j) k
  | 0, v, k => by simp [nB]
  | j + 1, v, k => by
    rw [show j + 1 + k = (j + k) + 1 from by omega]
    simp only [nB, List.cons_append, nB_append j]
    rw [Nat.div_div_eq_div_mul, show 256 ^ (j + 1) = 256 * 256 ^ j from by rw [Nat.pow_succ, Nat.mul_comm]]
theorem nB_mod : ∀ (k v : Nat), nB (v % 256 ^ k) k = nB v k
  | 0, v => rfl
  | k + 1, v => by
    simp only [nB]
    have e : v % 256 ^ (k + 1) = v % 256 + 256 * (v / 256 % 256 ^ k) := by rw [show 256 ^ (k + 1) = 256 * 256 ^ k from by rw [Nat.pow_succ, Nat.mul_comm], Nat.mod_mul]
    have e1 : UInt8.ofNat (v % 256 ^ (k + 1)) = UInt8.ofNat v := by
      apply UInt8.toNat_inj.mp
      simp only [UInt8.toNat_ofNat', e]; omega
    have e2 : v % 256 ^ (k + 1) / 256 = v / 256 % 256 ^ k := by rw [e]; omega
    rw [e1, e2, nB_mod k]
theorem lowB_nB : ∀ (k : Nat) (n : UInt64), lowB n k = nB n.toNat k
  | 0, _ => rfl
  | k + 1, n => by
    have e : (n / 256).toNat = n.toNat / 256 := by rw [UInt64.toNat_div]; rfl
    simp only [lowB, nB, lowB_nB k, e]
def addB : Nat → List UInt8 → List UInt8 → List UInt8
  | c, a :: as, b :: bs => UInt8.ofNat (c + a.toNat + b.toNat) :: addB ((c + a.toNat + b.toNat) / 256) as bs
  | _, _, _ => []
theorem addB_nB : ∀ (as bs : List UInt8) (c : Nat), as.length = bs.length → addB c as bs = nB (c + leN as + leN bs) as.length
  | [], [], _, _ => rfl
  | [], _ :: _, _, h => by simp at h
  | _ :: _, [], _, h => by simp at h
  | a :: as, b :: bs, c, h => by
    simp only [addB, List.length_cons, nB, leN]
    have e1 : UInt8.ofNat (c + (a.toNat + 256 * leN as) + (b.toNat + 256 * leN bs)) = UInt8.ofNat (c + a.toNat + b.toNat) := by
      apply UInt8.toNat_inj.mp
      simp only [UInt8.toNat_ofNat']; omega
    have e2 : (c + (a.toNat + 256 * leN as) + (b.toNat + 256 * leN bs)) / 256 = (c + a.toNat + b.toNat) / 256 + leN as + leN bs := by omega
    rw [e1, e2, addB_nB as bs _ (by simpa using h)]
def endV (a0 a1 p0 p1 : UInt64) : List UInt8 := nB (a0.toNat + a1.toNat * 18446744073709551616 + (p0.toNat + p1.toNat * 18446744073709551616)) 16
theorem endV_length (a0 a1 p0 p1 : UInt64) : (endV a0 a1 p0 p1).length = 16 := nB_length _ _
theorem leN_two (a b : UInt64) : leN (lowB a 8 ++ lowB b 8) = a.toNat + b.toNat * 18446744073709551616 := by
  rw [leN_append, leN_lowB, leN_lowB, lowB_length]
  have e : (256 : Nat) ^ 8 = 18446744073709551616 := rfl
  have ha := a.toNat_lt
  have hb := b.toNat_lt
  rw [e, Nat.mod_eq_of_lt ha, Nat.mod_eq_of_lt hb]; omega
theorem end_ref (a0 a1 p0 p1 : UInt64) : addB 0 (lowB a0 8 ++ lowB a1 8) (lowB p0 8 ++ lowB p1 8) = endV a0 a1 p0 p1 := by
  rw [addB_nB _ _ _ (by simp [lowB_length]), leN_two, leN_two, endV, Nat.zero_add]
  simp [lowB_length]
theorem end_main (a0 a1 p0 p1 : UInt64) : lowB (adS a0 p0 0) 8 ++ lowB (adS a1 p1 (adC a0 p0 0)) 8 = endV a0 a1 p0 p1 := by
  obtain ⟨h1, h2⟩ := ad_val a0 p0 (c := 0) (by decide)
  obtain ⟨h3, h4⟩ := ad_val a1 p1 h2
  have z : (0 : UInt64).toNat = 0 := rfl
  rw [z] at h1
  rw [lowB_nB, lowB_nB, endV, show 16 = 8 + 8 from rfl, nB_append, ← nB_mod 8 (_ + _), ← nB_mod 8 (_ / _)]
  have e : (256 : Nat) ^ 8 = 18446744073709551616 := rfl
  have b1 := (adS a0 p0 0).toNat_lt
  have b2 := (adS a1 p1 (adC a0 p0 0)).toNat_lt
  rw [e]
  generalize (adS a1 p1 (adC a0 p0 0)).toNat = u2 at *
  generalize (adC a1 p1 (adC a0 p0 0)).toNat = u3 at *
  generalize (adS a0 p0 0).toNat = u0 at *
  generalize (adC a0 p0 0).toNat = u1 at *
  generalize a0.toNat = x0 at *
  generalize a1.toNat = x1 at *
  generalize p0.toNat = y0 at *
  generalize p1.toNat = y1 at *
  have e1 : (x0 + x1 * 18446744073709551616 + (y0 + y1 * 18446744073709551616)) % 18446744073709551616 = u0 := by omega
  have e2 : (x0 + x1 * 18446744073709551616 + (y0 + y1 * 18446744073709551616)) / 18446744073709551616 % 18446744073709551616 = u2 := by omega
  rw [e1, e2]
theorem lowB_shr (x : UInt64) : lowB x 8 = [(shr64 x 0).toUInt8, (shr64 x 8).toUInt8, (shr64 x 16).toUInt8, (shr64 x 24).toUInt8, (shr64 x 32).toUInt8, (shr64 x 40).toUInt8, (shr64 x 48).toUInt8, (shr64 x 56).toUInt8] := by
  have e : ∀ y : UInt64, (y / 256).toNat = y.toNat / 256 := fun y => by rw [UInt64.toNat_div]; rfl
  have g : ∀ (y : UInt64) (n : Nat), y.toNat = n → UInt8.ofNat n = y.toUInt8 := fun y n h => by
    apply UInt8.toNat_inj.mp
    rw [← h, UInt8.toNat_ofNat', UInt64.toNat_toUInt8]
  simp only [lowB, List.cons.injEq, and_true]
  refine ⟨?_, ?_, ?_, ?_, ?_, ?_, ?_, ?_⟩
  all_goals refine g _ _ ?_
  all_goals simp only [tn_shr, e, Nat.div_div_eq_div_mul]
  all_goals simp
def finA (r0 r1 : UInt64) (s : PSt) : T3 := if s.rest.length = 0 then s.acc else soakT r0 r1 s.acc s.rest
end Go.Sy

