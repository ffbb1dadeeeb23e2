/- The ladder's rungs in plain numbers. -/
import Derived.Test.YthngiogkogeigaaDoorvQ8
set_option linter.unusedVariables false
set_option linter.unusedSimpArgs false
namespace Go.Sy
def fA (a b : Nat) : Nat := (a + b) % p25
def fS (a b : Nat) : Nat := (a + p25 - b) % p25
def fM (a b : Nat) : Nat := a * b % p25
instance : NeZero p25 := ⟨by decide⟩
def ph (a : Nat) : Fin p25 := Fin.ofNat p25 a
theorem fA_lt (a b : Nat) : fA a b < p25 := Nat.mod_lt _ p25_pos
theorem fS_lt (a b : Nat) : fS a b < p25 := Nat.mod_lt _ p25_pos
theorem fM_lt (a b : Nat) : fM a b < p25 := Nat.mod_lt _ p25_pos
theorem ph_val (a : Nat) : (ph a).val = a % p25 := rfl
theorem ph_inj {a b : Nat} (ha : a < p25) (hb : b < p25) (h : ph a = ph b) : a = b := by
  have := congrArg Fin.val h
  rwa [ph_val, ph_val, Nat.mod_eq_of_lt ha, Nat.mod_eq_of_lt hb] at this
theorem ph_A (a b : Nat) : ph (fA a b) = ph a + ph b := by
  apply Fin.ext
  rw [Fin.val_add, ph_val, ph_val, ph_val, fA, Nat.mod_mod, ← Nat.add_mod]
theorem ph_M (a b : Nat) : ph (fM a b) = ph a * ph b := by
  apply Fin.ext
  rw [Fin.val_mul, ph_val, ph_val, ph_val, fM, Nat.mod_mod, ← Nat.mul_mod]
theorem ph_S {a b : Nat} (hb : b < p25) : ph (fS a b) = ph a - ph b := by
  apply Fin.ext
  rw [Fin.sub_def]
  simp only [ph_val, fS, Nat.mod_mod, Nat.mod_eq_of_lt hb]
  rw [show a + p25 - b = (p25 - b) + a from by omega, Nat.add_mod_mod]
theorem ph_succ (a : Nat) : ph (a + 1) = ph a + 1 := by
  apply Fin.ext
  rw [Fin.val_add]
  simp only [ph_val]
  rw [show ((1 : Fin p25)).val = 1 % p25 from rfl, ← Nat.add_mod]
structure Pt where
  x : Nat
  z : Nat
def Pt.ok (p : Pt) : Prop := p.x < p25 ∧ p.z < p25
def dblM (p : Pt) : Pt :=
  let a := fA p.x p.z
  let b := fS p.x p.z
  let e := fS (fM a a) (fM b b)
  ⟨fM (fM a a) (fM b b), fM e (fA (fM a a) (fM 121665 e))⟩
def dblR (p : Pt) : Pt :=
  let a := fA p.x p.z
  let b := fS p.x p.z
  let e := fS (fM a a) (fM b b)
  ⟨fM (fM a a) (fM b b), fM e (fA (fM b b) (fM 121666 e))⟩
def withM (p q : Pt) (u : Nat) : Pt :=
  let da := fM (fS q.x q.z) (fA p.x p.z)
  let cb := fM (fA q.x q.z) (fS p.x p.z)
  ⟨fM (fA da cb) (fA da cb), fM u (fM (fS da cb) (fS da cb))⟩
def withR (p q : Pt) (u : Nat) : Pt :=
  let a := fM (fS p.x p.z) (fA q.x q.z)
  let b := fM (fA p.x p.z) (fS q.x q.z)
  ⟨fM (fA a b) (fA a b), fM u (fM (fS a b) (fS a b))⟩
theorem dbl_eq (p : Pt) : dblM p = dblR p := by
  simp only [dblM, dblR, Pt.mk.injEq, true_and]
  refine congrArg _ (ph_inj (fA_lt _ _) (fA_lt _ _) ?_)
  have hb := fM_lt (fS p.x p.z) (fS p.x p.z)
  generalize fM (fA p.x p.z) (fA p.x p.z) = aa
  generalize fM (fS p.x p.z) (fS p.x p.z) = bb at *
  rw [ph_A, ph_A, ph_M, ph_M, ph_S hb, show ph 121666 = ph 121665 + 1 from ph_succ 121665]
  generalize ph aa = a
  generalize ph bb = b
  generalize ph 121665 = k
  grind
theorem fM_comm (a b : Nat) : fM a b = fM b a := by rw [fM, fM, Nat.mul_comm]
theorem fA_comm (a b : Nat) : fA a b = fA b a := by rw [fA, fA, Nat.add_comm]
theorem sq_neg {a b : Nat} (ha : a < p25) (hb : b < p25) : fM (fS a b) (fS a b) = fM (fS b a) (fS b a) := by
  refine ph_inj (fM_lt _ _) (fM_lt _ _) ?_
  rw [ph_M, ph_M, ph_S hb, ph_S ha]
  generalize ph a = x
  generalize ph b = y
  grind
theorem with_eq (p q : Pt) (u : Nat) : withM p q u = withR p q u := by
  simp only [withM, withR, Pt.mk.injEq]
  rw [fM_comm (fS q.x q.z) (fA p.x p.z), fM_comm (fA q.x q.z) (fS p.x p.z), fA_comm (fM (fA p.x p.z) (fS q.x q.z)), sq_neg (fM_lt _ _) (fM_lt _ _)]
  exact ⟨rfl, rfl⟩
theorem with_sym (p q : Pt) (u : Nat) : withM q p u = withR p q u := rfl
end Go.Sy

