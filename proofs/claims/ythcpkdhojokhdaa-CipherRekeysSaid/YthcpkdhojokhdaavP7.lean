/- Bytes taken in, one by one or block by block. -/
import Derived.Test.YthcpkdhojokhdaavP6
set_option linter.unusedVariables false
set_option linter.unusedSimpArgs false
namespace Go.Sy
structure PSt where
  acc : T3
  rest : List UInt8
def soakT (r0 r1 : UInt64) (a : T3) (l : List UInt8) : T3 := ⟨sp0 (soakV a.a a.b a.c r0 r1 l), sp1 (soakV a.a a.b a.c r0 r1 l), sp2 (soakV a.a a.b a.c r0 r1 l)⟩
theorem soakT_val (r0 r1 : UInt64) (a : T3) (l : List UInt8) : val3 (soakT r0 r1 a l).a (soakT r0 r1 a l).b (soakT r0 r1 a l).c < pP := by
  have h := soakV_lt a.a a.b a.c r0 r1 l
  show val3 (sp0 _) (sp1 _) (sp2 _) < pP
  rw [sp_val]
  · exact h
  · exact Nat.lt_trans h (by decide)
def stepP (r0 r1 : UInt64) (s : PSt) (c : UInt8) : PSt := if s.rest.length = 15 then ⟨soakT r0 r1 s.acc (s.rest ++ [c]), []⟩ else ⟨s.acc, s.rest ++ [c]⟩
def absorb (r0 r1 : UInt64) (s : PSt) (l : List UInt8) : PSt := l.foldl (stepP r0 r1) s
def PSt.ok (s : PSt) : Prop := s.rest.length ≤ 15 ∧ val3 s.acc.a s.acc.b s.acc.c < pP
section
variable {r0 r1 : UInt64} {s : PSt} {l : List UInt8}
theorem step_ok (h : s.ok) (c : UInt8) : (stepP r0 r1 s c).ok := by
  unfold stepP
  split
  · exact ⟨Nat.zero_le _, soakT_val _ _ _ _⟩
  · have := h.1
    exact ⟨by simp only [List.length_append, List.length_cons, List.length_nil]; omega, h.2⟩
theorem absorb_ok : ∀ {l : List UInt8} {s : PSt}, s.ok → (absorb r0 r1 s l).ok
  | [], _, h => h
  | c :: l, _, h => absorb_ok (l := l) (step_ok h c)
theorem absorb_snoc {i : Nat} (h : i < l.length) : absorb r0 r1 s (l.take (i + 1)) = stepP r0 r1 (absorb r0 r1 s (l.take i)) (l.getD i 0) := by
  have e : l.take (i + 1) = l.take i ++ [l.getD i 0] := by
    rw [List.take_succ_eq_append_getElem h]; simp [List.getD, List.getElem?_eq_getElem h]
  rw [e, absorb, List.foldl_append]; rfl
theorem absorb_append (a b : List UInt8) : absorb r0 r1 s (a ++ b) = absorb r0 r1 (absorb r0 r1 s a) b := List.foldl_append
theorem absorb_short : ∀ {l : List UInt8} {a : T3} {r : List UInt8}, r.length + l.length ≤ 15 → absorb r0 r1 ⟨a, r⟩ l = ⟨a, r ++ l⟩
  | [], a, r, _ => by simp [absorb]
  | c :: l, a, r, h => by
    simp only [List.length_cons] at h
    show absorb r0 r1 (stepP r0 r1 ⟨a, r⟩ c) l = _
    have e : stepP r0 r1 ⟨a, r⟩ c = ⟨a, r ++ [c]⟩ := by unfold stepP; rw [if_neg (by show ¬ r.length = 15; omega)]
    rw [e, absorb_short (by simp only [List.length_append, List.length_cons, List.length_nil]; omega)]
    simp
theorem absorb_rest {a : T3} {r : List UInt8} (h : r.length ≤ 15) (b : List UInt8) : absorb r0 r1 ⟨a, r⟩ b = absorb r0 r1 ⟨a, []⟩ (r ++ b) := by
  have e : absorb r0 r1 ⟨a, []⟩ r = ⟨a, r⟩ := by rw [absorb_short (by simpa using h)]; rfl
  rw [absorb_append, e]
theorem absorb_block {a : T3} (h : 16 ≤ l.length) : absorb r0 r1 ⟨a, []⟩ l = absorb r0 r1 ⟨soakT r0 r1 a (l.take 16), []⟩ (l.drop 16) := by
  have e : l.take 16 = l.take 15 ++ [l.getD 15 0] := by
    rw [List.take_succ_eq_append_getElem (show 15 < l.length by omega)]; simp [List.getD, List.getElem?_eq_getElem (show 15 < l.length by omega)]
  have l15 : (l.take 15).length = 15 := by rw [List.length_take]; omega
  have key : absorb r0 r1 ⟨a, []⟩ (l.take 16) = ⟨soakT r0 r1 a (l.take 16), []⟩ := by
    have e2 : absorb r0 r1 ⟨a, []⟩ (l.take 15) = ⟨a, l.take 15⟩ := by rw [absorb_short (by simp; omega)]; rfl
    rw [e, absorb_append, e2]
    show stepP r0 r1 ⟨a, l.take 15⟩ _ = _
    unfold stepP
    rw [if_pos l15]
  conv => lhs; rw [← List.take_append_drop 16 l]
  rw [absorb_append, key]
end
def pad16 (r : List UInt8) : List UInt8 := r ++ List.replicate (16 - r.length) 0
theorem pad16_length {r : List UInt8} (h : r.length ≤ 16) : (pad16 r).length = 16 := by simp [pad16]; omega
theorem pad16_rest {r : List UInt8} (h : r.length ≤ 16) : ∀ j, r.length ≤ j → j < 16 → (pad16 r).getD j 0 = 0 := by
  intro j h1 h2
  rw [pad16, List.getD, List.getElem?_append_right h1, List.getElem?_replicate]
  split <;> rfl
theorem pad16_take (r : List UInt8) : (pad16 r).take r.length = r := List.take_left' rfl
theorem pad16_set {r : List UInt8} (h : r.length < 16) (c : UInt8) : r ++ (c :: (pad16 r).drop (r.length + 1)) = pad16 (r ++ [c]) := by
  rw [pad16, pad16, List.drop_append, List.drop_of_length_le (by omega), List.drop_replicate, List.nil_append, List.append_assoc]
  simp only [List.length_append, List.length_cons, List.length_nil, List.cons_append, List.nil_append]
  congr 3; omega
end Go.Sy

