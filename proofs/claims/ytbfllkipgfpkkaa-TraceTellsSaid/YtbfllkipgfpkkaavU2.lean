/- Patterns: what the judge of one text holds is what happened in the other one's list. -/
import Derived.Test.YtbfllkipgfpkkaavE3
set_option linter.unusedVariables false
set_option linter.unusedSimpArgs false
namespace Go.Sy
structure Jd where
  e0 : Bool
  s0 : Bool
  e1 : Bool
  s1 : Bool
  d3 : Bool
  d4 : Bool
  d5 : Bool
  d6 : Bool
  k : Bool
def Jd.nil : Jd := ⟨false, false, false, false, false, false, false, false, false⟩
def Jd.flag (j : Jd) (w : Bool) (t : Int) : Bool := if t = 2 then (if w then j.s1 else j.s0) else (if w then j.e1 else j.e0)
def Jd.tell (j : Jd) (w : Bool) (t : Int) : Jd := if t = 2 then (if w then { j with s1 := true } else { j with s0 := true }) else (if w then { j with e1 := true } else { j with e0 := true })
def Jd.locks (j : Jd) : Bool := j.k || j.d3 || j.d4 || j.d5 || j.d6
def Jd.may (j : Jd) (w : Bool) : Bool :=
  if j.k && !(if w then j.e1 else j.e0) then false
  else if !(j.d6 || (if w then j.d4 else j.d5)) then true
  else if (if w then j.d4 else j.d5) && !j.d3 then false
  else !j.d6 || (if w then j.d5 else j.d4)
def Jd.done (j : Jd) (t : Int) : Bool := if t = 3 then j.d3 else if t = 4 then j.d4 else if t = 5 then j.d5 else j.d6
def Jd.has (j : Jd) (t : Int) : Bool := if t = 3 then j.e0 && j.e1 else if t = 4 then j.e0 && j.s1 else if t = 5 then j.s0 && j.e1 else j.s0 && j.s1
def Jd.mark (j : Jd) (t : Int) : Jd := if t = 3 then { j with d3 := true } else if t = 4 then { j with d4 := true } else if t = 5 then { j with d5 := true } else { j with d6 := true }
def Jd.token (j : Jd) (w : Bool) (t : Int) : Bool × Jd :=
  if t = 1 then (if j.flag w 1 then (false, j) else (true, j.tell w 1))
  else if t = 2 then (if (!j.locks || j.may w) && !j.flag w 2 then (true, j.tell w 2) else (false, j))
  else if t = 7 then (true, { j with k := true })
  else if j.done t || !j.has t then (false, j) else (true, j.mark t)
def hap (l : List (Bool × Int)) (w : Bool) (t : Int) : Bool := l.any fun x => decide (x.2 = t) && (x.1 == w)
def any (l : List (Bool × Int)) (t : Int) : Bool := l.any fun x => decide (x.2 = t)
def lockM (l : List (Bool × Int)) (w : Bool) : Bool :=
  if any l 7 && !hap l w 1 then false else (!any l (if w then 4 else 5) || any l 3) && (!any l 6 || any l (if w then 5 else 4))
def locksE (l : List (Bool × Int)) : Bool := any l 3 || any l 4 || any l 5 || any l 6 || any l 7
def okE (l : List (Bool × Int)) (w : Bool) (t : Int) : Bool :=
  if t = 0 then !locksE l || lockM l w
  else if t = 1 then !hap l w 1
  else if t = 2 then !hap l w 2 && (!locksE l || lockM l w)
  else if t = 3 then hap l false 1 && hap l true 1 && !any l t
  else if t = 4 then hap l false 1 && hap l true 2 && !any l t
  else if t = 5 then hap l false 2 && hap l true 1 && !any l t
  else if t = 6 then hap l false 2 && hap l true 2 && !any l t
  else true
def jOf (l : List (Bool × Int)) : Jd := ⟨hap l false 1, hap l false 2, hap l true 1, hap l true 2, any l 3, any l 4, any l 5, any l 6, any l 7⟩
theorem hap_add (l : List (Bool × Int)) (w v : Bool) (t s : Int) : hap (l ++ [(v, s)]) w t = (hap l w t || (decide (s = t) && (v == w))) := by simp [hap]
theorem any_add (l : List (Bool × Int)) (v : Bool) (t s : Int) : any (l ++ [(v, s)]) t = (any l t || decide (s = t)) := by simp [any]
theorem locks_of (l : List (Bool × Int)) : (jOf l).locks = locksE l := by
  simp only [Jd.locks, jOf, locksE]
  cases any l 3 <;> cases any l 4 <;> cases any l 5 <;> cases any l 6 <;> cases any l 7 <;> rfl
theorem may_of (l : List (Bool × Int)) (w : Bool) : (jOf l).may w = lockM l w := by
  cases w <;> simp only [Jd.may, jOf, lockM, Bool.false_eq_true, if_false, if_true]
  · cases any l 7 <;> cases hap l false 1 <;> cases any l 6 <;> cases any l 5 <;> cases any l 3 <;> cases any l 4 <;> rfl
  · cases any l 7 <;> cases hap l true 1 <;> cases any l 6 <;> cases any l 4 <;> cases any l 3 <;> cases any l 5 <;> rfl
theorem jOf_lock (l : List (Bool × Int)) (w : Bool) : jOf (l ++ [(w, 0)]) = jOf l := by simp [jOf, hap_add, any_add]
theorem token_of (l : List (Bool × Int)) (w : Bool) (t : Int) (ht : 1 ≤ t ∧ t ≤ 7) : (jOf l).token w t = (okE l w t, if okE l w t then jOf (l ++ [(w, t)]) else jOf l) := by
  obtain rfl | rfl | rfl | rfl | rfl | rfl | rfl : t = 1 ∨ t = 2 ∨ t = 3 ∨ t = 4 ∨ t = 5 ∨ t = 6 ∨ t = 7 := by omega
  · cases w <;> simp [Jd.token, okE, Jd.flag, Jd.tell, jOf, hap_add, any_add]
    · cases hap l false 1 <;> simp
    · cases hap l true 1 <;> simp
  · simp only [Jd.token, okE, locks_of, may_of]
    cases w <;> simp [Jd.flag, Jd.tell, jOf, hap_add, any_add]
    · cases locksE l <;> cases lockM l false <;> cases hap l false 2 <;> simp
    · cases locksE l <;> cases lockM l true <;> cases hap l true 2 <;> simp
  · simp [Jd.token, okE, Jd.done, Jd.has, Jd.mark, jOf, hap_add, any_add]
    cases any l 3 <;> cases hap l false 1 <;> cases hap l true 1 <;> simp
  · simp [Jd.token, okE, Jd.done, Jd.has, Jd.mark, jOf, hap_add, any_add]
    cases any l 4 <;> cases hap l false 1 <;> cases hap l true 2 <;> simp
  · simp [Jd.token, okE, Jd.done, Jd.has, Jd.mark, jOf, hap_add, any_add]
    cases any l 5 <;> cases hap l false 2 <;> cases hap l true 1 <;> simp
  · simp [Jd.token, okE, Jd.done, Jd.has, Jd.mark, jOf, hap_add, any_add]
    cases any l 6 <;> cases hap l false 2 <;> cases hap l true 2 <;> simp
  · simp [Jd.token, okE, jOf, hap_add, any_add]
def scan1 : List Int → Int
  | [] => 0
  | t :: r => if t < 1 ∨ 7 < t then 2 else scan1 r
def scan : List (List Int) → Int
  | [] => 0
  | l :: r => if 6 < l.length then 1 else if scan1 l = 0 then scan r else scan1 l
theorem scan1_ok : ∀ {l : List Int}, scan1 l = 0 → ∀ t ∈ l, 1 ≤ t ∧ t ≤ 7
  | [], _, t, h => by cases h
  | a :: r, hs, t, h => by
    rw [scan1] at hs
    by_cases ha : a < 1 ∨ 7 < a
    · rw [if_pos ha] at hs; omega
    · rw [if_neg ha] at hs
      rcases List.mem_cons.mp h with rfl | h
      · omega
      · exact scan1_ok hs t h
theorem scan_ok : ∀ {ls : List (List Int)}, scan ls = 0 → ∀ l ∈ ls, scan1 l = 0 ∧ l.length ≤ 6
  | [], _, t, h => by cases h
  | a :: r, hs, t, h => by
    rw [scan] at hs
    by_cases ha : 6 < a.length
    · rw [if_pos ha] at hs; omega
    · rw [if_neg ha] at hs
      by_cases hz : scan1 a = 0
      · rw [if_pos hz] at hs
        rcases List.mem_cons.mp h with rfl | h
        · exact ⟨hz, by omega⟩
        · exact scan_ok hs t h
      · rw [if_neg hz] at hs; omega
def preJ (j : Jd) (w : Bool) : List Int → Option Jd
  | [] => some j
  | t :: r => if 2 < t ∨ j.flag w t = true then none else preJ (j.tell w t) w r
def preE (l : List (Bool × Int)) (w : Bool) : List Int → Option (List (Bool × Int))
  | [] => some l
  | t :: r => if 2 < t ∨ hap l w t = true then none else preE (l ++ [(w, t)]) w r
theorem flag_of (l : List (Bool × Int)) (w : Bool) (t : Int) (h : t = 1 ∨ t = 2) : (jOf l).flag w t = hap l w t := by
  rcases h with rfl | rfl <;> cases w <;> rfl
theorem tell_of (l : List (Bool × Int)) (w : Bool) (t : Int) (h : t = 1 ∨ t = 2) : (jOf l).tell w t = jOf (l ++ [(w, t)]) := by
  rcases h with rfl | rfl <;> cases w <;> simp [Jd.tell, jOf, hap_add, any_add]
theorem pre_of (w : Bool) : ∀ (ts : List Int) (l : List (Bool × Int)), (∀ t ∈ ts, 1 ≤ t) → preJ (jOf l) w ts = (preE l w ts).map jOf
  | [], l, _ => rfl
  | t :: r, l, h => by
    have h1 := h t (by simp)
    rw [preJ, preE]
    by_cases h2 : 2 < t
    · rw [if_pos (.inl h2), if_pos (.inl h2)]; rfl
    · have ht : t = 1 ∨ t = 2 := by omega
      rw [flag_of l w t ht, tell_of l w t ht]
      by_cases hh : hap l w t = true
      · rw [if_pos (.inr hh), if_pos (.inr hh)]; rfl
      · rw [if_neg (by simp [h2, hh]), if_neg (by simp [h2, hh])]
        exact pre_of w r _ fun t ht => h t (by simp [ht])
def turnJ (j : Jd) (w : Bool) : List Int → Option Jd
  | [] => if j.locks && !j.may w then none else some j
  | t :: r => if (j.token w t).1 then turnJ (j.token w t).2 w r else none
def turnE (l : List (Bool × Int)) (w : Bool) : List Int → Option (List (Bool × Int))
  | [] => if okE l w 0 then some (l ++ [(w, 0)]) else none
  | t :: r => if okE l w t then turnE (l ++ [(w, t)]) w r else none
theorem turn_of (w : Bool) : ∀ (ts : List Int) (l : List (Bool × Int)), (∀ t ∈ ts, 1 ≤ t ∧ t ≤ 7) → turnJ (jOf l) w ts = (turnE l w ts).map jOf
  | [], l, _ => by
    rw [turnJ, turnE, locks_of, may_of]
    simp only [okE, if_true]
    cases locksE l <;> cases lockM l w <;> simp [jOf_lock]
  | t :: r, l, h => by
    rw [turnJ, turnE, token_of l w t (h t (by simp))]
    cases hk : okE l w t
    · rfl
    · simp only [if_true]
      exact turn_of w r _ fun t ht => h t (by simp [ht])
def whoT (late : Bool) (i : Nat) : Bool := (decide (i % 2 = 1)) != late
def turnsJ (late : Bool) (j : Jd) : Nat → List (List Int) → Int
  | _, [] => 0
  | i, l :: r => match turnJ j (whoT late i) l with
    | none => 3
    | some k => turnsJ late k (i + 1) r
def turnsE (late : Bool) (e : List (Bool × Int)) : Nat → List (List Int) → Int
  | _, [] => 0
  | i, l :: r => match turnE e (whoT late i) l with
    | none => 3
    | some k => turnsE late k (i + 1) r
theorem turns_of (late : Bool) : ∀ (ts : List (List Int)) (i : Nat) (l : List (Bool × Int)), (∀ t ∈ ts, ∀ x ∈ t, 1 ≤ x ∧ x ≤ 7) → turnsJ late (jOf l) i ts = turnsE late l i ts
  | [], i, l, _ => rfl
  | t :: r, i, l, h => by
    rw [turnsJ, turnsE, turn_of _ t l (h t (by simp))]
    cases turnE l (whoT late i) t with
    | none => rfl
    | some k => exact turns_of late r _ k fun t ht => h t (by simp [ht])
def checkJ (late : Bool) (p0 p1 : List Int) (ts : List (List Int)) : Int :=
  if ts.length < 1 ∨ 5 < ts.length then 1 else if ¬ scan (p0 :: p1 :: ts) = 0 then scan (p0 :: p1 :: ts)
  else match preJ .nil false p0 with
    | none => 3
    | some j => match preJ j true p1 with
      | none => 3
      | some k => turnsJ late k 0 ts
def checkP (late : Bool) (p0 p1 : List Int) (ts : List (List Int)) : Int :=
  if ts.length < 1 ∨ 5 < ts.length then 1 else if ¬ scan (p0 :: p1 :: ts) = 0 then scan (p0 :: p1 :: ts)
  else match preE [] false p0 with
    | none => 3
    | some l => match preE l true p1 with
      | none => 3
      | some k => turnsE late k 0 ts
theorem check_of (late : Bool) (p0 p1 : List Int) (ts : List (List Int)) : checkJ late p0 p1 ts = checkP late p0 p1 ts := by
  unfold checkJ checkP
  by_cases h : ts.length < 1 ∨ 5 < ts.length
  · rw [if_pos h, if_pos h]
  · rw [if_neg h, if_neg h]
    by_cases hs : ¬ scan (p0 :: p1 :: ts) = 0
    · rw [if_pos hs, if_pos hs]
    · rw [if_neg hs, if_neg hs]
      have hz : scan (p0 :: p1 :: ts) = 0 := by simpa using hs
      have ho := scan_ok hz
      have hn : Jd.nil = jOf [] := rfl
      rw [hn, pre_of false p0 [] fun t ht => (scan1_ok (ho p0 (by simp)).1 t ht).1]
      cases preE [] false p0 with
      | none => rfl
      | some l =>
        simp only [Option.map_some]
        rw [pre_of true p1 l fun t ht => (scan1_ok (ho p1 (by simp)).1 t ht).1]
        cases preE l true p1 with
        | none => rfl
        | some k =>
          simp only [Option.map_some]
          exact turns_of late ts 0 k fun t ht x hx => scan1_ok (ho t (by simp [ht])).1 x hx
end Go.Sy

