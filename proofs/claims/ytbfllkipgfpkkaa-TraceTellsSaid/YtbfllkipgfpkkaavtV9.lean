/- What a handshake tells, turn by turn. -/
import Derived.Test.YtbfllkipgfpkkaavtV8
import Derived.Test.YtbfllkipgfpkkaavtJ6
import Derived.Test.YtbfllkipgfpkkaavE3
set_option linter.unusedVariables false
set_option linter.unusedSimpArgs false
namespace Go.Sy
open Go.Proofs
-- atCall HT runOps runD onC onE onO onG goV goA goS onSt onGuard
def preX (pk : Bool) (w : Int) (mx : List TermD) : List Int → List TermD
 | [] => mx
 | t :: r => preX pk w (if t = 1 ∧ pk = true then mx ++ [pubT (3 + w)] else mx) r
def telTurns (lt pk : Bool) : Nat → TelS → List (List Int) → TelS
 | _, s, [] => s
 | i, s, l :: r => telTurns lt pk (i + 1) ((TelS.turn pk (whoI (whoT lt i)) s l).tell (atomT (20 + (i : Int)))) r
def telOf (lt pk : Bool) (p0 p1 : List Int) (ts : List (List Int)) : TelS := telTurns lt pk 0 ⟨preX pk 1 (preX pk 0 [] p0) p1, 0, []⟩ ts
theorem token_out (pk : Bool) (w : Int) (s : TelS) (t : Int) : (s.token pk w t).out.length ≤ s.out.length + 1 := by
 unfold TelS.token
 split
 · simp only; split <;> simp [TelS.mix]
 · split
   · simp [TelS.tell]
   · repeat' (first | split | (simp [TelS.mix]; done))
theorem token_ps (pk : Bool) (w : Int) (s : TelS) (t : Int) : (s.token pk w t).ps ≤ s.ps + 1 := by
 unfold TelS.token
 split
 · simp only; split <;> simp [TelS.mix]
 · split
   · simp [TelS.tell]
   · repeat' (first | split | (simp [TelS.mix]; done))
theorem token_ne (pk : Bool) (w : Int) (s : TelS) (t : Int) (h : s.out ≠ []) : (s.token pk w t).out ≠ [] := by
 unfold TelS.token
 split
 · simp only; split <;> simp [TelS.mix]
 · split
   · simp [TelS.tell]
   · repeat' (first | split | (simp [TelS.mix, h]; done))
theorem tell_len (s : TelS) (t : TermD) : (s.tell t).out.length = s.out.length + 1 := by simp [TelS.tell]
theorem tell_ne (s : TelS) (t : TermD) : (s.tell t).out ≠ [] := by simp [TelS.tell]
theorem tell_ps (s : TelS) (t : TermD) : (s.tell t).ps = s.ps := rfl
theorem who_g (i : Nat) : Int.tmod (((i + 1 : Nat) : Int)) 2 = whoI (whoT true i) := by
 rw [whoT, whoI, Int.tmod_eq_emod_of_nonneg (by omega)]
 rcases Nat.mod_two_eq_zero_or_one i with h | h
 · have : (i + 1) % 2 = 1 := by omega
   simp [h]; omega
 · simp [h]; omega
theorem who_rng (b : Bool) : 0 ≤ whoI b ∧ whoI b ≤ 1 := by cases b <;> decide
theorem told_terms {R : V → List (Nat × Ob) → Prop} {m : List (Nat × Ob)} {b : Bool} {k : Nat} (hl : k < 500000) (l : List TermD) (e : Int) (h : R (.tup [.one (.pl (.R false 4 (termRows l))), .one (.pl (.i e))]) []) (hk : look m k = some ⟨b, pls (termRows l).flatten⟩) :
 Told R (.tup [.one (.s k [] l.length 4), .one (.pl (.i e))]) m := by
 refine told_seal k (termRows l).flatten hk hl ?_
 have : sealV k (termRows l).flatten (.tup [.one (.s k [] l.length 4), .one (.pl (.i e))]) = .tup [.one (.pl (.R false 4 (termRows l))), .one (.pl (.i e))] := by
  show V.tup [W.one (sealL k (termRows l).flatten (.s k [] l.length 4)), W.one (.pl (.i e))] = _
  rw [sealL_rows]
 rw [this]
 exact told_plain rfl h
def hN (mx : List TermD) : List (Nat × Ob) := [(26, ⟨false, handC (chainT 1 mx) (keyC mx) (hasK mx) 0 (.pl (.R true 1 []))⟩)]
end Go.Sy

