/- What a handshake tells: the keys, chained; what is told, in terms. -/
import Derived.Test.YtbfllkipgfpkkaavU1
set_option linter.unusedVariables false
set_option linter.unusedSimpArgs false
namespace Go.Sy
def atomT (n : Int) : TermD := .mk 1 n 0 []
def pubT (n : Int) : TermD := .mk 2 n 0 []
def dhT (a b : Int) : TermD := .mk 3 a b []
def kdfT (w : Int) (c x : TermD) : TermD := .mk 6 w 0 [c, x]
def lockT (k : TermD) (n : Int) (t : TermD) : TermD := .mk 7 0 0 [k, atomT n, t]
def chainG (w : Int) (c : TermD) : List TermD → TermD
  | [] => c
  | [m] => kdfT w c m
  | m :: n :: r => chainG w (kdfT 1 c m) (n :: r)
def chainT (w : Int) (l : List TermD) : TermD := chainG w (atomT 0) l
theorem chainG_snoc (w : Int) (m : TermD) : ∀ (l : List TermD) (c : TermD), chainG w c (l ++ [m]) = kdfT w (chainG 1 c l) m
  | [], c => rfl
  | [a], c => rfl
  | a :: b :: r, c => by
    have := chainG_snoc w m (b :: r) (kdfT 1 c a)
    simp only [List.cons_append, chainG] at this ⊢
    exact this
theorem chainT_snoc (w : Int) (l : List TermD) (m : TermD) : chainT w (l ++ [m]) = kdfT w (chainT 1 l) m := chainG_snoc w m l _
structure TelS where
  mx : List TermD
  ps : Nat
  out : List TermD
def TelS.mix (s : TelS) (t : TermD) : TelS := { s with mx := s.mx ++ [t] }
def TelS.tell (s : TelS) (t : TermD) : TelS := { s with out := s.out ++ [if s.mx = [] then t else lockT (chainT 2 s.mx) (100 + (s.out.length : Int)) t] }
def TelS.token (pk : Bool) (w : Int) (s : TelS) (t : Int) : TelS :=
  if t = 1 then (let s' : TelS := { s with out := s.out ++ [pubT (3 + w)] }; if pk then s'.mix (pubT (3 + w)) else s')
  else if t = 2 then s.tell (pubT (1 + w))
  else if t = 3 then s.mix (dhT 3 4)
  else if t = 4 then s.mix (dhT 2 3)
  else if t = 5 then s.mix (dhT 1 4)
  else if t = 6 then s.mix (dhT 1 2)
  else { (s.mix (atomT (10 + (s.ps : Int)))) with ps := s.ps + 1 }
def TelS.turn (pk : Bool) (w : Int) (s : TelS) : List Int → TelS
  | [] => s
  | t :: r => TelS.turn pk w (s.token pk w t) r
end Go.Sy

