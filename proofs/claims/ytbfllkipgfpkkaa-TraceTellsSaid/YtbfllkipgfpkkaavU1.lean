/- Terms: their cells, how an argument is one, how many they are, their form, whether two are the same. -/
import Derived.Test.YtbfllkipgfpkkaavE3
set_option linter.unusedVariables false
set_option linter.unusedSimpArgs false
namespace Go.Sy
inductive TermD where
  | mk (kind id other : Int) (args : List TermD)
def TermD.kind : TermD → Int | .mk k _ _ _ => k
def TermD.id : TermD → Int | .mk _ i _ _ => i
def TermD.other : TermD → Int | .mk _ _ o _ => o
def TermD.args : TermD → List TermD | .mk _ _ _ l => l
mutual
def TermD.cells : TermD → List PL
  | .mk k i o l => [.i k, .i i, .i o, .R false 4 (termRows l)]
def termRows : List TermD → List (List PL)
  | [] => []
  | a :: l => a.cells :: termRows l
end
theorem termRows_map : ∀ l : List TermD, termRows l = l.map TermD.cells
  | [] => by rw [termRows]; rfl
  | a :: l => by rw [termRows, termRows_map l]; rfl
theorem termRows_length (l : List TermD) : (termRows l).length = l.length := by rw [termRows_map, List.length_map]
end Go.Sy

