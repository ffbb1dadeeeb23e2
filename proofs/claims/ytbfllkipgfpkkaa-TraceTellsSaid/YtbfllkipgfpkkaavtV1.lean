/- Walks: terms that are built. -/
import Derived.Test.YtbfllkipgfpkkaavtT
import Derived.Test.YtbfllkipgfpkkaavU3
import Derived.Test.YtbfllkipgfpkkaavE3
set_option linter.unusedVariables false
set_option linter.unusedSimpArgs false
namespace Go.Sy
open Go.Proofs
attribute [local irreducible] atCall HT runOps runD onC onE onO onG goV goA goS onSt onGuard
abbrev argT (t : TermD) : V := .w (.agg (pls t.cells))
theorem den_nil {ex' : Bool} {sz' : Nat} {ro : Ro} {y : Value} (h : PL.den ro (.R true 1 []) y) : PL.den ro (.R ex' sz' []) y := by
 rw [PL.den] at h ⊢
 rcases h with h | ⟨blk, off, cap, h1, h2, h3, h4, _⟩ | ⟨a, cap, h1, h2, h3, h4⟩
 · exact .inl h
 · exact .inr (.inl ⟨blk, off, cap, h1, h2, h3, fun _ => h4 rfl, by rw [PL.denRows]; trivial⟩)
 · exact .inr (.inr ⟨a, cap, h1, h2, h3, fun _ => h4 rfl⟩)
theorem told_leaf {R : V → List (Nat × Ob) → Prop} {m : List (Nat × Ob)} {k i o : Int} (h : R (argT (.mk k i o [])) []) : Told R (.w (.agg [.pl (.i k), .pl (.i i), .pl (.i o), .pl (.R true 1 [])])) m := by
 refine told_weak (v' := .w (.agg [.pl (.i k), .pl (.i i), .pl (.i o), .pl (.R false 4 [])])) (fun d y hd => ?_) (told_plain rfl ?_)
 · obtain ⟨vs, e, hd⟩ := hd
   refine ⟨vs, e, ?_⟩
   generalize vs.toList = l at hd ⊢
   cases hd with
   | cons h1 hd => cases hd with
    | cons h2 hd => cases hd with
     | cons h3 hd => cases hd with
      | cons h4 hd => exact .cons h1 (.cons h2 (.cons h3 (.cons (den_nil h4) hd)))
 · have e : argT (.mk k i o []) = .w (.agg [.pl (.i k), .pl (.i i), .pl (.i o), .pl (.R false 4 [])]) := by rw [argT, TermD.cells, termRows]; rfl
   rw [← e]; exact h
end Go.Sy

