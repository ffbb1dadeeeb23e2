/- The rules by which the engine's steps are reckoned out, under one name. -/
import Derived.Test.YtmopmlnpoeeomaaE23
set_option linter.unusedVariables false
set_option linter.unusedSimpArgs false
namespace Go.Sy

attribute [go_sem] reduceIte Option.getD_some Option.map_some Option.bind_some Bool.or_false Bool.false_or Bool.not_false Bool.not_true List.any_nil List.any_cons Nat.reduceEqDiff reduceCtorEq Nat.reduceLT Nat.reduceLeDiff Nat.reduceBEq Nat.reduceAdd Bool.false_eq_true and_self and_true true_and ne_eq not_false_eq_true List.length_cons List.length_nil List.drop_zero List.drop_succ_cons List.take_succ_cons List.take_zero List.getElem?_toArray List.getElem?_cons_zero List.getElem?_cons_succ forall_const decide_eq_true_eq decide_eq_false_iff_not Bool.cond_true Bool.cond_false imp_self false_implies List.take_nil List.drop_nil Nat.le_refl Nat.zero_add beq_self_eq_true fieldV loadV mkW pok psz rd win lenV setG convV true_or or_true or_false false_or V.ren W.ren L.ren adopt unV Bool.not_eq_true' Bool.not_eq_false'

/-- what a call has made and does not hand out may be forgotten -/
theorem Ct.plain {P : Program} {f : FuncId} {args : List V} {R : V → List (Nat × Ob) → Prop} {T : V → Prop} (h : Ct P f args R) (hR : ∀ v m, R v m → T v) : Ct P f args fun v m => T v ∧ m = [] := by
  intro w d vals hro ha
  refine (h w d vals hro ha).mono ?_
  rintro e w' ⟨y, v, d', m', he, hr, hd, a, hs⟩
  refine ⟨y, v, d', [], he, ⟨hR v m' hr, rfl⟩, hd, a, ?_⟩
  exact ⟨hs.defers, hs.nt, fun n v hv => (by cases hv), fun k o hk => (by cases hk), fun k k' h1 => (by cases h1), fun k h1 => (by cases h1), hs.ro, hs.old, hs.os, hs.tape, hs.output, hs.size, hs.block⟩
end Go.Sy
