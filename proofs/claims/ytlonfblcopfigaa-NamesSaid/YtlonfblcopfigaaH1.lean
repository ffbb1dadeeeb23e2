/- WHAT IS PROVED: signetlaw.Names, whatever the start: it returns true and leaves all as it was. CONDITIONS: none beyond the given statement's. -/
import Derived.Test.YtlonfblcopfigaaRows
import Derived.Test.YtlonfblcopfigaaG1
import Derived.Test.YtlonfblcopfigaaG2
set_option linter.unusedVariables false
set_option linter.unusedSimpArgs false
namespace Go.Proofs.Ytlonfblcopfigaa
open Go.ChangeShapes Go.WideShapes Go.ChangeAt Go.RowKit Go.Sy

theorem own : ownKnob Try.prog.godebug = none := by kernel_rfl
theorem laidOut : laidOutB Try.prog = true := by kernel_rfl

theorem names_walk : Ct Try.prog 3 [] fun v _ => v = .w (.one (.pl (.b true))) := by
  refine Ct.k Try.func3 rfl Try.ntmps3 (congrArg Array.toList Try.results3) (by simp) fun w0 ro => ?_
  refine seq_k fun N M hN hM => ?_
  refine region_k fun K hK => ?_
  simp only [go_sem]
  refine hK _ (hN _ ?_)
  refine seq_k fun N1 M1 hN1 hM1 => ?_
  refine region_k fun K1 hK1 => ?_
  simp only [go_sem]
  refine hK1 _ (hN1 _ ?_)
  refine ret_k ?_
  simp only [go_sem]

theorem names_lifted (os : Os) (started : os.Started) (H : Type) (enc : TypeId × Value → H) :
    ReturnsInHanded {} Try.checked os 3 .any (Rows.namesSpec.pre6 enc Try.prog Try.f3 Rows.namesRow.domain false) (Rows.namesSpec.post enc Try.prog Try.f3 false true false false) := by
  refine returnsInHanded_of_change (C := Try.checked) own started (by kernel_rfl) Try.func3
    (ChangeSpec.witness6 (enc := enc) (C := Try.checked) false ⟨#[], #[], []⟩ 8 (by kernel_rfl) (by kernel_rfl) (by kernel_rfl) (by kernel_rfl)) ?_
  intro W base args ds gs before hval0 hW hcnd _
  have hW' := hW
  obtain ⟨p, q, hA0, hV, rfl, hfz, hnd⟩ := hW
  have hA : DataW.TrodAll enc Try.prog W 0 (fun _ => true) true Try.f3.params.toList args.toList ds p := hA0
  rw [Try.params3] at hA
  obtain ⟨rfl, rfl, rfl⟩ := trodAll_none hA
  refine (names_walk.calls (fun _ _ h => h) W ⟨fun _ => 0, fun _ => 0, fun _ _ => none⟩ #[] (fun _ _ _ h => nomatch h) .nil).mono fun e W' ⟨he, hw⟩ => ?_
  exact ⟨_, he, law_post hW' laidOut (by kernel_rfl) rfl rfl (by kernel_rfl) rfl hw⟩

theorem namesHolds : Rows.NamesSaid :=
  OpenClaim.holds_of_wide 3 Try.f3 rfl rfl rfl rfl rfl rfl rfl ⟨rfl, rfl, rfl, rfl, rfl⟩ rfl rfl rfl rfl rfl (by kernel_rfl) Try.func3 (by kernel_rfl)
    (of_decide_eq_true (by kernel_rfl)) (by unfold Func.isWrapper; first | (rw [if_pos (by decide +kernel)]; kernel_rfl) | (rw [if_neg (by decide +kernel)]; exact ⟨rfl, rfl⟩))
    (fun os started H enc _ => names_lifted os started H enc)

end Go.Proofs.Ytlonfblcopfigaa
