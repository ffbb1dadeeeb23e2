/- WHAT IS PROVED: signetlaw.PinsDecodes, whatever comes in: it returns true and leaves all as it was. CONDITIONS: none beyond the given statement's. -/
import Derived.Test.YtmopmlnpoeeomaaRows
import Derived.Test.YtmopmlnpoeeomaavaA7
set_option linter.unusedVariables false
set_option linter.unusedSimpArgs false
namespace Go.Proofs.Ytmopmlnpoeeomaa
open Go.ChangeShapes Go.WideShapes Go.ChangeAt Go.RowKit Go.Sy

theorem own : ownKnob Try.prog.godebug = none := by kernel_rfl
theorem laidOut : laidOutB Try.prog = true := by kernel_rfl

theorem pinsDecodes_lifted (os : Os) (started : os.Started) (H : Type) (enc : TypeId × Value → H) :
    ReturnsInHanded {} Try.checked os 8 .any (Rows.pinsDecodesSpec.pre6 enc Try.prog Try.f8 Rows.pinsDecodesRow.domain false) (Rows.pinsDecodesSpec.post enc Try.prog Try.f8 false true false false) := by
  refine returnsInHanded_of_change (C := Try.checked) own started (by kernel_rfl) Try.func8
    (ChangeSpec.witness6 (enc := enc) (C := Try.checked) false ⟨#[], #[.slice none 0 0], []⟩ 40 (by kernel_rfl) (by kernel_rfl) (by kernel_rfl) (by kernel_rfl)) ?_
  intro W base args ds gs before hval0 hW hcnd _
  have hval : ∀ (j : Nat) t v, Try.f8.params[j]? = some t → args[j]? = some v → Value.okWide Try.prog W .any base t v := hval0
  have hW' := hW
  obtain ⟨p, q, hA0, hV, rfl, hfz, hnd⟩ := hW
  have hA : DataW.TrodAll enc Try.prog W 0 (fun _ => true) true Try.f8.params.toList args.toList ds p := hA0
  rw [Try.params8] at hA hval
  obtain ⟨v0, d0, rfl, rfl, h0⟩ := trodAll_one hA
  obtain ⟨xs0, hx0, hd0⟩ := open_arg (sz := 1) 9 (hval 0 33 v0 rfl rfl) (by kernel_rfl) (by kernel_rfl) (by kernel_rfl) h0
  obtain ⟨bs, rfl, hbs⟩ := sh_byteSlice hx0 Try.underlying33 Try.underlying5 (by kernel_rfl)
  simp only [Try.underlying33, List.flatten_cons, List.flatten_nil, pls_append, pls_cons, pls_nil, pls_bytes, List.append_nil, List.cons_append, List.nil_append, List.headD_cons] at hd0
  refine ((pins_decodes bs hbs false).calls (fun _ _ h => h) W (Va.reads W) #[v0] (fun _ _ _ h => h) (fun _ _ => rfl) (.cons hd0 .nil)).mono fun e W' ⟨he, hw⟩ => ?_
  exact ⟨_, he, law_post hW' laidOut (by kernel_rfl) rfl rfl (by kernel_rfl) rfl hw⟩

theorem pinsDecodesHolds : Rows.PinsDecodesSaid :=
  OpenClaim.holds_of_wide 8 Try.f8 rfl rfl rfl rfl rfl rfl rfl ⟨rfl, rfl, rfl, rfl, rfl⟩ rfl rfl rfl rfl rfl (by kernel_rfl) Try.func8 (by kernel_rfl)
    (of_decide_eq_true (by kernel_rfl)) (by unfold Func.isWrapper; first | (rw [if_pos (by decide +kernel)]; kernel_rfl) | (rw [if_neg (by decide +kernel)]; exact ⟨rfl, rfl⟩))
    (fun os started H enc _ => pinsDecodes_lifted os started H enc)

end Go.Proofs.Ytmopmlnpoeeomaa
