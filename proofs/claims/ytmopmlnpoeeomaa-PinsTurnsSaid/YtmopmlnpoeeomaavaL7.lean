/- WHAT IS PROVED: signetlaw.PinsTurns, whatever comes in: it returns true and leaves all as it was. CONDITIONS: none beyond the given statement's. -/
import Derived.Test.YtmopmlnpoeeomaaRows
import Derived.Test.YtmopmlnpoeeomaavaA15
import Derived.Test.YtmopmlnpoeeomaavaA10
set_option linter.unusedVariables false
set_option linter.unusedSimpArgs false
namespace Go.Proofs.Ytmopmlnpoeeomaa
open Go.ChangeShapes Go.WideShapes Go.ChangeAt Go.RowKit Go.Sy

theorem own : ownKnob Try.prog.godebug = none := by kernel_rfl
theorem laidOut : laidOutB Try.prog = true := by kernel_rfl

theorem pinsTurns_lifted (os : Os) (started : os.Started) (H : Type) (enc : TypeId × Value → H) :
    ReturnsInHanded {} Try.checked os 10 .any (Rows.pinsTurnsSpec.pre6 enc Try.prog Try.f10 Rows.pinsTurnsRow.domain false) (Rows.pinsTurnsSpec.post enc Try.prog Try.f10 false true false false) := by
  refine returnsInHanded_of_change (C := Try.checked) own started (by kernel_rfl) Try.func10
    (ChangeSpec.witness6 (enc := enc) (C := Try.checked) false ⟨#[], #[.slice none 0 0, .string ⟨#[]⟩, .agg (Array.replicate 32 (.int .u8 0))], []⟩ 40 (by kernel_rfl) (by kernel_rfl) (by kernel_rfl) (by kernel_rfl)) ?_
  intro W base args ds gs before hval0 hW hcnd _
  have hval : ∀ (j : Nat) t v, Try.f10.params[j]? = some t → args[j]? = some v → Value.okWide Try.prog W .any base t v := hval0
  have hW' := hW
  obtain ⟨p, q, hA0, hV, rfl, hfz, hnd⟩ := hW
  have hA : DataW.TrodAll enc Try.prog W 0 (fun _ => true) true Try.f10.params.toList args.toList ds p := hA0
  rw [Try.params10] at hA hval
  obtain ⟨v0, v1, v2, d0, d1, d2, p0, p1, p2, rfl, rfl, rfl, h0, h1, h2⟩ := trodAll_three hA
  obtain ⟨xs0, hx0, hd0⟩ := open_arg (sz := 1) 9 (hval 0 38 v0 rfl rfl) (by kernel_rfl) (by kernel_rfl) (by kernel_rfl) h0
  obtain ⟨rows, mrows, rfl, rrows, hrows⟩ := sh_slice hx0 Try.underlying38
  simp only [Try.underlying38, List.flatten_cons, List.flatten_nil, pls_append, pls_cons, pls_nil, pls_bytes, List.append_nil, List.cons_append, List.nil_append, List.headD_cons] at hd0
  obtain ⟨l, rfl, hl⟩ := pins_of_rows2 rrows
  rw [sz47] at hd0
  obtain ⟨xs1, hx1, hd1⟩ := open_arg (sz := 1) 9 (hval 1 9 v1 rfl rfl) (by kernel_rfl) (by kernel_rfl) (by kernel_rfl) h1
  obtain ⟨s, rfl, hs⟩ := sh_str hx1 Try.underlying9
  simp only [Try.underlying9, List.flatten_cons, List.flatten_nil, pls_append, pls_cons, pls_nil, pls_bytes, List.append_nil, List.cons_append, List.nil_append, List.headD_cons] at hd1
  obtain ⟨xs2, hx2, hd2⟩ := open_arg (sz := 32) 9 (hval 2 22 v2 rfl rfl) (by kernel_rfl) (by kernel_rfl) (by kernel_rfl) h2
  obtain ⟨k, hk, rfl⟩ := sh_bytes hx2 Try.underlying22 Try.underlying5
  simp only [Try.underlying22, List.flatten_cons, List.flatten_nil, pls_append, pls_cons, pls_nil, pls_bytes, List.append_nil, List.cons_append, List.nil_append, List.headD_cons] at hd2
  refine ((pins_turns l hl false s hs k hk).calls (fun _ _ h => h) W (Va.reads W) #[v0, v1, v2] (fun _ _ _ h => h) (fun _ _ => rfl) (.cons hd0 (.cons hd1 (.cons hd2 .nil)))).mono fun e W' ⟨he, hw⟩ => ?_
  exact ⟨_, he, law_post hW' laidOut (by kernel_rfl) rfl rfl (by kernel_rfl) rfl hw⟩

theorem pinsTurnsHolds : Rows.PinsTurnsSaid :=
  OpenClaim.holds_of_wide 10 Try.f10 rfl rfl rfl rfl rfl rfl rfl ⟨rfl, rfl, rfl, rfl, rfl⟩ rfl rfl rfl rfl rfl (by kernel_rfl) Try.func10 (by kernel_rfl)
    (of_decide_eq_true (by kernel_rfl)) (by unfold Func.isWrapper; first | (rw [if_pos (by decide +kernel)]; kernel_rfl) | (rw [if_neg (by decide +kernel)]; exact ⟨rfl, rfl⟩))
    (fun os started H enc _ => pinsTurns_lifted os started H enc)

end Go.Proofs.Ytmopmlnpoeeomaa
