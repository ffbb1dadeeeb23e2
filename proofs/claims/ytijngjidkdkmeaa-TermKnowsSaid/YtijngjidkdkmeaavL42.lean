/- WHAT IS PROVED: signetlaw.TermKnows, whatever comes in: it returns true and leaves all as it was. CONDITIONS: none beyond the given statement's. -/
import Derived.Test.YtijngjidkdkmeaaRows
import Derived.Test.YtijngjidkdkmeaavS19
import Derived.Carry
set_option linter.unusedVariables false
set_option linter.unusedSimpArgs false
namespace Go.Proofs.Ytijngjidkdkmeaa
open Go.ChangeShapes Go.WideShapes Go.ChangeAt Go.RowKit Go.Sy
theorem own : ownKnob Try.prog.godebug = none := by kernel_rfl
theorem laidOut : laidOutB Try.prog = true := by kernel_rfl
set_option maxRecDepth 100000 in
theorem termKnows_lifted (os : Os) (started : os.Started) (H : Type) (enc : TypeId × Value → H) :
 ReturnsInHanded {} Try.checked os 3 .any (Rows.termKnowsSpec.pre6 enc Try.prog Try.f3 Rows.termKnowsRow.domain false) (Rows.termKnowsSpec.post enc Try.prog Try.f3 false true false false) := by
 refine returnsInHanded_of_change (C := Try.checked) own started (by kernel_rfl) Try.func3
  (ChangeSpec.witness6 (enc := enc) (C := Try.checked) false ⟨#[], #[.slice none 0 0, .agg #[.int .i64 0, .int .i64 0, .int .i64 0, .slice none 0 0]], []⟩ 40 (by kernel_rfl) (by kernel_rfl) (by kernel_rfl) (by kernel_rfl)) ?_
 intro W base args ds gs before hval0 hW hcnd _
 have hval : ∀ (j : Nat) t v, Try.f3.params[j]? = some t → args[j]? = some v → Value.okWide Try.prog W .any base t v := hval0
 have hW' := hW
 obtain ⟨p, q, hA0, hV, rfl, hfz, hnd⟩ := hW
 have hA : DataW.TrodAll enc Try.prog W 0 (fun _ => true) true Try.f3.params.toList args.toList ds p := hA0
 rw [Try.params3] at hA hval
 obtain ⟨v0, v1, d0, d1, p0, p1, rfl, rfl, rfl, h0, h1⟩ := trodAll_two hA
 obtain ⟨n0, xs0, hx0, hd0⟩ := p0j [22, 24, 3] (by kernel_rfl) (by kernel_rfl) (hval 0 22 v0 rfl rfl) (by kernel_rfl) h0
 obtain ⟨rw0, m0, rfl, r0, hl0⟩ := f1e hx0 Try.underlying22
 obtain ⟨l, rfl, hk⟩ := f0x (p := fun r => Sh Try.prog m0 24 r) (fun r hr => z0w Try.underlying24 Try.underlying3 Try.underlying3 Try.underlying3 Try.underlying22 (by kernel_rfl) m0 m0 (Nat.le_refl _) r hr) rw0 r0
 rw [Az] at hl0
 simp only [Try.underlying22, sz24, l0o, u0p, a1o, List.headD_cons] at hd0
 obtain ⟨n1, xs1, hx1, hd1⟩ := p0j [24, 3, 22] (by kernel_rfl) (by kernel_rfl) (hval 1 24 v1 rfl rfl) (by kernel_rfl) h1
 obtain ⟨t, rfl, ht⟩ := z0w Try.underlying24 Try.underlying3 Try.underlying3 Try.underlying3 Try.underlying22 (by kernel_rfl) n1 n1 (Nat.le_refl _) xs1 hx1
 simp only [Try.underlying24] at hd1
 refine ((y0i l hl0 hk t ht).calls (fun _ _ h => h) W (Va.reads W) #[v0, v1] (fun _ _ _ h => h) (fun _ _ => rfl) (.cons hd0 (.cons hd1 .nil))).mono fun e W' ⟨he, hw⟩ => ?_
 exact ⟨_, he, g1n hW' laidOut (by kernel_rfl) rfl rfl (by kernel_rfl) rfl hw⟩
theorem termKnowsHolds : Rows.TermKnowsSaid :=
 OpenClaim.holds_of_wide 3 Try.f3 rfl rfl rfl rfl rfl rfl rfl ⟨rfl, rfl, rfl, rfl, rfl⟩ rfl rfl rfl rfl rfl (by kernel_rfl) Try.func3 (by kernel_rfl)
  (of_decide_eq_true (by kernel_rfl)) (by unfold Func.isWrapper; first | (rw [if_pos (by decide +kernel)]; kernel_rfl) | (rw [if_neg (by decide +kernel)]; exact ⟨rfl, rfl⟩))
  (fun os started H enc _ => termKnows_lifted os started H enc)
end Go.Proofs.Ytijngjidkdkmeaa

