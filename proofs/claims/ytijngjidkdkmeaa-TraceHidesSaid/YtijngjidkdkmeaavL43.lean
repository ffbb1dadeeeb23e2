/- WHAT IS PROVED: signetlaw.TraceHides, whatever comes in: it returns true and leaves all as it was. CONDITIONS: none beyond the given statement's. -/
import Derived.Test.YtijngjidkdkmeaaRows
import Derived.Test.YtijngjidkdkmeaavS25
import Derived.Carry
set_option linter.unusedVariables false
set_option linter.unusedSimpArgs false
namespace Go.Proofs.Ytijngjidkdkmeaa
open Go.ChangeShapes Go.WideShapes Go.ChangeAt Go.RowKit Go.Sy
theorem own : ownKnob Try.prog.godebug = none := by kernel_rfl
theorem laidOut : laidOutB Try.prog = true := by kernel_rfl
set_option maxRecDepth 100000 in
theorem traceHides_lifted (os : Os) (started : os.Started) (H : Type) (enc : TypeId × Value → H) :
 ReturnsInHanded {} Try.checked os 4 .any (Rows.traceHidesSpec.pre6 enc Try.prog Try.f4 Rows.traceHidesRow.domain false) (Rows.traceHidesSpec.post enc Try.prog Try.f4 false true false false) := by
 refine returnsInHanded_of_change (C := Try.checked) own started (by kernel_rfl) Try.func4
  (ChangeSpec.witness6 (enc := enc) (C := Try.checked) false ⟨#[], #[.agg #[.string ⟨#[]⟩, .bool false, .slice none 0 0, .slice none 0 0, .slice none 0 0, .slice none 0 0], .slice none 0 0, .int .i64 0], []⟩ 40 (by kernel_rfl) (by kernel_rfl) (by kernel_rfl) (by kernel_rfl)) ?_
 intro W base args ds gs before hval0 hW hcnd _
 have hval : ∀ (j : Nat) t v, Try.f4.params[j]? = some t → args[j]? = some v → Value.okWide Try.prog W .any base t v := hval0
 have hW' := hW
 obtain ⟨p, q, hA0, hV, rfl, hfz, hnd⟩ := hW
 have hA : DataW.TrodAll enc Try.prog W 0 (fun _ => true) true Try.f4.params.toList args.toList ds p := hA0
 rw [Try.params4] at hA hval
 obtain ⟨v0, v1, v2, d0, d1, d2, p0, p1, p2, rfl, rfl, rfl, h0, h1, h2⟩ := trodAll_three hA
 obtain ⟨n0, xs0, hx0, hd0⟩ := y0l [33, 9, 4, 29, 3, 30, 31] (by kernel_rfl) (by kernel_rfl) (hval 0 33 v0 rfl rfl) (by kernel_rfl) h0
 obtain ⟨pshx0, mhx0, rfl, hphx0⟩ := m1c hx0 Try.underlying33
 rcases hphx0 with _ | ⟨hx0a0, _ | ⟨hx0a1, _ | ⟨hx0a2, _ | ⟨hx0a3, _ | ⟨hx0a4, _ | _⟩⟩⟩⟩⟩
 obtain ⟨bs, rfl, hbs⟩ := k2l hx0a0 Try.underlying9
 obtain ⟨lt, rfl⟩ := e2k hx0a1 Try.underlying4
 obtain ⟨ps, mps, rfl, rps, hps⟩ := g0y hx0a2 Try.underlying29
 obtain ⟨pahx0a3, mahx0a3, rfl, lahx0a3, hahx0a3⟩ := v1y hx0a3 Try.underlying30
 obtain ⟨pahx0a3_0, pahx0a3_1, rfl⟩ : ∃ pahx0a3_0 pahx0a3_1, pahx0a3 = [pahx0a3_0, pahx0a3_1] := z0a lahx0a3
 have hx0a3e0 := hahx0a3 pahx0a3_0 (by simp)
 obtain ⟨p0, mp0, rfl, rp0, hp0⟩ := g0y hx0a3e0 Try.underlying29
 have hx0a3e1 := hahx0a3 pahx0a3_1 (by simp)
 obtain ⟨p1, mp1, rfl, rp1, hp1⟩ := g0y hx0a3e1 Try.underlying29
 obtain ⟨tr, mtr, rfl, rtr, htr⟩ := g0y hx0a4 Try.underlying31
 simp only [Try.underlying33, List.flatten_cons, List.flatten_nil, Xw, n0q, u0y, y0h, List.append_nil, List.cons_append, List.nil_append, List.headD_cons] at hd0
 obtain ⟨l0, rfl⟩ := v0o rp0
 obtain ⟨l1, rfl⟩ := v0o rp1
 obtain ⟨ts, rfl⟩ := w0u rtr
 simp only [sz3, sz29, List.append_assoc, List.cons_append, List.nil_append] at hd0
 obtain ⟨n1, xs1, hx1, hd1⟩ := y0l [29, 3] (by kernel_rfl) (by kernel_rfl) (hval 1 29 v1 rfl rfl) (by kernel_rfl) h1
 obtain ⟨rs, ms, rfl, rrs, hrs⟩ := g0y hx1 Try.underlying29
 obtain ⟨ss, rfl, hss⟩ := g1d rrs
 simp only [Try.underlying29, sz3, Xw, n0q, u0y, List.headD_cons] at hd1
 obtain ⟨xs2, hx2, hd2⟩ := w1t (sz := 1) 9 (hval 2 3 v2 rfl rfl) (by kernel_rfl) (by kernel_rfl) (by kernel_rfl) h2
 obtain ⟨turn, rfl, hturn⟩ := m1d hx2 Try.underlying3
 simp only [Try.underlying3, Xw, n0q, u0y, List.headD_cons] at hd2
 refine ((h1j bs lt ps l0 l1 ts ss turn hss).calls (fun _ _ h => h) W (Va.reads W) #[v0, v1, v2] (fun _ _ _ h => h) (fun _ _ => rfl) (.cons hd0 (.cons hd1 (.cons hd2 .nil)))).mono fun e W' ⟨he, hw⟩ => ?_
 exact ⟨_, he, x1y hW' laidOut (by kernel_rfl) rfl rfl (by kernel_rfl) rfl hw⟩
theorem traceHidesHolds : Rows.TraceHidesSaid :=
 OpenClaim.holds_of_wide 4 Try.f4 rfl rfl rfl rfl rfl rfl rfl ⟨rfl, rfl, rfl, rfl, rfl⟩ rfl rfl rfl rfl rfl (by kernel_rfl) Try.func4 (by kernel_rfl)
  (of_decide_eq_true (by kernel_rfl)) (by unfold Func.isWrapper; first | (rw [if_pos (by decide +kernel)]; kernel_rfl) | (rw [if_neg (by decide +kernel)]; exact ⟨rfl, rfl⟩))
  (fun os started H enc _ => traceHides_lifted os started H enc)
end Go.Proofs.Ytijngjidkdkmeaa

