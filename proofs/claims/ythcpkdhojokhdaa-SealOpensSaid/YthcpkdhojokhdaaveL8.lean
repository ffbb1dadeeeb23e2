/- WHAT IS PROVED: signetlaw.SealOpens, whatever comes in: it returns true and leaves all as it was. CONDITIONS: none beyond the given statement's. -/
import Derived.Test.YthcpkdhojokhdaaRows
import Derived.Test.YthcpkdhojokhdaavsS7
import Derived.Test.YthcpkdhojokhdaavE3
import Derived.Carry
set_option linter.unusedVariables false
set_option linter.unusedSimpArgs false
namespace Go.Proofs.Ythcpkdhojokhdaa
open Go.ChangeShapes Go.WideShapes Go.ChangeAt Go.RowKit Go.Sy

theorem own : ownKnob Try.prog.godebug = none := by kernel_rfl
theorem laidOut : laidOutB Try.prog = true := by kernel_rfl

set_option maxRecDepth 100000 in
theorem sealOpens_lifted (os : Os) (started : os.Started) (H : Type) (enc : TypeId × Value → H) :
 ReturnsInHanded {} Try.checked os 10 .any (Rows.sealOpensSpec.pre6 enc Try.prog Try.f10 Rows.sealOpensRow.domain false) (Rows.sealOpensSpec.post enc Try.prog Try.f10 false true false false) := by
 refine returnsInHanded_of_change (C := Try.checked) own started (by kernel_rfl) Try.func10
  (ChangeSpec.witness6 (enc := enc) (C := Try.checked) false ⟨#[], #[.agg (Array.replicate 32 (.int .u8 0)), .agg (Array.replicate 12 (.int .u8 0)), .slice none 0 0, .slice none 0 0], []⟩ 40 (by kernel_rfl) (by kernel_rfl) (by kernel_rfl) (by kernel_rfl)) ?_
 intro W base args ds gs before hval0 hW hcnd _
 have hval : ∀ (j : Nat) t v, Try.f10.params[j]? = some t → args[j]? = some v → Value.okWide Try.prog W .any base t v := hval0
 have hW' := hW
 obtain ⟨p, q, hA0, hV, rfl, hfz, hnd⟩ := hW
 have hA : DataW.TrodAll enc Try.prog W 0 (fun _ => true) true Try.f10.params.toList args.toList ds p := hA0
 rw [Try.params10] at hA hval
 obtain ⟨v0, v1, v2, v3, d0, d1, d2, d3, p0, p1, p2, p3, rfl, rfl, rfl, h0, h1, h2, h3⟩ := trodAll_four hA
 obtain ⟨xs0, hx0, hd0⟩ := open_arg (sz := 32) 9 (hval 0 22 v0 rfl rfl) (by kernel_rfl) (by kernel_rfl) (by kernel_rfl) h0
 obtain ⟨key, hkey, rfl⟩ := sh_bytes hx0 Try.underlying22 Try.underlying5
 simp only [Try.underlying22, List.flatten_cons, List.flatten_nil, pls_append, pls_cons, pls_nil, pls_bytes, List.append_nil, List.cons_append, List.nil_append, List.headD_cons] at hd0
 obtain ⟨xs1, hx1, hd1⟩ := open_arg (sz := 12) 9 (hval 1 44 v1 rfl rfl) (by kernel_rfl) (by kernel_rfl) (by kernel_rfl) h1
 obtain ⟨nonce, hnonce, rfl⟩ := sh_bytes hx1 Try.underlying44 Try.underlying5
 simp only [Try.underlying44, List.flatten_cons, List.flatten_nil, pls_append, pls_cons, pls_nil, pls_bytes, List.append_nil, List.cons_append, List.nil_append, List.headD_cons] at hd1
 obtain ⟨xs2, hx2, hd2⟩ := open_arg (sz := 1) 9 (hval 2 33 v2 rfl rfl) (by kernel_rfl) (by kernel_rfl) (by kernel_rfl) h2
 obtain ⟨ad, rfl, had⟩ := sh_byteSlice hx2 Try.underlying33 Try.underlying5 (by kernel_rfl)
 simp only [Try.underlying33, List.flatten_cons, List.flatten_nil, pls_append, pls_cons, pls_nil, pls_bytes, List.append_nil, List.cons_append, List.nil_append, List.headD_cons] at hd2
 obtain ⟨xs3, hx3, hd3⟩ := open_arg (sz := 1) 9 (hval 3 33 v3 rfl rfl) (by kernel_rfl) (by kernel_rfl) (by kernel_rfl) h3
 obtain ⟨b, rfl, hb⟩ := sh_byteSlice hx3 Try.underlying33 Try.underlying5 (by kernel_rfl)
 simp only [Try.underlying33, List.flatten_cons, List.flatten_nil, pls_append, pls_cons, pls_nil, pls_bytes, List.append_nil, List.cons_append, List.nil_append, List.headD_cons] at hd3
 refine ((sealopens key nonce ad b hkey hnonce false false hb).calls (fun _ _ h => h) W (Va.reads W) #[v0, v1, v2, v3] (fun _ _ _ h => h) (fun _ _ => rfl) (.cons hd0 (.cons hd1 (.cons hd2 (.cons hd3 .nil))))).mono fun e W' ⟨he, hw⟩ => ?_
 exact ⟨_, he, law_post hW' laidOut (by kernel_rfl) rfl rfl (by kernel_rfl) rfl hw⟩

theorem sealOpensHolds : Rows.SealOpensSaid :=
 OpenClaim.holds_of_wide 10 Try.f10 rfl rfl rfl rfl rfl rfl rfl ⟨rfl, rfl, rfl, rfl, rfl⟩ rfl rfl rfl rfl rfl (by kernel_rfl) Try.func10 (by kernel_rfl)
  (of_decide_eq_true (by kernel_rfl)) (by unfold Func.isWrapper; first | (rw [if_pos (by decide +kernel)]; kernel_rfl) | (rw [if_neg (by decide +kernel)]; exact ⟨rfl, rfl⟩))
  (fun os started H enc _ => sealOpens_lifted os started H enc)

end Go.Proofs.Ythcpkdhojokhdaa

