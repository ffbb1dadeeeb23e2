/- WHAT IS PROVED: signetlaw.PolyTags, whatever comes in: it returns true and leaves all as it was. CONDITIONS: none beyond the given statement's. -/
import Derived.Test.YthcpkdhojokhdaaRows
import Derived.Test.YthcpkdhojokhdaaveE19
import Derived.Test.YthcpkdhojokhdaavE3
set_option linter.unusedVariables false
set_option linter.unusedSimpArgs false
namespace Go.Proofs.Ythcpkdhojokhdaa
open Go.ChangeShapes Go.WideShapes Go.ChangeAt Go.RowKit Go.Sy

theorem own : ownKnob Try.prog.godebug = none := by kernel_rfl
theorem laidOut : laidOutB Try.prog = true := by kernel_rfl

set_option maxRecDepth 100000 in
theorem polyTags_lifted (os : Os) (started : os.Started) (H : Type) (enc : TypeId × Value → H) :
 ReturnsInHanded {} Try.checked os 6 .any (Rows.polyTagsSpec.pre6 enc Try.prog Try.f6 Rows.polyTagsRow.domain false) (Rows.polyTagsSpec.post enc Try.prog Try.f6 false true false false) := by
 refine rih (C := Try.checked) own started (by kernel_rfl) Try.func6
  (ChangeSpec.witness6 (enc := enc) (C := Try.checked) false ⟨#[], #[.agg (Array.replicate 32 (.int .u8 0)), .slice none 0 0], []⟩ 40 (by kernel_rfl) (by kernel_rfl) (by kernel_rfl) (by kernel_rfl)) ?_
 intro W base args ds gs before hval0 hW hsz
 have hval : ∀ (j : Nat) t v, Try.f6.params[j]? = some t → args[j]? = some v → Value.okWide Try.prog W .any base t v := hval0
 have hW' := hW
 obtain ⟨p, q, hA0, hV, rfl, hfz, hnd⟩ := hW
 have hA : DataW.TrodAll enc Try.prog W 0 (fun _ => true) true Try.f6.params.toList args.toList ds p := hA0
 rw [Try.params6] at hA hval
 obtain ⟨v0, v1, d0, d1, p0, p1, rfl, rfl, rfl, h0, h1⟩ := trodAll_two hA
 obtain ⟨xs0, hx0, hd0⟩ := open_arg (sz := 32) 9 (hval 0 22 v0 rfl rfl) (by kernel_rfl) (by kernel_rfl) (by kernel_rfl) h0
 obtain ⟨key, hkey, rfl⟩ := sh_bytes hx0 Try.underlying22 Try.underlying5
 simp only [Try.underlying22, List.flatten_cons, List.flatten_nil, pls_append, pls_cons, pls_nil, pls_bytes, List.append_nil, List.cons_append, List.nil_append, List.headD_cons] at hd0
 obtain ⟨xs1, hx1, hd1⟩ := open_arg (sz := 1) 9 (hval 1 33 v1 rfl rfl) (by kernel_rfl) (by kernel_rfl) (by kernel_rfl) h1
 obtain ⟨b, rfl, hb⟩ := sh_byteSlice hx1 Try.underlying33 Try.underlying5 (by kernel_rfl)
 simp only [Try.underlying33, List.flatten_cons, List.flatten_nil, pls_append, pls_cons, pls_nil, pls_bytes, List.append_nil, List.cons_append, List.nil_append, List.headD_cons] at hd1
 rw [Try.params6] at hsz
 have hw1 := (weights_cons (t := 33) (weights_cons (t := 22) hsz).2).1
 have hb1 := weight_rows Try.underlying33 (by kernel_rfl : Try.prog.bytesOf 5 = 1) (slice_reads Try.underlying33 h1 hd1) hw1
 rw [byteRows_length] at hb1
 have hlen : b.length ≤ 140737488355328 := by omega
 refine ((polytags key hkey b hlen false).calls (fun _ _ h => h) W (Va.reads W) #[v0, v1] (fun _ _ _ h => h) (fun _ _ => rfl) (.cons hd0 (.cons hd1 .nil))).mono fun e W' ⟨he, hw⟩ => ?_
 exact ⟨_, he, law_post hW' laidOut (by kernel_rfl) rfl rfl (by kernel_rfl) rfl hw⟩

theorem polyTagsHolds : Rows.PolyTagsSaid :=
 OpenClaim.holds_of_wide 6 Try.f6 rfl rfl rfl rfl rfl rfl rfl ⟨rfl, rfl, rfl, rfl, rfl⟩ rfl rfl rfl rfl rfl (by kernel_rfl) Try.func6 (by kernel_rfl)
  (of_decide_eq_true (by kernel_rfl)) (by unfold Func.isWrapper; first | (rw [if_pos (by decide +kernel)]; kernel_rfl) | (rw [if_neg (by decide +kernel)]; exact ⟨rfl, rfl⟩))
  (fun os started H enc _ => polyTags_lifted os started H enc)

end Go.Proofs.Ythcpkdhojokhdaa
