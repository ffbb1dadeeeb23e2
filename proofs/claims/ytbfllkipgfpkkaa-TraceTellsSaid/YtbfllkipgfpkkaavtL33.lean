/- WHAT IS PROVED: signetlaw.TraceTells, whatever comes in: it returns true and leaves all as it was. CONDITIONS: none beyond the given statement's. -/
import Derived.Test.YtbfllkipgfpkkaaRows
import Derived.Test.YtbfllkipgfpkkaavtVH
import Derived.Test.YtbfllkipgfpkkaavtJE
import Derived.Carry
set_option linter.unusedVariables false
set_option linter.unusedSimpArgs false
namespace Go.Proofs.Ytbfllkipgfpkkaa
open Go.ChangeShapes Go.WideShapes Go.ChangeAt Go.RowKit Go.Sy

theorem own : ownKnob Try.prog.godebug = none := by kernel_rfl
theorem laidOut : laidOutB Try.prog = true := by kernel_rfl

set_option maxRecDepth 100000 in
theorem traceTells_lifted (os : Os) (started : os.Started) (H : Type) (enc : TypeId × Value → H) :
 ReturnsInHanded {} Try.checked os 5 .any (Rows.traceTellsSpec.pre6 enc Try.prog Try.f5 Rows.traceTellsRow.domain false) (Rows.traceTellsSpec.post enc Try.prog Try.f5 false true false false) := by
 refine returnsInHanded_of_change (C := Try.checked) own started (by kernel_rfl) Try.func5
  (ChangeSpec.witness6 (enc := enc) (C := Try.checked) false ⟨#[], #[.agg #[.string ⟨#[]⟩, .bool false, .slice none 0 0, .slice none 0 0, .slice none 0 0, .slice none 0 0]], []⟩ 40 (by kernel_rfl) (by kernel_rfl) (by kernel_rfl) (by kernel_rfl)) ?_
 intro W base args ds gs before hval0 hW hcnd _
 have hval : ∀ (j : Nat) t v, Try.f5.params[j]? = some t → args[j]? = some v → Value.okWide Try.prog W .any base t v := hval0
 have hW' := hW
 obtain ⟨p, q, hA0, hV, rfl, hfz, hnd⟩ := hW
 have hA : DataW.TrodAll enc Try.prog W 0 (fun _ => true) true Try.f5.params.toList args.toList ds p := hA0
 rw [Try.params5] at hA hval
 obtain ⟨v0, d0, rfl, rfl, h0⟩ := trodAll_one hA
 obtain ⟨n0, xs0, hx0, hd0⟩ := open_deep [26, 9, 4, 22, 3, 23, 24] (by kernel_rfl) (by kernel_rfl) (hval 0 26 v0 rfl rfl) (by kernel_rfl) h0
 obtain ⟨pshx0, mhx0, rfl, hphx0⟩ := sh_struct hx0 Try.underlying26
 rcases hphx0 with _ | ⟨hx0a0, _ | ⟨hx0a1, _ | ⟨hx0a2, _ | ⟨hx0a3, _ | ⟨hx0a4, _ | _⟩⟩⟩⟩⟩
 obtain ⟨bs, rfl, hbs⟩ := sh_str hx0a0 Try.underlying9
 obtain ⟨lt, rfl⟩ := sh_bool hx0a1 Try.underlying4
 obtain ⟨ps, mps, rfl, rps, hps⟩ := sh_slice hx0a2 Try.underlying22
 obtain ⟨pahx0a3, mahx0a3, rfl, lahx0a3, hahx0a3⟩ := sh_array hx0a3 Try.underlying23
 obtain ⟨pahx0a3_0, pahx0a3_1, rfl⟩ : ∃ pahx0a3_0 pahx0a3_1, pahx0a3 = [pahx0a3_0, pahx0a3_1] := list_of_len2 lahx0a3
 have hx0a3e0 := hahx0a3 pahx0a3_0 (by simp)
 obtain ⟨p0, mp0, rfl, rp0, hp0⟩ := sh_slice hx0a3e0 Try.underlying22
 have hx0a3e1 := hahx0a3 pahx0a3_1 (by simp)
 obtain ⟨p1, mp1, rfl, rp1, hp1⟩ := sh_slice hx0a3e1 Try.underlying22
 obtain ⟨tr, mtr, rfl, rtr, htr⟩ := sh_slice hx0a4 Try.underlying24
 simp only [Try.underlying26, List.flatten_cons, List.flatten_nil, pls_append, pls_cons, pls_nil, pls_bytes, List.append_nil, List.cons_append, List.nil_append, List.headD_cons] at hd0
 obtain ⟨l0, rfl⟩ := ints_of rp0
 obtain ⟨l1, rfl⟩ := ints_of rp1
 obtain ⟨ts, rfl⟩ := turns_of2 rtr
 simp only [sz3, sz22, List.append_assoc, List.cons_append, List.nil_append] at hd0
 refine ((tracetells bs lt ps l0 l1 ts).calls (fun _ _ h => h) W (Va.reads W) #[v0] (fun _ _ _ h => h) (fun _ _ => rfl) (.cons hd0 .nil)).mono fun e W' ⟨he, hw⟩ => ?_
 exact ⟨_, he, law_post hW' laidOut (by kernel_rfl) rfl rfl (by kernel_rfl) rfl hw⟩

theorem traceTellsHolds : Rows.TraceTellsSaid :=
 OpenClaim.holds_of_wide 5 Try.f5 rfl rfl rfl rfl rfl rfl rfl ⟨rfl, rfl, rfl, rfl, rfl⟩ rfl rfl rfl rfl rfl (by kernel_rfl) Try.func5 (by kernel_rfl)
  (of_decide_eq_true (by kernel_rfl)) (by unfold Func.isWrapper; first | (rw [if_pos (by decide +kernel)]; kernel_rfl) | (rw [if_neg (by decide +kernel)]; exact ⟨rfl, rfl⟩))
  (fun os started H enc _ => traceTells_lifted os started H enc)

end Go.Proofs.Ytbfllkipgfpkkaa

