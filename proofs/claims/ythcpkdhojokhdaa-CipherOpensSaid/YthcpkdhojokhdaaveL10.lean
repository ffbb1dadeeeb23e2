/- WHAT IS PROVED: signetlaw.CipherOpens, whatever comes in: it returns true and leaves all as it was. CONDITIONS: none beyond the given statement's. -/
import Derived.Test.YthcpkdhojokhdaaRows
import Derived.Test.YthcpkdhojokhdaavsS10
import Derived.Test.YthcpkdhojokhdaavE3
import Derived.Carry
set_option linter.unusedVariables false
set_option linter.unusedSimpArgs false
namespace Go.Proofs.Ythcpkdhojokhdaa
open Go.ChangeShapes Go.WideShapes Go.ChangeAt Go.RowKit Go.Sy

theorem own : ownKnob Try.prog.godebug = none := by kernel_rfl
theorem laidOut : laidOutB Try.prog = true := by kernel_rfl

set_option maxRecDepth 100000 in
theorem cipherOpens_lifted (os : Os) (started : os.Started) (H : Type) (enc : TypeId × Value → H) :
 ReturnsInHanded {} Try.checked os 13 .any (Rows.cipherOpensSpec.pre6 enc Try.prog Try.f13 Rows.cipherOpensRow.domain false) (Rows.cipherOpensSpec.post enc Try.prog Try.f13 false true false false) := by
 refine returnsInHanded_of_change (C := Try.checked) own started (by kernel_rfl) Try.func13
  (ChangeSpec.witness6 (enc := enc) (C := Try.checked) false ⟨#[], #[.agg (#[.bool false] ++ Array.replicate 32 (.int .u8 0) ++ #[.int .u64 0]), .slice none 0 0, .slice none 0 0], []⟩ 40 (by kernel_rfl) (by kernel_rfl) (by kernel_rfl) (by kernel_rfl)) ?_
 intro W base args ds gs before hval0 hW hcnd _
 have hval : ∀ (j : Nat) t v, Try.f13.params[j]? = some t → args[j]? = some v → Value.okWide Try.prog W .any base t v := hval0
 have hW' := hW
 obtain ⟨p, q, hA0, hV, rfl, hfz, hnd⟩ := hW
 have hA : DataW.TrodAll enc Try.prog W 0 (fun _ => true) true Try.f13.params.toList args.toList ds p := hA0
 rw [Try.params13] at hA hval
 obtain ⟨v0, v1, v2, d0, d1, d2, p0, p1, p2, rfl, rfl, rfl, h0, h1, h2⟩ := trodAll_three hA
 obtain ⟨xs0, hx0, hd0⟩ := open_arg (sz := 34) 9 (hval 0 56 v0 rfl rfl) (by kernel_rfl) (by kernel_rfl) (by kernel_rfl) h0
 obtain ⟨pshx0, mhx0, rfl, hphx0⟩ := sh_struct hx0 Try.underlying56
 rcases hphx0 with _ | ⟨hx0a0, _ | ⟨hx0a1, _ | ⟨hx0a2, _ | _⟩⟩⟩
 obtain ⟨has, rfl⟩ := sh_bool hx0a0 Try.underlying4
 obtain ⟨key, hkey, rfl⟩ := sh_bytes hx0a1 Try.underlying54 Try.underlying5
 obtain ⟨n, rfl⟩ := sh_u64 hx0a2 Try.underlying23
 simp only [Try.underlying56, List.flatten_cons, List.flatten_nil, pls_append, pls_cons, pls_nil, pls_bytes, List.append_nil, List.cons_append, List.nil_append, List.headD_cons] at hd0
 obtain ⟨xs1, hx1, hd1⟩ := open_arg (sz := 1) 9 (hval 1 33 v1 rfl rfl) (by kernel_rfl) (by kernel_rfl) (by kernel_rfl) h1
 obtain ⟨ad, rfl, had⟩ := sh_byteSlice hx1 Try.underlying33 Try.underlying5 (by kernel_rfl)
 simp only [Try.underlying33, List.flatten_cons, List.flatten_nil, pls_append, pls_cons, pls_nil, pls_bytes, List.append_nil, List.cons_append, List.nil_append, List.headD_cons] at hd1
 obtain ⟨xs2, hx2, hd2⟩ := open_arg (sz := 1) 9 (hval 2 33 v2 rfl rfl) (by kernel_rfl) (by kernel_rfl) (by kernel_rfl) h2
 obtain ⟨b, rfl, hb⟩ := sh_byteSlice hx2 Try.underlying33 Try.underlying5 (by kernel_rfl)
 simp only [Try.underlying33, List.flatten_cons, List.flatten_nil, pls_append, pls_cons, pls_nil, pls_bytes, List.append_nil, List.cons_append, List.nil_append, List.headD_cons] at hd2
 refine ((law_copen has key hkey n ad b false false hb).calls (fun _ _ h => h) W (Va.reads W) #[v0, v1, v2] (fun _ _ _ h => h) (fun _ _ => rfl) (.cons hd0 (.cons hd1 (.cons hd2 .nil)))).mono fun e W' ⟨he, hw⟩ => ?_
 exact ⟨_, he, law_post hW' laidOut (by kernel_rfl) rfl rfl (by kernel_rfl) rfl hw⟩

theorem cipherOpensHolds : Rows.CipherOpensSaid :=
 OpenClaim.holds_of_wide 13 Try.f13 rfl rfl rfl rfl rfl rfl rfl ⟨rfl, rfl, rfl, rfl, rfl⟩ rfl rfl rfl rfl rfl (by kernel_rfl) Try.func13 (by kernel_rfl)
  (of_decide_eq_true (by kernel_rfl)) (by unfold Func.isWrapper; first | (rw [if_pos (by decide +kernel)]; kernel_rfl) | (rw [if_neg (by decide +kernel)]; exact ⟨rfl, rfl⟩))
  (fun os started H enc _ => cipherOpens_lifted os started H enc)

end Go.Proofs.Ythcpkdhojokhdaa

