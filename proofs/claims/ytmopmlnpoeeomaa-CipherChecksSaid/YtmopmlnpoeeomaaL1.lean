/- WHAT IS PROVED: signetlaw.CipherChecks, whatever comes in: it returns true and leaves all as it was. CONDITIONS: none beyond the given statement's. -/
import Derived.Test.YtmopmlnpoeeomaaRows
import Derived.Test.YtmopmlnpoeeomaaaA1
import Derived.Test.YtmopmlnpoeeomaaD12
set_option linter.unusedVariables false
set_option linter.unusedSimpArgs false
namespace Go.Proofs.Ytmopmlnpoeeomaa
open Go.ChangeShapes Go.WideShapes Go.ChangeAt Go.RowKit Go.Sy

theorem own : ownKnob Try.prog.godebug = none := by kernel_rfl
theorem laidOut : laidOutB Try.prog = true := by kernel_rfl

theorem cipherChecks_lifted (os : Os) (started : os.Started) (H : Type) (enc : TypeId × Value → H) :
    ReturnsInHanded {} Try.checked os 3 .any (Rows.cipherChecksSpec.pre6 enc Try.prog Try.f3 Rows.cipherChecksRow.domain false) (Rows.cipherChecksSpec.post enc Try.prog Try.f3 false true false false) := by
  refine returnsInHanded_of_change (C := Try.checked) own started (by kernel_rfl) Try.func3
    (ChangeSpec.witness6 (enc := enc) (C := Try.checked) false ⟨#[], #[.agg (Array.replicate 32 (.int .u8 0)), .agg (#[.bool false] ++ Array.replicate 32 (.int .u8 0) ++ #[.int .u64 0])], []⟩ 40 (by kernel_rfl) (by kernel_rfl) (by kernel_rfl) (by kernel_rfl)) ?_
  intro W base args ds gs before hval0 hW hcnd _
  have hval : ∀ (j : Nat) t v, Try.f3.params[j]? = some t → args[j]? = some v → Value.okWide Try.prog W .any base t v := hval0
  have hW' := hW
  obtain ⟨p, q, hA0, hV, rfl, hfz, hnd⟩ := hW
  have hA : DataW.TrodAll enc Try.prog W 0 (fun _ => true) true Try.f3.params.toList args.toList ds p := hA0
  rw [Try.params3] at hA hval
  obtain ⟨v0, v1, d0, d1, p0, p1, rfl, rfl, rfl, h0, h1⟩ := trodAll_two hA
  obtain ⟨xs0, hx0, hd0⟩ := open_arg (sz := 32) 9 (hval 0 22 v0 rfl rfl) (by kernel_rfl) (by kernel_rfl) (by kernel_rfl) h0
  obtain ⟨k, hk, rfl⟩ := sh_bytes hx0 Try.underlying22 Try.underlying5
  simp only [Try.underlying22, List.flatten_cons, List.flatten_nil, pls_append, pls_cons, pls_nil, pls_bytes, List.append_nil, List.cons_append, List.nil_append, List.headD_cons] at hd0
  obtain ⟨xs1, hx1, hd1⟩ := open_arg (sz := 34) 9 (hval 1 26 v1 rfl rfl) (by kernel_rfl) (by kernel_rfl) (by kernel_rfl) h1
  obtain ⟨pshx1, mhx1, rfl, hphx1⟩ := sh_struct hx1 Try.underlying26
  rcases hphx1 with _ | ⟨hx1a0, _ | ⟨hx1a1, _ | ⟨hx1a2, _ | _⟩⟩⟩
  obtain ⟨has, rfl⟩ := sh_bool hx1a0 Try.underlying4
  obtain ⟨key, hkey, rfl⟩ := sh_bytes hx1a1 Try.underlying23 Try.underlying5
  obtain ⟨n, rfl⟩ := sh_u64 hx1a2 Try.underlying24
  simp only [Try.underlying26, List.flatten_cons, List.flatten_nil, pls_append, pls_cons, pls_nil, pls_bytes, List.append_nil, List.cons_append, List.nil_append, List.headD_cons] at hd1
  refine ((cipher_checks k hk has key hkey n).calls (fun _ _ h => h) W (Va.reads W) #[v0, v1] (fun _ _ _ h => h) (.cons hd0 (.cons hd1 .nil))).mono fun e W' ⟨he, hw⟩ => ?_
  exact ⟨_, he, law_post hW' laidOut (by kernel_rfl) rfl rfl (by kernel_rfl) rfl hw⟩

theorem cipherChecksHolds : Rows.CipherChecksSaid :=
  OpenClaim.holds_of_wide 3 Try.f3 rfl rfl rfl rfl rfl rfl rfl ⟨rfl, rfl, rfl, rfl, rfl⟩ rfl rfl rfl rfl rfl (by kernel_rfl) Try.func3 (by kernel_rfl)
    (of_decide_eq_true (by kernel_rfl)) (by unfold Func.isWrapper; first | (rw [if_pos (by decide +kernel)]; kernel_rfl) | (rw [if_neg (by decide +kernel)]; exact ⟨rfl, rfl⟩))
    (fun os started H enc _ => cipherChecks_lifted os started H enc)

end Go.Proofs.Ytmopmlnpoeeomaa
