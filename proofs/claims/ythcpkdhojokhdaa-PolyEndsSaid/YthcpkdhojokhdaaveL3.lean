/- WHAT IS PROVED: signetlaw.PolyEnds, whatever comes in: it returns true and leaves all as it was. CONDITIONS: none beyond the given statement's. -/
import Derived.Test.YthcpkdhojokhdaaRows
import Derived.Test.YthcpkdhojokhdaaveE18
import Derived.Test.YthcpkdhojokhdaavE3
set_option linter.unusedVariables false
set_option linter.unusedSimpArgs false
namespace Go.Proofs.Ythcpkdhojokhdaa
open Go.ChangeShapes Go.WideShapes Go.ChangeAt Go.RowKit Go.Sy

theorem own : ownKnob Try.prog.godebug = none := by kernel_rfl
theorem laidOut : laidOutB Try.prog = true := by kernel_rfl

set_option maxRecDepth 100000 in
theorem polyEnds_lifted (os : Os) (started : os.Started) (H : Type) (enc : TypeId × Value → H) :
 ReturnsInHanded {} Try.checked os 5 .any (Rows.polyEndsSpec.pre6 enc Try.prog Try.f5 Rows.polyEndsRow.domain false) (Rows.polyEndsSpec.post enc Try.prog Try.f5 false true false false) := by
 refine returnsInHanded_of_change (C := Try.checked) own started (by kernel_rfl) Try.func5
  (ChangeSpec.witness6 (enc := enc) (C := Try.checked) false ⟨#[], #[.agg (Array.replicate 7 (.int .u64 0) ++ Array.replicate 16 (.int .u8 0) ++ #[.int .i64 0])], []⟩ 40 (by kernel_rfl) (by kernel_rfl) (by kernel_rfl) (by kernel_rfl)) ?_
 intro W base args ds gs before hval0 hW hcnd _
 have hval : ∀ (j : Nat) t v, Try.f5.params[j]? = some t → args[j]? = some v → Value.okWide Try.prog W .any base t v := hval0
 have hW' := hW
 obtain ⟨p, q, hA0, hV, rfl, hfz, hnd⟩ := hW
 have hA : DataW.TrodAll enc Try.prog W 0 (fun _ => true) true Try.f5.params.toList args.toList ds p := hA0
 rw [Try.params5] at hA hval
 obtain ⟨v0, d0, rfl, rfl, h0⟩ := trodAll_one hA
 obtain ⟨xs0, hx0, hd0⟩ := open_arg (sz := 24) 9 (hval 0 28 v0 rfl rfl) (by kernel_rfl) (by kernel_rfl) (by kernel_rfl) h0
 obtain ⟨pshx0, mhx0, rfl, hphx0⟩ := sh_struct hx0 Try.underlying28
 rcases hphx0 with _ | ⟨hx0a0, _ | ⟨hx0a1, _ | ⟨hx0a2, _ | ⟨hx0a3, _ | ⟨hx0a4, _ | _⟩⟩⟩⟩⟩
 obtain ⟨r0, r1, rfl⟩ := sh_u64x2 hx0a0 Try.underlying24 Try.underlying23
 obtain ⟨p0, p1, rfl⟩ := sh_u64x2 hx0a1 Try.underlying24 Try.underlying23
 obtain ⟨a0, a1, a2, rfl⟩ := sh_u64x3 hx0a2 Try.underlying25 Try.underlying23
 obtain ⟨held, hheld, rfl⟩ := sh_bytes hx0a3 Try.underlying26 Try.underlying5
 obtain ⟨n, rfl, hn⟩ := sh_i64 hx0a4 Try.underlying3
 simp only [Try.underlying28, List.flatten_cons, List.flatten_nil, pls_append, pls_cons, pls_nil, pls_bytes, List.append_nil, List.cons_append, List.nil_append, List.headD_cons] at hd0
 refine ((polyends r0 r1 p0 p1 a0 a1 a2 held hheld n).calls (fun _ _ h => h) W (Va.reads W) #[v0] (fun _ _ _ h => h) (fun _ _ => rfl) (.cons hd0 .nil)).mono fun e W' ⟨he, hw⟩ => ?_
 exact ⟨_, he, law_post hW' laidOut (by kernel_rfl) rfl rfl (by kernel_rfl) rfl hw⟩

theorem polyEndsHolds : Rows.PolyEndsSaid :=
 OpenClaim.holds_of_wide 5 Try.f5 rfl rfl rfl rfl rfl rfl rfl ⟨rfl, rfl, rfl, rfl, rfl⟩ rfl rfl rfl rfl rfl (by kernel_rfl) Try.func5 (by kernel_rfl)
  (of_decide_eq_true (by kernel_rfl)) (by unfold Func.isWrapper; first | (rw [if_pos (by decide +kernel)]; kernel_rfl) | (rw [if_neg (by decide +kernel)]; exact ⟨rfl, rfl⟩))
  (fun os started H enc _ => polyEnds_lifted os started H enc)

end Go.Proofs.Ythcpkdhojokhdaa
