/- WHAT IS PROVED: signetlaw.PolyBegins, whatever comes in: it returns true and leaves all as it was. CONDITIONS: none beyond the given statement's. -/
import Derived.Test.YthcpkdhojokhdaaRows
import Derived.Test.YthcpkdhojokhdaaveE8
import Derived.Test.YthcpkdhojokhdaavE3
set_option linter.unusedVariables false
set_option linter.unusedSimpArgs false
namespace Go.Proofs.Ythcpkdhojokhdaa
open Go.ChangeShapes Go.WideShapes Go.ChangeAt Go.RowKit Go.Sy

theorem own : ownKnob Try.prog.godebug = none := by kernel_rfl
theorem laidOut : laidOutB Try.prog = true := by kernel_rfl

set_option maxRecDepth 100000 in
theorem polyBegins_lifted (os : Os) (started : os.Started) (H : Type) (enc : TypeId × Value → H) :
    ReturnsInHanded {} Try.checked os 3 .any (Rows.polyBeginsSpec.pre6 enc Try.prog Try.f3 Rows.polyBeginsRow.domain false) (Rows.polyBeginsSpec.post enc Try.prog Try.f3 false true false false) := by
  refine returnsInHanded_of_change (C := Try.checked) own started (by kernel_rfl) Try.func3
    (ChangeSpec.witness6 (enc := enc) (C := Try.checked) false ⟨#[], #[.agg (Array.replicate 32 (.int .u8 0)), .agg (Array.replicate 7 (.int .u64 0) ++ Array.replicate 16 (.int .u8 0) ++ #[.int .i64 0])], []⟩ 40 (by kernel_rfl) (by kernel_rfl) (by kernel_rfl) (by kernel_rfl)) ?_
  intro W base args ds gs before hval0 hW hcnd _
  have hval : ∀ (j : Nat) t v, Try.f3.params[j]? = some t → args[j]? = some v → Value.okWide Try.prog W .any base t v := hval0
  have hW' := hW
  obtain ⟨p, q, hA0, hV, rfl, hfz, hnd⟩ := hW
  have hA : DataW.TrodAll enc Try.prog W 0 (fun _ => true) true Try.f3.params.toList args.toList ds p := hA0
  rw [Try.params3] at hA hval
  obtain ⟨v0, v1, d0, d1, p0, p1, rfl, rfl, rfl, h0, h1⟩ := trodAll_two hA
  obtain ⟨xs0, hx0, hd0⟩ := open_arg (sz := 32) 9 (hval 0 22 v0 rfl rfl) (by kernel_rfl) (by kernel_rfl) (by kernel_rfl) h0
  obtain ⟨key, hkey, rfl⟩ := sh_bytes hx0 Try.underlying22 Try.underlying5
  simp only [Try.underlying22, List.flatten_cons, List.flatten_nil, pls_append, pls_cons, pls_nil, pls_bytes, List.append_nil, List.cons_append, List.nil_append, List.headD_cons] at hd0
  obtain ⟨xs1, hx1, hd1⟩ := open_arg (sz := 24) 9 (hval 1 28 v1 rfl rfl) (by kernel_rfl) (by kernel_rfl) (by kernel_rfl) h1
  obtain ⟨pshx1, mhx1, rfl, hphx1⟩ := sh_struct hx1 Try.underlying28
  rcases hphx1 with _ | ⟨hx1a0, _ | ⟨hx1a1, _ | ⟨hx1a2, _ | ⟨hx1a3, _ | ⟨hx1a4, _ | _⟩⟩⟩⟩⟩
  obtain ⟨r0, r1, rfl⟩ := sh_u64x2 hx1a0 Try.underlying24 Try.underlying23
  obtain ⟨p0, p1, rfl⟩ := sh_u64x2 hx1a1 Try.underlying24 Try.underlying23
  obtain ⟨a0, a1, a2, rfl⟩ := sh_u64x3 hx1a2 Try.underlying25 Try.underlying23
  obtain ⟨held, hheld, rfl⟩ := sh_bytes hx1a3 Try.underlying26 Try.underlying5
  obtain ⟨n, rfl, hn⟩ := sh_i64 hx1a4 Try.underlying3
  simp only [Try.underlying28, List.flatten_cons, List.flatten_nil, pls_append, pls_cons, pls_nil, pls_bytes, List.append_nil, List.cons_append, List.nil_append, List.headD_cons] at hd1
  refine ((poly_begins key hkey r0 r1 p0 p1 a0 a1 a2 held hheld n).calls (fun _ _ h => h) W (Va.reads W) #[v0, v1] (fun _ _ _ h => h) (fun _ _ => rfl) (.cons hd0 (.cons hd1 .nil))).mono fun e W' ⟨he, hw⟩ => ?_
  exact ⟨_, he, law_post hW' laidOut (by kernel_rfl) rfl rfl (by kernel_rfl) rfl hw⟩

theorem polyBeginsHolds : Rows.PolyBeginsSaid :=
  OpenClaim.holds_of_wide 3 Try.f3 rfl rfl rfl rfl rfl rfl rfl ⟨rfl, rfl, rfl, rfl, rfl⟩ rfl rfl rfl rfl rfl (by kernel_rfl) Try.func3 (by kernel_rfl)
    (of_decide_eq_true (by kernel_rfl)) (by unfold Func.isWrapper; first | (rw [if_pos (by decide +kernel)]; kernel_rfl) | (rw [if_neg (by decide +kernel)]; exact ⟨rfl, rfl⟩))
    (fun os started H enc _ => polyBegins_lifted os started H enc)

end Go.Proofs.Ythcpkdhojokhdaa
