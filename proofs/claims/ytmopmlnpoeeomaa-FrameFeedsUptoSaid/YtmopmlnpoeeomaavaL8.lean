/- WHAT IS PROVED: signetlaw.FrameFeeds, whatever comes in whose bulk is at most 1048576: it returns true and leaves all as it was. CONDITIONS: none beyond the given statement's. -/
import Derived.Test.YtmopmlnpoeeomaaRows
import Derived.OpenShut
import Derived.JoinedCond
import Derived.Test.YtmopmlnpoeeomaavE3
import Derived.Test.YtmopmlnpoeeomaavaF4
set_option linter.unusedVariables false
set_option linter.unusedSimpArgs false
namespace Go.Proofs.Ytmopmlnpoeeomaa
open Go.ChangeShapes Go.WideShapes Go.ChangeAt Go.RowKit Go.Sy

theorem own : ownKnob Try.prog.godebug = none := by kernel_rfl
theorem laidOut : laidOutB Try.prog = true := by kernel_rfl
theorem bulk_one {H : Type} (d : DataW H) : 1 ≤ Rows.uptoBulk d := by
  cases d with
  | lit l => cases l <;> simp [Rows.uptoBulk]
  | nil => simp [Rows.uptoBulk]
  | ptr d => simp [Rows.uptoBulk]
  | slice elems rest => simp [Rows.uptoBulk]
  | agg parts => simp [Rows.uptoBulk]
  | iface t d => simp [Rows.uptoBulk]
  | map entries => simp [Rows.uptoBulk]
  | held h => simp [Rows.uptoBulk]
theorem bulk_all {H : Type} (l : List (DataW H)) : l.length ≤ Rows.uptoBulkAll l := by
  induction l with
  | nil => simp [Rows.uptoBulkAll]
  | cons x r ih => have := bulk_one x; simp only [Rows.uptoBulkAll, List.length_cons]; omega
theorem bulk_rows {H : Type} {d : DataW H} {n : Nat} (h : n = 0 ∨ ∃ elems rest, d = .slice elems rest ∧ elems.length = n) : n ≤ Rows.uptoBulk d := by
  rcases h with rfl | ⟨elems, rest, rfl, rfl⟩
  · exact Nat.zero_le _
  · have := bulk_all elems
    simp only [Rows.uptoBulk]; omega

set_option maxRecDepth 100000 in
theorem frameFeeds_lifted (os : Os) (started : os.Started) (H : Type) (enc : TypeId × Value → H) (F : Stop.Interp) :
    ReturnsInHanded {} Try.checked os 6 .any ((Rows.OpenSpec.upto Rows.frameFeedsSpec).pre6 enc Try.prog Try.f6 Rows.frameFeedsUptoRow.domain false) (((Rows.OpenSpec.upto Rows.frameFeedsSpec).at F).post enc Try.prog Try.f6 false true false false) := by
  refine returnsInHanded_of_cond (C := Try.checked) (s := Rows.OpenSpec.upto Rows.frameFeedsSpec) (k := Rows.uptoSmall) rfl own started (by kernel_rfl) Try.func6
    (OpenSpec.witness (enc := enc) (C := Try.checked) (s := Rows.OpenSpec.upto Rows.frameFeedsSpec) (k := Rows.uptoSmall) rfl false ⟨#[], #[.slice none 0 0, .slice none 0 0], []⟩ 40 (by kernel_rfl) (by kernel_rfl) (by kernel_rfl)
      (x := ([.nil, .nil], [], [])) (by kernel_rfl) rfl (by kernel_rfl)) ?_
  intro W base args ds gs before hval0 hW hcnd hk _
  have hval : ∀ (j : Nat) t v, Try.f6.params[j]? = some t → args[j]? = some v → Value.okWide Try.prog W .any base t v := hval0
  have hW' := hW
  obtain ⟨p, q, hA0, hV, rfl, hfz, hnd⟩ := hW
  have hA : DataW.TrodAll enc Try.prog W 0 (fun _ => true) true Try.f6.params.toList args.toList ds p := hA0
  rw [Try.params6] at hA hval
  obtain ⟨v0, v1, d0, d1, p0, p1, rfl, rfl, rfl, h0, h1⟩ := trodAll_two hA
  have hbk : Rows.uptoBulkAll ([d0, d1] ++ gs) ≤ 1048576 := of_decide_eq_true hk
  simp only [List.cons_append, List.nil_append, Rows.uptoBulkAll] at hbk
  obtain ⟨xs0, hx0, hd0⟩ := open_arg (sz := 1) 9 (hval 0 33 v0 rfl rfl) (by kernel_rfl) (by kernel_rfl) (by kernel_rfl) h0
  obtain ⟨held, rfl, hheld⟩ := sh_byteSlice hx0 Try.underlying33 Try.underlying5 (by kernel_rfl)
  simp only [Try.underlying33, List.flatten_cons, List.flatten_nil, pls_append, pls_cons, pls_nil, pls_bytes, List.append_nil, List.cons_append, List.nil_append, List.headD_cons] at hd0
  obtain ⟨xs1, hx1, hd1⟩ := open_arg (sz := 1) 9 (hval 1 33 v1 rfl rfl) (by kernel_rfl) (by kernel_rfl) (by kernel_rfl) h1
  obtain ⟨b, rfl, hb⟩ := sh_byteSlice hx1 Try.underlying33 Try.underlying5 (by kernel_rfl)
  simp only [Try.underlying33, List.flatten_cons, List.flatten_nil, pls_append, pls_cons, pls_nil, pls_bytes, List.append_nil, List.cons_append, List.nil_append, List.headD_cons] at hd1
  have hb0 := bulk_rows (slice_reads Try.underlying33 h0 hd0)
  have hb1 := bulk_rows (slice_reads Try.underlying33 h1 hd1)
  rw [byteRows_length] at hb0 hb1
  have hlen : held.length + b.length ≤ 1048576 := by omega
  refine ((frame_feeds held b false false hlen).calls (fun _ _ h => h) W (Va.reads W) #[v0, v1] (fun _ _ _ h => h) (fun _ _ => rfl) (.cons hd0 (.cons hd1 .nil))).mono fun e W' ⟨he, hw⟩ => ?_
  exact ⟨_, he, law_post hW' laidOut (by kernel_rfl) rfl rfl (by kernel_rfl) rfl hw⟩

theorem frameFeedsUptoHolds : Rows.FrameFeedsUptoSaid :=
  OpenClaim.holds_of_cond 6 Try.f6 rfl rfl rfl rfl rfl rfl rfl ⟨rfl, rfl, rfl, rfl, rfl⟩ rfl rfl rfl rfl rfl (by kernel_rfl) Try.func6 (by kernel_rfl)
    (of_decide_eq_true (by kernel_rfl)) (by unfold Func.isWrapper; first | (rw [if_pos (by decide +kernel)]; kernel_rfl) | (rw [if_neg (by decide +kernel)]; exact ⟨rfl, rfl⟩))
    (fun os started H enc _ F => frameFeeds_lifted os started H enc F)

end Go.Proofs.Ytmopmlnpoeeomaa
