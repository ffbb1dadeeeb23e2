/- WHAT IS PROVED: signetlaw.FrameEncodes, whatever the frame that comes in: it returns true and leaves all as it was. CONDITIONS: none beyond the given statement's. -/
import Derived.Test.YtlonfblcopfigaaRows
import Derived.Test.YtlonfblcopfigaaH4
import Derived.Test.YtlonfblcopfigaaG5
set_option linter.unusedVariables false
set_option linter.unusedSimpArgs false
namespace Go.Proofs.Ytlonfblcopfigaa
open Go.ChangeShapes Go.WideShapes Go.ChangeAt Go.RowKit Go.Sy

theorem own : ownKnob Try.prog.godebug = none := by kernel_rfl
theorem laidOut : laidOutB Try.prog = true := by kernel_rfl

theorem slice_spot {w : World} {base : Nat} {a : Addr} {len cap : Nat} (h : Cell.okWide Try.prog w .any base 34 (.slice (some a) len cap)) : a.spot = none := by
  simp only [Cell.okWide, Cell.ok, Try.underlying34] at h
  exact h.2.2.2.1

theorem frame_open {H : Type} {enc : TypeId × Value → H} {w : World} {b0 base : Nat} {held : Bool} {v : Value} {d : DataW H} {p : List MemPlace}
    (hv : Value.okWide Try.prog w .any b0 40 v) (h : DataW.Trod enc Try.prog w base (fun _ => true) held 40 v d p) :
    ∃ (kind id : Int) (bs : List UInt8), (-9223372036854775808 ≤ kind ∧ kind ≤ 9223372036854775807) ∧ (V.w (.agg [.pl (.i kind), .pl (.i id), .pl (.R false 1 (byteRows bs))])).den (Va.reads w) v := by
  obtain ⟨v0, v1, v2, y0, y1, y2, n, rfl, _, _, h0, h1, h2⟩ := Joins.open_agg3 Try.underlying40 (by kernel_rfl) sz40 hv h
  obtain ⟨k0, rfl, b0⟩ := open_i64 Try.underlying3 h0
  obtain ⟨k1, rfl, b1⟩ := open_i64 Try.underlying3 h1
  have hs : ∀ a len cap, v2 = .slice (some a) len cap → a.spot = none := by
    intro a len cap e
    simp only [Value.okWide, Try.underlying40] at hv
    obtain ⟨cs, hcs, _, ts, hct, _, hcell⟩ := hv
    cases hcs
    obtain ⟨u, hu, hc⟩ := hcell 2 v2 rfl
    have ht : Try.prog.cellTypes Try.prog.depth 40 = some [3, 3, 34] := by kernel_rfl
    rw [ht] at hct
    cases hct
    cases hu
    rw [e] at hc
    exact slice_spot hc
  obtain ⟨bs, hb⟩ := open_bytes Try.underlying34 Try.underlying5 sz5 hs (fun _ => rfl) h2
  exact ⟨k0, k1, bs, b0, _, rfl, .cons (by rw [L.den, PL.den]) (.cons (by rw [L.den, PL.den]) (.cons hb .nil))⟩

theorem frameEncodes_walk (kind id : Int) (hk : -9223372036854775808 ≤ kind ∧ kind ≤ 9223372036854775807) (bs : List UInt8) :
    Ct Try.prog 6 [.w (.agg [.pl (.i kind), .pl (.i id), .pl (.R false 1 (byteRows bs))])] fun v m => v = .w (.one (.pl (.b true))) := by
  cases h : frameOut kind id bs with
  | none => exact frame_encodes_none kind id hk false bs h
  | some out => exact frame_encodes_some kind id hk false bs out h

theorem frameEncodes_lifted (os : Os) (started : os.Started) (H : Type) (enc : TypeId × Value → H) :
    ReturnsInHanded {} Try.checked os 6 .any (Rows.frameEncodesSpec.pre6 enc Try.prog Try.f6 Rows.frameEncodesRow.domain false) (Rows.frameEncodesSpec.post enc Try.prog Try.f6 false true false false) := by
  refine returnsInHanded_of_change (C := Try.checked) own started (by kernel_rfl) Try.func6
    (ChangeSpec.witness6 (enc := enc) (C := Try.checked) false ⟨#[], #[.agg #[.int .i64 0, .int .i64 0, .slice none 0 0]], []⟩ 8 (by kernel_rfl) (by kernel_rfl) (by kernel_rfl) (by kernel_rfl)) ?_
  intro W base args ds gs before hval0 hW hcnd _
  have hval : ∀ (j : Nat) t v, Try.f6.params[j]? = some t → args[j]? = some v → Value.okWide Try.prog W .any base t v := hval0
  have hW' := hW
  obtain ⟨p, q, hA0, hV, rfl, hfz, hnd⟩ := hW
  have hA : DataW.TrodAll enc Try.prog W 0 (fun _ => true) true Try.f6.params.toList args.toList ds p := hA0
  rw [Try.params6] at hA hval
  obtain ⟨v0, d0, rfl, rfl, h0⟩ := trodAll_one hA
  obtain ⟨kind, id, bs, hk, hd⟩ := frame_open (hval 0 40 v0 rfl rfl) h0
  refine ((frameEncodes_walk kind id hk bs).calls (fun _ _ h => h) W (Va.reads W) #[v0] (fun _ _ _ h => h) (.cons hd .nil)).mono fun e W' ⟨he, hw⟩ => ?_
  exact ⟨_, he, law_post hW' laidOut (by kernel_rfl) rfl rfl (by kernel_rfl) rfl hw⟩

theorem frameEncodesHolds : Rows.FrameEncodesSaid :=
  OpenClaim.holds_of_wide 6 Try.f6 rfl rfl rfl rfl rfl rfl rfl ⟨rfl, rfl, rfl, rfl, rfl⟩ rfl rfl rfl rfl rfl (by kernel_rfl) Try.func6 (by kernel_rfl)
    (of_decide_eq_true (by kernel_rfl)) (by unfold Func.isWrapper; first | (rw [if_pos (by decide +kernel)]; kernel_rfl) | (rw [if_neg (by decide +kernel)]; exact ⟨rfl, rfl⟩))
    (fun os started H enc _ => frameEncodes_lifted os started H enc)

end Go.Proofs.Ytlonfblcopfigaa
