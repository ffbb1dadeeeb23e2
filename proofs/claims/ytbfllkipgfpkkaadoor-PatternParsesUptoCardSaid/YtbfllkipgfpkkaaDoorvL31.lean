/- WHAT IS PROVED: signetlaw.PatternParses, whatever comes in whose bulk is at most 1048576: it returns true and leaves all as it was, the listed variables tied to the text. CONDITIONS: none beyond the given statement's. -/
import Derived.Test.YtbfllkipgfpkkaaDoorCards
import Derived.Test.YtbfllkipgfpkkaaDoorTie
import Derived.WalkKit
import Derived.ProofKit
import Derived.OpenShut
import Derived.Deep.DeepHandedRow
import Derived.Lib.LaidTab
import Derived.Lay
import Derived.Test.YtbfllkipgfpkkaaDoorvdG7
import Derived.Shelf.LaysM
import Derived.ChangeMaps5
set_option linter.unusedVariables false
set_option linter.unusedSimpArgs false
namespace Go.Proofs.YtbfllkipgfpkkaaDoor.patternParsesUpto
open Go.ChangeShapes Go.WideShapes Go.ChangeAt Go.RowKit Go.Sy

theorem own : ownKnob Tryd.prog.godebug = none := by kernel_rfl
theorem laidOut : laidOutB Tryd.prog = true := by kernel_rfl
theorem g0 : Tryd.prog.globalNamed "strings.asciiSpace" = some 0 := by kernel_rfl
theorem gt0 : (Tryd.prog.globals[0]?).map (·.type) = some 64 := by kernel_rfl
theorem cells64 : Tryd.prog.cellsOf 64 = 256 := by kernel_rfl
theorem cells5 : Tryd.prog.cellsOf 5 = 1 := by kernel_rfl
set_option maxRecDepth 100000 in
theorem v0 {W : World} (h : laidMet Tryd.prog Rows.patternParsesUptoRow.laid W) : W.var? Tryd.prog "strings.asciiSpace" = some ((spaceL.map fun x => Value.int .u8 x.toNat)).toArray :=
 (tab_of (zs := [0, 0, 0, 0, 0, 0, 0, 0, 0, 1, 1, 1, 1, 1, 0, 0, 0, 0, 0, 0, 0, 0, 0, 0, 0, 0, 0, 0, 0, 0, 0, 0, 1, 0, 0, 0, 0, 0, 0, 0, 0, 0, 0, 0, 0, 0, 0, 0, 0, 0, 0, 0, 0, 0, 0, 0, 0, 0, 0, 0, 0, 0, 0, 0, 0, 0, 0, 0, 0, 0, 0, 0, 0, 0, 0, 0, 0, 0, 0, 0, 0, 0, 0, 0, 0, 0, 0, 0, 0, 0, 0, 0, 0, 0, 0, 0, 0, 0, 0, 0, 0, 0, 0, 0, 0, 0, 0, 0, 0, 0, 0, 0, 0, 0, 0, 0, 0, 0, 0, 0, 0, 0, 0, 0, 0, 0, 0, 0, 0, 0, 0, 0, 0, 0, 0, 0, 0, 0, 0, 0, 0, 0, 0, 0, 0, 0, 0, 0, 0, 0, 0, 0, 0, 0, 0, 0, 0, 0, 0, 0, 0, 0, 0, 0, 0, 0, 0, 0, 0, 0, 0, 0, 0, 0, 0, 0, 0, 0, 0, 0, 0, 0, 0, 0, 0, 0, 0, 0, 0, 0, 0, 0, 0, 0, 0, 0, 0, 0, 0, 0, 0, 0, 0, 0, 0, 0, 0, 0, 0, 0, 0, 0, 0, 0, 0, 0, 0, 0, 0, 0, 0, 0, 0, 0, 0, 0, 0, 0, 0, 0, 0, 0, 0, 0, 0, 0, 0, 0, 0, 0, 0, 0, 0, 0, 0, 0, 0, 0, 0, 0, 0, 0, 0, 0, 0, 0]) (k := .u8) h (show ("strings.asciiSpace", (Rows.laid_strings_asciiSpace : DataW Unit)) ∈ _ from .tail _ (.tail _ (.head _))) g0 gt0 Tryd.underlying64 Tryd.underlying5 cells5 cells64).trans (congrArg (fun l => some (List.toArray l)) (show _ = _ by kernel_rfl))
theorem at0 {W : World} (h : laidMet Tryd.prog Rows.patternParsesUptoRow.laid W) : PL.denAt (Va.reads W).ro 0 (spaceL.map PL.u8) 0 := denAt_var (v0 h) g0 (den_u8s spaceL)
def gs (n0 : Int) : List (Nat × List PL) := [(1000000, spaceL.map PL.u8)] ++ [(1000001, [PL.i n0])]
theorem gfacts {W : World} {n0 : Int} (h : laidMet Tryd.prog Rows.patternParsesUptoRow.laid W) (hm : W.cell? ⟨1000001 - gl0, 0, none⟩ = some (.int .i64 n0)) : ∀ (k : Nat) (cs : List PL), Go.Sy.look (gs n0) k = some cs → gl0 ≤ k ∧ PL.denAt (Va.reads W).ro (k - gl0) cs 0 := by
 intro k cs hk
 simp only [gs, Go.Sy.look, List.cons_append, List.nil_append] at hk
 split at hk
 · rename_i e; cases hk; subst e; exact ⟨by decide, at0 h⟩
 split at hk
 · rename_i e; cases hk; subst e; exact ⟨by decide, ⟨_, hm, rfl⟩, trivial⟩
 · cases hk
def wit0 : Array Value := #[.string ⟨#[]⟩]
def witD {H : Type} : List (DataW H) := [.lit (.string [])]
noncomputable def laidWorld (os : Os) : World := World.laidAll Tryd.prog os Rows.patternParsesUptoRow.laid
theorem laid_met (os : Os) : laidMet Tryd.prog Rows.patternParsesUptoRow.laid ((laidWorld os).forCall (fun _ _ => 0) ⟨#[], wit0, []⟩).memory := laidMet_laidAll _ (by kernel_rfl) (by kernel_rfl)
theorem reads (os : Os) {H : Type} (enc : TypeId × Value → H) : ∃ places, DataW.whole enc Tryd.prog ((laidWorld os).forCall (fun _ _ => 0) ⟨#[], wit0, []⟩).memory Tryd.f4.params.toList Rows.patternParsesSpec.vars false wit0.toList 8 = some (witD, [], places) := ⟨[], by kernel_rfl⟩

theorem witness_row_shaped {H : Type} {enc : TypeId × Value → H} {C : Checked} {os : Os} {f : FuncId} {fn : Func} {s : OpenSpec} {conds : List PathCond} {apart : Bool} {laid : List (String × DataW Unit)} (modest : Bool) (w0 : World) (args : Array Value) (hos : w0.os = os)
 (hsh : (w0.forCall (fun _ _ => 0) ⟨#[], args, []⟩).Shaped C.prog)
 (hok : Input.okWideB C.prog (w0.forCall (fun _ _ => 0) ⟨#[], args, []⟩) f ⟨#[], args, []⟩ = true)
 (hrow : s.preRow enc C.prog fn conds apart laid (w0.forCall (fun _ _ => 0) ⟨#[], args, []⟩).memory args) :
 ∃ (w : World) (tape : Tape) (i : Input), w.os = os ∧ (w.forCall tape i).Shaped C.prog ∧ i.vars = [] ∧ Input.okWide C.prog (w.forCall tape i) .any w.heap.size f i ∧
  s.preRow enc C.prog fn conds apart laid (w.forCall tape i).memory i.args ∧ ({ modest := modest } : Assume).holds C.prog (lone (Frame.enter C.prog f i.args .normal) [] (w.forCall tape i)) :=
 ⟨w0, fun _ _ => 0, ⟨#[], args, []⟩, hos, hsh, (Input.okWide_of_okWideB (base := 0) hok).1, (Input.okWide_of_okWideB hok).2, hrow, by
  simp only [Assume.holds]
  exact ⟨by simp, by simp, fun _ => Modest.zero, by simp, by simp⟩⟩
set_option maxRecDepth 100000 in
theorem lifted (os : Os) (started : os.Started) (H : Type) (enc : TypeId × Value → H) (F : Stop.Interp) :
 ReturnsInHanded {} Tryd.checked os 4 .any ((Rows.OpenSpec.upto Rows.patternParsesSpec).preRow enc Tryd.prog Tryd.f4 Rows.patternParsesUptoRow.domain false Rows.patternParsesUptoRow.laid) ((((Rows.OpenSpec.upto Rows.patternParsesSpec)).at F).post enc Tryd.prog Tryd.f4 false true false false) := by
 obtain ⟨places, hx⟩ := reads os enc
 refine returnsInHanded_of_row (C := Tryd.checked) (s := Rows.OpenSpec.upto Rows.patternParsesSpec) own started (by kernel_rfl) Tryd.func4
  (witness_row_shaped (enc := enc) (C := Tryd.checked) false (laidWorld os) wit0 (World.laidAll_os _ _ _) (World.shaped_of_ZipB (by kernel_rfl) (by kernel_rfl)) (by kernel_rfl)
   (OpenSpec.preRow_of_cond 8 hx (by kernel_rfl) (fun k hk => by cases hk; kernel_rfl) (by kernel_rfl) (laid_met os))) ?_
 intro W base args ds gs0 before hval0 hW hcnd hcond hsz hL hSh _
 have hL : laidMet Tryd.prog Rows.patternParsesUptoRow.laid W := hL
 have hval : ∀ (j : Nat) t v, Tryd.f4.params[j]? = some t → args[j]? = some v → Value.okWide Tryd.prog W .any base t v := hval0
 have hW' := hW
 obtain ⟨p, q, hA0, hV, rfl, hfz, hnd⟩ := hW
 have hA : DataW.TrodAll enc Tryd.prog W 0 (fun _ => true) true Tryd.f4.params.toList args.toList ds p := hA0
 rw [Tryd.params4] at hA hval
 obtain ⟨v0, d0, rfl, rfl, h0⟩ := trodAll_one hA
 obtain ⟨xs0, hx0, hd0⟩ := open_arg (sz := 1) 9 (hval 0 9 v0 rfl rfl) (by kernel_rfl) (by kernel_rfl) (by kernel_rfl) h0
 obtain ⟨nm, rfl, hnm⟩ := sh_str hx0 Tryd.underlying9
 simp only [Tryd.underlying9, List.flatten_cons, List.flatten_nil, pls_append, pls_cons, pls_nil, pls_bytes, List.append_nil, List.cons_append, List.nil_append, List.headD_cons] at hd0
 have hbk : Rows.uptoBulkAll ([d0] ++ gs0) ≤ 1048576 := of_decide_eq_true (hcond _ rfl)
 simp only [List.cons_append, List.nil_append, Rows.uptoBulkAll] at hbk
 obtain ⟨s0, hs0, hd00, _, _⟩ := Go.ChangeMaps.open_string Tryd.underlying9 (hval 0 9 v0 rfl rfl) h0
 have hv1 : v0 = .string ⟨nm.toArray⟩ := hd0.1
 have hnl : nm.length ≤ 2000000 := by
  rw [hs0] at hv1
  cases hv1
  rw [hd00] at hbk
  simp only [Rows.uptoBulk] at hbk
  omega
 obtain ⟨n0, hn0⟩ := Go.Proofs.cell_of_shapedOpen_int (zero := #[.int .i64 0]) (t := 3) hSh (of_decide_eq_true (by kernel_rfl)) (by kernel_rfl) rfl (by kernel_rfl) (g := 1) (by kernel_rfl) Tryd.underlying3
 refine (CtM.callsG (G := gs n0) (b := true) (patternparses_gs nm hnl n0).told (fun _ _ h => h.1) W #[v0] (gfacts hL hn0) (by simp [plV, plW]) (.cons hd0 .nil)).mono fun e W' ⟨he, hw⟩ => ?_
 exact ⟨_, he, law_post hW' laidOut (by kernel_rfl) rfl rfl (by kernel_rfl) rfl hw⟩

theorem said : Rows.PatternParsesUptoSaid :=
 OpenClaim.holds_of_cond 4 Tryd.f4 rfl rfl rfl rfl rfl rfl rfl ⟨rfl, rfl, rfl, rfl, rfl⟩ rfl rfl rfl rfl rfl (by kernel_rfl) Tryd.func4 (by kernel_rfl)
  (of_decide_eq_true (by kernel_rfl)) (by unfold Func.isWrapper; first | (rw [if_pos (by decide +kernel)]; kernel_rfl) | (rw [if_neg (by decide +kernel)]; exact ⟨rfl, rfl⟩))
  (fun os started H enc _ F => by rw [OpenClaim.pre_eq_preRow]; exact lifted os started H enc F)
theorem plain (f : FuncId) (fn : Func) (hf : Tryd.pinned.checked.prog.funcNamed "signet/signetlaw.PatternParses" = some f) (hfn : Tryd.pinned.checked.prog.funcs[f]? = some fn) :
 false = Tryd.pinned.checked.prog.looks [] ∧ ∀ (j : Nat) t, fn.params[j]? = some t → Tryd.pinned.checked.prog.wantsStandIn t = false := by
 obtain rfl : f = 4 := Option.some.inj ((show Tryd.prog.funcNamed "signet/signetlaw.PatternParses" = some 4 by kernel_rfl).symm.trans hf) |>.symm
 obtain rfl : fn = Tryd.f4 := (Option.some.inj (Tryd.func4.symm.trans hfn)).symm
 refine ⟨by kernel_rfl, fun j t ht => ?_⟩
 rw [Tryd.params4] at ht
 have hm := Array.mem_of_getElem? ht
 simp only [List.mem_toArray, List.mem_cons, List.not_mem_nil, or_false] at hm
 subst hm
 · exact (show Tryd.prog.wantsStandIn 9 = false by kernel_rfl)
end Go.Proofs.YtbfllkipgfpkkaaDoor.patternParsesUpto
namespace Go.Proofs.YtbfllkipgfpkkaaDoor
theorem patternParsesUptoCardHolds : Rows.PatternParsesUptoCardSaid :=
 Claim7.holds_tied_plain_at .later [] _ _ _ _ patternParsesUpto.said (fun _ h => by cases h) (by kernel_rfl) (fun _ h => by cases h) patternParsesUpto_row_tie rfl ⟨rfl, rfl⟩ (by kernel_rfl) rfl patternParsesUpto.plain (by kernel_rfl)

end Go.Proofs.YtbfllkipgfpkkaaDoor

