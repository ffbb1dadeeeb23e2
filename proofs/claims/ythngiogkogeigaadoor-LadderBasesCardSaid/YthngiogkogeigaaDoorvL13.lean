/- WHAT IS PROVED: signetlaw.LadderBases, whatever comes in: it returns true and leaves all as it was, the listed variables tied to the text. CONDITIONS: none beyond the given statement's. -/
import Derived.Test.YthngiogkogeigaaDoorCards
import Derived.Test.YthngiogkogeigaaDoorTie
import Derived.WalkKit
import Derived.ProofKit
import Derived.OpenShut
import Derived.Deep.DeepHandedRow
import Derived.Lib.LaidTab
import Derived.Test.YthngiogkogeigaaDoorvhL8
set_option linter.unusedVariables false
set_option linter.unusedSimpArgs false
namespace Go.Proofs.YthngiogkogeigaaDoor.ladderBases
open Go.ChangeShapes Go.WideShapes Go.ChangeAt Go.RowKit Go.Sy

theorem own : ownKnob Tryd.prog.godebug = none := by kernel_rfl
theorem laidOut : laidOutB Tryd.prog = true := by kernel_rfl
theorem g0 : Tryd.prog.globalNamed "signet/field.prime" = some 1 := by kernel_rfl
theorem gt0 : (Tryd.prog.globals[1]?).map (·.type) = some 31 := by kernel_rfl
theorem cells31 : Tryd.prog.cellsOf 31 = 4 := by kernel_rfl
theorem cells29 : Tryd.prog.cellsOf 29 = 1 := by kernel_rfl
theorem v0 {W : World} (h : laidMet Tryd.prog Rows.ladderBasesRow.laid W) : W.var? Tryd.prog "signet/field.prime" = some (primeU.map fun x => Value.int .u64 x.toNat).toArray :=
 (tab_of (zs := [18446744073709551597, 18446744073709551615, 18446744073709551615, 9223372036854775807]) (k := .u64) h (show ("signet/field.prime", (Rows.laid_signet_field_prime : DataW Unit)) ∈ _ from .head _) g0 gt0 Tryd.underlying31 Tryd.underlying29 cells29 cells31).trans (congrArg (fun l => some (List.toArray l)) (show _ = _ by kernel_rfl))
theorem at0 {W : World} (h : laidMet Tryd.prog Rows.ladderBasesRow.laid W) : PL.denAt (Va.reads W).ro 1 (primeU.map PL.u64) 0 := denAt_var (v0 h) g0 (den_u64s _)
theorem g1 : Tryd.prog.globalNamed "signet/signetref.prime" = some 0 := by kernel_rfl
theorem gt1 : (Tryd.prog.globals[0]?).map (·.type) = some 45 := by kernel_rfl
theorem cells45 : Tryd.prog.cellsOf 45 = 16 := by kernel_rfl
theorem v1 {W : World} (h : laidMet Tryd.prog Rows.ladderBasesRow.laid W) : W.var? Tryd.prog "signet/signetref.prime" = some (prdL.map fun x => Value.int .u64 x.toNat).toArray :=
 (tab_of (zs := [65517, 65535, 65535, 65535, 65535, 65535, 65535, 65535, 65535, 65535, 65535, 65535, 65535, 65535, 65535, 32767]) (k := .u64) h (show ("signet/signetref.prime", (Rows.laid_signet_signetref_prime : DataW Unit)) ∈ _ from .tail _ (.head _)) g1 gt1 Tryd.underlying45 Tryd.underlying29 cells29 cells45).trans (congrArg (fun l => some (List.toArray l)) (show _ = _ by kernel_rfl))
theorem at1 {W : World} (h : laidMet Tryd.prog Rows.ladderBasesRow.laid W) : PL.denAt (Va.reads W).ro 0 (prdL.map PL.u64) 0 := denAt_var (v1 h) g1 (den_u64s _)
def gs : List (Nat × List PL) := [(1000000, prdL.map PL.u64), (1000001, primeU.map PL.u64)]
theorem gfacts {W : World} (h : laidMet Tryd.prog Rows.ladderBasesRow.laid W) : ∀ (k : Nat) (cs : List PL), Go.Sy.look gs k = some cs → gl0 ≤ k ∧ PL.denAt (Va.reads W).ro (k - gl0) cs 0 := by
 intro k cs hk
 simp only [gs, Go.Sy.look] at hk
 split at hk
 · rename_i e; cases hk; subst e; exact ⟨by decide, at1 h⟩
 split at hk
 · rename_i e; cases hk; subst e; exact ⟨by decide, at0 h⟩
 · cases hk
def wit0 : Array Value := #[.agg (Array.replicate 32 (.int .u8 0))]
def witD {H : Type} : List (DataW H) := [.agg (List.replicate 32 (.lit (.int .u8 0)))]
noncomputable def laidWorld (os : Os) : World := { World.holding Tryd.prog os ⟨#[], #[], []⟩ with heap := (Array.modify (Array.modify ((World.holding Tryd.prog os ⟨#[], #[], []⟩).heap) 1 (fun | .cells _ t frozen => .cells (primeU.map fun x => Value.int .u64 x.toNat).toArray t frozen | o => o)) 0 (fun | .cells _ t frozen => .cells (prdL.map fun x => Value.int .u64 x.toNat).toArray t frozen | o => o)) }
theorem laid_met (os : Os) : laidMet Tryd.prog Rows.ladderBasesRow.laid ((laidWorld os).forCall (fun _ _ => 0) ⟨#[], wit0, []⟩).memory := laidMet_of_run' 8 (by kernel_rfl) (by kernel_rfl)
theorem reads (os : Os) {H : Type} (enc : TypeId × Value → H) : ∃ places, DataW.whole enc Tryd.prog ((laidWorld os).forCall (fun _ _ => 0) ⟨#[], wit0, []⟩).memory Tryd.f4.params.toList Rows.ladderBasesSpec.vars false wit0.toList 8 = some (witD, [], places) := ⟨[], by kernel_rfl⟩

set_option maxRecDepth 100000 in
theorem lifted (os : Os) (started : os.Started) (H : Type) (enc : TypeId × Value → H) (F : Stop.Interp) :
 ReturnsInHanded {} Tryd.checked os 4 .any ((OpenSpec.ofChange Rows.ladderBasesSpec).preRow enc Tryd.prog Tryd.f4 Rows.ladderBasesRow.domain false Rows.ladderBasesRow.laid) (((OpenSpec.ofChange Rows.ladderBasesSpec).at F).post enc Tryd.prog Tryd.f4 false true false false) := by
 obtain ⟨places, hx⟩ := reads os enc
 refine returnsInHanded_of_row (C := Tryd.checked) (s := OpenSpec.ofChange Rows.ladderBasesSpec) own started (by kernel_rfl) Tryd.func4
  (witness_row_at (enc := enc) (C := Tryd.checked) false (laidWorld os) wit0 rfl (by kernel_rfl) (by kernel_rfl) (by kernel_rfl)
   (OpenSpec.preRow_of_cond 8 hx (by kernel_rfl) (fun k hk => by cases hk) (by kernel_rfl) (laid_met os))) ?_
 intro W base args ds gs0 before hval0 hW hcnd _ hsz hL _ _
 have hL : laidMet Tryd.prog Rows.ladderBasesRow.laid W := hL
 have hval : ∀ (j : Nat) t v, Tryd.f4.params[j]? = some t → args[j]? = some v → Value.okWide Tryd.prog W .any base t v := hval0
 have hW' := hW
 obtain ⟨p, q, hA0, hV, rfl, hfz, hnd⟩ := hW
 have hA : DataW.TrodAll enc Tryd.prog W 0 (fun _ => true) true Tryd.f4.params.toList args.toList ds p := hA0
 rw [Tryd.params4] at hA hval
 obtain ⟨v0, d0, rfl, rfl, h0⟩ := trodAll_one hA
 obtain ⟨xs0, hx0, hd0⟩ := open_arg (sz := 32) 9 (hval 0 22 v0 rfl rfl) (by kernel_rfl) (by kernel_rfl) (by kernel_rfl) h0
 obtain ⟨k, hk, rfl⟩ := sh_bytes hx0 Tryd.underlying22 Tryd.underlying5
 simp only [Tryd.underlying22, List.flatten_cons, List.flatten_nil, pls_append, pls_cons, pls_nil, pls_bytes, List.append_nil, List.cons_append, List.nil_append, List.headD_cons] at hd0
 refine (CtM.callsG (G := gs) (b := true) (lbases_gs k hk).told (fun _ _ h => h.1) W #[v0] (gfacts hL) (by simp [plV, plW, bytesC]) (.cons hd0 .nil)).mono fun e W' ⟨he, hw⟩ => ?_
 exact ⟨_, he, law_post hW' laidOut (by kernel_rfl) rfl rfl (by kernel_rfl) rfl hw⟩

theorem said : Rows.LadderBasesSaid :=
 OpenClaim.holds_of_cond 4 Tryd.f4 rfl rfl rfl rfl rfl rfl rfl ⟨rfl, rfl, rfl, rfl, rfl⟩ rfl rfl rfl rfl rfl (by kernel_rfl) Tryd.func4 (by kernel_rfl)
  (of_decide_eq_true (by kernel_rfl)) (by unfold Func.isWrapper; first | (rw [if_pos (by decide +kernel)]; kernel_rfl) | (rw [if_neg (by decide +kernel)]; exact ⟨rfl, rfl⟩))
  (fun os started H enc _ F => by rw [OpenClaim.pre_eq_preRow]; exact lifted os started H enc F)
theorem plain (f : FuncId) (fn : Func) (hf : Tryd.pinned.checked.prog.funcNamed "signet/signetlaw.LadderBases" = some f) (hfn : Tryd.pinned.checked.prog.funcs[f]? = some fn) :
 false = Tryd.pinned.checked.prog.looks [] ∧ ∀ (j : Nat) t, fn.params[j]? = some t → Tryd.pinned.checked.prog.wantsStandIn t = false := by
 obtain rfl : f = 4 := Option.some.inj ((show Tryd.prog.funcNamed "signet/signetlaw.LadderBases" = some 4 by kernel_rfl).symm.trans hf) |>.symm
 obtain rfl : fn = Tryd.f4 := (Option.some.inj (Tryd.func4.symm.trans hfn)).symm
 refine ⟨by kernel_rfl, fun j t ht => ?_⟩
 rw [Tryd.params4] at ht
 have hm := Array.mem_of_getElem? ht
 simp only [List.mem_toArray, List.mem_cons, List.not_mem_nil, or_false] at hm
 subst hm
 · exact (show Tryd.prog.wantsStandIn 22 = false by kernel_rfl)
end Go.Proofs.YthngiogkogeigaaDoor.ladderBases
namespace Go.Proofs.YthngiogkogeigaaDoor
theorem ladderBasesCardHolds : Rows.LadderBasesCardSaid :=
 Claim7.holds_tied_plain_at .later [] _ _ _ _ ladderBases.said (fun _ h => by cases h) (by kernel_rfl) (fun _ h => by cases h) ladderBases_row_tie rfl ⟨rfl, rfl⟩ (by kernel_rfl) rfl ladderBases.plain (by kernel_rfl)

end Go.Proofs.YthngiogkogeigaaDoor

