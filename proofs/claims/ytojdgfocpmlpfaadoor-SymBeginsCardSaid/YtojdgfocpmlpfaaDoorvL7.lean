/- WHAT IS PROVED: signetlaw.SymBegins, whatever comes in: it returns true and leaves all as it was, the listed variables tied to the text. CONDITIONS: none beyond the given statement's. -/
import Derived.Test.YtojdgfocpmlpfaaDoorCards
import Derived.Test.YtojdgfocpmlpfaaDoorTie
import Derived.WalkKit
import Derived.ProofKit
import Derived.OpenShut
import Derived.Deep.DeepHandedRow
import Derived.Lib.LaidTab
import Derived.Test.YtojdgfocpmlpfaaDoorvgB30
set_option linter.unusedVariables false
set_option linter.unusedSimpArgs false
namespace Go.Proofs.YtojdgfocpmlpfaaDoor.symBegins
open Go.ChangeShapes Go.WideShapes Go.ChangeAt Go.RowKit Go.Sy

theorem own : ownKnob Tryd.prog.godebug = none := by kernel_rfl
theorem laidOut : laidOutB Tryd.prog = true := by kernel_rfl
theorem g0 : Tryd.prog.globalNamed "signet/blake.first" = some 0 := by kernel_rfl
theorem gt0 : (Tryd.prog.globals[0]?).map (·.type) = some 23 := by kernel_rfl
theorem cells23 : Tryd.prog.cellsOf 23 = 8 := by kernel_rfl
theorem cells22 : Tryd.prog.cellsOf 22 = 1 := by kernel_rfl
theorem v0 {W : World} (h : laidMet Tryd.prog Rows.symBeginsRow.laid W) : W.var? Tryd.prog "signet/blake.first" = some (firstU.map fun x => Value.int .u32 x.toNat).toArray :=
 (tab_of (zs := [1779033703, 3144134277, 1013904242, 2773480762, 1359893119, 2600822924, 528734635, 1541459225]) (k := .u32) h (show ("signet/blake.first", (Rows.laid_signet_blake_first : DataW Unit)) ∈ _ from .head _) g0 gt0 Tryd.underlying23 Tryd.underlying22 cells22 cells23).trans (congrArg (fun l => some (List.toArray l)) (show _ = _ by kernel_rfl))
theorem at0 {W : World} (h : laidMet Tryd.prog Rows.symBeginsRow.laid W) : PL.denAt (Va.reads W).ro 0 (firstU.map PL.u32) 0 := denAt_var (v0 h) g0 (den_u32s _)
theorem g1 : Tryd.prog.globalNamed "signet/blake.orders" = some 2 := by kernel_rfl
theorem gt1 : (Tryd.prog.globals[2]?).map (·.type) = some 75 := by kernel_rfl
theorem cells75 : Tryd.prog.cellsOf 75 = 160 := by kernel_rfl
theorem cells74 : Tryd.prog.cellsOf 74 = 16 := by kernel_rfl
theorem cells3 : Tryd.prog.cellsOf 3 = 1 := by kernel_rfl
theorem v1 {W : World} (h : laidMet Tryd.prog Rows.symBeginsRow.laid W) : W.var? Tryd.prog "signet/blake.orders" = some (ordZ.flatten.map fun x => Value.int .i64 x).toArray :=
 (tab2_of (zss := ordZ) (k := .i64) (n := 10) (m := 16) h (show ("signet/blake.orders", (Rows.laid_signet_blake_orders : DataW Unit)) ∈ _ from .tail _ (.head _)) g1 gt1 Tryd.underlying75 Tryd.underlying74 Tryd.underlying3 cells3 cells74 cells75).trans (congrArg (fun l => some (List.toArray l)) (show _ = _ by kernel_rfl))
theorem at1 {W : World} (h : laidMet Tryd.prog Rows.symBeginsRow.laid W) : PL.denAt (Va.reads W).ro 2 (ordZ.flatten.map PL.i) 0 := denAt_var (v1 h) g1 (den_is _)
theorem g2 : Tryd.prog.globalNamed "signet/signetref.iv" = some 1 := by kernel_rfl
theorem gt2 : (Tryd.prog.globals[1]?).map (·.type) = some 23 := by kernel_rfl
theorem v2 {W : World} (h : laidMet Tryd.prog Rows.symBeginsRow.laid W) : W.var? Tryd.prog "signet/signetref.iv" = some (firstU.map fun x => Value.int .u32 x.toNat).toArray :=
 (tab_of (zs := [1779033703, 3144134277, 1013904242, 2773480762, 1359893119, 2600822924, 528734635, 1541459225]) (k := .u32) h (show ("signet/signetref.iv", (Rows.laid_signet_signetref_iv : DataW Unit)) ∈ _ from .tail _ (.tail _ (.head _))) g2 gt2 Tryd.underlying23 Tryd.underlying22 cells22 cells23).trans (congrArg (fun l => some (List.toArray l)) (show _ = _ by kernel_rfl))
theorem at2 {W : World} (h : laidMet Tryd.prog Rows.symBeginsRow.laid W) : PL.denAt (Va.reads W).ro 1 (firstU.map PL.u32) 0 := denAt_var (v2 h) g2 (den_u32s _)
def gs : List (Nat × List PL) := [(1000000, firstU.map PL.u32), (1000001, firstU.map PL.u32), (1000002, ordZ.flatten.map PL.i)]
theorem gfacts {W : World} (h : laidMet Tryd.prog Rows.symBeginsRow.laid W) : ∀ (k : Nat) (cs : List PL), Go.Sy.look gs k = some cs → gl0 ≤ k ∧ PL.denAt (Va.reads W).ro (k - gl0) cs 0 := by
 intro k cs hk
 simp only [gs, Go.Sy.look] at hk
 split at hk
 · rename_i e; cases hk; subst e; exact ⟨by decide, at0 h⟩
 split at hk
 · rename_i e; cases hk; subst e; exact ⟨by decide, at2 h⟩
 split at hk
 · rename_i e; cases hk; subst e; exact ⟨by decide, at1 h⟩
 · cases hk
def wit0 : Array Value := #[.string ⟨#[]⟩, .agg (#[.bool false] ++ Array.replicate 32 (.int .u8 0) ++ #[.int .u64 0] ++ Array.replicate 64 (.int .u8 0))]
def witD {H : Type} : List (DataW H) := [.lit (.string []), .agg [.agg [.lit (.bool false), .agg (List.replicate 32 (.lit (.int .u8 0))), .lit (.int .u64 0)], .agg (List.replicate 32 (.lit (.int .u8 0))), .agg (List.replicate 32 (.lit (.int .u8 0)))]]
noncomputable def laidWorld (os : Os) : World := { World.holding Tryd.prog os ⟨#[], #[], []⟩ with heap := (Array.modify (Array.modify (Array.modify ((World.holding Tryd.prog os ⟨#[], #[], []⟩).heap) 0 (fun | .cells _ t frozen => .cells (firstU.map fun x => Value.int .u32 x.toNat).toArray t frozen | o => o)) 2 (fun | .cells _ t frozen => .cells (ordZ.flatten.map fun x => Value.int .i64 x).toArray t frozen | o => o)) 1 (fun | .cells _ t frozen => .cells (firstU.map fun x => Value.int .u32 x.toNat).toArray t frozen | o => o)) }
theorem laid_met (os : Os) : laidMet Tryd.prog Rows.symBeginsRow.laid ((laidWorld os).forCall (fun _ _ => 0) ⟨#[], wit0, []⟩).memory := laidMet_of_run' 8 (by kernel_rfl) (by kernel_rfl)
theorem reads (os : Os) {H : Type} (enc : TypeId × Value → H) : ∃ places, DataW.whole enc Tryd.prog ((laidWorld os).forCall (fun _ _ => 0) ⟨#[], wit0, []⟩).memory Tryd.f8.params.toList Rows.symBeginsSpec.vars false wit0.toList 8 = some (witD, [], places) := ⟨[], by kernel_rfl⟩

set_option maxRecDepth 100000 in
theorem lifted (os : Os) (started : os.Started) (H : Type) (enc : TypeId × Value → H) (F : Stop.Interp) :
 ReturnsInHanded {} Tryd.checked os 8 .any ((OpenSpec.ofChange Rows.symBeginsSpec).preRow enc Tryd.prog Tryd.f8 Rows.symBeginsRow.domain false Rows.symBeginsRow.laid) (((OpenSpec.ofChange Rows.symBeginsSpec).at F).post enc Tryd.prog Tryd.f8 false true false false) := by
 obtain ⟨places, hx⟩ := reads os enc
 refine returnsInHanded_of_row (C := Tryd.checked) (s := OpenSpec.ofChange Rows.symBeginsSpec) own started (by kernel_rfl) Tryd.func8
  (witness_row_at (enc := enc) (C := Tryd.checked) false (laidWorld os) wit0 rfl (by kernel_rfl) (by kernel_rfl) (by kernel_rfl)
   (OpenSpec.preRow_of_cond 8 hx (by kernel_rfl) (fun k hk => by cases hk) (by kernel_rfl) (laid_met os))) ?_
 intro W base args ds gs0 before hval0 hW hcnd _ hsz hL _ _
 have hL : laidMet Tryd.prog Rows.symBeginsRow.laid W := hL
 have hval : ∀ (j : Nat) t v, Tryd.f8.params[j]? = some t → args[j]? = some v → Value.okWide Tryd.prog W .any base t v := hval0
 have hW' := hW
 obtain ⟨p, q, hA0, hV, rfl, hfz, hnd⟩ := hW
 have hA : DataW.TrodAll enc Tryd.prog W 0 (fun _ => true) true Tryd.f8.params.toList args.toList ds p := hA0
 rw [Tryd.params8] at hA hval
 obtain ⟨v0, v1, d0, d1, p0, p1, rfl, rfl, rfl, h0, h1⟩ := trodAll_two hA
 obtain ⟨xs0, hx0, hd0⟩ := open_arg (sz := 1) 9 (hval 0 9 v0 rfl rfl) (by kernel_rfl) (by kernel_rfl) (by kernel_rfl) h0
 obtain ⟨b, rfl, hb⟩ := sh_str hx0 Tryd.underlying9
 simp only [Tryd.underlying9, List.flatten_cons, List.flatten_nil, pls_append, pls_cons, pls_nil, pls_bytes, List.append_nil, List.cons_append, List.nil_append, List.headD_cons] at hd0
 obtain ⟨xs1, hx1, hd1⟩ := open_arg (sz := 98) 9 (hval 1 54 v1 rfl rfl) (by kernel_rfl) (by kernel_rfl) (by kernel_rfl) h1
 obtain ⟨pshx1, mhx1, rfl, hphx1⟩ := sh_struct hx1 Tryd.underlying54
 rcases hphx1 with _ | ⟨hx1a0, _ | ⟨hx1a1, _ | ⟨hx1a2, _ | _⟩⟩⟩
 obtain ⟨pshx1a0, mhx1a0, rfl, hphx1a0⟩ := sh_struct hx1a0 Tryd.underlying52
 rcases hphx1a0 with _ | ⟨hx1a0a0, _ | ⟨hx1a0a1, _ | ⟨hx1a0a2, _ | _⟩⟩⟩
 obtain ⟨st, rfl⟩ := sh_bool hx1a0a0 Tryd.underlying4
 obtain ⟨key, hkey, rfl⟩ := sh_bytes hx1a0a1 Tryd.underlying28 Tryd.underlying5
 obtain ⟨n, rfl⟩ := sh_u64 hx1a0a2 Tryd.underlying50
 obtain ⟨ch, hch, rfl⟩ := sh_bytes hx1a1 Tryd.underlying28 Tryd.underlying5
 obtain ⟨h, hh, rfl⟩ := sh_bytes hx1a2 Tryd.underlying28 Tryd.underlying5
 simp only [Tryd.underlying54, List.flatten_cons, List.flatten_nil, pls_append, pls_cons, pls_nil, pls_bytes, List.append_nil, List.cons_append, List.nil_append, List.headD_cons] at hd1
 simp only [List.append_assoc, List.cons_append, List.nil_append] at hd1
 refine (CtM.callsG (G := gs) (b := true) (symbegins_gs b hb st key n ch h hkey hch hh).told (fun _ _ h => h.1) W #[v0, v1] (gfacts hL) (by simp [plV, plW, hashC, H8.ls, symS, bytesC]) (.cons hd0 (.cons hd1 .nil))).mono fun e W' ⟨he, hw⟩ => ?_
 exact ⟨_, he, law_post hW' laidOut (by kernel_rfl) rfl rfl (by kernel_rfl) rfl hw⟩

theorem said : Rows.SymBeginsSaid :=
 OpenClaim.holds_of_cond 8 Tryd.f8 rfl rfl rfl rfl rfl rfl rfl ⟨rfl, rfl, rfl, rfl, rfl⟩ rfl rfl rfl rfl rfl (by kernel_rfl) Tryd.func8 (by kernel_rfl)
  (of_decide_eq_true (by kernel_rfl)) (by unfold Func.isWrapper; first | (rw [if_pos (by decide +kernel)]; kernel_rfl) | (rw [if_neg (by decide +kernel)]; exact ⟨rfl, rfl⟩))
  (fun os started H enc _ F => by rw [OpenClaim.pre_eq_preRow]; exact lifted os started H enc F)
theorem plain (f : FuncId) (fn : Func) (hf : Tryd.pinned.checked.prog.funcNamed "signet/signetlaw.SymBegins" = some f) (hfn : Tryd.pinned.checked.prog.funcs[f]? = some fn) :
 false = Tryd.pinned.checked.prog.looks [] ∧ ∀ (j : Nat) t, fn.params[j]? = some t → Tryd.pinned.checked.prog.wantsStandIn t = false := by
 obtain rfl : f = 8 := Option.some.inj ((show Tryd.prog.funcNamed "signet/signetlaw.SymBegins" = some 8 by kernel_rfl).symm.trans hf) |>.symm
 obtain rfl : fn = Tryd.f8 := (Option.some.inj (Tryd.func8.symm.trans hfn)).symm
 refine ⟨by kernel_rfl, fun j t ht => ?_⟩
 rw [Tryd.params8] at ht
 have hm := Array.mem_of_getElem? ht
 simp only [List.mem_toArray, List.mem_cons, List.not_mem_nil, or_false] at hm
 rcases hm with rfl | rfl
 · exact (show Tryd.prog.wantsStandIn 9 = false by kernel_rfl)
 · exact (show Tryd.prog.wantsStandIn 54 = false by kernel_rfl)
end Go.Proofs.YtojdgfocpmlpfaaDoor.symBegins
namespace Go.Proofs.YtojdgfocpmlpfaaDoor
theorem symBeginsCardHolds : Rows.SymBeginsCardSaid :=
 Claim7.holds_tied_plain_at .later [] _ _ _ _ symBegins.said (fun _ h => by cases h) (by kernel_rfl) (fun _ h => by cases h) symBegins_row_tie rfl ⟨rfl, rfl⟩ (by kernel_rfl) rfl symBegins.plain (by kernel_rfl)

end Go.Proofs.YtojdgfocpmlpfaaDoor

