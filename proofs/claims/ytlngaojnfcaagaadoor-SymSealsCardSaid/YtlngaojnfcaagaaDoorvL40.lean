/- WHAT IS PROVED: signetlaw.SymSeals, whatever comes in: it returns true and leaves all as it was, the listed variables tied to the text. CONDITIONS: none beyond the given statement's. -/
import Derived.Test.YtlngaojnfcaagaaDoorCards
import Derived.Test.YtlngaojnfcaagaaDoorTie
import Derived.WalkKit
import Derived.ProofKit
import Derived.OpenShut
import Derived.Deep.DeepHandedRow
import Derived.Lib.LaidTab
import Derived.Test.YtlngaojnfcaagaaDoorvS17
set_option linter.unusedVariables false
set_option linter.unusedSimpArgs false
namespace Go.Proofs.YtlngaojnfcaagaaDoor.symSeals
open Go.Sy.Bk Go.ChangeShapes Go.WideShapes Go.ChangeAt Go.RowKit Go.Sy
theorem own : ownKnob Tryd.prog.godebug = none := by kernel_rfl
theorem laidOut : laidOutB Tryd.prog = true := by kernel_rfl
theorem g0 : Tryd.prog.globalNamed "signet/blake.first" = some 0 := by kernel_rfl
theorem gt0 : (Tryd.prog.globals[0]?).map (·.type) = some 54 := by kernel_rfl
theorem cells54 : Tryd.prog.cellsOf 54 = 8 := by kernel_rfl
theorem cells51 : Tryd.prog.cellsOf 51 = 1 := by kernel_rfl
theorem v0 {W : World} (h : laidMet Tryd.prog Rows.symSealsRow.laid W) : W.var? Tryd.prog "signet/blake.first" = some (f0t.map fun x => Value.int .u32 x.toNat).toArray :=
 (r1h (zs := [1779033703, 3144134277, 1013904242, 2773480762, 1359893119, 2600822924, 528734635, 1541459225]) (k := .u32) h (show ("signet/blake.first", (Rows.laid_signet_blake_first : DataW Unit)) ∈ _ from .head _) g0 gt0 Tryd.underlying54 Tryd.underlying51 cells51 cells54).trans (congrArg (fun l => some (List.toArray l)) (show _ = _ by kernel_rfl))
theorem at0 {W : World} (h : laidMet Tryd.prog Rows.symSealsRow.laid W) : PL.denAt (Va.reads W).ro 0 (f0t.map PL.u32) 0 := n0k (v0 h) g0 (r0n _)
theorem g1 : Tryd.prog.globalNamed "signet/blake.orders" = some 2 := by kernel_rfl
theorem gt1 : (Tryd.prog.globals[2]?).map (·.type) = some 94 := by kernel_rfl
theorem cells94 : Tryd.prog.cellsOf 94 = 160 := by kernel_rfl
theorem cells93 : Tryd.prog.cellsOf 93 = 16 := by kernel_rfl
theorem cells3 : Tryd.prog.cellsOf 3 = 1 := by kernel_rfl
theorem v1 {W : World} (h : laidMet Tryd.prog Rows.symSealsRow.laid W) : W.var? Tryd.prog "signet/blake.orders" = some (y1g.flatten.map fun x => Value.int .i64 x).toArray :=
 (s1p (zss := y1g) (k := .i64) (n := 10) (m := 16) h (show ("signet/blake.orders", (Rows.laid_signet_blake_orders : DataW Unit)) ∈ _ from .tail _ (.head _)) g1 gt1 Tryd.underlying94 Tryd.underlying93 Tryd.underlying3 cells3 cells93 cells94).trans (congrArg (fun l => some (List.toArray l)) (show _ = _ by kernel_rfl))
theorem at1 {W : World} (h : laidMet Tryd.prog Rows.symSealsRow.laid W) : PL.denAt (Va.reads W).ro 2 (y1g.flatten.map PL.i) 0 := n0k (v1 h) g1 (s1d _)
theorem g2 : Tryd.prog.globalNamed "signet/signetref.iv" = some 1 := by kernel_rfl
theorem gt2 : (Tryd.prog.globals[1]?).map (·.type) = some 54 := by kernel_rfl
theorem v2 {W : World} (h : laidMet Tryd.prog Rows.symSealsRow.laid W) : W.var? Tryd.prog "signet/signetref.iv" = some (f0t.map fun x => Value.int .u32 x.toNat).toArray :=
 (r1h (zs := [1779033703, 3144134277, 1013904242, 2773480762, 1359893119, 2600822924, 528734635, 1541459225]) (k := .u32) h (show ("signet/signetref.iv", (Rows.laid_signet_signetref_iv : DataW Unit)) ∈ _ from .tail _ (.tail _ (.head _))) g2 gt2 Tryd.underlying54 Tryd.underlying51 cells51 cells54).trans (congrArg (fun l => some (List.toArray l)) (show _ = _ by kernel_rfl))
theorem at2 {W : World} (h : laidMet Tryd.prog Rows.symSealsRow.laid W) : PL.denAt (Va.reads W).ro 1 (f0t.map PL.u32) 0 := n0k (v2 h) g2 (r0n _)
def gs : List (Nat × List PL) := [(1000000, Bk.f0t.map PL.u32), (1000001, Bk.f0t.map PL.u32), (1000002, Bk.y1g.flatten.map PL.i)]
theorem gfacts {W : World} (h : laidMet Tryd.prog Rows.symSealsRow.laid W) : ∀ (k : Nat) (cs : List PL), Go.Sy.look gs k = some cs → gl0 ≤ k ∧ PL.denAt (Va.reads W).ro (k - gl0) cs 0 := by
 intro k cs hk
 simp only [gs, Go.Sy.look, List.cons_append, List.nil_append] at hk
 split at hk
 · rename_i e; cases hk; subst e; exact ⟨by decide, at0 h⟩
 split at hk
 · rename_i e; cases hk; subst e; exact ⟨by decide, at2 h⟩
 split at hk
 · rename_i e; cases hk; subst e; exact ⟨by decide, at1 h⟩
 · cases hk
def wit0 : Array Value := #[.agg (#[.bool false] ++ Array.replicate 32 (.int .u8 0) ++ #[.int .u64 0] ++ Array.replicate 64 (.int .u8 0)), .slice none 0 0]
def witD {H : Type} : List (DataW H) := [.agg [.agg [.lit (.bool false), .agg (List.replicate 32 (.lit (.int .u8 0))), .lit (.int .u64 0)], .agg (List.replicate 32 (.lit (.int .u8 0))), .agg (List.replicate 32 (.lit (.int .u8 0)))], .nil]
noncomputable def laidWorld (os : Os) : World := { World.holding Tryd.prog os ⟨#[], #[], []⟩ with heap := (Array.modify (Array.modify (Array.modify ((World.holding Tryd.prog os ⟨#[], #[], []⟩).heap) 0 (fun | .cells _ t frozen => .cells (f0t.map fun x => Value.int .u32 x.toNat).toArray t frozen | o => o)) 2 (fun | .cells _ t frozen => .cells (y1g.flatten.map fun x => Value.int .i64 x).toArray t frozen | o => o)) 1 (fun | .cells _ t frozen => .cells (f0t.map fun x => Value.int .u32 x.toNat).toArray t frozen | o => o)) }
theorem laid_met (os : Os) : laidMet Tryd.prog Rows.symSealsRow.laid ((laidWorld os).forCall (fun _ _ => 0) ⟨#[], wit0, []⟩).memory := laidMet_of_run' 8 (by kernel_rfl) (by kernel_rfl)
theorem reads (os : Os) {H : Type} (enc : TypeId × Value → H) : ∃ places, DataW.whole enc Tryd.prog ((laidWorld os).forCall (fun _ _ => 0) ⟨#[], wit0, []⟩).memory Tryd.f3.params.toList Rows.symSealsSpec.vars false wit0.toList 8 = some (witD, [], places) := ⟨[], by kernel_rfl⟩
set_option maxRecDepth 100000 in
theorem lifted (os : Os) (started : os.Started) (H : Type) (enc : TypeId × Value → H) (F : Stop.Interp) :
 ReturnsInHanded {} Tryd.checked os 3 .any ((OpenSpec.ofChange Rows.symSealsSpec).preRow enc Tryd.prog Tryd.f3 Rows.symSealsRow.domain false Rows.symSealsRow.laid) ((((OpenSpec.ofChange Rows.symSealsSpec)).at F).post enc Tryd.prog Tryd.f3 false true false false) := by
 obtain ⟨places, hx⟩ := reads os enc
 refine returnsInHanded_of_row (C := Tryd.checked) (s := OpenSpec.ofChange Rows.symSealsSpec) own started (by kernel_rfl) Tryd.func3
  (witness_row_at (enc := enc) (C := Tryd.checked) false (laidWorld os) wit0 rfl (by kernel_rfl) (by kernel_rfl) (by kernel_rfl)
   (OpenSpec.preRow_of_cond 8 hx (by kernel_rfl) (fun k hk => by cases hk) (by kernel_rfl) (laid_met os))) ?_
 intro W base args ds gs0 before hval0 hW hcnd hcond hsz hL hSh _
 have hL : laidMet Tryd.prog Rows.symSealsRow.laid W := hL
 have hval : ∀ (j : Nat) t v, Tryd.f3.params[j]? = some t → args[j]? = some v → Value.okWide Tryd.prog W .any base t v := hval0
 have hW' := hW
 obtain ⟨p, q, hA0, hV, rfl, hfz, hnd⟩ := hW
 have hA : DataW.TrodAll enc Tryd.prog W 0 (fun _ => true) true Tryd.f3.params.toList args.toList ds p := hA0
 rw [Tryd.params3] at hA hval
 obtain ⟨v0, v1, d0, d1, p0, p1, rfl, rfl, rfl, h0, h1⟩ := trodAll_two hA
 obtain ⟨xs0, hx0, hd0⟩ := a1h (sz := 98) 9 (hval 0 28 v0 rfl rfl) (by kernel_rfl) (by kernel_rfl) (by kernel_rfl) h0
 obtain ⟨pshx0, mhx0, rfl, hphx0⟩ := s0w hx0 Tryd.underlying28
 rcases hphx0 with _ | ⟨hx0a0, _ | ⟨hx0a1, _ | ⟨hx0a2, _ | _⟩⟩⟩
 obtain ⟨pshx0a0, mhx0a0, rfl, hphx0a0⟩ := s0w hx0a0 Tryd.underlying26
 rcases hphx0a0 with _ | ⟨hx0a0a0, _ | ⟨hx0a0a1, _ | ⟨hx0a0a2, _ | _⟩⟩⟩
 obtain ⟨has, rfl⟩ := t1j hx0a0a0 Tryd.underlying4
 obtain ⟨key, hkey, rfl⟩ := q0l hx0a0a1 Tryd.underlying23 Tryd.underlying5
 obtain ⟨n, rfl⟩ := z1z hx0a0a2 Tryd.underlying24
 obtain ⟨ch, hch, rfl⟩ := q0l hx0a1 Tryd.underlying23 Tryd.underlying5
 obtain ⟨h, hh, rfl⟩ := q0l hx0a2 Tryd.underlying23 Tryd.underlying5
 simp only [Tryd.underlying28, List.flatten_cons, List.flatten_nil, j0d, q0u, w0i, Yy, List.append_nil, List.cons_append, List.nil_append, List.headD_cons] at hd0
 simp only [List.append_assoc, List.cons_append, List.nil_append] at hd0
 obtain ⟨xs1, hx1, hd1⟩ := a1h (sz := 1) 9 (hval 1 29 v1 rfl rfl) (by kernel_rfl) (by kernel_rfl) (by kernel_rfl) h1
 obtain ⟨b, rfl, hb⟩ := s0x hx1 Tryd.underlying29 Tryd.underlying5 (by kernel_rfl)
 simp only [Tryd.underlying29, List.flatten_cons, List.flatten_nil, j0d, q0u, w0i, Yy, List.append_nil, List.cons_append, List.nil_append, List.headD_cons] at hd1
 rw [Tryd.params3] at hsz
 have hw1 := (j0t (t := 29) (j0t (t := 28) hsz).2).1
 have hb1 := v0u Tryd.underlying29 (by kernel_rfl : Tryd.prog.bytesOf 5 = 1) (w0a Tryd.underlying29 h1 hd1) hw1
 rw [Nw] at hb1
 have hlenb : b.length ≤ 140737488351232 := by omega
 refine (CtM.callsG (G := gs) (b := true) (v0x has key n ch h b hkey hch hh false hlenb).told (fun _ _ h => h.1) W #[v0, v1] (gfacts hL) (by simp [plV, plW, Bw, H8.ls, Bv, Aq]) (.cons hd0 (.cons hd1 .nil))).mono fun e W' ⟨he, hw⟩ => ?_
 exact ⟨_, he, p1g hW' laidOut (by kernel_rfl) rfl rfl (by kernel_rfl) rfl hw⟩
theorem said : Rows.SymSealsSaid :=
 OpenClaim.holds_of_cond 3 Tryd.f3 rfl rfl rfl rfl rfl rfl rfl ⟨rfl, rfl, rfl, rfl, rfl⟩ rfl rfl rfl rfl rfl (by kernel_rfl) Tryd.func3 (by kernel_rfl)
  (of_decide_eq_true (by kernel_rfl)) (by unfold Func.isWrapper; first | (rw [if_pos (by decide +kernel)]; kernel_rfl) | (rw [if_neg (by decide +kernel)]; exact ⟨rfl, rfl⟩))
  (fun os started H enc _ F => by rw [OpenClaim.pre_eq_preRow]; exact lifted os started H enc F)
theorem plain (f : FuncId) (fn : Func) (hf : Tryd.pinned.checked.prog.funcNamed "signet/signetlaw.SymSeals" = some f) (hfn : Tryd.pinned.checked.prog.funcs[f]? = some fn) :
 false = Tryd.pinned.checked.prog.looks [] ∧ ∀ (j : Nat) t, fn.params[j]? = some t → Tryd.pinned.checked.prog.wantsStandIn t = false := by
 obtain rfl : f = 3 := Option.some.inj ((show Tryd.prog.funcNamed "signet/signetlaw.SymSeals" = some 3 by kernel_rfl).symm.trans hf) |>.symm
 obtain rfl : fn = Tryd.f3 := (Option.some.inj (Tryd.func3.symm.trans hfn)).symm
 refine ⟨by kernel_rfl, fun j t ht => ?_⟩
 rw [Tryd.params3] at ht
 have hm := Array.mem_of_getElem? ht
 simp only [List.mem_toArray, List.mem_cons, List.not_mem_nil, or_false] at hm
 rcases hm with rfl | rfl
 · exact (show Tryd.prog.wantsStandIn 28 = false by kernel_rfl)
 · exact (show Tryd.prog.wantsStandIn 29 = false by kernel_rfl)
end Go.Proofs.YtlngaojnfcaagaaDoor.symSeals
namespace Go.Proofs.YtlngaojnfcaagaaDoor
theorem symSealsCardHolds : Rows.SymSealsCardSaid :=
 Claim7.holds_tied_plain_at .later [] _ _ _ _ symSeals.said (fun _ h => by cases h) (by kernel_rfl) (fun _ h => by cases h) symSeals_row_tie rfl ⟨rfl, rfl⟩ (by kernel_rfl) rfl symSeals.plain (by kernel_rfl)
end Go.Proofs.YtlngaojnfcaagaaDoor

