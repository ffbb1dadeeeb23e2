/- WHAT IS PROVED: signetlaw.RatchetBegins, whatever comes in: it returns true and leaves all as it was, the listed variables tied to the text. CONDITIONS: none beyond the given statement's. -/
import Derived.Test.YtlmbdhfkdhjcfaaDoorCards
import Derived.Test.YtlmbdhfkdhjcfaaDoorTie
import Derived.WalkKit
import Derived.ProofKit
import Derived.OpenShut
import Derived.Deep.DeepHandedRow
import Derived.Lib.LaidTab
import Derived.Test.YtlmbdhfkdhjcfaaDoorvS28
set_option linter.unusedVariables false
set_option linter.unusedSimpArgs false
namespace Go.Proofs.YtlmbdhfkdhjcfaaDoor.ratchetBegins
open Go.Sy.Bk Go.ChangeShapes Go.WideShapes Go.ChangeAt Go.RowKit Go.Sy
theorem own : ownKnob Tryd.prog.godebug = none := by kernel_rfl
theorem laidOut : laidOutB Tryd.prog = true := by kernel_rfl
theorem g0 : Tryd.prog.globalNamed "signet/blake.first" = some 3 := by kernel_rfl
theorem gt0 : (Tryd.prog.globals[3]?).map (·.type) = some 100 := by kernel_rfl
theorem cells100 : Tryd.prog.cellsOf 100 = 8 := by kernel_rfl
theorem cells99 : Tryd.prog.cellsOf 99 = 1 := by kernel_rfl
theorem v0 {W : World} (h : laidMet Tryd.prog Rows.ratchetBeginsRow.laid W) : W.var? Tryd.prog "signet/blake.first" = some (Bk.e0n.map fun x => Value.int .u32 x.toNat).toArray :=
 (y0a (zs := [1779033703, 3144134277, 1013904242, 2773480762, 1359893119, 2600822924, 528734635, 1541459225]) (k := .u32) h (show ("signet/blake.first", (Rows.laid_signet_blake_first : DataW Unit)) ∈ _ from .head _) g0 gt0 Tryd.underlying100 Tryd.underlying99 cells99 cells100).trans (congrArg (fun l => some (List.toArray l)) (show _ = _ by kernel_rfl))
theorem at0 {W : World} (h : laidMet Tryd.prog Rows.ratchetBeginsRow.laid W) : PL.denAt (Va.reads W).ro 3 (Bk.e0n.map PL.u32) 0 := d0e (v0 h) g0 (q0h _)
theorem g1 : Tryd.prog.globalNamed "signet/blake.orders" = some 4 := by kernel_rfl
theorem gt1 : (Tryd.prog.globals[4]?).map (·.type) = some 123 := by kernel_rfl
theorem cells123 : Tryd.prog.cellsOf 123 = 160 := by kernel_rfl
theorem cells122 : Tryd.prog.cellsOf 122 = 16 := by kernel_rfl
theorem cells3 : Tryd.prog.cellsOf 3 = 1 := by kernel_rfl
theorem v1 {W : World} (h : laidMet Tryd.prog Rows.ratchetBeginsRow.laid W) : W.var? Tryd.prog "signet/blake.orders" = some (Bk.w1c.flatten.map fun x => Value.int .i64 x).toArray :=
 (q1n (zss := Bk.w1c) (k := .i64) (n := 10) (m := 16) h (show ("signet/blake.orders", (Rows.laid_signet_blake_orders : DataW Unit)) ∈ _ from .tail _ (.head _)) g1 gt1 Tryd.underlying123 Tryd.underlying122 Tryd.underlying3 cells3 cells122 cells123).trans (congrArg (fun l => some (List.toArray l)) (show _ = _ by kernel_rfl))
theorem at1 {W : World} (h : laidMet Tryd.prog Rows.ratchetBeginsRow.laid W) : PL.denAt (Va.reads W).ro 4 (Bk.w1c.flatten.map PL.i) 0 := d0e (v1 h) g1 (p1u _)
theorem g2 : Tryd.prog.globalNamed "signet/field.prime" = some 1 := by kernel_rfl
theorem gt2 : (Tryd.prog.globals[1]?).map (·.type) = some 53 := by kernel_rfl
theorem cells53 : Tryd.prog.cellsOf 53 = 4 := by kernel_rfl
theorem cells43 : Tryd.prog.cellsOf 43 = 1 := by kernel_rfl
theorem v2 {W : World} (h : laidMet Tryd.prog Rows.ratchetBeginsRow.laid W) : W.var? Tryd.prog "signet/field.prime" = some (s0h.map fun x => Value.int .u64 x.toNat).toArray :=
 (y0a (zs := [18446744073709551597, 18446744073709551615, 18446744073709551615, 9223372036854775807]) (k := .u64) h (show ("signet/field.prime", (Rows.laid_signet_field_prime : DataW Unit)) ∈ _ from .tail _ (.tail _ (.head _))) g2 gt2 Tryd.underlying53 Tryd.underlying43 cells43 cells53).trans (congrArg (fun l => some (List.toArray l)) (show _ = _ by kernel_rfl))
theorem at2 {W : World} (h : laidMet Tryd.prog Rows.ratchetBeginsRow.laid W) : PL.denAt (Va.reads W).ro 1 (s0h.map PL.u64) 0 := d0e (v2 h) g2 (q0g _)
theorem g3 : Tryd.prog.globalNamed "signet/signetref.iv" = some 2 := by kernel_rfl
theorem gt3 : (Tryd.prog.globals[2]?).map (·.type) = some 100 := by kernel_rfl
theorem v3 {W : World} (h : laidMet Tryd.prog Rows.ratchetBeginsRow.laid W) : W.var? Tryd.prog "signet/signetref.iv" = some (Bk.e0n.map fun x => Value.int .u32 x.toNat).toArray :=
 (y0a (zs := [1779033703, 3144134277, 1013904242, 2773480762, 1359893119, 2600822924, 528734635, 1541459225]) (k := .u32) h (show ("signet/signetref.iv", (Rows.laid_signet_signetref_iv : DataW Unit)) ∈ _ from .tail _ (.tail _ (.tail _ (.head _)))) g3 gt3 Tryd.underlying100 Tryd.underlying99 cells99 cells100).trans (congrArg (fun l => some (List.toArray l)) (show _ = _ by kernel_rfl))
theorem at3 {W : World} (h : laidMet Tryd.prog Rows.ratchetBeginsRow.laid W) : PL.denAt (Va.reads W).ro 2 (Bk.e0n.map PL.u32) 0 := d0e (v3 h) g3 (q0h _)
theorem g4 : Tryd.prog.globalNamed "signet/signetref.prime" = some 0 := by kernel_rfl
theorem gt4 : (Tryd.prog.globals[0]?).map (·.type) = some 67 := by kernel_rfl
theorem cells67 : Tryd.prog.cellsOf 67 = 16 := by kernel_rfl
theorem v4 {W : World} (h : laidMet Tryd.prog Rows.ratchetBeginsRow.laid W) : W.var? Tryd.prog "signet/signetref.prime" = some (Mk.map fun x => Value.int .u64 x.toNat).toArray :=
 (y0a (zs := [65517, 65535, 65535, 65535, 65535, 65535, 65535, 65535, 65535, 65535, 65535, 65535, 65535, 65535, 65535, 32767]) (k := .u64) h (show ("signet/signetref.prime", (Rows.laid_signet_signetref_prime : DataW Unit)) ∈ _ from .tail _ (.tail _ (.tail _ (.tail _ (.head _))))) g4 gt4 Tryd.underlying67 Tryd.underlying43 cells43 cells67).trans (congrArg (fun l => some (List.toArray l)) (show _ = _ by kernel_rfl))
theorem at4 {W : World} (h : laidMet Tryd.prog Rows.ratchetBeginsRow.laid W) : PL.denAt (Va.reads W).ro 0 (Mk.map PL.u64) 0 := d0e (v4 h) g4 (q0g _)
def gs : List (Nat × List PL) := [(1000000, Mk.map PL.u64), (1000001, s0h.map PL.u64), (1000002, Bk.e0n.map PL.u32), (1000003, Bk.e0n.map PL.u32), (1000004, Bk.w1c.flatten.map PL.i)]
theorem gfacts {W : World} (h : laidMet Tryd.prog Rows.ratchetBeginsRow.laid W) : ∀ (k : Nat) (cs : List PL), Go.Sy.look gs k = some cs → gl0 ≤ k ∧ PL.denAt (Va.reads W).ro (k - gl0) cs 0 := by
 intro k cs hk
 simp only [gs, Go.Sy.look, List.cons_append, List.nil_append] at hk
 split at hk
 · rename_i e; cases hk; subst e; exact ⟨by decide, at4 h⟩
 split at hk
 · rename_i e; cases hk; subst e; exact ⟨by decide, at2 h⟩
 split at hk
 · rename_i e; cases hk; subst e; exact ⟨by decide, at3 h⟩
 split at hk
 · rename_i e; cases hk; subst e; exact ⟨by decide, at0 h⟩
 split at hk
 · rename_i e; cases hk; subst e; exact ⟨by decide, at1 h⟩
 · cases hk
def wit0 : Array Value := #[.agg (Array.replicate 128 (.int .u8 0) ++ #[.int .i64 0] ++ Array.replicate 32 (.int .u8 0) ++ #[.int .i64 0, .int .i64 0, .bool false, .bool false, .slice none 0 0]), .agg (Array.replicate 32 (.int .u8 0)), .agg (Array.replicate 32 (.int .u8 0)), .agg (Array.replicate 32 (.int .u8 0))]
def witD {H : Type} : List (DataW H) := [.agg [.agg (List.replicate 32 (.lit (.int .u8 0))), .agg (List.replicate 32 (.lit (.int .u8 0))), .agg (List.replicate 32 (.lit (.int .u8 0))), .agg (List.replicate 32 (.lit (.int .u8 0))), .lit (.int .i64 0), .agg (List.replicate 32 (.lit (.int .u8 0))), .lit (.int .i64 0), .lit (.int .i64 0), .lit (.bool false), .lit (.bool false), .nil], .agg (List.replicate 32 (.lit (.int .u8 0))), .agg (List.replicate 32 (.lit (.int .u8 0))), .agg (List.replicate 32 (.lit (.int .u8 0)))]
noncomputable def laidWorld (os : Os) : World := { World.holding Tryd.prog os ⟨#[], #[], []⟩ with heap := (Array.modify (Array.modify (Array.modify (Array.modify (Array.modify ((World.holding Tryd.prog os ⟨#[], #[], []⟩).heap) 3 (fun | .cells _ t frozen => .cells (Bk.e0n.map fun x => Value.int .u32 x.toNat).toArray t frozen | o => o)) 4 (fun | .cells _ t frozen => .cells (Bk.w1c.flatten.map fun x => Value.int .i64 x).toArray t frozen | o => o)) 1 (fun | .cells _ t frozen => .cells (s0h.map fun x => Value.int .u64 x.toNat).toArray t frozen | o => o)) 2 (fun | .cells _ t frozen => .cells (Bk.e0n.map fun x => Value.int .u32 x.toNat).toArray t frozen | o => o)) 0 (fun | .cells _ t frozen => .cells (Mk.map fun x => Value.int .u64 x.toNat).toArray t frozen | o => o)) }
theorem laid_met (os : Os) : laidMet Tryd.prog Rows.ratchetBeginsRow.laid ((laidWorld os).forCall (fun _ _ => 0) ⟨#[], wit0, []⟩).memory := laidMet_of_run' 8 (by kernel_rfl) (by kernel_rfl)
theorem reads (os : Os) {H : Type} (enc : TypeId × Value → H) : ∃ places, DataW.whole enc Tryd.prog ((laidWorld os).forCall (fun _ _ => 0) ⟨#[], wit0, []⟩).memory Tryd.f3.params.toList Rows.ratchetBeginsSpec.vars false wit0.toList 8 = some (witD, [], places) := ⟨[], by kernel_rfl⟩
set_option maxRecDepth 100000 in
theorem lifted (os : Os) (started : os.Started) (H : Type) (enc : TypeId × Value → H) (F : Stop.Interp) :
 ReturnsInHanded {} Tryd.checked os 3 .any ((OpenSpec.ofChange Rows.ratchetBeginsSpec).preRow enc Tryd.prog Tryd.f3 Rows.ratchetBeginsRow.domain false Rows.ratchetBeginsRow.laid) ((((OpenSpec.ofChange Rows.ratchetBeginsSpec)).at F).post enc Tryd.prog Tryd.f3 false true false false) := by
 obtain ⟨places, hx⟩ := reads os enc
 refine returnsInHanded_of_row (C := Tryd.checked) (s := OpenSpec.ofChange Rows.ratchetBeginsSpec) own started (by kernel_rfl) Tryd.func3
  (witness_row_at (enc := enc) (C := Tryd.checked) false (laidWorld os) wit0 rfl (by kernel_rfl) (by kernel_rfl) (by kernel_rfl)
   (OpenSpec.preRow_of_cond 8 hx (by kernel_rfl) (fun k hk => by cases hk) (by kernel_rfl) (laid_met os))) ?_
 intro W base args ds gs0 before hval0 hW hcnd hcond hsz hL hSh _
 have hL : laidMet Tryd.prog Rows.ratchetBeginsRow.laid W := hL
 have hval : ∀ (j : Nat) t v, Tryd.f3.params[j]? = some t → args[j]? = some v → Value.okWide Tryd.prog W .any base t v := hval0
 have hW' := hW
 obtain ⟨p, q, hA0, hV, rfl, hfz, hnd⟩ := hW
 have hA : DataW.TrodAll enc Tryd.prog W 0 (fun _ => true) true Tryd.f3.params.toList args.toList ds p := hA0
 rw [Tryd.params3] at hA hval
 obtain ⟨v0, v1, v2, v3, d0, d1, d2, d3, p0, p1, p2, p3, rfl, rfl, rfl, h0, h1, h2, h3⟩ := trodAll_four hA
 obtain ⟨xs0, hx0, hd0⟩ := j0w (sz := 166) 9 (hval 0 26 v0 rfl rfl) (by kernel_rfl) (by kernel_rfl) (by kernel_rfl) h0
 obtain ⟨pshx0, mhx0, rfl, hphx0⟩ := r0n hx0 Tryd.underlying26
 rcases hphx0 with _ | ⟨hx0a0, _ | ⟨hx0a1, _ | ⟨hx0a2, _ | ⟨hx0a3, _ | ⟨hx0a4, _ | ⟨hx0a5, _ | ⟨hx0a6, _ | ⟨hx0a7, _ | ⟨hx0a8, _ | ⟨hx0a9, _ | ⟨hx0a10, _ | _⟩⟩⟩⟩⟩⟩⟩⟩⟩⟩⟩
 obtain ⟨root, hroot, rfl⟩ := Uk hx0a0 Tryd.underlying23 Tryd.underlying5
 obtain ⟨own, hown, rfl⟩ := Uk hx0a1 Tryd.underlying23 Tryd.underlying5
 obtain ⟨peer, hpeer, rfl⟩ := Uk hx0a2 Tryd.underlying23 Tryd.underlying5
 obtain ⟨send, hsend, rfl⟩ := Uk hx0a3 Tryd.underlying23 Tryd.underlying5
 obtain ⟨out, rfl, hout⟩ := y0g hx0a4 Tryd.underlying3
 obtain ⟨recv, hrecv, rfl⟩ := Uk hx0a5 Tryd.underlying23 Tryd.underlying5
 obtain ⟨inn, rfl, hinn⟩ := y0g hx0a6 Tryd.underlying3
 obtain ⟨last, rfl, hlast⟩ := y0g hx0a7 Tryd.underlying3
 obtain ⟨can, rfl⟩ := e1a hx0a8 Tryd.underlying4
 obtain ⟨hear, rfl⟩ := e1a hx0a9 Tryd.underlying4
 obtain ⟨rows, mrows, rfl, rrows, hrows⟩ := k1g hx0a10 Tryd.underlying24
 simp only [Tryd.underlying26, List.flatten_cons, List.flatten_nil, a0p, f0w, k0w, Xv, List.append_nil, List.cons_append, List.nil_append, List.headD_cons] at hd0
 obtain ⟨ks, rfl, hks⟩ := i0z rrows
 rw [sz36] at hd0
 rw [List.length_map] at hrows
 try simp only [List.append_assoc, List.cons_append, List.nil_append] at hd0
 obtain ⟨xs1, hx1, hd1⟩ := j0w (sz := 32) 9 (hval 1 22 v1 rfl rfl) (by kernel_rfl) (by kernel_rfl) (by kernel_rfl) h1
 obtain ⟨rt, hrt, rfl⟩ := Uk hx1 Tryd.underlying22 Tryd.underlying5
 simp only [Tryd.underlying22, List.flatten_cons, List.flatten_nil, a0p, f0w, k0w, Xv, List.append_nil, List.cons_append, List.nil_append, List.headD_cons] at hd1
 obtain ⟨xs2, hx2, hd2⟩ := j0w (sz := 32) 9 (hval 2 22 v2 rfl rfl) (by kernel_rfl) (by kernel_rfl) (by kernel_rfl) h2
 obtain ⟨od, hod, rfl⟩ := Uk hx2 Tryd.underlying22 Tryd.underlying5
 simp only [Tryd.underlying22, List.flatten_cons, List.flatten_nil, a0p, f0w, k0w, Xv, List.append_nil, List.cons_append, List.nil_append, List.headD_cons] at hd2
 obtain ⟨xs3, hx3, hd3⟩ := j0w (sz := 32) 9 (hval 3 22 v3 rfl rfl) (by kernel_rfl) (by kernel_rfl) (by kernel_rfl) h3
 obtain ⟨oh, hoh, rfl⟩ := Uk hx3 Tryd.underlying22 Tryd.underlying5
 simp only [Tryd.underlying22, List.flatten_cons, List.flatten_nil, a0p, f0w, k0w, Xv, List.append_nil, List.cons_append, List.nil_append, List.headD_cons] at hd3
 refine (CtM.callsG (G := gs) (b := true) (j0j rt od oh hrt hod hoh root own peer send out recv inn last can hear ks hroot hown hpeer hsend hrecv hks hrows).told (fun _ _ h => h.1) W #[v0, v1, v2, v3] (gfacts hL) (by simp [plV, plW, rtC, Az]) (.cons hd0 (.cons hd1 (.cons hd2 (.cons hd3 .nil))))).mono fun e W' ⟨he, hw⟩ => ?_
 exact ⟨_, he, m1l hW' laidOut (by kernel_rfl) rfl rfl (by kernel_rfl) rfl hw⟩
theorem said : Rows.RatchetBeginsSaid :=
 OpenClaim.holds_of_cond 3 Tryd.f3 rfl rfl rfl rfl rfl rfl rfl ⟨rfl, rfl, rfl, rfl, rfl⟩ rfl rfl rfl rfl rfl (by kernel_rfl) Tryd.func3 (by kernel_rfl)
  (of_decide_eq_true (by kernel_rfl)) (by unfold Func.isWrapper; first | (rw [if_pos (by decide +kernel)]; kernel_rfl) | (rw [if_neg (by decide +kernel)]; exact ⟨rfl, rfl⟩))
  (fun os started H enc _ F => by rw [OpenClaim.pre_eq_preRow]; exact lifted os started H enc F)
theorem plain (f : FuncId) (fn : Func) (hf : Tryd.pinned.checked.prog.funcNamed "signet/signetlaw.RatchetBegins" = some f) (hfn : Tryd.pinned.checked.prog.funcs[f]? = some fn) :
 false = Tryd.pinned.checked.prog.looks [] ∧ ∀ (j : Nat) t, fn.params[j]? = some t → Tryd.pinned.checked.prog.wantsStandIn t = false := by
 obtain rfl : f = 3 := Option.some.inj ((show Tryd.prog.funcNamed "signet/signetlaw.RatchetBegins" = some 3 by kernel_rfl).symm.trans hf) |>.symm
 obtain rfl : fn = Tryd.f3 := (Option.some.inj (Tryd.func3.symm.trans hfn)).symm
 refine ⟨by kernel_rfl, fun j t ht => ?_⟩
 rw [Tryd.params3] at ht
 have hm := Array.mem_of_getElem? ht
 simp only [List.mem_toArray, List.mem_cons, List.not_mem_nil, or_false] at hm
 rcases hm with rfl | rfl | rfl | rfl
 · exact (show Tryd.prog.wantsStandIn 26 = false by kernel_rfl)
 · exact (show Tryd.prog.wantsStandIn 22 = false by kernel_rfl)
 · exact (show Tryd.prog.wantsStandIn 22 = false by kernel_rfl)
 · exact (show Tryd.prog.wantsStandIn 22 = false by kernel_rfl)
end Go.Proofs.YtlmbdhfkdhjcfaaDoor.ratchetBegins
namespace Go.Proofs.YtlmbdhfkdhjcfaaDoor
theorem ratchetBeginsCardHolds : Rows.RatchetBeginsCardSaid :=
 Claim7.holds_tied_plain_at .later [] _ _ _ _ ratchetBegins.said (fun _ h => by cases h) (by kernel_rfl) (fun _ h => by cases h) ratchetBegins_row_tie rfl ⟨rfl, rfl⟩ (by kernel_rfl) rfl ratchetBegins.plain (by kernel_rfl)
end Go.Proofs.YtlmbdhfkdhjcfaaDoor

