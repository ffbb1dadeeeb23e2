/- WHAT IS PROVED: signetlaw.RatchetSeals, whatever comes in: it returns true and leaves all as it was, the listed variables tied to the text. CONDITIONS: none beyond the given statement's. -/
import Derived.Test.YtkfcbhgkpknagaaGreatDoorCards
import Derived.Test.YtkfcbhgkpknagaaGreatDoorTie
import Derived.WalkKit
import Derived.ProofKit
import Derived.OpenShut
import Derived.Deep.DeepHandedRow
import Derived.Lib.LaidTab
import Derived.Test.YtkfcbhgkpknagaaGreatDoorvS37
set_option linter.unusedVariables false
set_option linter.unusedSimpArgs false
namespace Go.Proofs.YtkfcbhgkpknagaaGreatDoor.ratchetSeals
open Go.Sy.Rk Go.ChangeShapes Go.WideShapes Go.ChangeAt Go.RowKit Go.Sy
theorem own : ownKnob Tryz.prog.godebug = none := by kernel_rfl
theorem laidOut : laidOutB Tryz.prog = true := by kernel_rfl
theorem g0 : Tryz.prog.globalNamed "signet/blake.first" = some 2 := by kernel_rfl
theorem gt0 : (Tryz.prog.globals[2]?).map (·.type) = some 119 := by kernel_rfl
theorem cells119 : Tryz.prog.cellsOf 119 = 8 := by kernel_rfl
theorem cells64 : Tryz.prog.cellsOf 64 = 1 := by kernel_rfl
theorem v0 {W : World} (h : laidMet Tryz.prog Rows.ratchetSealsRow.laid W) : W.var? Tryz.prog "signet/blake.first" = some (Bk.h0h.map fun x => Value.int .u32 x.toNat).toArray :=
 (f1n (zs := [1779033703, 3144134277, 1013904242, 2773480762, 1359893119, 2600822924, 528734635, 1541459225]) (k := .u32) h (show ("signet/blake.first", (Rows.laid_signet_blake_first : DataW Unit)) ∈ _ from .head _) g0 gt0 Tryz.underlying119 Tryz.underlying64 cells64 cells119).trans (congrArg (fun l => some (List.toArray l)) (show _ = _ by kernel_rfl))
theorem at0 {W : World} (h : laidMet Tryz.prog Rows.ratchetSealsRow.laid W) : PL.denAt (Va.reads W).ro 2 (Bk.h0h.map PL.u32) 0 := f0n (v0 h) g0 (v0t _)
theorem g1 : Tryz.prog.globalNamed "signet/blake.orders" = some 4 := by kernel_rfl
theorem gt1 : (Tryz.prog.globals[4]?).map (·.type) = some 171 := by kernel_rfl
theorem cells171 : Tryz.prog.cellsOf 171 = 160 := by kernel_rfl
theorem cells170 : Tryz.prog.cellsOf 170 = 16 := by kernel_rfl
theorem cells3 : Tryz.prog.cellsOf 3 = 1 := by kernel_rfl
theorem v1 {W : World} (h : laidMet Tryz.prog Rows.ratchetSealsRow.laid W) : W.var? Tryz.prog "signet/blake.orders" = some (Bk.i2v.flatten.map fun x => Value.int .i64 x).toArray :=
 (c2e (zss := Bk.i2v) (k := .i64) (n := 10) (m := 16) h (show ("signet/blake.orders", (Rows.laid_signet_blake_orders : DataW Unit)) ∈ _ from .tail _ (.head _)) g1 gt1 Tryz.underlying171 Tryz.underlying170 Tryz.underlying3 cells3 cells170 cells171).trans (congrArg (fun l => some (List.toArray l)) (show _ = _ by kernel_rfl))
theorem at1 {W : World} (h : laidMet Tryz.prog Rows.ratchetSealsRow.laid W) : PL.denAt (Va.reads W).ro 4 (Bk.i2v.flatten.map PL.i) 0 := f0n (v1 h) g1 (b2k _)
theorem g2 : Tryz.prog.globalNamed "signet/field.prime" = some 1 := by kernel_rfl
theorem gt2 : (Tryz.prog.globals[1]?).map (·.type) = some 78 := by kernel_rfl
theorem cells78 : Tryz.prog.cellsOf 78 = 4 := by kernel_rfl
theorem cells71 : Tryz.prog.cellsOf 71 = 1 := by kernel_rfl
theorem v2 {W : World} (h : laidMet Tryz.prog Rows.ratchetSealsRow.laid W) : W.var? Tryz.prog "signet/field.prime" = some (s0q.map fun x => Value.int .u64 x.toNat).toArray :=
 (f1n (zs := [18446744073709551597, 18446744073709551615, 18446744073709551615, 9223372036854775807]) (k := .u64) h (show ("signet/field.prime", (Rows.laid_signet_field_prime : DataW Unit)) ∈ _ from .tail _ (.tail _ (.head _))) g2 gt2 Tryz.underlying78 Tryz.underlying71 cells71 cells78).trans (congrArg (fun l => some (List.toArray l)) (show _ = _ by kernel_rfl))
theorem at2 {W : World} (h : laidMet Tryz.prog Rows.ratchetSealsRow.laid W) : PL.denAt (Va.reads W).ro 1 (s0q.map PL.u64) 0 := f0n (v2 h) g2 (v0s _)
theorem g3 : Tryz.prog.globalNamed "signet/signetref.iv" = some 3 := by kernel_rfl
theorem gt3 : (Tryz.prog.globals[3]?).map (·.type) = some 119 := by kernel_rfl
theorem v3 {W : World} (h : laidMet Tryz.prog Rows.ratchetSealsRow.laid W) : W.var? Tryz.prog "signet/signetref.iv" = some (Bk.h0h.map fun x => Value.int .u32 x.toNat).toArray :=
 (f1n (zs := [1779033703, 3144134277, 1013904242, 2773480762, 1359893119, 2600822924, 528734635, 1541459225]) (k := .u32) h (show ("signet/signetref.iv", (Rows.laid_signet_signetref_iv : DataW Unit)) ∈ _ from .tail _ (.tail _ (.tail _ (.head _)))) g3 gt3 Tryz.underlying119 Tryz.underlying64 cells64 cells119).trans (congrArg (fun l => some (List.toArray l)) (show _ = _ by kernel_rfl))
theorem at3 {W : World} (h : laidMet Tryz.prog Rows.ratchetSealsRow.laid W) : PL.denAt (Va.reads W).ro 3 (Bk.h0h.map PL.u32) 0 := f0n (v3 h) g3 (v0t _)
theorem g4 : Tryz.prog.globalNamed "signet/signetref.prime" = some 0 := by kernel_rfl
theorem gt4 : (Tryz.prog.globals[0]?).map (·.type) = some 98 := by kernel_rfl
theorem cells98 : Tryz.prog.cellsOf 98 = 16 := by kernel_rfl
theorem v4 {W : World} (h : laidMet Tryz.prog Rows.ratchetSealsRow.laid W) : W.var? Tryz.prog "signet/signetref.prime" = some (Nw.map fun x => Value.int .u64 x.toNat).toArray :=
 (f1n (zs := [65517, 65535, 65535, 65535, 65535, 65535, 65535, 65535, 65535, 65535, 65535, 65535, 65535, 65535, 65535, 32767]) (k := .u64) h (show ("signet/signetref.prime", (Rows.laid_signet_signetref_prime : DataW Unit)) ∈ _ from .tail _ (.tail _ (.tail _ (.tail _ (.head _))))) g4 gt4 Tryz.underlying98 Tryz.underlying71 cells71 cells98).trans (congrArg (fun l => some (List.toArray l)) (show _ = _ by kernel_rfl))
theorem at4 {W : World} (h : laidMet Tryz.prog Rows.ratchetSealsRow.laid W) : PL.denAt (Va.reads W).ro 0 (Nw.map PL.u64) 0 := f0n (v4 h) g4 (v0s _)
def gs : List (Nat × List PL) := [(1000000, Nw.map PL.u64), (1000001, s0q.map PL.u64), (1000002, Bk.h0h.map PL.u32), (1000003, Bk.h0h.map PL.u32), (1000004, Bk.i2v.flatten.map PL.i)]
theorem gfacts {W : World} (h : laidMet Tryz.prog Rows.ratchetSealsRow.laid W) : ∀ (k : Nat) (cs : List PL), Go.Sy.look gs k = some cs → gl0 ≤ k ∧ PL.denAt (Va.reads W).ro (k - gl0) cs 0 := by
 intro k cs hk
 simp only [gs, Go.Sy.look, List.cons_append, List.nil_append] at hk
 split at hk
 · rename_i e; cases hk; subst e; exact ⟨by decide, at4 h⟩
 split at hk
 · rename_i e; cases hk; subst e; exact ⟨by decide, at2 h⟩
 split at hk
 · rename_i e; cases hk; subst e; exact ⟨by decide, at0 h⟩
 split at hk
 · rename_i e; cases hk; subst e; exact ⟨by decide, at3 h⟩
 split at hk
 · rename_i e; cases hk; subst e; exact ⟨by decide, at1 h⟩
 · cases hk
def wit0 : Array Value := #[.agg (Array.replicate 128 (.int .u8 0) ++ #[.int .i64 0] ++ Array.replicate 32 (.int .u8 0) ++ #[.int .i64 0, .int .i64 0, .bool false, .bool false, .slice none 0 0]), .slice none 0 0, .slice none 0 0]
def witD {H : Type} : List (DataW H) := [.agg [.agg (List.replicate 32 (.lit (.int .u8 0))), .agg (List.replicate 32 (.lit (.int .u8 0))), .agg (List.replicate 32 (.lit (.int .u8 0))), .agg (List.replicate 32 (.lit (.int .u8 0))), .lit (.int .i64 0), .agg (List.replicate 32 (.lit (.int .u8 0))), .lit (.int .i64 0), .lit (.int .i64 0), .lit (.bool false), .lit (.bool false), .nil], .nil, .nil]
noncomputable def laidWorld (os : Os) : World := { World.holding Tryz.prog os ⟨#[], #[], []⟩ with heap := (Array.modify (Array.modify (Array.modify (Array.modify (Array.modify ((World.holding Tryz.prog os ⟨#[], #[], []⟩).heap) 2 (fun | .cells _ t frozen => .cells (Bk.h0h.map fun x => Value.int .u32 x.toNat).toArray t frozen | o => o)) 4 (fun | .cells _ t frozen => .cells (Bk.i2v.flatten.map fun x => Value.int .i64 x).toArray t frozen | o => o)) 1 (fun | .cells _ t frozen => .cells (s0q.map fun x => Value.int .u64 x.toNat).toArray t frozen | o => o)) 3 (fun | .cells _ t frozen => .cells (Bk.h0h.map fun x => Value.int .u32 x.toNat).toArray t frozen | o => o)) 0 (fun | .cells _ t frozen => .cells (Nw.map fun x => Value.int .u64 x.toNat).toArray t frozen | o => o)) }
theorem laid_met (os : Os) : laidMet Tryz.prog Rows.ratchetSealsRow.laid ((laidWorld os).forCall (fun _ _ => 0) ⟨#[], wit0, []⟩).memory := laidMet_of_run' 8 (by kernel_rfl) (by kernel_rfl)
theorem reads (os : Os) {H : Type} (enc : TypeId × Value → H) : ∃ places, DataW.whole enc Tryz.prog ((laidWorld os).forCall (fun _ _ => 0) ⟨#[], wit0, []⟩).memory Tryz.f3.params.toList Rows.ratchetSealsSpec.vars false wit0.toList 8 = some (witD, [], places) := ⟨[], by kernel_rfl⟩
set_option maxRecDepth 100000 in
theorem lifted (os : Os) (started : os.Started) (H : Type) (enc : TypeId × Value → H) (F : Stop.Interp) :
 ReturnsInHanded {} Tryz.checked os 3 .any ((OpenSpec.ofChange Rows.ratchetSealsSpec).preRow enc Tryz.prog Tryz.f3 Rows.ratchetSealsRow.domain false Rows.ratchetSealsRow.laid) ((((OpenSpec.ofChange Rows.ratchetSealsSpec)).at F).post enc Tryz.prog Tryz.f3 false true false false) := by
 obtain ⟨places, hx⟩ := reads os enc
 refine returnsInHanded_of_row (C := Tryz.checked) (s := OpenSpec.ofChange Rows.ratchetSealsSpec) own started (by kernel_rfl) Tryz.func3
  (witness_row_at (enc := enc) (C := Tryz.checked) false (laidWorld os) wit0 rfl (by kernel_rfl) (by kernel_rfl) (by kernel_rfl)
   (OpenSpec.preRow_of_cond 8 hx (by kernel_rfl) (fun k hk => by cases hk) (by kernel_rfl) (laid_met os))) ?_
 intro W base args ds gs0 before hval0 hW hcnd hcond hsz hL hSh _
 have hL : laidMet Tryz.prog Rows.ratchetSealsRow.laid W := hL
 have hval : ∀ (j : Nat) t v, Tryz.f3.params[j]? = some t → args[j]? = some v → Value.okWide Tryz.prog W .any base t v := hval0
 have hW' := hW
 obtain ⟨p, q, hA0, hV, rfl, hfz, hnd⟩ := hW
 have hA : DataW.TrodAll enc Tryz.prog W 0 (fun _ => true) true Tryz.f3.params.toList args.toList ds p := hA0
 rw [Tryz.params3] at hA hval
 obtain ⟨v0, v1, v2, d0, d1, d2, p0, p1, p2, rfl, rfl, rfl, h0, h1, h2⟩ := trodAll_three hA
 obtain ⟨xs0, hx0, hd0⟩ := u0x (sz := 166) 9 (hval 0 26 v0 rfl rfl) (by kernel_rfl) (by kernel_rfl) (by kernel_rfl) h0
 obtain ⟨pshx0, mhx0, rfl, hphx0⟩ := x0q hx0 Tryz.underlying26
 rcases hphx0 with _ | ⟨hx0a0, _ | ⟨hx0a1, _ | ⟨hx0a2, _ | ⟨hx0a3, _ | ⟨hx0a4, _ | ⟨hx0a5, _ | ⟨hx0a6, _ | ⟨hx0a7, _ | ⟨hx0a8, _ | ⟨hx0a9, _ | ⟨hx0a10, _ | _⟩⟩⟩⟩⟩⟩⟩⟩⟩⟩⟩
 obtain ⟨root, hroot, rfl⟩ := d0h hx0a0 Tryz.underlying23 Tryz.underlying5
 obtain ⟨own, hown, rfl⟩ := d0h hx0a1 Tryz.underlying23 Tryz.underlying5
 obtain ⟨peer, hpeer, rfl⟩ := d0h hx0a2 Tryz.underlying23 Tryz.underlying5
 obtain ⟨send, hsend, rfl⟩ := d0h hx0a3 Tryz.underlying23 Tryz.underlying5
 obtain ⟨out, rfl, hout⟩ := f1u hx0a4 Tryz.underlying3
 obtain ⟨recv, hrecv, rfl⟩ := d0h hx0a5 Tryz.underlying23 Tryz.underlying5
 obtain ⟨inn, rfl, hinn⟩ := f1u hx0a6 Tryz.underlying3
 obtain ⟨last, rfl, hlast⟩ := f1u hx0a7 Tryz.underlying3
 obtain ⟨can, rfl⟩ := n1g hx0a8 Tryz.underlying4
 obtain ⟨hear, rfl⟩ := n1g hx0a9 Tryz.underlying4
 obtain ⟨rows, mrows, rfl, rrows, hrows⟩ := f1t hx0a10 Tryz.underlying24
 simp only [Tryz.underlying26, List.flatten_cons, List.flatten_nil, g0f, n0s, u0p, Uz, List.append_nil, List.cons_append, List.nil_append, List.headD_cons] at hd0
 obtain ⟨ks, rfl, hks⟩ := m0q rrows
 rw [sz50] at hd0
 rw [List.length_map] at hrows
 try simp only [List.append_assoc, List.cons_append, List.nil_append] at hd0
 obtain ⟨xs1, hx1, hd1⟩ := u0x (sz := 1) 9 (hval 1 27 v1 rfl rfl) (by kernel_rfl) (by kernel_rfl) (by kernel_rfl) h1
 obtain ⟨ad, rfl, had⟩ := m0h hx1 Tryz.underlying27 Tryz.underlying5 (by kernel_rfl)
 simp only [Tryz.underlying27, List.flatten_cons, List.flatten_nil, g0f, n0s, u0p, Uz, List.append_nil, List.cons_append, List.nil_append, List.headD_cons] at hd1
 obtain ⟨xs2, hx2, hd2⟩ := u0x (sz := 1) 9 (hval 2 27 v2 rfl rfl) (by kernel_rfl) (by kernel_rfl) (by kernel_rfl) h2
 obtain ⟨text, rfl, htext⟩ := m0h hx2 Tryz.underlying27 Tryz.underlying5 (by kernel_rfl)
 simp only [Tryz.underlying27, List.flatten_cons, List.flatten_nil, g0f, n0s, u0p, Uz, List.append_nil, List.cons_append, List.nil_append, List.headD_cons] at hd2
 refine (CtM.callsG (G := gs) (b := true) (o0z root own peer send out recv inn last can hear ks hroot hown hpeer hsend hrecv hks ad text false false hrows).told (fun _ _ h => h.1) W #[v0, v1, v2] (gfacts hL) (by simp [plV, plW, rtC, Az]) (.cons hd0 (.cons hd1 (.cons hd2 .nil)))).mono fun e W' ⟨he, hw⟩ => ?_
 exact ⟨_, he, x1s hW' laidOut (by kernel_rfl) rfl rfl (by kernel_rfl) rfl hw⟩
theorem said : Rows.RatchetSealsSaid :=
 OpenClaim.holds_of_cond 3 Tryz.f3 rfl rfl rfl rfl rfl rfl rfl ⟨rfl, rfl, rfl, rfl, rfl⟩ rfl rfl rfl rfl rfl (by kernel_rfl) Tryz.func3 (by kernel_rfl)
  (of_decide_eq_true (by kernel_rfl)) (by unfold Func.isWrapper; first | (rw [if_pos (by decide +kernel)]; kernel_rfl) | (rw [if_neg (by decide +kernel)]; exact ⟨rfl, rfl⟩))
  (fun os started H enc _ F => by rw [OpenClaim.pre_eq_preRow]; exact lifted os started H enc F)
theorem plain (f : FuncId) (fn : Func) (hf : Tryz.pinned.checked.prog.funcNamed "signet/signetlaw.RatchetSeals" = some f) (hfn : Tryz.pinned.checked.prog.funcs[f]? = some fn) :
 false = Tryz.pinned.checked.prog.looks [] ∧ ∀ (j : Nat) t, fn.params[j]? = some t → Tryz.pinned.checked.prog.wantsStandIn t = false := by
 obtain rfl : f = 3 := Option.some.inj ((show Tryz.prog.funcNamed "signet/signetlaw.RatchetSeals" = some 3 by kernel_rfl).symm.trans hf) |>.symm
 obtain rfl : fn = Tryz.f3 := (Option.some.inj (Tryz.func3.symm.trans hfn)).symm
 refine ⟨by kernel_rfl, fun j t ht => ?_⟩
 rw [Tryz.params3] at ht
 have hm := Array.mem_of_getElem? ht
 simp only [List.mem_toArray, List.mem_cons, List.not_mem_nil, or_false] at hm
 rcases hm with rfl | rfl | rfl
 · exact (show Tryz.prog.wantsStandIn 26 = false by kernel_rfl)
 · exact (show Tryz.prog.wantsStandIn 27 = false by kernel_rfl)
 · exact (show Tryz.prog.wantsStandIn 27 = false by kernel_rfl)
end Go.Proofs.YtkfcbhgkpknagaaGreatDoor.ratchetSeals
namespace Go.Proofs.YtkfcbhgkpknagaaGreatDoor
theorem ratchetSealsCardHolds : Rows.RatchetSealsCardSaid :=
 Claim7.holds_tied_plain_at .later [] _ _ _ _ ratchetSeals.said (fun _ h => by cases h) (by kernel_rfl) (fun _ h => by cases h) ratchetSeals_row_tie rfl ⟨rfl, rfl⟩ (by kernel_rfl) rfl ratchetSeals.plain (by kernel_rfl)
end Go.Proofs.YtkfcbhgkpknagaaGreatDoor

