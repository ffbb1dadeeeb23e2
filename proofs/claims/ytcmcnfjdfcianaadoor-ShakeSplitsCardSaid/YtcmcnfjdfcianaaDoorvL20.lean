/- WHAT IS PROVED: signetlaw.ShakeSplits, whatever comes in: it returns true and leaves all as it was, the listed variables tied to the text. CONDITIONS: none beyond the given statement's. -/
import Derived.Test.YtcmcnfjdfcianaaDoorCards
import Derived.Test.YtcmcnfjdfcianaaDoorTie
import Derived.WalkKit
import Derived.ProofKit
import Derived.OpenShut
import Derived.Deep.DeepHandedRow
import Derived.Lib.LaidTab
import Derived.Test.YtcmcnfjdfcianaaDoorvqgS1
set_option linter.unusedVariables false
set_option linter.unusedSimpArgs false
namespace Go.Proofs.YtcmcnfjdfcianaaDoor.shakeSplits
open Go.Sy.Bk Go.ChangeShapes Go.WideShapes Go.ChangeAt Go.RowKit Go.Sy

theorem own : ownKnob Tryd.prog.godebug = none := by kernel_rfl
theorem laidOut : laidOutB Tryd.prog = true := by kernel_rfl
theorem g0 : Tryd.prog.globalNamed "signet/blake.first" = some 0 := by kernel_rfl
theorem gt0 : (Tryd.prog.globals[0]?).map (·.type) = some 72 := by kernel_rfl
theorem cells72 : Tryd.prog.cellsOf 72 = 8 := by kernel_rfl
theorem cells69 : Tryd.prog.cellsOf 69 = 1 := by kernel_rfl
theorem v0 {W : World} (h : laidMet Tryd.prog Rows.shakeSplitsRow.laid W) : W.var? Tryd.prog "signet/blake.first" = some (firstU.map fun x => Value.int .u32 x.toNat).toArray :=
 (tab_of (zs := [1779033703, 3144134277, 1013904242, 2773480762, 1359893119, 2600822924, 528734635, 1541459225]) (k := .u32) h (show ("signet/blake.first", (Rows.laid_signet_blake_first : DataW Unit)) ∈ _ from .head _) g0 gt0 Tryd.underlying72 Tryd.underlying69 cells69 cells72).trans (congrArg (fun l => some (List.toArray l)) (show _ = _ by kernel_rfl))
theorem at0 {W : World} (h : laidMet Tryd.prog Rows.shakeSplitsRow.laid W) : PL.denAt (Va.reads W).ro 0 (firstU.map PL.u32) 0 := denAt_var (v0 h) g0 (den_u32s _)
theorem g1 : Tryd.prog.globalNamed "signet/blake.orders" = some 2 := by kernel_rfl
theorem gt1 : (Tryd.prog.globals[2]?).map (·.type) = some 117 := by kernel_rfl
theorem cells117 : Tryd.prog.cellsOf 117 = 160 := by kernel_rfl
theorem cells116 : Tryd.prog.cellsOf 116 = 16 := by kernel_rfl
theorem cells3 : Tryd.prog.cellsOf 3 = 1 := by kernel_rfl
theorem v1 {W : World} (h : laidMet Tryd.prog Rows.shakeSplitsRow.laid W) : W.var? Tryd.prog "signet/blake.orders" = some (ordZ.flatten.map fun x => Value.int .i64 x).toArray :=
 (tab2_of (zss := ordZ) (k := .i64) (n := 10) (m := 16) h (show ("signet/blake.orders", (Rows.laid_signet_blake_orders : DataW Unit)) ∈ _ from .tail _ (.head _)) g1 gt1 Tryd.underlying117 Tryd.underlying116 Tryd.underlying3 cells3 cells116 cells117).trans (congrArg (fun l => some (List.toArray l)) (show _ = _ by kernel_rfl))
theorem at1 {W : World} (h : laidMet Tryd.prog Rows.shakeSplitsRow.laid W) : PL.denAt (Va.reads W).ro 2 (ordZ.flatten.map PL.i) 0 := denAt_var (v1 h) g1 (den_is _)
theorem g2 : Tryd.prog.globalNamed "signet/signetref.iv" = some 1 := by kernel_rfl
theorem gt2 : (Tryd.prog.globals[1]?).map (·.type) = some 72 := by kernel_rfl
theorem v2 {W : World} (h : laidMet Tryd.prog Rows.shakeSplitsRow.laid W) : W.var? Tryd.prog "signet/signetref.iv" = some (firstU.map fun x => Value.int .u32 x.toNat).toArray :=
 (tab_of (zs := [1779033703, 3144134277, 1013904242, 2773480762, 1359893119, 2600822924, 528734635, 1541459225]) (k := .u32) h (show ("signet/signetref.iv", (Rows.laid_signet_signetref_iv : DataW Unit)) ∈ _ from .tail _ (.tail _ (.head _))) g2 gt2 Tryd.underlying72 Tryd.underlying69 cells69 cells72).trans (congrArg (fun l => some (List.toArray l)) (show _ = _ by kernel_rfl))
theorem at2 {W : World} (h : laidMet Tryd.prog Rows.shakeSplitsRow.laid W) : PL.denAt (Va.reads W).ro 1 (firstU.map PL.u32) 0 := denAt_var (v2 h) g2 (den_u32s _)
def gs : List (Nat × List PL) := [(1000000, firstU.map PL.u32), (1000001, firstU.map PL.u32), (1000002, ordZ.flatten.map PL.i)]
theorem gfacts {W : World} (h : laidMet Tryd.prog Rows.shakeSplitsRow.laid W) : ∀ (k : Nat) (cs : List PL), Go.Sy.look gs k = some cs → gl0 ≤ k ∧ PL.denAt (Va.reads W).ro (k - gl0) cs 0 := by
 intro k cs hk
 simp only [gs, Go.Sy.look] at hk
 split at hk
 · rename_i e; cases hk; subst e; exact ⟨by decide, at0 h⟩
 split at hk
 · rename_i e; cases hk; subst e; exact ⟨by decide, at2 h⟩
 split at hk
 · rename_i e; cases hk; subst e; exact ⟨by decide, at1 h⟩
 · cases hk
def wit0 : Array Value := #[.agg (#[.string ⟨#[]⟩, .bool false, .slice none 0 0, .slice none 0 0, .slice none 0 0, .slice none 0 0, .bool false, .int .i64 0, .bool false, .bool false] ++ Array.replicate 32 (.int .u8 0) ++ #[.int .u64 0] ++ Array.replicate 128 (.int .u8 0) ++ #[.bool false] ++ Array.replicate 32 (.int .u8 0) ++ #[.bool false] ++ Array.replicate 32 (.int .u8 0) ++ #[.bool false, .slice none 0 0, .int .i64 0])]
def witD {H : Type} : List (DataW H) := [.agg [.agg [.lit (.string []), .lit (.bool false), .nil, .agg [.nil, .nil], .nil], .lit (.bool false), .lit (.int .i64 0), .lit (.bool false), .agg [.agg [.lit (.bool false), .agg (List.replicate 32 (.lit (.int .u8 0))), .lit (.int .u64 0)], .agg (List.replicate 32 (.lit (.int .u8 0))), .agg (List.replicate 32 (.lit (.int .u8 0)))], .agg (List.replicate 32 (.lit (.int .u8 0))), .agg (List.replicate 32 (.lit (.int .u8 0))), .lit (.bool false), .agg (List.replicate 32 (.lit (.int .u8 0))), .lit (.bool false), .agg (List.replicate 32 (.lit (.int .u8 0))), .lit (.bool false), .nil, .lit (.int .i64 0)]]
noncomputable def laidWorld (os : Os) : World := { World.holding Tryd.prog os ⟨#[], #[], []⟩ with heap := (Array.modify (Array.modify (Array.modify ((World.holding Tryd.prog os ⟨#[], #[], []⟩).heap) 0 (fun | .cells _ t frozen => .cells (firstU.map fun x => Value.int .u32 x.toNat).toArray t frozen | o => o)) 2 (fun | .cells _ t frozen => .cells (ordZ.flatten.map fun x => Value.int .i64 x).toArray t frozen | o => o)) 1 (fun | .cells _ t frozen => .cells (firstU.map fun x => Value.int .u32 x.toNat).toArray t frozen | o => o)) }
theorem laid_met (os : Os) : laidMet Tryd.prog Rows.shakeSplitsRow.laid ((laidWorld os).forCall (fun _ _ => 0) ⟨#[], wit0, []⟩).memory := laidMet_of_run' 8 (by kernel_rfl) (by kernel_rfl)
theorem reads (os : Os) {H : Type} (enc : TypeId × Value → H) : ∃ places, DataW.whole enc Tryd.prog ((laidWorld os).forCall (fun _ _ => 0) ⟨#[], wit0, []⟩).memory Tryd.f4.params.toList Rows.shakeSplitsSpec.vars false wit0.toList 8 = some (witD, [], places) := ⟨[], by kernel_rfl⟩

set_option maxRecDepth 100000 in
theorem lifted (os : Os) (started : os.Started) (H : Type) (enc : TypeId × Value → H) (F : Stop.Interp) :
 ReturnsInHanded {} Tryd.checked os 4 .any ((OpenSpec.ofChange Rows.shakeSplitsSpec).preRow enc Tryd.prog Tryd.f4 Rows.shakeSplitsRow.domain false Rows.shakeSplitsRow.laid) (((OpenSpec.ofChange Rows.shakeSplitsSpec).at F).post enc Tryd.prog Tryd.f4 false true false false) := by
 obtain ⟨places, hx⟩ := reads os enc
 refine returnsInHanded_of_row (C := Tryd.checked) (s := OpenSpec.ofChange Rows.shakeSplitsSpec) own started (by kernel_rfl) Tryd.func4
  (witness_row_at (enc := enc) (C := Tryd.checked) false (laidWorld os) wit0 rfl (by kernel_rfl) (by kernel_rfl) (by kernel_rfl)
   (OpenSpec.preRow_of_cond 8 hx (by kernel_rfl) (fun k hk => by cases hk) (by kernel_rfl) (laid_met os))) ?_
 intro W base args ds gs0 before hval0 hW hcnd _ hsz hL _ _
 have hL : laidMet Tryd.prog Rows.shakeSplitsRow.laid W := hL
 have hval : ∀ (j : Nat) t v, Tryd.f4.params[j]? = some t → args[j]? = some v → Value.okWide Tryd.prog W .any base t v := hval0
 have hW' := hW
 obtain ⟨p, q, hA0, hV, rfl, hfz, hnd⟩ := hW
 have hA : DataW.TrodAll enc Tryd.prog W 0 (fun _ => true) true Tryd.f4.params.toList args.toList ds p := hA0
 rw [Tryd.params4] at hA hval
 obtain ⟨v0, d0, rfl, rfl, h0⟩ := trodAll_one hA
 obtain ⟨n0, xs0, hx0, hd0⟩ := open_deep [43, 40, 9, 4, 36, 3, 37, 38, 28, 26, 23, 5, 24, 41] (by kernel_rfl) (by kernel_rfl) (hval 0 43 v0 rfl rfl) (by kernel_rfl) h0
 obtain ⟨pshx0, mhx0, rfl, hphx0⟩ := sh_struct hx0 Tryd.underlying43
 rcases hphx0 with _ | ⟨hx0a0, _ | ⟨hx0a1, _ | ⟨hx0a2, _ | ⟨hx0a3, _ | ⟨hx0a4, _ | ⟨hx0a5, _ | ⟨hx0a6, _ | ⟨hx0a7, _ | ⟨hx0a8, _ | ⟨hx0a9, _ | ⟨hx0a10, _ | ⟨hx0a11, _ | ⟨hx0a12, _ | ⟨hx0a13, _ | _⟩⟩⟩⟩⟩⟩⟩⟩⟩⟩⟩⟩⟩⟩
 obtain ⟨pshx0a0, mhx0a0, rfl, hphx0a0⟩ := sh_struct hx0a0 Tryd.underlying40
 rcases hphx0a0 with _ | ⟨hx0a0a0, _ | ⟨hx0a0a1, _ | ⟨hx0a0a2, _ | ⟨hx0a0a3, _ | ⟨hx0a0a4, _ | _⟩⟩⟩⟩⟩
 obtain ⟨bs, rfl, hbs⟩ := sh_str hx0a0a0 Tryd.underlying9
 obtain ⟨lt, rfl⟩ := sh_bool hx0a0a1 Tryd.underlying4
 obtain ⟨ps, mps, rfl, rps, hps⟩ := sh_slice hx0a0a2 Tryd.underlying36
 obtain ⟨pahx0a0a3, mahx0a0a3, rfl, lahx0a0a3, hahx0a0a3⟩ := sh_array hx0a0a3 Tryd.underlying37
 obtain ⟨pahx0a0a3_0, pahx0a0a3_1, rfl⟩ : ∃ pahx0a0a3_0 pahx0a0a3_1, pahx0a0a3 = [pahx0a0a3_0, pahx0a0a3_1] := list_of_len2 lahx0a0a3
 have hx0a0a3e0 := hahx0a0a3 pahx0a0a3_0 (by simp)
 obtain ⟨p0, mp0, rfl, rp0, hp0⟩ := sh_slice hx0a0a3e0 Tryd.underlying36
 have hx0a0a3e1 := hahx0a0a3 pahx0a0a3_1 (by simp)
 obtain ⟨p1, mp1, rfl, rp1, hp1⟩ := sh_slice hx0a0a3e1 Tryd.underlying36
 obtain ⟨tr, mtr, rfl, rtr, htr⟩ := sh_slice hx0a0a4 Tryd.underlying38
 obtain ⟨fi, rfl⟩ := sh_bool hx0a1 Tryd.underlying4
 obtain ⟨tu, rfl, htu⟩ := sh_i64 hx0a2 Tryd.underlying3
 obtain ⟨de, rfl⟩ := sh_bool hx0a3 Tryd.underlying4
 obtain ⟨pshx0a4, mhx0a4, rfl, hphx0a4⟩ := sh_struct hx0a4 Tryd.underlying28
 rcases hphx0a4 with _ | ⟨hx0a4a0, _ | ⟨hx0a4a1, _ | ⟨hx0a4a2, _ | _⟩⟩⟩
 obtain ⟨pshx0a4a0, mhx0a4a0, rfl, hphx0a4a0⟩ := sh_struct hx0a4a0 Tryd.underlying26
 rcases hphx0a4a0 with _ | ⟨hx0a4a0a0, _ | ⟨hx0a4a0a1, _ | ⟨hx0a4a0a2, _ | _⟩⟩⟩
 obtain ⟨st, rfl⟩ := sh_bool hx0a4a0a0 Tryd.underlying4
 obtain ⟨key, hkey, rfl⟩ := sh_bytes hx0a4a0a1 Tryd.underlying23 Tryd.underlying5
 obtain ⟨n, rfl⟩ := sh_u64 hx0a4a0a2 Tryd.underlying24
 obtain ⟨ch, hch, rfl⟩ := sh_bytes hx0a4a1 Tryd.underlying23 Tryd.underlying5
 obtain ⟨h, hh, rfl⟩ := sh_bytes hx0a4a2 Tryd.underlying23 Tryd.underlying5
 obtain ⟨ow, how, rfl⟩ := sh_bytes hx0a5 Tryd.underlying23 Tryd.underlying5
 obtain ⟨fr, hfr, rfl⟩ := sh_bytes hx0a6 Tryd.underlying23 Tryd.underlying5
 obtain ⟨ha, rfl⟩ := sh_bool hx0a7 Tryd.underlying4
 obtain ⟨th, hth, rfl⟩ := sh_bytes hx0a8 Tryd.underlying23 Tryd.underlying5
 obtain ⟨kn, rfl⟩ := sh_bool hx0a9 Tryd.underlying4
 obtain ⟨ne, hne, rfl⟩ := sh_bytes hx0a10 Tryd.underlying23 Tryd.underlying5
 obtain ⟨sa, rfl⟩ := sh_bool hx0a11 Tryd.underlying4
 obtain ⟨ks, mks, rfl, rks, hks⟩ := sh_slice hx0a12 Tryd.underlying41
 obtain ⟨us, rfl, hus⟩ := sh_i64 hx0a13 Tryd.underlying3
 simp only [Tryd.underlying43, List.flatten_cons, List.flatten_nil, pls_append, pls_cons, pls_nil, pls_bytes, List.append_nil, List.cons_append, List.nil_append, List.headD_cons] at hd0
 simp only [List.append_assoc, List.cons_append, List.nil_append] at hd0
 refine (CtM.callsG (G := gs) (b := true) (shakesplits_gs bs lt ps p0 p1 tr fi tu de st key n ch h ow fr ha th kn ne sa ks us hkey hch hh how hfr hth hne).told (fun _ _ h => h.1) W #[v0] (gfacts hL) (by simp [plV, plW, hashC, H8.ls, symS, bytesC, shakeC]) (.cons hd0 .nil)).mono fun e W' ⟨he, hw⟩ => ?_
 exact ⟨_, he, law_post hW' laidOut (by kernel_rfl) rfl rfl (by kernel_rfl) rfl hw⟩

theorem said : Rows.ShakeSplitsSaid :=
 OpenClaim.holds_of_cond 4 Tryd.f4 rfl rfl rfl rfl rfl rfl rfl ⟨rfl, rfl, rfl, rfl, rfl⟩ rfl rfl rfl rfl rfl (by kernel_rfl) Tryd.func4 (by kernel_rfl)
  (of_decide_eq_true (by kernel_rfl)) (by unfold Func.isWrapper; first | (rw [if_pos (by decide +kernel)]; kernel_rfl) | (rw [if_neg (by decide +kernel)]; exact ⟨rfl, rfl⟩))
  (fun os started H enc _ F => by rw [OpenClaim.pre_eq_preRow]; exact lifted os started H enc F)
theorem plain (f : FuncId) (fn : Func) (hf : Tryd.pinned.checked.prog.funcNamed "signet/signetlaw.ShakeSplits" = some f) (hfn : Tryd.pinned.checked.prog.funcs[f]? = some fn) :
 false = Tryd.pinned.checked.prog.looks [] ∧ ∀ (j : Nat) t, fn.params[j]? = some t → Tryd.pinned.checked.prog.wantsStandIn t = false := by
 obtain rfl : f = 4 := Option.some.inj ((show Tryd.prog.funcNamed "signet/signetlaw.ShakeSplits" = some 4 by kernel_rfl).symm.trans hf) |>.symm
 obtain rfl : fn = Tryd.f4 := (Option.some.inj (Tryd.func4.symm.trans hfn)).symm
 refine ⟨by kernel_rfl, fun j t ht => ?_⟩
 rw [Tryd.params4] at ht
 have hm := Array.mem_of_getElem? ht
 simp only [List.mem_toArray, List.mem_cons, List.not_mem_nil, or_false] at hm
 subst hm
 · exact (show Tryd.prog.wantsStandIn 43 = false by kernel_rfl)
end Go.Proofs.YtcmcnfjdfcianaaDoor.shakeSplits
namespace Go.Proofs.YtcmcnfjdfcianaaDoor
theorem shakeSplitsCardHolds : Rows.ShakeSplitsCardSaid :=
 Claim7.holds_tied_plain_at .later [] _ _ _ _ shakeSplits.said (fun _ h => by cases h) (by kernel_rfl) (fun _ h => by cases h) shakeSplits_row_tie rfl ⟨rfl, rfl⟩ (by kernel_rfl) rfl shakeSplits.plain (by kernel_rfl)

end Go.Proofs.YtcmcnfjdfcianaaDoor
