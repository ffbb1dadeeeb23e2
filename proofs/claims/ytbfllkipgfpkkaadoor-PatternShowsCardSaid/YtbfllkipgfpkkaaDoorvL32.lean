/- WHAT IS PROVED: signetlaw.PatternShows, whatever comes in: it returns true and leaves all as it was, the listed variables tied to the text. CONDITIONS: none beyond the given statement's. -/
import Derived.Test.YtbfllkipgfpkkaaDoorCards
import Derived.Test.YtbfllkipgfpkkaaDoorTie
import Derived.WalkKit
import Derived.ProofKit
import Derived.OpenShut
import Derived.Deep.DeepHandedRow
import Derived.Lib.LaidTab
import Derived.Lay
import Derived.Test.YtbfllkipgfpkkaaDoorvdH4
import Derived.Carry
set_option linter.unusedVariables false
set_option linter.unusedSimpArgs false
namespace Go.Proofs.YtbfllkipgfpkkaaDoor.patternShows
open Go.ChangeShapes Go.WideShapes Go.ChangeAt Go.RowKit Go.Sy

theorem own : ownKnob Tryd.prog.godebug = none := by kernel_rfl
theorem laidOut : laidOutB Tryd.prog = true := by kernel_rfl
theorem g0 : Tryd.prog.globalNamed "strings.asciiSpace" = some 0 := by kernel_rfl
theorem gt0 : (Tryd.prog.globals[0]?).map (·.type) = some 64 := by kernel_rfl
theorem cells64 : Tryd.prog.cellsOf 64 = 256 := by kernel_rfl
theorem cells5 : Tryd.prog.cellsOf 5 = 1 := by kernel_rfl
set_option maxRecDepth 100000 in
theorem v0 {W : World} (h : laidMet Tryd.prog Rows.patternShowsRow.laid W) : W.var? Tryd.prog "strings.asciiSpace" = some ((spaceL.map fun x => Value.int .u8 x.toNat)).toArray :=
 (tab_of (zs := [0, 0, 0, 0, 0, 0, 0, 0, 0, 1, 1, 1, 1, 1, 0, 0, 0, 0, 0, 0, 0, 0, 0, 0, 0, 0, 0, 0, 0, 0, 0, 0, 1, 0, 0, 0, 0, 0, 0, 0, 0, 0, 0, 0, 0, 0, 0, 0, 0, 0, 0, 0, 0, 0, 0, 0, 0, 0, 0, 0, 0, 0, 0, 0, 0, 0, 0, 0, 0, 0, 0, 0, 0, 0, 0, 0, 0, 0, 0, 0, 0, 0, 0, 0, 0, 0, 0, 0, 0, 0, 0, 0, 0, 0, 0, 0, 0, 0, 0, 0, 0, 0, 0, 0, 0, 0, 0, 0, 0, 0, 0, 0, 0, 0, 0, 0, 0, 0, 0, 0, 0, 0, 0, 0, 0, 0, 0, 0, 0, 0, 0, 0, 0, 0, 0, 0, 0, 0, 0, 0, 0, 0, 0, 0, 0, 0, 0, 0, 0, 0, 0, 0, 0, 0, 0, 0, 0, 0, 0, 0, 0, 0, 0, 0, 0, 0, 0, 0, 0, 0, 0, 0, 0, 0, 0, 0, 0, 0, 0, 0, 0, 0, 0, 0, 0, 0, 0, 0, 0, 0, 0, 0, 0, 0, 0, 0, 0, 0, 0, 0, 0, 0, 0, 0, 0, 0, 0, 0, 0, 0, 0, 0, 0, 0, 0, 0, 0, 0, 0, 0, 0, 0, 0, 0, 0, 0, 0, 0, 0, 0, 0, 0, 0, 0, 0, 0, 0, 0, 0, 0, 0, 0, 0, 0, 0, 0, 0, 0, 0, 0, 0, 0, 0, 0, 0, 0]) (k := .u8) h (show ("strings.asciiSpace", (Rows.laid_strings_asciiSpace : DataW Unit)) ∈ _ from .tail _ (.tail _ (.head _))) g0 gt0 Tryd.underlying64 Tryd.underlying5 cells5 cells64).trans (congrArg (fun l => some (List.toArray l)) (show _ = _ by kernel_rfl))
theorem at0 {W : World} (h : laidMet Tryd.prog Rows.patternShowsRow.laid W) : PL.denAt (Va.reads W).ro 0 (spaceL.map PL.u8) 0 := denAt_var (v0 h) g0 (den_u8s spaceL)
def gs : List (Nat × List PL) := [(1000000, spaceL.map PL.u8)]
theorem gfacts {W : World} (h : laidMet Tryd.prog Rows.patternShowsRow.laid W) : ∀ (k : Nat) (cs : List PL), Go.Sy.look gs k = some cs → gl0 ≤ k ∧ PL.denAt (Va.reads W).ro (k - gl0) cs 0 := by
 intro k cs hk
 simp only [gs, Go.Sy.look, List.cons_append, List.nil_append] at hk
 split at hk
 · rename_i e; cases hk; subst e; exact ⟨by decide, at0 h⟩
 · cases hk
def wit0 : Array Value := #[.agg #[.string ⟨#[]⟩, .bool false, .slice none 0 0, .slice none 0 0, .slice none 0 0, .slice none 0 0]]
def witD {H : Type} : List (DataW H) := [.agg [.lit (.string []), .lit (.bool false), .nil, .agg [.nil, .nil], .nil]]
noncomputable def laidWorld (os : Os) : World := World.laidAll Tryd.prog os Rows.patternShowsRow.laid
theorem laid_met (os : Os) : laidMet Tryd.prog Rows.patternShowsRow.laid ((laidWorld os).forCall (fun _ _ => 0) ⟨#[], wit0, []⟩).memory := laidMet_laidAll _ (by kernel_rfl) (by kernel_rfl)
theorem reads (os : Os) {H : Type} (enc : TypeId × Value → H) : ∃ places, DataW.whole enc Tryd.prog ((laidWorld os).forCall (fun _ _ => 0) ⟨#[], wit0, []⟩).memory Tryd.f5.params.toList Rows.patternShowsSpec.vars false wit0.toList 8 = some (witD, [], places) := ⟨[], by kernel_rfl⟩
theorem list_of_len2 {α : Type} {l : List α} (h : l.length = 2) : ∃ a b, l = [a, b] := by
 match l, h with
 | [a, b], _ => exact ⟨a, b, rfl⟩
theorem ints_of {m : Nat} : ∀ {rows : List (List PL)}, (∀ r ∈ rows, Sh Tryd.prog m 3 r) → ∃ l : List Int, rows = iRows l
 | [], _ => ⟨[], rfl⟩
 | a :: rs, h => by
  obtain ⟨k, hk, _, _⟩ := sh_i64 (h a (by simp)) Tryd.underlying3
  obtain ⟨l, hl⟩ := ints_of (rows := rs) fun r hr => h r (List.mem_cons_of_mem _ hr)
  exact ⟨k :: l, by rw [hk, hl]; rfl⟩
theorem turns_of2 {m : Nat} : ∀ {rows : List (List PL)}, (∀ r ∈ rows, Sh Tryd.prog m 22 r) → ∃ ts : List (List Int), rows = tRows ts
 | [], _ => ⟨[], rfl⟩
 | a :: rs, h => by
  obtain ⟨rw', m', hk, hr, _⟩ := sh_slice (h a (by simp)) Tryd.underlying22
  obtain ⟨l, rfl⟩ := ints_of hr
  obtain ⟨ts, hl⟩ := turns_of2 (rows := rs) fun r hr => h r (List.mem_cons_of_mem _ hr)
  exact ⟨l :: ts, by rw [hk, hl, sz3]; rfl⟩
theorem witness_row_shaped {H : Type} {enc : TypeId × Value → H} {C : Checked} {os : Os} {f : FuncId} {fn : Func} {s : OpenSpec} {conds : List PathCond} {apart : Bool} {laid : List (String × DataW Unit)} (modest : Bool) (w0 : World) (args : Array Value) (hos : w0.os = os)
 (hsh : (w0.forCall (fun _ _ => 0) ⟨#[], args, []⟩).Shaped C.prog)
 (hok : Input.okWideB C.prog (w0.forCall (fun _ _ => 0) ⟨#[], args, []⟩) f ⟨#[], args, []⟩ = true)
 (hrow : s.preRow enc C.prog fn conds apart laid (w0.forCall (fun _ _ => 0) ⟨#[], args, []⟩).memory args) :
 ∃ (w : World) (tape : Tape) (i : Input), w.os = os ∧ (w.forCall tape i).Shaped C.prog ∧ i.vars = [] ∧ Input.okWide C.prog (w.forCall tape i) .any w.heap.size f i ∧
  s.preRow enc C.prog fn conds apart laid (w.forCall tape i).memory i.args ∧ ({ modest := modest } : Assume).holds C.prog (lone (Frame.enter C.prog f i.args .normal) [] (w.forCall tape i)) :=
 ⟨w0, fun _ _ => 0, ⟨#[], args, []⟩, hos, hsh, (Input.okWide_of_okWideB (base := 0) hok).1, (Input.okWide_of_okWideB hok).2, hrow, by
  simp only [Assume.holds]
  exact ⟨by simp, by simp, fun _ => Modest.zero, by simp, by simp⟩⟩
set_option maxRecDepth 100000 in
theorem lifted (os : Os) (started : os.Started) (H : Type) (enc : TypeId × Value → H) (F : Stop.Interp) :
 ReturnsInHanded {} Tryd.checked os 5 .any ((OpenSpec.ofChange Rows.patternShowsSpec).preRow enc Tryd.prog Tryd.f5 Rows.patternShowsRow.domain false Rows.patternShowsRow.laid) ((((OpenSpec.ofChange Rows.patternShowsSpec)).at F).post enc Tryd.prog Tryd.f5 false true false false) := by
 obtain ⟨places, hx⟩ := reads os enc
 refine returnsInHanded_of_row (C := Tryd.checked) (s := OpenSpec.ofChange Rows.patternShowsSpec) own started (by kernel_rfl) Tryd.func5
  (witness_row_shaped (enc := enc) (C := Tryd.checked) false (laidWorld os) wit0 (World.laidAll_os _ _ _) (World.shaped_of_ZipB (by kernel_rfl) (by kernel_rfl)) (by kernel_rfl)
   (OpenSpec.preRow_of_cond 8 hx (by kernel_rfl) (fun k hk => by cases hk) (by kernel_rfl) (laid_met os))) ?_
 intro W base args ds gs0 before hval0 hW hcnd hcond hsz hL hSh _
 have hL : laidMet Tryd.prog Rows.patternShowsRow.laid W := hL
 have hval : ∀ (j : Nat) t v, Tryd.f5.params[j]? = some t → args[j]? = some v → Value.okWide Tryd.prog W .any base t v := hval0
 have hW' := hW
 obtain ⟨p, q, hA0, hV, rfl, hfz, hnd⟩ := hW
 have hA : DataW.TrodAll enc Tryd.prog W 0 (fun _ => true) true Tryd.f5.params.toList args.toList ds p := hA0
 rw [Tryd.params5] at hA hval
 obtain ⟨v0, d0, rfl, rfl, h0⟩ := trodAll_one hA
 obtain ⟨n0, xs0, hx0, hd0⟩ := open_deep [26, 9, 4, 22, 3, 23, 24] (by kernel_rfl) (by kernel_rfl) (hval 0 26 v0 rfl rfl) (by kernel_rfl) h0
 obtain ⟨pshx0, mhx0, rfl, hphx0⟩ := sh_struct hx0 Tryd.underlying26
 rcases hphx0 with _ | ⟨hx0a0, _ | ⟨hx0a1, _ | ⟨hx0a2, _ | ⟨hx0a3, _ | ⟨hx0a4, _ | _⟩⟩⟩⟩⟩
 obtain ⟨bs, rfl, hbs⟩ := sh_str hx0a0 Tryd.underlying9
 obtain ⟨lt, rfl⟩ := sh_bool hx0a1 Tryd.underlying4
 obtain ⟨ps, mps, rfl, rps, hps⟩ := sh_slice hx0a2 Tryd.underlying22
 obtain ⟨pahx0a3, mahx0a3, rfl, lahx0a3, hahx0a3⟩ := sh_array hx0a3 Tryd.underlying23
 obtain ⟨pahx0a3_0, pahx0a3_1, rfl⟩ : ∃ pahx0a3_0 pahx0a3_1, pahx0a3 = [pahx0a3_0, pahx0a3_1] := list_of_len2 lahx0a3
 have hx0a3e0 := hahx0a3 pahx0a3_0 (by simp)
 obtain ⟨p0, mp0, rfl, rp0, hp0⟩ := sh_slice hx0a3e0 Tryd.underlying22
 have hx0a3e1 := hahx0a3 pahx0a3_1 (by simp)
 obtain ⟨p1, mp1, rfl, rp1, hp1⟩ := sh_slice hx0a3e1 Tryd.underlying22
 obtain ⟨tr, mtr, rfl, rtr, htr⟩ := sh_slice hx0a4 Tryd.underlying24
 simp only [Tryd.underlying26, List.flatten_cons, List.flatten_nil, pls_append, pls_cons, pls_nil, pls_bytes, List.append_nil, List.cons_append, List.nil_append, List.headD_cons] at hd0
 obtain ⟨l0, rfl⟩ := ints_of rps
 obtain ⟨l1, rfl⟩ := ints_of rp0
 obtain ⟨l2, rfl⟩ := ints_of rp1
 obtain ⟨ts, rfl⟩ := turns_of2 rtr
 simp only [sz3, sz22, List.append_assoc, List.cons_append, List.nil_append] at hd0
 refine (CtM.callsG (G := gs) (b := true) (patternshows_gs bs lt l0 l1 l2 ts).told (fun _ _ h => h.1) W #[v0] (gfacts hL) (by simp [plV, plW]) (.cons hd0 .nil)).mono fun e W' ⟨he, hw⟩ => ?_
 exact ⟨_, he, law_post hW' laidOut (by kernel_rfl) rfl rfl (by kernel_rfl) rfl hw⟩

theorem said : Rows.PatternShowsSaid :=
 OpenClaim.holds_of_cond 5 Tryd.f5 rfl rfl rfl rfl rfl rfl rfl ⟨rfl, rfl, rfl, rfl, rfl⟩ rfl rfl rfl rfl rfl (by kernel_rfl) Tryd.func5 (by kernel_rfl)
  (of_decide_eq_true (by kernel_rfl)) (by unfold Func.isWrapper; first | (rw [if_pos (by decide +kernel)]; kernel_rfl) | (rw [if_neg (by decide +kernel)]; exact ⟨rfl, rfl⟩))
  (fun os started H enc _ F => by rw [OpenClaim.pre_eq_preRow]; exact lifted os started H enc F)
theorem plain (f : FuncId) (fn : Func) (hf : Tryd.pinned.checked.prog.funcNamed "signet/signetlaw.PatternShows" = some f) (hfn : Tryd.pinned.checked.prog.funcs[f]? = some fn) :
 false = Tryd.pinned.checked.prog.looks [] ∧ ∀ (j : Nat) t, fn.params[j]? = some t → Tryd.pinned.checked.prog.wantsStandIn t = false := by
 obtain rfl : f = 5 := Option.some.inj ((show Tryd.prog.funcNamed "signet/signetlaw.PatternShows" = some 5 by kernel_rfl).symm.trans hf) |>.symm
 obtain rfl : fn = Tryd.f5 := (Option.some.inj (Tryd.func5.symm.trans hfn)).symm
 refine ⟨by kernel_rfl, fun j t ht => ?_⟩
 rw [Tryd.params5] at ht
 have hm := Array.mem_of_getElem? ht
 simp only [List.mem_toArray, List.mem_cons, List.not_mem_nil, or_false] at hm
 subst hm
 · exact (show Tryd.prog.wantsStandIn 26 = false by kernel_rfl)
end Go.Proofs.YtbfllkipgfpkkaaDoor.patternShows
namespace Go.Proofs.YtbfllkipgfpkkaaDoor
theorem patternShowsCardHolds : Rows.PatternShowsCardSaid :=
 Claim7.holds_tied_plain_at .later [] _ _ _ _ patternShows.said (fun _ h => by cases h) (by kernel_rfl) (fun _ h => by cases h) patternShows_row_tie rfl ⟨rfl, rfl⟩ (by kernel_rfl) rfl patternShows.plain (by kernel_rfl)

end Go.Proofs.YtbfllkipgfpkkaaDoor

