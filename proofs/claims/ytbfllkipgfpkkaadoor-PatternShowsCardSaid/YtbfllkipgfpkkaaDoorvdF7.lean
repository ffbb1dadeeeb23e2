/- A pattern with psks, of any name: what both tell. -/
import Derived.Test.YtbfllkipgfpkkaaDoorvdF5
import Derived.Test.YtbfllkipgfpkkaaDoorvdF3
import Derived.Test.YtbfllkipgfpkkaaDoorvdC3
import Derived.Test.YtbfllkipgfpkkaaDoorvdWNN
import Derived.Test.YtbfllkipgfpkkaaDoorvdWNK
import Derived.Test.YtbfllkipgfpkkaaDoorvdWXX
import Derived.Test.YtbfllkipgfpkkaaDoorvdWIK
import Derived.Test.YtbfllkipgfpkkaaDoorvdWXK
import Derived.Test.YtbfllkipgfpkkaaDoorvdWKK
import Derived.Test.YtbfllkipgfpkkaaDoorvdWXXfallback
set_option linter.unusedVariables false
set_option linter.unusedSimpArgs false
namespace Go.Sy
open Go.Proofs
attribute [local irreducible] atCall HT runOps runD onC onE onO onG goV goA goS onSt onGuard
abbrev PD : Type := Bool × List Int × List Int × List (List Int)
def wR (lt : Bool) (p0 p1 : List Int) (ts : List (List Int)) (n : Int) (ps : List Int) : Except Int PD := if (4 : Int) < ((ps.length : Nat) : Int) then .error 1 else if wchk n (-1) ps = 0 then .ok (lt, p0, p1, addP ts ps) else .error (wchk n (-1) ps)
def wRes (bs : List UInt8) (ps : List Int) : Except Int PD :=
 if bs = [78, 78] then wR false [] [] [[1], [1, 3]] 2 ps else
 if bs = [78, 75] then wR false [] [2] [[1, 4], [1, 3]] 2 ps else
 if bs = [88, 88] then wR false [] [] [[1], [1, 3, 2, 4], [2, 5]] 3 ps else
 if bs = [73, 75] then wR false [] [2] [[1, 4, 2, 6], [1, 3, 5]] 2 ps else
 if bs = [88, 75] then wR false [] [2] [[1, 4], [1, 3], [2, 5]] 3 ps else
 if bs = [75, 75] then wR false [2] [2] [[1, 4, 6], [1, 3, 5]] 2 ps else
 if bs = [88, 88, 102, 97, 108, 108, 98, 97, 99, 107] then wR true [1] [] [[1, 3, 2, 4], [2, 5]] 2 ps else
 .error 5
def pX (bs : List UInt8) (ex : Bool) (ps : List Int) (d : PD) : List L := [.pl (.str bs), .pl (.b d.1), .pl (.R ex 1 (iRows ps)), .pl (rowP d.2.1), .pl (rowP d.2.2.1), .pl (.R false 1 (d.2.2.2.map fun t => [rowP t]))]
def outPV (bs : List UInt8) (ex : Bool) (ps : List Int) : Except Int PD → V
 | .error e => .tup [.agg zeroP, .one (.pl (.i e))]
 | .ok d => .tup [.agg (pX bs ex ps d), .one (.pl (.i 0))]
theorem rowP_ne {l : List Int} (h : l ≠ []) : rowP l = .R false 1 (iRows l) := by cases l with | nil => exact absurd rfl h | cons a r => rfl
theorem tRows_P : ∀ {ts : List (List Int)}, (∀ t ∈ ts, t ≠ []) → tRows ts = ts.map fun t => [rowP t]
 | [], _ => rfl
 | t :: r, h => by
  have ih := tRows_P (ts := r) fun t ht => h t (List.mem_cons_of_mem _ ht)
  simp only [tRows, List.map_cons] at ih ⊢
  rw [ih, rowP_ne (h t (List.mem_cons_self ..))]
theorem addP_ne : ∀ {ps : List Int} {ts : List (List Int)}, (∀ t ∈ ts, t ≠ []) → ∀ t ∈ addP ts ps, t ≠ []
 | [], _, h => h
 | n :: r, ts, h => by
  rw [addP]
  refine addP_ne fun t ht => ?_
  split at ht
  · rcases List.mem_or_eq_of_mem_set ht with h1 | rfl
    · exact h t h1
    · simp
  · rcases List.mem_or_eq_of_mem_set ht with h1 | rfl
    · exact h t h1
    · simp
theorem withV_res {bs lt p0 p1 ts n ps} (hl : ¬ (4 : Int) < ((ps.length : Nat) : Int)) (h : ∀ t ∈ ts, t ≠ []) : withV bs lt p0 p1 ts n ps = outPV bs false ps (wR lt p0 p1 ts n ps) := by
 unfold withV wR
 rw [if_neg hl]
 split
 · show V.tup [.agg (patP bs lt ps p0 p1 (addP ts ps)), _] = .tup [.agg (pX bs false ps (lt, p0, p1, addP ts ps)), _]
   rw [patP, pX, tRows_P (addP_ne h)]
 · rfl
theorem rwV_res {bs lt p0 p1 ts L0 ex ps} {n : Int} (hl : ¬ (4 : Int) < ((ps.length : Nat) : Int)) (h : wchk n (-1) ps = 0 → tokL ((addT L0 ps).getD 0 []) = p0 ∧ tokL ((addT L0 ps).getD 1 []) = p1 ∧ ((addT L0 ps).drop 2).map tokL = addP ts ps) : rwV bs lt n L0 ps ex = outPV bs ex ps (wR lt p0 p1 ts n ps) := by
 unfold rwV wR
 rw [if_neg hl]
 split
 · rename_i hw
   obtain ⟨h0, h1, h2⟩ := h hw
   show V.tup [.agg (refP bs lt ps ex (addT L0 ps)), _] = .tup [.agg (pX bs ex ps (lt, p0, p1, addP ts ps)), _]
   rw [refP, pX, h0, h1, ← h2, List.map_map]; rfl
 · rfl
set_option maxRecDepth 100000 in
theorem tk_NN {ps : List Int} (h : wchk 2 (-1) ps = 0) : tokL ((addT [[], [], [32, 101], [32, 101, 32, 101, 101]] ps).getD 0 []) = [] ∧ tokL ((addT [[], [], [32, 101], [32, 101, 32, 101, 101]] ps).getD 1 []) = [] ∧ ((addT [[], [], [32, 101], [32, 101, 32, 101, 101]] ps).drop 2).map tokL = addP [[1], [1, 3]] ps := by
 rcases wv2_0 h with rfl | rfl | rfl | rfl | rfl | rfl | rfl | rfl <;> (refine ⟨?_, ?_, ?_⟩ <;> kernel_rfl)
set_option maxRecDepth 100000 in
theorem tk_NK {ps : List Int} (h : wchk 2 (-1) ps = 0) : tokL ((addT [[], [32, 115], [32, 101, 32, 101, 115], [32, 101, 32, 101, 101]] ps).getD 0 []) = [] ∧ tokL ((addT [[], [32, 115], [32, 101, 32, 101, 115], [32, 101, 32, 101, 101]] ps).getD 1 []) = [2] ∧ ((addT [[], [32, 115], [32, 101, 32, 101, 115], [32, 101, 32, 101, 101]] ps).drop 2).map tokL = addP [[1, 4], [1, 3]] ps := by
 rcases wv2_0 h with rfl | rfl | rfl | rfl | rfl | rfl | rfl | rfl <;> (refine ⟨?_, ?_, ?_⟩ <;> kernel_rfl)
set_option maxRecDepth 100000 in
theorem tk_XX {ps : List Int} (h : wchk 3 (-1) ps = 0) : tokL ((addT [[], [], [32, 101], [32, 101, 32, 101, 101, 32, 115, 32, 101, 115], [32, 115, 32, 115, 101]] ps).getD 0 []) = [] ∧ tokL ((addT [[], [], [32, 101], [32, 101, 32, 101, 101, 32, 115, 32, 101, 115], [32, 115, 32, 115, 101]] ps).getD 1 []) = [] ∧ ((addT [[], [], [32, 101], [32, 101, 32, 101, 101, 32, 115, 32, 101, 115], [32, 115, 32, 115, 101]] ps).drop 2).map tokL = addP [[1], [1, 3, 2, 4], [2, 5]] ps := by
 rcases wv3_0 h with rfl | rfl | rfl | rfl | rfl | rfl | rfl | rfl | rfl | rfl | rfl | rfl | rfl | rfl | rfl | rfl <;> (refine ⟨?_, ?_, ?_⟩ <;> kernel_rfl)
set_option maxRecDepth 100000 in
theorem tk_IK {ps : List Int} (h : wchk 2 (-1) ps = 0) : tokL ((addT [[], [32, 115], [32, 101, 32, 101, 115, 32, 115, 32, 115, 115], [32, 101, 32, 101, 101, 32, 115, 101]] ps).getD 0 []) = [] ∧ tokL ((addT [[], [32, 115], [32, 101, 32, 101, 115, 32, 115, 32, 115, 115], [32, 101, 32, 101, 101, 32, 115, 101]] ps).getD 1 []) = [2] ∧ ((addT [[], [32, 115], [32, 101, 32, 101, 115, 32, 115, 32, 115, 115], [32, 101, 32, 101, 101, 32, 115, 101]] ps).drop 2).map tokL = addP [[1, 4, 2, 6], [1, 3, 5]] ps := by
 rcases wv2_0 h with rfl | rfl | rfl | rfl | rfl | rfl | rfl | rfl <;> (refine ⟨?_, ?_, ?_⟩ <;> kernel_rfl)
set_option maxRecDepth 100000 in
theorem tk_XK {ps : List Int} (h : wchk 3 (-1) ps = 0) : tokL ((addT [[], [32, 115], [32, 101, 32, 101, 115], [32, 101, 32, 101, 101], [32, 115, 32, 115, 101]] ps).getD 0 []) = [] ∧ tokL ((addT [[], [32, 115], [32, 101, 32, 101, 115], [32, 101, 32, 101, 101], [32, 115, 32, 115, 101]] ps).getD 1 []) = [2] ∧ ((addT [[], [32, 115], [32, 101, 32, 101, 115], [32, 101, 32, 101, 101], [32, 115, 32, 115, 101]] ps).drop 2).map tokL = addP [[1, 4], [1, 3], [2, 5]] ps := by
 rcases wv3_0 h with rfl | rfl | rfl | rfl | rfl | rfl | rfl | rfl | rfl | rfl | rfl | rfl | rfl | rfl | rfl | rfl <;> (refine ⟨?_, ?_, ?_⟩ <;> kernel_rfl)
set_option maxRecDepth 100000 in
theorem tk_KK {ps : List Int} (h : wchk 2 (-1) ps = 0) : tokL ((addT [[115], [32, 115], [32, 101, 32, 101, 115, 32, 115, 115], [32, 101, 32, 101, 101, 32, 115, 101]] ps).getD 0 []) = [2] ∧ tokL ((addT [[115], [32, 115], [32, 101, 32, 101, 115, 32, 115, 115], [32, 101, 32, 101, 101, 32, 115, 101]] ps).getD 1 []) = [2] ∧ ((addT [[115], [32, 115], [32, 101, 32, 101, 115, 32, 115, 115], [32, 101, 32, 101, 101, 32, 115, 101]] ps).drop 2).map tokL = addP [[1, 4, 6], [1, 3, 5]] ps := by
 rcases wv2_0 h with rfl | rfl | rfl | rfl | rfl | rfl | rfl | rfl <;> (refine ⟨?_, ?_, ?_⟩ <;> kernel_rfl)
set_option maxRecDepth 100000 in
theorem tk_XXfallback {ps : List Int} (h : wchk 2 (-1) ps = 0) : tokL ((addT [[101], [], [32, 101, 32, 101, 101, 32, 115, 32, 101, 115], [32, 115, 32, 115, 101]] ps).getD 0 []) = [1] ∧ tokL ((addT [[101], [], [32, 101, 32, 101, 101, 32, 115, 32, 101, 115], [32, 115, 32, 115, 101]] ps).getD 1 []) = [] ∧ ((addT [[101], [], [32, 101, 32, 101, 101, 32, 115, 32, 101, 115], [32, 115, 32, 115, 101]] ps).drop 2).map tokL = addP [[1, 3, 2, 4], [2, 5]] ps := by
 rcases wv2_0 h with rfl | rfl | rfl | rfl | rfl | rfl | rfl | rfl <;> (refine ⟨?_, ?_, ?_⟩ <;> kernel_rfl)
theorem with_all (bs : List UInt8) (ps : List Int) (ex : Bool) : Ct Tryd.prog 6 [.w (.one (.pl (.str bs))), .w (.one (.pl (.R ex 1 (iRows ps))))] (fun v m => v = outPV bs false ps (wRes bs ps)) := by
 unfold wRes
 by_cases h0 : bs = [78, 78]
 · rw [if_pos h0]; subst h0
   by_cases hl : (4 : Int) < ((ps.length : Nat) : Int)
   · rw [wR, if_pos hl]; exact (with_NN_long ps ex hl).told
   · rw [← withV_res hl (by decide)]; exact (with_NNw ps ex (by omega) hl).told
 rw [if_neg h0]
 by_cases h1 : bs = [78, 75]
 · rw [if_pos h1]; subst h1
   by_cases hl : (4 : Int) < ((ps.length : Nat) : Int)
   · rw [wR, if_pos hl]; exact (with_NK_long ps ex hl).told
   · rw [← withV_res hl (by decide)]; exact (with_NKw ps ex (by omega) hl).told
 rw [if_neg h1]
 by_cases h2 : bs = [88, 88]
 · rw [if_pos h2]; subst h2
   by_cases hl : (4 : Int) < ((ps.length : Nat) : Int)
   · rw [wR, if_pos hl]; exact (with_XX_long ps ex hl).told
   · rw [← withV_res hl (by decide)]; exact (with_XXw ps ex (by omega) hl).told
 rw [if_neg h2]
 by_cases h3 : bs = [73, 75]
 · rw [if_pos h3]; subst h3
   by_cases hl : (4 : Int) < ((ps.length : Nat) : Int)
   · rw [wR, if_pos hl]; exact (with_IK_long ps ex hl).told
   · rw [← withV_res hl (by decide)]; exact (with_IKw ps ex (by omega) hl).told
 rw [if_neg h3]
 by_cases h4 : bs = [88, 75]
 · rw [if_pos h4]; subst h4
   by_cases hl : (4 : Int) < ((ps.length : Nat) : Int)
   · rw [wR, if_pos hl]; exact (with_XK_long ps ex hl).told
   · rw [← withV_res hl (by decide)]; exact (with_XKw ps ex (by omega) hl).told
 rw [if_neg h4]
 by_cases h5 : bs = [75, 75]
 · rw [if_pos h5]; subst h5
   by_cases hl : (4 : Int) < ((ps.length : Nat) : Int)
   · rw [wR, if_pos hl]; exact (with_KK_long ps ex hl).told
   · rw [← withV_res hl (by decide)]; exact (with_KKw ps ex (by omega) hl).told
 rw [if_neg h5]
 by_cases h6 : bs = [88, 88, 102, 97, 108, 108, 98, 97, 99, 107]
 · rw [if_pos h6]; subst h6
   by_cases hl : (4 : Int) < ((ps.length : Nat) : Int)
   · rw [wR, if_pos hl]; exact (with_XXfallback_long ps ex hl).told
   · rw [← withV_res hl (by decide)]; exact (with_XXfallbackw ps ex (by omega) hl).told
 rw [if_neg h6]
 exact (with_no bs h0 h1 h2 h3 h4 h5 h6 ps ex).told
set_option maxHeartbeats 1600000 in
set_option maxRecDepth 100000 in
theorem rwith_no (bs : List UInt8) (h0 : ¬ bs = [78, 78]) (h1 : ¬ bs = [78, 75]) (h2 : ¬ bs = [88, 88]) (h3 : ¬ bs = [73, 75]) (h4 : ¬ bs = [88, 75]) (h5 : ¬ bs = [75, 75]) (h6 : ¬ bs = [88, 88, 102, 97, 108, 108, 98, 97, 99, 107]) (ps : List Int) (ex : Bool) :
 CtM Tryd.prog 7 [.w (.one (.pl (.str bs))), .w (.one (.pl (.R ex 1 (iRows ps))))] [(1000000, ⟨false, bytesC spaceL⟩)] (Told (fun v m => v = .tup [.agg zeroP, .one (.pl (.i 5))] ∧ m = [])) := by
 have F0 := trivial
 have cv0 := Ct.cv (pt_no bs h0 h1 h2 h3 h4 h5 h6)
 have zF : FG [15, 16, 17, 18, 19, 20, 21, 22, 23, 24, 25, 26, 27, 28, 29, 33, 34, 35, 36, 37, 38, 39, 40, 41, 42, 43, 44, 45, 46, 47, 48, 49, 50, 51, 52, 53, 54, 55, 56, 57, 58, 59, 60, 61, 62, 63, 64, 65, 66, 67, 68, 69, 70, 71, 72, 73, 74, 75, 76, 77, 78, 79, 83, 84, 85, 86, 87, 88, 89, 92, 93, 94] := trivial
 have zd0 : DR 21 [65, 66, 67, 68, 69, 70, 71, 72, 73, 74, 75, 76, 77, 78, 12] [0, 0, 2, 0, 0, 16, 48, 112, 0, 256, 768, 2032, 4080, 8191, 0, 32767] [] := trivial
 have zd1 : DR 25 [86, 87, 88, 89, 90, 91, 92] [0, 1, 0, 4, 12, 31, 63, 127] [] := trivial
 exact CtM.run Tryd.func7 rfl Tryd.ntmps7 Tryd.results7
set_option maxHeartbeats 1600000 in
set_option maxRecDepth 100000 in
theorem rwith_long (bs s : List UInt8) (hs : ¬ s = []) (c1 : Ct Tryd.prog 14 [.w (.one (.pl (.str bs)))] (fun v m => v = .w (.one (.pl (.str s))))) (ps : List Int) (ex : Bool) (hl : (4 : Int) < ((ps.length : Nat) : Int)) :
 CtM Tryd.prog 7 [.w (.one (.pl (.str bs))), .w (.one (.pl (.R ex 1 (iRows ps))))] [(1000000, ⟨false, bytesC spaceL⟩)] (Told (fun v m => v = .tup [.agg zeroP, .one (.pl (.i 1))] ∧ m = [])) := by
 have F0 := And.intro hs <| And.intro iRows_length <| hl
 have cv0 := Ct.cv (c1)
 have zF : FG [15, 16, 17, 18, 19, 20, 21, 22, 23, 24, 25, 26, 27, 28, 29, 33, 34, 35, 36, 37, 38, 39, 40, 41, 42, 43, 44, 45, 46, 47, 48, 49, 50, 51, 52, 53, 54, 55, 56, 57, 58, 59, 60, 61, 62, 63, 64, 65, 66, 67, 68, 69, 70, 71, 72, 73, 74, 75, 76, 77, 78, 79, 83, 84, 85, 86, 87, 88, 89, 92, 93, 94] := trivial
 have zd0 : DR 21 [65, 66, 67, 68, 69, 70, 71, 72, 73, 74, 75, 76, 77, 78, 12] [0, 0, 2, 0, 0, 16, 48, 112, 0, 256, 768, 2032, 4080, 8191, 0, 32767] [] := trivial
 have zd1 : DR 25 [86, 87, 88, 89, 90, 91, 92] [0, 1, 0, 4, 12, 31, 63, 127] [] := trivial
 exact CtM.run Tryd.func7 rfl Tryd.ntmps7 Tryd.results7
theorem rwith_all (bs : List UInt8) (ps : List Int) (ex : Bool) : CtM Tryd.prog 7 [.w (.one (.pl (.str bs))), .w (.one (.pl (.R ex 1 (iRows ps))))] [(1000000, ⟨false, bytesC spaceL⟩)] (fun v m => v = outPV bs ex ps (wRes bs ps) ∧ m = []) := by
 unfold wRes
 by_cases h0 : bs = [78, 78]
 · rw [if_pos h0]; subst h0
   by_cases hl : (4 : Int) < ((ps.length : Nat) : Int)
   · rw [wR, if_pos hl]; exact (rwith_long _ _ (by decide) pt_NN ps ex hl).told
   · rw [← rwV_res hl tk_NN]; exact (rwith2_w _ _ _ _ _ _ _ ps ex (by decide) (by decide) hl ⟨rfl, by decide, rfl, rfl⟩ pt_NN ts_NN sp_NN).told
 rw [if_neg h0]
 by_cases h1 : bs = [78, 75]
 · rw [if_pos h1]; subst h1
   by_cases hl : (4 : Int) < ((ps.length : Nat) : Int)
   · rw [wR, if_pos hl]; exact (rwith_long _ _ (by decide) pt_NK ps ex hl).told
   · rw [← rwV_res hl tk_NK]; exact (rwith2_w _ _ _ _ _ _ _ ps ex (by decide) (by decide) hl ⟨rfl, by decide, rfl, rfl⟩ pt_NK ts_NK sp_NK).told
 rw [if_neg h1]
 by_cases h2 : bs = [88, 88]
 · rw [if_pos h2]; subst h2
   by_cases hl : (4 : Int) < ((ps.length : Nat) : Int)
   · rw [wR, if_pos hl]; exact (rwith_long _ _ (by decide) pt_XX ps ex hl).told
   · rw [← rwV_res hl tk_XX]; exact (rwith3_w _ _ _ _ _ _ _ ps ex (by decide) (by decide) hl ⟨rfl, by decide, rfl, rfl⟩ pt_XX ts_XX sp_XX).told
 rw [if_neg h2]
 by_cases h3 : bs = [73, 75]
 · rw [if_pos h3]; subst h3
   by_cases hl : (4 : Int) < ((ps.length : Nat) : Int)
   · rw [wR, if_pos hl]; exact (rwith_long _ _ (by decide) pt_IK ps ex hl).told
   · rw [← rwV_res hl tk_IK]; exact (rwith2_w _ _ _ _ _ _ _ ps ex (by decide) (by decide) hl ⟨rfl, by decide, rfl, rfl⟩ pt_IK ts_IK sp_IK).told
 rw [if_neg h3]
 by_cases h4 : bs = [88, 75]
 · rw [if_pos h4]; subst h4
   by_cases hl : (4 : Int) < ((ps.length : Nat) : Int)
   · rw [wR, if_pos hl]; exact (rwith_long _ _ (by decide) pt_XK ps ex hl).told
   · rw [← rwV_res hl tk_XK]; exact (rwith3_w _ _ _ _ _ _ _ ps ex (by decide) (by decide) hl ⟨rfl, by decide, rfl, rfl⟩ pt_XK ts_XK sp_XK).told
 rw [if_neg h4]
 by_cases h5 : bs = [75, 75]
 · rw [if_pos h5]; subst h5
   by_cases hl : (4 : Int) < ((ps.length : Nat) : Int)
   · rw [wR, if_pos hl]; exact (rwith_long _ _ (by decide) pt_KK ps ex hl).told
   · rw [← rwV_res hl tk_KK]; exact (rwith2_w _ _ _ _ _ _ _ ps ex (by decide) (by decide) hl ⟨rfl, by decide, rfl, rfl⟩ pt_KK ts_KK sp_KK).told
 rw [if_neg h5]
 by_cases h6 : bs = [88, 88, 102, 97, 108, 108, 98, 97, 99, 107]
 · rw [if_pos h6]; subst h6
   by_cases hl : (4 : Int) < ((ps.length : Nat) : Int)
   · rw [wR, if_pos hl]; exact (rwith_long _ _ (by decide) pt_XXfallback ps ex hl).told
   · rw [← rwV_res hl tk_XXfallback]; exact (rwith2_w _ _ _ _ _ _ _ ps ex (by decide) (by decide) hl ⟨rfl, by decide, rfl, rfl⟩ pt_XXfallback ts_XXfallback sp_XXfallback).told
 rw [if_neg h6]
 exact (rwith_no bs h0 h1 h2 h3 h4 h5 h6 ps ex).told
end Go.Sy

