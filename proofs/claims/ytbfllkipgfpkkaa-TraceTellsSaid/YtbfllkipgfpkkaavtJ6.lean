/- Walks: a pattern is checked; the faults of its lists. -/
import Derived.Test.YtbfllkipgfpkkaavtJ4
import Derived.Test.YtbfllkipgfpkkaavtJ5
set_option linter.unusedVariables false
set_option linter.unusedSimpArgs false
namespace Go.Sy
open Go.Proofs
attribute [local irreducible] atCall HT runOps runD onC onE onO onG goV goA goS onSt onGuard
def iRows (l : List Int) : List (List PL) := l.map fun x => [.i x]
def tRows (ts : List (List Int)) : List (List PL) := ts.map fun l => [.R false 1 (iRows l)]
theorem iRows_length (l : List Int) : (iRows l).length = l.length := by simp [iRows]
theorem tRows_length (l : List (List Int)) : (tRows l).length = l.length := by simp [tRows]
theorem iRows_get {l : List Int} {n : Nat} (h : n < l.length) : (iRows l).getD n [] = [.i (l.getD n 0)] := by simp [iRows, List.getD, List.getElem?_map, List.getElem?_eq_getElem h]
theorem tRows_get {l : List (List Int)} {n : Nat} (h : n < l.length) : (tRows l).getD n [] = [.R false 1 (iRows (l.getD n []))] := by simp [tRows, List.getD, List.getElem?_map, List.getElem?_eq_getElem h]
def patC (bs : List UInt8) (lt : Bool) (ps : List (List PL)) (p0 p1 : List Int) (ts : List (List Int)) : List L := [.pl (.str bs), .pl (.b lt), .pl (.R false 1 ps), .pl (.R false 1 (iRows p0)), .pl (.R false 1 (iRows p1)), .pl (.R false 1 (tRows ts))]
theorem wnat {a : Int} {n : Nat} (h : a = (n : Int)) (hn : n ≤ 9223372036854775807) : Go.RowKit.wrap64 a = (n : Int) := by subst h; exact w64 (by omega)
def allC (ls : List (List Int)) : List L := ls.map fun l => .pl (.R false 1 (iRows l))
theorem allC_eq (p0 p1 : List Int) (ts : List (List Int)) : L.pl (.R false 1 (iRows p0)) :: L.pl (.R false 1 (iRows p1)) :: pls (tRows ts).flatten = allC (p0 :: p1 :: ts) := by
 simp only [allC, List.map_cons, tRows]
 congr 2
 induction ts with
 | nil => rfl
 | cons t r ih => simp only [List.map_cons, List.flatten_cons, List.cons_append, List.nil_append, pls] at ih ⊢; rw [ih]
theorem allC_has (k : Nat) (ls : List (List Int)) : (allC ls).any (L.has k) = false := by
 induction ls with
 | nil => rfl
 | cons a r ih => simp only [allC, List.map_cons, List.any_cons, L.has, Bool.false_or]; exact ih
theorem allC_length (ls : List (List Int)) : (allC ls).length = ls.length := by simp [allC]
theorem allC_get {ls : List (List Int)} {n : Nat} (h : n < ls.length) : List.take 1 (List.drop n (allC ls)) = [.pl (.R false 1 (iRows (ls.getD n [])))] := by
 have hl : n < (allC ls).length := by rw [allC_length]; exact h
 rw [List.drop_eq_getElem_cons hl, List.take_succ_cons, List.take_zero]
 simp [allC, List.getD, List.getElem?_eq_getElem h]
theorem drop_getD {α : Type} {l : List α} {n : Nat} {z : α} (h : n < l.length) : l.drop n = l.getD n z :: l.drop (n + 1) := by
 rw [List.drop_eq_getElem_cons h]; simp [List.getD, List.getElem?_eq_getElem h]
theorem getD_mem' {α : Type} {l : List α} {n : Nat} {z : α} (h : n < l.length) : l.getD n z ∈ l := by
 simp [List.getD, List.getElem?_eq_getElem h]
def whoI (b : Bool) : Int := if b then 1 else 0
theorem who_f (i : Nat) : Int.tmod ((i : Nat) : Int) 2 = whoI (whoT false i) := by
 rw [whoT, whoI, Int.tmod_eq_emod_of_nonneg (by omega)]
 rcases Nat.mod_two_eq_zero_or_one i with h | h <;> simp [h] <;> omega
theorem who_t (i : Nat) : Int.tmod ((i : Nat) : Int) 2 = whoI (!(whoT true i)) := by
 rw [whoT, whoI, Int.tmod_eq_emod_of_nonneg (by omega)]
 rcases Nat.mod_two_eq_zero_or_one i with h | h <;> simp [h] <;> omega
theorem who_2 (b : Bool) : Go.RowKit.wrap64 (1 - whoI (!b)) = whoI b := by
 cases b
 · exact w64 (n := 0) (by decide)
 · exact w64 (n := 1) (by decide)
theorem tok_all (j : Jd) (b : Bool) (t : Int) (h1 : 1 ≤ t) (h7 : t ≤ 7) : CtM Try.prog 17 [.w (.one (.p 500000 [])), .w (.one (.pl (.i (whoI b)))), .w (.one (.pl (.i t)))] (jM j) (fun v m => v = .w (.one (.pl (.b (j.token b t).1))) ∧ m = jM (j.token b t).2) := by
 obtain rfl | rfl | rfl | rfl | rfl | rfl | rfl : t = 1 ∨ t = 2 ∨ t = 3 ∨ t = 4 ∨ t = 5 ∨ t = 6 ∨ t = 7 := by omega
 · cases b; exact token_01 j; exact token_11 j
 · cases b; exact token_02 j; exact token_12 j
 · cases b; exact token_03 j; exact token_13 j
 · cases b; exact token_04 j; exact token_14 j
 · cases b; exact token_05 j; exact token_15 j
 · cases b; exact token_06 j; exact token_16 j
 · cases b; exact token_07 j; exact token_17 j
theorem may_all (j : Jd) (b : Bool) : CtM Try.prog 19 [.w (.one (.p 500000 [])), .w (.one (.pl (.i (whoI b))))] (jM j) (fun v m => v = .w (.one (.pl (.b (j.may b)))) ∧ m = jM j) := by
 cases b; exact may_0 j; exact may_1 j
theorem toldJ_all (j : Jd) (b f : Bool) (t : Int) (ht : t = 1 ∨ t = 2) (hf : j.flag b t = f) : CtM Try.prog 16 [.w (.one (.p 500000 [])), .w (.one (.pl (.i (whoI b)))), .w (.one (.pl (.i t)))] (jM j) (fun v m => v = .w (.one (.pl (.b (!f)))) ∧ m = jM (if f then j else j.tell b t)) := by
 rcases ht with rfl | rfl <;> cases b <;> cases f
 · exact told_01_f j hf
 · exact told_01_t j hf
 · exact told_11_f j hf
 · exact told_11_t j hf
 · exact told_02_f j hf
 · exact told_02_t j hf
 · exact told_12_f j hf
 · exact told_12_t j hf
theorem chk_len {lt p0 p1 ts} (h : ((ts.length : Nat) : Int) < 1 ∨ (5 : Int) < ((ts.length : Nat) : Int)) : checkJ lt p0 p1 ts = 1 := by
 unfold checkJ; rw [if_pos (by omega)]
theorem chk_scan {lt p0 p1 ts} {e : Int} (hn : ¬ (ts.length < 1 ∨ 5 < ts.length)) (h : e = scan (p0 :: p1 :: ts)) (he : e ≠ 0) : checkJ lt p0 p1 ts = e := by
 unfold checkJ; rw [if_neg hn, if_pos (by rw [← h]; exact he), ← h]
theorem chk_pre0 {lt p0 p1 ts} (hn : ¬ (ts.length < 1 ∨ 5 < ts.length)) (hz : scan (p0 :: p1 :: ts) = 0) (h : none = preJ .nil false p0) : checkJ lt p0 p1 ts = 3 := by
 unfold checkJ; rw [if_neg hn, if_neg (by simp [hz]), ← h]
theorem chk_pre1 {lt p0 p1 ts j} (hn : ¬ (ts.length < 1 ∨ 5 < ts.length)) (hz : scan (p0 :: p1 :: ts) = 0) (h0 : some j = preJ .nil false p0) (h : none = preJ j true p1) : checkJ lt p0 p1 ts = 3 := by
 unfold checkJ; rw [if_neg hn, if_neg (by simp [hz]), ← h0]; simp only; rw [← h]
theorem chk_turns {lt p0 p1 ts j k} (hn : ¬ (ts.length < 1 ∨ 5 < ts.length)) (hz : scan (p0 :: p1 :: ts) = 0) (h0 : some j = preJ .nil false p0) (h : some k = preJ j true p1) : checkJ lt p0 p1 ts = turnsJ lt k 0 ts := by
 unfold checkJ; rw [if_neg hn, if_neg (by simp [hz]), ← h0]; simp only; rw [← h]
set_option maxHeartbeats 400000 in
set_option maxRecDepth 100000 in
theorem pcheck_len0 (bs : List UInt8) (lt : Bool) (ps : List (List PL)) (p0 p1 : List Int) (ts : List (List Int)) (h1 : ((ts.length : Nat) : Int) < 1) :
 Ct Try.prog 7 [.w (.agg (patC bs lt ps p0 p1 ts))] (fun v m => v = .w (.one (.pl (.i (checkJ lt p0 p1 ts))))) := by
 refine Ct.k Try.func7 rfl Try.ntmps7 (congrArg Array.toList Try.results7) (by simp) fun w0 ro => ?_
 refine top_k fun zZ zhZ => ?_
 iterate 11 first
  | (refine sr_k fun zK zhK => ?_; simp only [go_sem, patC, tRows_length, iRows_length, h1]; (repeat' (first | apply And.intro | intro _)))
  | refine zhK _ ?_
  | refine ret_k ?_
  | (refine zhM _ _ ?_; clear zhN zhM)
  | (refine zhZ _ _ ?_; simp only [go_sem, patC, tRows_length, iRows_length, h1]; (all_goals (rw [chk_len (.inl h1)])))
  | refine seq_k fun zN zM zhN zhM => ?_
  | (refine condT_k ?_ ?_; focus (first | rfl | (simp [go_sem, patC, tRows_length, iRows_length, h1]; done)))
set_option maxHeartbeats 400000 in
set_option maxRecDepth 100000 in
theorem pcheck_len1 (bs : List UInt8) (lt : Bool) (ps : List (List PL)) (p0 p1 : List Int) (ts : List (List Int)) (h1 : ¬ ((ts.length : Nat) : Int) < 1) (h2 : (5 : Int) < ((ts.length : Nat) : Int)) :
 Ct Try.prog 7 [.w (.agg (patC bs lt ps p0 p1 ts))] (fun v m => v = .w (.one (.pl (.i (checkJ lt p0 p1 ts))))) := by
 refine Ct.k Try.func7 rfl Try.ntmps7 (congrArg Array.toList Try.results7) (by simp) fun w0 ro => ?_
 refine top_k fun zZ zhZ => ?_
 iterate 11 first
  | (refine sr_k fun zK zhK => ?_; simp only [go_sem, patC, tRows_length, iRows_length, h1, h2]; (repeat' (first | apply And.intro | intro _)))
  | refine zhK _ ?_
  | refine ret_k ?_
  | (refine zhM _ _ ?_; clear zhN zhM)
  | (refine zhZ _ _ ?_; simp only [go_sem, patC, tRows_length, iRows_length, h1, h2]; (all_goals (rw [chk_len (.inr h2)])))
  | refine seq_k fun zN zM zhN zhM => ?_
  | (refine condT_k ?_ ?_; focus (first | rfl | (simp [go_sem, patC, tRows_length, iRows_length, h1, h2]; done)))
end Go.Sy

