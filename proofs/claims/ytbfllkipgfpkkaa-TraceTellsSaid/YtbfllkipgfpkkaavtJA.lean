/- What happened, laid down in memory; the reference's tokens, with the lock behind them. -/
import Derived.Test.YtbfllkipgfpkkaavtJ9
import Derived.Test.YtbfllkipgfpkkaavE3
set_option linter.unusedVariables false
set_option linter.unusedSimpArgs false
namespace Go.Sy
open Go.Proofs
attribute [local irreducible] atCall HT runOps runD onC onE onO onG goV goA goS onSt onGuard
def evC (l : List (Bool × Int)) : List L := pls (evRows l).flatten
def evV (nm : Nat) (l : List (Bool × Int)) : V := match l with | [] => .w (.one (.pl (.R true 1 []))) | _ :: _ => .w (.one (.s nm [] l.length 2))
def evM (nm : Nat) (l : List (Bool × Int)) : List (Nat × Ob) := match l with | [] => [] | _ :: _ => [(nm, ⟨true, evC l⟩)]
theorem evV_nil (nm : Nat) : evV nm [] = .w (.one (.pl (.R true 1 []))) := rfl
theorem evM_nil (nm : Nat) : evM nm [] = [] := rfl
theorem evV_own {nm : Nat} {l : List (Bool × Int)} (h : l ≠ []) : evV nm l = .w (.one (.s nm [] l.length 2)) := by cases l with | nil => exact absurd rfl h | cons a r => rfl
theorem evM_own {nm : Nat} {l : List (Bool × Int)} (h : l ≠ []) : evM nm l = [(nm, ⟨true, evC l⟩)] := by cases l with | nil => exact absurd rfl h | cons a r => rfl
theorem len_snoc {α : Type} {l : List α} {x : α} {n : Nat} (h : l.length ≤ n) : (l ++ [x]).length ≤ n + 1 := by simp only [List.length_append, List.length_cons, List.length_nil]; omega
theorem len_turn {a q l i : Nat} (h1 : a ≤ q + (l + 1)) (h2 : q ≤ 12 + 7 * i) (h3 : l ≤ 6) : a ≤ 12 + 7 * (i + 1) := by omega
theorem b60a {a j n : Nat} (h : a ≤ j) (h1 : j < n) (h2 : n ≤ 6) : a ≤ 60 := by omega
theorem b60b {a j n : Nat} (h : a ≤ 6 + j) (h1 : j < n) (h2 : n ≤ 6) : a ≤ 60 := by omega
theorem b60c {a i n : Nat} (h : a ≤ 12 + 7 * i) (h1 : i < n) (h2 : n ≤ 5) : a ≤ 40 := by omega
theorem b60d {a q j n : Nat} (h : a ≤ q + j) (hq : q ≤ 40) (h1 : j ≤ n + 1) (h2 : n ≤ 6) : a ≤ 60 := by omega
theorem cap16 {n : Nat} (h : n ≤ 60) : (n + 1) * 16 ≤ 140737488355328 := Nat.le_trans (Nat.mul_le_mul_right 16 (Nat.succ_le_succ h)) (by decide)
theorem cap8 {n : Nat} (h : n ≤ 60) : n * 8 ≤ 140737488355328 := Nat.le_trans (Nat.mul_le_mul_right 8 h) (by decide)
theorem lenI {n : Nat} (h : n ≤ 60) : n ≤ 9223372036854775807 := Nat.le_trans h (by decide)
theorem snoc_ne {α : Type} (l : List α) (x : α) : l ++ [x] ≠ [] := by simp
theorem evM_look {nm k : Nat} (h : nm ≠ k) (l : List (Bool × Int)) (M : List (Nat × Ob)) : look (evM nm l ++ M) k = look M k := by
 cases l with
 | nil => rfl
 | cons a r => simp only [evM, List.cons_append, List.nil_append, look]; first | rfl | (rw [if_neg h]) | (rw [if_neg (fun e => h e.symm)]) | simp [h]
theorem evV_one (nm : Nat) (x : Bool × Int) : evV nm [x] = .w (.one (.s nm [] 1 2)) := rfl
theorem evM_one (nm : Nat) (w : Bool) (t : Int) : evM nm [(w, t)] = [(nm, ⟨true, [.pl (.i (whoI w)), .pl (.i t)]⟩)] := rfl
theorem flatPL_nil : ([] : List (List PL)).flatten = [] := rfl
theorem wsucc {j n : Nat} (h : j < n) (hn : n ≤ 1000000) : Go.RowKit.wrap64 ((j : Int) + 1) = ((j + 1 : Nat) : Int) := wnat (by omega) (by omega)
theorem ltI {j n : Nat} (h : j < n) : ((j : Nat) : Int) < ((n : Nat) : Int) := Int.ofNat_lt.mpr h
theorem nltI {n : Nat} : ¬ ((n : Nat) : Int) < ((n : Nat) : Int) := Int.lt_irrefl _
theorem whoI_f : whoI false = 0 := rfl
theorem whoI_t : whoI true = 1 := rfl
theorem evC_snoc (l : List (Bool × Int)) (w : Bool) (t : Int) : evC (l ++ [(w, t)]) = evC l ++ [.pl (.i (whoI w)), .pl (.i t)] := by simp [evC, evRows, pls]
theorem evV_snoc (nm : Nat) (l : List (Bool × Int)) (x : Bool × Int) : evV nm (l ++ [x]) = .w (.one (.s nm [] (l.length + 1) 2)) := by
 rw [evV_own (by simp)]; simp
theorem evM_snoc (nm : Nat) (l : List (Bool × Int)) (w : Bool) (t : Int) : evM nm (l ++ [(w, t)]) = [(nm, ⟨true, evC l ++ [.pl (.i (whoI w)), .pl (.i t)]⟩)] := by
 rw [evM_own (by simp), evC_snoc]
theorem evFlat_length (l : List (Bool × Int)) : (evRows l).flatten.length = l.length * 2 := by
 induction l with
 | nil => rfl
 | cons a r ih => simp only [evRows, List.map_cons, List.flatten_cons, List.length_append, List.length_cons, List.length_nil] at ih ⊢; omega
theorem evC_length (l : List (Bool × Int)) : (evC l).length = l.length * 2 := by rw [evC, pls, List.length_map, evFlat_length]
theorem evC_unpl (l : List (Bool × Int)) : unpl (evC l) = some (evRows l).flatten := unpl_pls _
theorem evC_has (l : List (Bool × Int)) (k : Nat) : (evC l).any (L.has k) = false := pls_has k _
theorem evC_chunks : ∀ l : List (Bool × Int), chunks 2 l.length (evRows l).flatten = evRows l
 | [] => rfl
 | a :: r => by
  have ih := evC_chunks r
  simp only [evRows, List.map_cons, List.flatten_cons, List.length_cons] at ih ⊢
  simp only [chunks, List.cons_append, List.nil_append, List.take_succ_cons, List.take_zero, List.drop_succ_cons, List.drop_zero]
  rw [ih]
def iC (l : List Int) : List L := l.map fun x => .pl (.i x)
theorem iC_get {l : List Int} {n : Nat} (h : n < l.length) : List.take 1 (List.drop n (iC l)) = [.pl (.i (l.getD n 0))] := by
 have hl : n < (iC l).length := by simp only [iC, List.length_map]; exact h
 rw [List.drop_eq_getElem_cons hl, List.take_succ_cons, List.take_zero]
 simp [iC, List.getD, List.getElem?_eq_getElem h]
theorem iC_length (l : List Int) : (iC l).length = l.length := by simp [iC]
theorem iC_has (l : List Int) (k : Nat) : (iC l).any (L.has k) = false := by
 induction l with
 | nil => rfl
 | cons a r ih => simp only [iC, List.map_cons, List.any_cons, L.has, Bool.false_or]; exact ih
theorem iC_pls (l : List Int) : pls (iRows l).flatten = iC l := by
 induction l with
 | nil => rfl
 | cons a r ih => simp only [iRows, List.map_cons, List.flatten_cons, List.cons_append, List.nil_append, pls, iC] at ih ⊢; rw [ih]
theorem iC_snoc (l : List Int) (x : Int) : iC l ++ [.pl (.i x)] = iC (l ++ [x]) := by simp [iC]
theorem killJ_pls (k : Nat) (c : List PL) : (pls c).map (killL k) = pls c := by simp only [pls, List.map_map]; congr 1
theorem evC_kill (l : List (Bool × Int)) (k : Nat) : (evC l).map (killL k) = evC l := killJ_pls k _
theorem iC_kill (l : List Int) (k : Nat) : (iC l).map (killL k) = iC l := by rw [← iC_pls]; exact killJ_pls k _
theorem allC_unpl (ls : List (List Int)) : unpl (allC ls) = some (tRows ls).flatten := by
 have h : allC ls = pls (tRows ls).flatten := by
  induction ls with
  | nil => rfl
  | cons a r ih => simp only [allC, tRows, List.map_cons, List.flatten_cons, List.cons_append, List.nil_append, pls] at ih ⊢; rw [ih]
 rw [h]; exact unpl_pls _
theorem allC_chunks : ∀ ls : List (List Int), chunks 1 ls.length (tRows ls).flatten = tRows ls
 | [] => rfl
 | a :: r => by
  have ih := allC_chunks r
  simp only [tRows, List.map_cons, List.flatten_cons, List.length_cons] at ih ⊢
  simp only [chunks, List.cons_append, List.nil_append, List.take_succ_cons, List.take_zero, List.drop_succ_cons, List.drop_zero]
  rw [ih]
def turnX (l : List (Bool × Int)) (w : Bool) : List Int → Option (List (Bool × Int))
 | [] => some l
 | t :: r => if okE l w t then turnX (l ++ [(w, t)]) w r else none
theorem turnX_eq (w : Bool) : ∀ (ts : List Int) (l : List (Bool × Int)), turnX l w (ts ++ [0]) = turnE l w ts
 | [], l => rfl
 | t :: r, l => by rw [List.cons_append, turnX, turnE, turnX_eq w r]
theorem chp_len {lt p0 p1 ts} (h : ((ts.length : Nat) : Int) = 0 ∨ (5 : Int) < ((ts.length : Nat) : Int)) : checkP lt p0 p1 ts = 1 := by
 unfold checkP; rw [if_pos (by omega)]
theorem chp_scan {lt p0 p1 ts} {e : Int} (hn : ¬ (ts.length < 1 ∨ 5 < ts.length)) (h : scan (p0 :: p1 :: ts) = e) (he : e ≠ 0) : checkP lt p0 p1 ts = e := by
 unfold checkP; rw [if_neg hn, if_pos (by rw [h]; exact he), h]
theorem chp_pre0 {lt p0 p1 ts} (hn : ¬ (ts.length < 1 ∨ 5 < ts.length)) (hz : scan (p0 :: p1 :: ts) = 0) (h : none = preE [] false p0) : checkP lt p0 p1 ts = 3 := by
 unfold checkP; rw [if_neg hn, if_neg (by simp [hz]), ← h]
theorem chp_pre1 {lt p0 p1 ts j} (hn : ¬ (ts.length < 1 ∨ 5 < ts.length)) (hz : scan (p0 :: p1 :: ts) = 0) (h0 : some j = preE [] false p0) (h : none = preE j true p1) : checkP lt p0 p1 ts = 3 := by
 unfold checkP; rw [if_neg hn, if_neg (by simp [hz]), ← h0]; simp only; rw [← h]
theorem chp_turns {lt p0 p1 ts j k} (hn : ¬ (ts.length < 1 ∨ 5 < ts.length)) (hz : scan (p0 :: p1 :: ts) = 0) (h0 : some j = preE [] false p0) (h : some k = preE j true p1) : checkP lt p0 p1 ts = turnsE lt k 0 ts := by
 unfold checkP; rw [if_neg hn, if_neg (by simp [hz]), ← h0]; simp only; rw [← h]
theorem who_g (i : Nat) : Int.tmod (((i + 1 : Nat) : Int)) 2 = whoI (whoT true i) := by
 rw [whoT, whoI, Int.tmod_eq_emod_of_nonneg (by omega)]
 rcases Nat.mod_two_eq_zero_or_one i with h | h
 · have : (i + 1) % 2 = 1 := by omega
   simp [h]; omega
 · simp [h]; omega
theorem hap_w (l : List (Bool × Int)) (ex : Bool) (sz : Nat) (hsz : l ≠ [] → sz = 2) (hl : l.length ≤ 9223372036854775807) (w : Bool) (t : Int) (b : Bool) (h : hap l w t = b) : Ct Try.prog 21 [.w (.one (.pl (.R ex sz (evRows l)))), .w (.one (.pl (.i (whoI w)))), .w (.one (.pl (.i t)))] (fun v m => v = .w (.one (.pl (.b b)))) := by
 rw [← h, ← hapI_who]; exact happened_ l ex sz hsz hl (whoI w) t
theorem hap_a (l : List (Bool × Int)) (ex : Bool) (sz : Nat) (hsz : l ≠ [] → sz = 2) (hl : l.length ≤ 9223372036854775807) (t : Int) (b : Bool) (h : any l t = b) : Ct Try.prog 21 [.w (.one (.pl (.R ex sz (evRows l)))), .w (.one (.pl (.i (-1)))), .w (.one (.pl (.i t)))] (fun v m => v = .w (.one (.pl (.b b)))) := by
 rw [← h, ← hapI_any]; exact happened_ l ex sz hsz hl (-1) t
theorem may_w (l : List (Bool × Int)) (ex : Bool) (sz : Nat) (hsz : l ≠ [] → sz = 2) (hl : l.length ≤ 9223372036854775807) (w b : Bool) (h : lockM l w = b) : Ct Try.prog 22 [.w (.one (.pl (.R ex sz (evRows l)))), .w (.one (.pl (.i (whoI w))))] (fun v m => v = .w (.one (.pl (.b b)))) := by
 rw [← h]; exact maylock_ l ex sz hsz hl w
end Go.Sy

