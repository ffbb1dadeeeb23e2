/- Places of psks in a pattern: which may be; the pattern with them. -/
import Derived.Test.YtbfllkipgfpkkaaDoorvE2
set_option linter.unusedVariables false
set_option linter.unusedSimpArgs false
namespace Go.Sy
def wchk (n last : Int) : List Int → Int
  | [] => 0
  | x :: r => if x < 0 ∨ n < x then 6 else if x ≤ last then 3 else wchk n x r
theorem wchk_nil (n last : Int) : wchk n last [] = 0 := rfl
theorem wchk_cons (n last x : Int) (r : List Int) : wchk n last (x :: r) = if x < 0 ∨ n < x then 6 else if x ≤ last then 3 else wchk n x r := rfl
theorem wchk_step {n last x : Int} {r : List Int} (h : wchk n last (x :: r) = 0) : 0 ≤ x ∧ x ≤ n ∧ last < x ∧ wchk n x r = 0 := by
  rw [wchk_cons] at h
  by_cases h1 : x < 0 ∨ n < x
  · rw [if_pos h1] at h; omega
  · rw [if_neg h1] at h
    by_cases h2 : x ≤ last
    · rw [if_pos h2] at h; omega
    · rw [if_neg h2] at h; exact ⟨by omega, by omega, by omega, h⟩
theorem wchk_end {n : Int} {r : List Int} (h : wchk n n r = 0) : r = [] := by
  cases r with
  | nil => rfl
  | cons x r => obtain ⟨_, h2, h3, _⟩ := wchk_step h; omega
theorem wv2_2 {r : List Int} (h : wchk 2 (1) r = 0) : r = [] ∨ r = [2] := by
  cases r with
  | nil => simp
  | cons x r =>
    obtain ⟨h1, h2, h3, h4⟩ := wchk_step h
    rcases (by omega : x = 2) with rfl
    · rw [wchk_end h4]; simp
theorem wv2_1 {r : List Int} (h : wchk 2 (0) r = 0) : r = [] ∨ r = [1] ∨ r = [1, 2] ∨ r = [2] := by
  cases r with
  | nil => simp
  | cons x r =>
    obtain ⟨h1, h2, h3, h4⟩ := wchk_step h
    rcases (by omega : x = 1 ∨ x = 2) with rfl | rfl
    · rcases wv2_2 h4 with rfl | rfl <;> simp
    · rw [wchk_end h4]; simp
theorem wv2_0 {r : List Int} (h : wchk 2 (-1) r = 0) : r = [] ∨ r = [0] ∨ r = [0, 1] ∨ r = [0, 2] ∨ r = [0, 1, 2] ∨ r = [1] ∨ r = [1, 2] ∨ r = [2] := by
  cases r with
  | nil => simp
  | cons x r =>
    obtain ⟨h1, h2, h3, h4⟩ := wchk_step h
    rcases (by omega : x = 0 ∨ x = 1 ∨ x = 2) with rfl | rfl | rfl
    · rcases wv2_1 h4 with rfl | rfl | rfl | rfl <;> simp
    · rcases wv2_2 h4 with rfl | rfl <;> simp
    · rw [wchk_end h4]; simp
theorem wv3_3 {r : List Int} (h : wchk 3 (2) r = 0) : r = [] ∨ r = [3] := by
  cases r with
  | nil => simp
  | cons x r =>
    obtain ⟨h1, h2, h3, h4⟩ := wchk_step h
    rcases (by omega : x = 3) with rfl
    · rw [wchk_end h4]; simp
theorem wv3_2 {r : List Int} (h : wchk 3 (1) r = 0) : r = [] ∨ r = [2] ∨ r = [2, 3] ∨ r = [3] := by
  cases r with
  | nil => simp
  | cons x r =>
    obtain ⟨h1, h2, h3, h4⟩ := wchk_step h
    rcases (by omega : x = 2 ∨ x = 3) with rfl | rfl
    · rcases wv3_3 h4 with rfl | rfl <;> simp
    · rw [wchk_end h4]; simp
theorem wv3_1 {r : List Int} (h : wchk 3 (0) r = 0) : r = [] ∨ r = [1] ∨ r = [1, 2] ∨ r = [1, 3] ∨ r = [1, 2, 3] ∨ r = [2] ∨ r = [2, 3] ∨ r = [3] := by
  cases r with
  | nil => simp
  | cons x r =>
    obtain ⟨h1, h2, h3, h4⟩ := wchk_step h
    rcases (by omega : x = 1 ∨ x = 2 ∨ x = 3) with rfl | rfl | rfl
    · rcases wv3_2 h4 with rfl | rfl | rfl | rfl <;> simp
    · rcases wv3_3 h4 with rfl | rfl <;> simp
    · rw [wchk_end h4]; simp
theorem wv3_0 {r : List Int} (h : wchk 3 (-1) r = 0) : r = [] ∨ r = [0] ∨ r = [0, 1] ∨ r = [0, 2] ∨ r = [0, 3] ∨ r = [0, 1, 2] ∨ r = [0, 1, 3] ∨ r = [0, 2, 3] ∨ r = [0, 1, 2, 3] ∨ r = [1] ∨ r = [1, 2] ∨ r = [1, 3] ∨ r = [1, 2, 3] ∨ r = [2] ∨ r = [2, 3] ∨ r = [3] := by
  cases r with
  | nil => simp
  | cons x r =>
    obtain ⟨h1, h2, h3, h4⟩ := wchk_step h
    rcases (by omega : x = 0 ∨ x = 1 ∨ x = 2 ∨ x = 3) with rfl | rfl | rfl | rfl
    · rcases wv3_1 h4 with rfl | rfl | rfl | rfl | rfl | rfl | rfl | rfl <;> simp
    · rcases wv3_2 h4 with rfl | rfl | rfl | rfl <;> simp
    · rcases wv3_3 h4 with rfl | rfl <;> simp
    · rw [wchk_end h4]; simp
def iRows (l : List Int) : List (List PL) := l.map fun x => [.i x]
def tRows (ts : List (List Int)) : List (List PL) := ts.map fun l => [.R false 1 (iRows l)]
theorem iRows_length (l : List Int) : (iRows l).length = l.length := by simp [iRows]
theorem iRows_get {l : List Int} {n : Nat} (h : n < l.length) : (iRows l).getD n [] = [.i (l.getD n 0)] := by simp [iRows, List.getD, List.getElem?_map, List.getElem?_eq_getElem h]
theorem drop_getD {α : Type} {l : List α} {n : Nat} {z : α} (h : n < l.length) : l.drop n = l.getD n z :: l.drop (n + 1) := by
  rw [List.drop_eq_getElem_cons h]; simp [List.getD, List.getElem?_eq_getElem h]
theorem wnat {a : Int} {n : Nat} (h : a = (n : Int)) (hn : n ≤ 9223372036854775807) : Go.RowKit.wrap64 a = (n : Int) := by subst h; exact w64 (by omega)
theorem ltI {j n : Nat} (h : j < n) : ((j : Nat) : Int) < ((n : Nat) : Int) := Int.ofNat_lt.mpr h
theorem nltI {n : Nat} : ¬ ((n : Nat) : Int) < ((n : Nat) : Int) := Int.lt_irrefl _
theorem wsucc {j n : Nat} (h : j < n) (hn : n ≤ 1000000) : Go.RowKit.wrap64 ((j : Int) + 1) = ((j + 1 : Nat) : Int) := wnat (by omega) (by omega)
theorem wpred {j : Nat} (h : 0 < j) (hn : j ≤ 1000000) : Go.RowKit.wrap64 ((j : Int) - 1) = ((j - 1 : Nat) : Int) := wnat (by omega) (by omega)
def addP (ts : List (List Int)) : List Int → List (List Int)
  | [] => ts
  | n :: r => addP (if n = 0 then ts.set 0 (7 :: ts.getD 0 []) else ts.set (n.toNat - 1) (ts.getD (n.toNat - 1) [] ++ [7])) r
def rowP (l : List Int) : PL := match l with | [] => .R true 1 [] | _ :: _ => .R false 1 (iRows l)
def patP (bs : List UInt8) (lt : Bool) (ps p0 p1 : List Int) (ts : List (List Int)) : List L := [.pl (.str bs), .pl (.b lt), .pl (.R false 1 (iRows ps)), .pl (rowP p0), .pl (rowP p1), .pl (.R false 1 (tRows ts))]
abbrev zeroP : List L := [.pl (.str []), .pl (.b false), .pl (.R true 1 []), .pl (.R true 1 []), .pl (.R true 1 []), .pl (.R true 1 [])]
def withV (bs : List UInt8) (lt : Bool) (p0 p1 : List Int) (ts : List (List Int)) (n : Int) (ps : List Int) : V := if wchk n (-1) ps = 0 then .tup [.agg (patP bs lt ps p0 p1 (addP ts ps)), .one (.pl (.i 0))] else .tup [.agg zeroP, .one (.pl (.i (wchk n (-1) ps)))]
theorem withV_bad {bs lt p0 p1 ts n ps} {e : Int} (h : e = wchk n (-1) ps) (he : e ≠ 0) : withV bs lt p0 p1 ts n ps = .tup [.agg zeroP, .one (.pl (.i e))] := by
  unfold withV; rw [← h, if_neg he]
theorem ir_nil : iRows [] = [] := rfl
theorem ir_cons (x : Int) (l : List Int) : iRows (x :: l) = [.i x] :: iRows l := rfl
theorem gd0 (a : List PL) (l : List (List PL)) : (a :: l).getD 0 [] = a := rfl
theorem gd1 (a b : List PL) (l : List (List PL)) : (a :: b :: l).getD 1 [] = b := rfl
theorem gd2 (a b c : List PL) (l : List (List PL)) : (a :: b :: c :: l).getD 2 [] = c := rfl
theorem gd3 (a b c d : List PL) (l : List (List PL)) : (a :: b :: c :: d :: l).getD 3 [] = d := rfl
def lastP (ps : List Int) (i : Nat) : Int := if i = 0 then -1 else ps.getD (i - 1) 0
end Go.Sy

