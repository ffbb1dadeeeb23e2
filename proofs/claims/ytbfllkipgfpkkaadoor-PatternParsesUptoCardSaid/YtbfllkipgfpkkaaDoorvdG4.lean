/- Walks: the name of a protocol, parsed by the program. -/
import Derived.Test.YtbfllkipgfpkkaaDoorvdG3
set_option linter.unusedVariables false
set_option linter.unusedSimpArgs false
namespace Go.Sy
open Go.Proofs
attribute [local irreducible] atCall HT runOps runD onC onE onO onG goV goA goS onSt onGuard
def oP (bs : List UInt8) (ex : Bool) (ps : List Int) (r : Except Int PD) (i : Nat) : PL := match r with
 | .error _ => [PL.str [], .b false, .R true 1 [], .R true 1 [], .R true 1 [], .R true 1 []].getD i .u
 | .ok d => [PL.str bs, .b d.1, .R ex 1 (iRows ps), rowP d.2.1, rowP d.2.2.1, .R false 1 (d.2.2.2.map fun t => [rowP t])].getD i .u
def oE : Except Int PD → Int
 | .error e => e
 | .ok _ => 0
theorem outPV_eq (bs : List UInt8) (ex : Bool) (ps : List Int) (r : Except Int PD) : outPV bs ex ps r = .tup [.agg [.pl (oP bs ex ps r 0), .pl (oP bs ex ps r 1), .pl (oP bs ex ps r 2), .pl (oP bs ex ps r 3), .pl (oP bs ex ps r 4), .pl (oP bs ex ps r 5)], .one (.pl (.i (oE r)))] := by cases r <;> rfl
theorem wsucc2 {j n : Nat} (h : j < n) (hn : n ≤ 4000000) : Go.RowKit.wrap64 ((j : Int) + 1) = ((j + 1 : Nat) : Int) := wnat (by omega) (by omega)
theorem capI {a j n : Nat} (h : a ≤ j) (h1 : j < n) (h2 : n ≤ 4000000) : (a + 1) * 8 ≤ 140737488355328 := by omega
theorem sealI {nm : Nat} (l : List Int) : sealL nm (l.map PL.i) (.s nm [] l.length 1) = .pl (.R false 1 (iRows l)) := by
 have h0 : pok (l.map PL.i).length [] ∧ psz (l.map PL.i).length [] = l.length * 1 := ⟨trivial, by simp [psz]⟩
 simp only [sealL, if_true, if_pos h0]
 rw [show rd (l.map PL.i) [] = l.map PL.i from rfl, chunks_i]
theorem cut_part (wd u : List UInt8) (b : Bool) (hl : wd.length ≤ 9223372036854775807) (h1 : Lib.hasPrefix wd pskN = b) (h2 : Lib.trimPrefix wd pskN = u) : CtM Tryd.prog 19 [.w (.one (.pl (.str wd))), .w (.one (.pl (.str [112, 115, 107])))] [] (fun v m => v = .tup [.one (.pl (.str u)), .one (.pl (.b b))] ∧ m = []) := by
 subst h1 h2; exact cutp_ wd pskN hl
theorem part_cases (wd : List UInt8) : (Lib.hasPrefix wd pskN = false ∧ pPart wd = none) ∨ (Lib.hasPrefix wd pskN = true ∧ ¬ (Lib.trimPrefix wd pskN).length = 1 ∧ pPart wd = none) ∨ (∃ d, Lib.hasPrefix wd pskN = true ∧ Lib.trimPrefix wd pskN = [d] ∧ d < 48 ∧ pPart wd = none) ∨ (∃ d, Lib.hasPrefix wd pskN = true ∧ Lib.trimPrefix wd pskN = [d] ∧ ¬ d < 48 ∧ 57 < d ∧ pPart wd = none) ∨ (∃ d, Lib.hasPrefix wd pskN = true ∧ Lib.trimPrefix wd pskN = [d] ∧ ¬ d < 48 ∧ ¬ 57 < d ∧ pPart wd = some (((d - 48).toNat : Nat) : Int)) := by
 unfold pPart
 cases h : Lib.hasPrefix wd pskN with
 | false => exact .inl ⟨rfl, rfl⟩
 | true =>
  generalize Lib.trimPrefix wd pskN = u
  match u with
  | [] => exact .inr (.inl ⟨rfl, by decide, rfl⟩)
  | a :: b :: r => exact .inr (.inl ⟨rfl, by simp, rfl⟩)
  | [d] =>
   by_cases h1 : d < 48
   · exact .inr (.inr (.inl ⟨d, rfl, rfl, h1, by simp only; rw [if_neg fun h' => h'.1 h1]⟩))
   · by_cases h2 : 57 < d
     · exact .inr (.inr (.inr (.inl ⟨d, rfl, rfl, h1, h2, by simp only; rw [if_neg fun h' => h'.2 h2]⟩)))
     · exact .inr (.inr (.inr (.inr ⟨d, rfl, rfl, h1, h2, by simp only; rw [if_pos ⟨h1, h2⟩]⟩)))
theorem parts_bad {W : List (List UInt8)} {i : Nat} {wd : List UInt8} {acc : List Int} (h : i < W.length) (hw : W.getD i [] = wd) (hp : pPart wd = none) (hq : (pParts (W.drop i)).map (acc ++ ·) = pParts W) : pParts W = none := by
 rw [drop_getD (z := []) h, pParts_cons, hw, hp] at hq
 exact hq.symm
theorem parts_next {W : List (List UInt8)} {i : Nat} {wd : List UInt8} {acc : List Int} {d : Int} (h : i < W.length) (hw : W.getD i [] = wd) (hp : pPart wd = some d) (hq : (pParts (W.drop i)).map (acc ++ ·) = pParts W) : (pParts (W.drop (i + 1))).map ((acc ++ [d]) ++ ·) = pParts W := by
 rw [drop_getD (z := []) h, pParts_cons, hw, hp] at hq
 rw [← hq]
 cases pParts (W.drop (i + 1)) <;> simp
theorem parts_end {W : List (List UInt8)} {acc : List Int} (hq : (pParts (W.drop W.length)).map (acc ++ ·) = pParts W) : pParts W = some acc := by
 rw [List.drop_length] at hq; rw [← hq]; simp [pParts]
def psV (r : Bool) (q : List UInt8) (k : Nat) : V := match pmods (q.drop k ++ [43]) with
 | none => .tup [.agg zeroP, .one (.pl (.i 3))]
 | some ps => outPV (q.take k) (r && ps.isEmpty) ps (wRes (q.take k) ps)
theorem psV_bad {r : Bool} {q : List UInt8} {k : Nat} (h : pmods (q.drop k ++ [43]) = none) : psV r q k = .tup [.agg zeroP, .one (.pl (.i 3))] := by unfold psV; rw [h]
theorem psV_ok {r : Bool} {q : List UInt8} {k : Nat} {ps : List Int} (h : pmods (q.drop k ++ [43]) = some ps) : psV r q k = outPV (q.take k) (r && ps.isEmpty) ps (wRes (q.take k) ps) := by unfold psV; rw [h]
theorem with_o (bs : List UInt8) (ps : List Int) (ex : Bool) : CtM Tryd.prog 6 [.w (.one (.pl (.str bs))), .w (.one (.pl (.R ex 1 (iRows ps))))] [] (fun v m => v = .tup [.agg [.pl (oP bs false ps (wRes bs ps) 0), .pl (oP bs false ps (wRes bs ps) 1), .pl (oP bs false ps (wRes bs ps) 2), .pl (oP bs false ps (wRes bs ps) 3), .pl (oP bs false ps (wRes bs ps) 4), .pl (oP bs false ps (wRes bs ps) 5)], .one (.pl (.i (oE (wRes bs ps))))] ∧ m = []) := by
 have h := with_all bs ps ex
 rw [outPV_eq] at h
 exact (h.plain fun _ _ h => h).hands
theorem bsplit (q : List UInt8) : Lib.hasPrefix (headN ++ (q ++ tailN)) headN = true ∧ Lib.trimPrefix (headN ++ (q ++ tailN)) headN = q ++ tailN ∧ Lib.hasSuffix (q ++ tailN) tailN = true ∧ Lib.trimSuffix (q ++ tailN) tailN = q := by
 have h1 : Lib.hasPrefix (headN ++ (q ++ tailN)) headN = true := by simp [Lib.hasPrefix]
 have h2 : Lib.hasSuffix (q ++ tailN) tailN = true := by simp [Lib.hasSuffix]
 refine ⟨h1, ?_, h2, ?_⟩
 · rw [Lib.trimPrefix, if_pos h1, List.drop_left]
 · rw [Lib.trimSuffix, if_pos h2, List.length_append, Nat.add_sub_cancel, List.take_left]
theorem u8idx (d : UInt8) : (([d] : List UInt8)).getD 0 0 = d := rfl
end Go.Sy

