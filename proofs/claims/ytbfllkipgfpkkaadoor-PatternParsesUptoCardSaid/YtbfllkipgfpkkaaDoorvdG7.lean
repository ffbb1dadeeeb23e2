/- The name of a protocol, parsed: the law. -/
import Derived.Test.YtbfllkipgfpkkaaDoorvdG6
set_option linter.unusedVariables false
set_option linter.unusedSimpArgs false
namespace Go.Sy
open Go.Proofs
attribute [local irreducible] atCall HT runOps runD onC onE onO onG goV goA goS onSt onGuard
def qOf (nm : List UInt8) : Option (List UInt8) := if Lib.hasPrefix nm headN = true ∧ Lib.hasSuffix (Lib.trimPrefix nm headN) tailN = true then some (Lib.trimSuffix (Lib.trimPrefix nm headN) tailN) else none
def pOut (r : Bool) (nm : List UInt8) : V := match qOf nm with
 | none => .tup [.agg zeroP, .one (.pl (.i 3))]
 | some q => if Lib.index q [112, 115, 107] < 0 then outPV q r [] (wRes q []) else psV r q (Lib.index q [112, 115, 107]).toNat
theorem pfx_cut {s p : List UInt8} (h : Lib.hasPrefix s p = true) : s = p ++ Lib.trimPrefix s p := by
 rw [Lib.trimPrefix, if_pos h]
 obtain ⟨t, rfl⟩ := List.isPrefixOf_iff_prefix.mp h
 rw [List.drop_left]
theorem sfx_cut {s p : List UInt8} (h : Lib.hasSuffix s p = true) : s = Lib.trimSuffix s p ++ p := by
 rw [Lib.trimSuffix, if_pos h]
 obtain ⟨t, rfl⟩ := List.isSuffixOf_iff_suffix.mp h
 rw [List.length_append, Nat.add_sub_cancel, List.take_left]
theorem qOf_some {nm q : List UInt8} (h : qOf nm = some q) : nm = headN ++ (q ++ tailN) := by
 unfold qOf at h
 split at h
 · rename_i hc
   cases h
   have h1 := pfx_cut hc.1
   have h2 := sfx_cut hc.2
   rw [← h2, ← h1]
 · cases h
theorem parse_all (nm : List UInt8) (hl : nm.length ≤ 2000000) (n : Int) : CtM Tryd.prog 9 [.w (.one (.pl (.str nm)))] [(1000001, ⟨false, [.pl (.i n)]⟩)] (fun v m => v = pOut false nm ∧ m = []) := by
 unfold pOut
 cases hq : qOf nm with
 | none =>
  unfold qOf at hq
  cases h1 : Lib.hasPrefix nm headN with
  | false => exact (parse_n1 nm hl n h1).told
  | true =>
   cases h2 : Lib.hasSuffix (Lib.trimPrefix nm headN) tailN with
   | false => exact (parse_n2 nm hl n h1 h2).told
   | true => rw [if_pos ⟨h1, h2⟩] at hq; cases hq
 | some q =>
  have e := qOf_some hq
  subst e
  by_cases hi : Lib.index q [112, 115, 107] < 0
  · simp only [if_pos hi]; exact (parse_i q hl n hi).told
  · simp only [if_neg hi]
    have h2 := Lib.index_le q [112, 115, 107]
    exact (parse_k q hl n (Lib.index q [112, 115, 107]).toNat (by omega) (by omega)).told
theorem named_all (nm : List UInt8) (hl : nm.length ≤ 2000000) (n : Int) : CtM Tryd.prog 10 [.w (.one (.pl (.str nm)))] [(1000000, ⟨false, bytesC spaceL⟩), (1000001, ⟨false, [.pl (.i n)]⟩)] (fun v m => v = pOut true nm ∧ m = []) := by
 unfold pOut
 cases hq : qOf nm with
 | none =>
  by_cases h6 : ((nm.length : Nat) : Int) < 6
  · exact (named_n1 nm hl n h6).told
  by_cases h0 : List.take 6 nm = [78, 111, 105, 115, 101, 95]
  · by_cases h31 : ((nm.length : Nat) : Int) < 31
    · exact (named_n3 nm hl n h6 h0 h31).told
    · by_cases ht : List.take (nm.length - (nm.length - 25)) (List.drop (nm.length - 25) nm) = [95, 50, 53, 53, 49, 57, 95, 67, 104, 97, 67, 104, 97, 80, 111, 108, 121, 95, 66, 76, 65, 75, 69, 50, 115]
      · exfalso
        have h1 : Lib.hasPrefix nm headN = true := List.isPrefixOf_iff_prefix.mpr ⟨nm.drop 6, by rw [show headN = List.take 6 nm from h0.symm, List.take_append_drop]⟩
        have ht' : List.drop (nm.length - 25) nm = tailN := by rw [List.take_of_length_le (by rw [List.length_drop]; exact Nat.le_refl _)] at ht; exact ht
        have hp : Lib.trimPrefix nm headN = nm.drop 6 := by rw [Lib.trimPrefix, if_pos h1]; rfl
        have h2 : Lib.hasSuffix (Lib.trimPrefix nm headN) tailN = true := by
         rw [hp]
         refine List.isSuffixOf_iff_suffix.mpr ⟨(nm.drop 6).take (nm.length - 31), ?_⟩
         rw [← ht', show nm.length - 25 = 6 + (nm.length - 31) by omega, ← List.drop_drop, List.take_append_drop]
        unfold qOf at hq
        rw [if_pos ⟨h1, h2⟩] at hq; cases hq
      · exact (named_n4 nm hl n h6 h0 h31 ht).told
  · exact (named_n2 nm hl n h6 h0).told
 | some q =>
  have e := qOf_some hq
  subst e
  by_cases hi : Lib.index q [112, 115, 107] < 0
  · simp only [if_pos hi]; exact (named_i q hl n hi).told
  · simp only [if_neg hi]
    have h2 := Lib.index_le q [112, 115, 107]
    exact (named_k q hl n (Lib.index q [112, 115, 107]).toNat (by omega) (by omega)).told
theorem zero_pair (e0 : Int) : ∃ (x0 x1 x2 x3 x4 x5 y0 y1 y2 y3 y4 y5 : PL) (e : Int), V.tup [.agg zeroP, .one (.pl (.i e0))] = .tup [.agg [.pl x0, .pl x1, .pl x2, .pl x3, .pl x4, .pl x5], .one (.pl (.i e))] ∧ V.tup [.agg zeroP, .one (.pl (.i e0))] = .tup [.agg [.pl y0, .pl y1, .pl y2, .pl y3, .pl y4, .pl y5], .one (.pl (.i e))] ∧ Ct Tryd.prog 8 [.w (.agg [.pl x0, .pl x1, .pl x2, .pl x3, .pl x4, .pl x5]), .w (.agg [.pl y0, .pl y1, .pl y2, .pl y3, .pl y4, .pl y5])] (fun v m => v = .w (.one (.pl (.b true)))) := ⟨_, _, _, _, _, _, _, _, _, _, _, _, e0, rfl, rfl, by
 have := samep_ [] [] false false true true (true, []) (true, []) (true, []) (true, []) (true, []) (true, []) [] [] (by decide) (by decide) (by decide) (by decide) (by simp)
 rw [samP_self] at this; exact this⟩
theorem pOut_pair (nm : List UInt8) : ∃ (x0 x1 x2 x3 x4 x5 y0 y1 y2 y3 y4 y5 : PL) (e : Int), pOut false nm = .tup [.agg [.pl x0, .pl x1, .pl x2, .pl x3, .pl x4, .pl x5], .one (.pl (.i e))] ∧ pOut true nm = .tup [.agg [.pl y0, .pl y1, .pl y2, .pl y3, .pl y4, .pl y5], .one (.pl (.i e))] ∧ Ct Tryd.prog 8 [.w (.agg [.pl x0, .pl x1, .pl x2, .pl x3, .pl x4, .pl x5]), .w (.agg [.pl y0, .pl y1, .pl y2, .pl y3, .pl y4, .pl y5])] (fun v m => v = .w (.one (.pl (.b true)))) := by
 unfold pOut
 cases qOf nm with
 | none => exact zero_pair 3
 | some q =>
  by_cases hi : Lib.index q [112, 115, 107] < 0
  · simp only [if_pos hi]; exact outPV_pair q [] true
  · simp only [if_neg hi]
    unfold psV
    cases pmods (List.drop (Lib.index q [112, 115, 107]).toNat q ++ [43]) with
    | none => exact zero_pair 3
    | some ps => exact outPV_pair _ ps _
set_option maxHeartbeats 400000 in
theorem ppl_ (nm : List UInt8) (n : Int) (x0 x1 x2 x3 x4 x5 y0 y1 y2 y3 y4 y5 : PL) (e : Int) (hP : CtM Tryd.prog 9 [.w (.one (.pl (.str nm)))] [(1000001, ⟨false, [.pl (.i n)]⟩)] (fun v m => v = .tup [.agg [.pl x0, .pl x1, .pl x2, .pl x3, .pl x4, .pl x5], .one (.pl (.i e))] ∧ m = [])) (hQ : CtM Tryd.prog 10 [.w (.one (.pl (.str nm)))] [(1000000, ⟨false, bytesC spaceL⟩), (1000001, ⟨false, [.pl (.i n)]⟩)] (fun v m => v = .tup [.agg [.pl y0, .pl y1, .pl y2, .pl y3, .pl y4, .pl y5], .one (.pl (.i e))] ∧ m = [])) (hS : Ct Tryd.prog 8 [.w (.agg [.pl x0, .pl x1, .pl x2, .pl x3, .pl x4, .pl x5]), .w (.agg [.pl y0, .pl y1, .pl y2, .pl y3, .pl y4, .pl y5])] (fun v m => v = .w (.one (.pl (.b true))))) :
 CtM Tryd.prog 4 [.w (.one (.pl (.str nm)))] [(1000000, ⟨false, bytesC spaceL⟩), (1000001, ⟨false, [.pl (.i n)]⟩)] (fun v m => v = .w (.one (.pl (.b true)))) := by
 have F0 := trivial
 have cv0 := Ct.cv (hS)
 have ch0 := CtM.ch [] (hP)
 have ch1 := CtM.ch [] (hQ)
 exact CtM.w Tryd.func4 rfl Tryd.ntmps4 Tryd.results4
theorem patternparses_gs (nm : List UInt8) (hl : nm.length ≤ 2000000) (n : Int) : CtM Tryd.prog 4 [.w (.one (.pl (.str nm)))] (globM ([(1000000, spaceL.map PL.u8)] ++ [(1000001, [PL.i n])])) (Told (fun v m => v = .w (.one (.pl (.b true))) ∧ m = [])) := by
 obtain ⟨x0, x1, x2, x3, x4, x5, y0, y1, y2, y3, y4, y5, e, h1, h2, hS⟩ := pOut_pair nm
 have hP := parse_all nm hl n
 have hQ := named_all nm hl n
 rw [h1] at hP
 rw [h2] at hQ
 have key := ppl_ nm n x0 x1 x2 x3 x4 x5 y0 y1 y2 y3 y4 y5 e hP hQ hS
 have hg : globM ([(1000000, spaceL.map PL.u8)] ++ [(1000001, [PL.i n])]) = [(1000000, ⟨false, bytesC spaceL⟩), (1000001, ⟨false, [.pl (.i n)]⟩)] := by
  show globM [(1000000, spaceL.map PL.u8)] ++ _ = _
  rw [space_g]; rfl
 rw [hg]
 exact key.mono fun v m h => by subst h; exact told_plain rfl ⟨rfl, rfl⟩
end Go.Sy

