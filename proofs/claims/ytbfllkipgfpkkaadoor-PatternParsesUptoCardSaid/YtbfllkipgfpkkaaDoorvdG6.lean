/- Walks: the name of a protocol, parsed as the document tells it. -/
import Derived.Test.YtbfllkipgfpkkaaDoorvdG5
set_option linter.unusedVariables false
set_option linter.unusedSimpArgs false
namespace Go.Sy
open Go.Proofs
attribute [local irreducible] atCall HT runOps runD onC onE onO onG goV goA goS onSt onGuard
theorem mods_split (m : List UInt8) : m = [] ∨ (¬ m = [] ∧ m.length < 5) ∨ ∃ a b c d e r, m = a :: b :: c :: d :: e :: r := by
 match m with
 | [] => exact .inl rfl
 | [_] => exact .inr (.inl ⟨by simp, by simp⟩)
 | [_, _] => exact .inr (.inl ⟨by simp, by simp⟩)
 | [_, _, _] => exact .inr (.inl ⟨by simp, by simp⟩)
 | [_, _, _, _] => exact .inr (.inl ⟨by simp, by simp⟩)
 | a :: b :: c :: d :: e :: r => exact .inr (.inr ⟨a, b, c, d, e, r, rfl⟩)
theorem pmods_short {m : List UInt8} (h : ¬ m = []) (h5 : m.length < 5) : pmods m = none := by
 match m, h, h5 with
 | [], h, _ => exact absurd rfl h
 | [_], _, _ => rfl
 | [_, _], _, _ => rfl
 | [_, _, _], _, _ => rfl
 | [_, _, _, _], _, _ => rfl
 | _ :: _ :: _ :: _ :: _ :: _, _, h => simp at h; omega
theorem pmods_five (a b c d e : UInt8) (r : List UInt8) : pmods (a :: b :: c :: d :: e :: r) = if a = 112 ∧ b = 115 ∧ c = 107 ∧ e = 43 ∧ ¬ d < 48 ∧ ¬ 57 < d then (pmods r).map ((((d - 48).toNat : Nat) : Int) :: ·) else none := rfl
theorem mods_bad {m : List UInt8} {acc : List Int} {T : Option (List Int)} (h : (pmods m).map (acc ++ ·) = T) (hb : pmods m = none) : T = none := by rw [← h, hb]; rfl
theorem mods_next {a b c d e : UInt8} {r : List UInt8} {acc : List Int} {T : Option (List Int)} (h : (pmods (a :: b :: c :: d :: e :: r)).map (acc ++ ·) = T) (hc : a = 112 ∧ b = 115 ∧ c = 107 ∧ e = 43 ∧ ¬ d < 48 ∧ ¬ 57 < d) : (pmods r).map ((acc ++ [(((d - 48).toNat : Nat) : Int)]) ++ ·) = T := by
 rw [pmods_five, if_pos hc] at h
 rw [← h]
 cases pmods r <;> simp
theorem mods_end {acc : List Int} {T : Option (List Int)} (h : (pmods []).map (acc ++ ·) = T) : T = some acc := by rw [← h]; simp [pmods]
theorem abc_ne {a b c : UInt8} (h : ¬ (a = 112 ∧ b = 115 ∧ c = 107)) : ¬ [a, b, c] = [112, 115, 107] := fun e => h (by simp at e; exact e)
theorem named_facts (q nm : List UInt8) (h : headN ++ (q ++ tailN) = nm) : nm.length = q.length + 31 ∧ List.take 6 nm = headN ∧ List.take (nm.length - (q.length + 6)) (List.drop (q.length + 6) nm) = tailN ∧ List.take (q.length + 6 - 6) (List.drop 6 nm) = q := by
 subst h
 have hh : headN.length = 6 := rfl
 have ht : tailN.length = 25 := rfl
 refine ⟨by simp only [List.length_append, hh, ht]; omega, ?_, ?_, ?_⟩
 · rw [List.take_left' hh]
 · rw [← List.append_assoc, List.drop_left' (by rw [List.length_append, hh]; omega)]
   rw [List.take_of_length_le]; simp only [List.length_append, hh, ht]; omega
 · rw [List.drop_left' hh, Nat.add_sub_cancel, List.take_left]
theorem pwith_o (bs : List UInt8) (ps : List Int) (ex : Bool) (n : Int) : CtM Tryd.prog 7 [.w (.one (.pl (.str bs))), .w (.one (.pl (.R ex 1 (iRows ps))))] [(1000000, ⟨false, bytesC spaceL⟩)] (fun v m => v = .tup [.agg [.pl (oP bs ex ps (wRes bs ps) 0), .pl (oP bs ex ps (wRes bs ps) 1), .pl (oP bs ex ps (wRes bs ps) 2), .pl (oP bs ex ps (wRes bs ps) 3), .pl (oP bs ex ps (wRes bs ps) 4), .pl (oP bs ex ps (wRes bs ps) 5)], .one (.pl (.i (oE (wRes bs ps))))] ∧ m = []) := by
 have h := rwith_all bs ps ex
 rw [outPV_eq] at h
 exact h
set_option maxHeartbeats 400000 in
theorem named_n1 (nm : List UInt8) (hl : nm.length ≤ 2000000) (n : Int) (h6 : ((nm.length : Nat) : Int) < 6) :
 CtM Tryd.prog 10 [.w (.one (.pl (.str nm)))] [(1000000, ⟨false, bytesC spaceL⟩), (1000001, ⟨false, [.pl (.i n)]⟩)] (Told (fun v m => v = .tup [.agg zeroP, .one (.pl (.i 3))] ∧ m = [])) := by
 have zE := fun m => told_plain (R := (fun v m => v = .tup [.agg zeroP, .one (.pl (.i 3))] ∧ m = [])) (m := m) (v := .tup [.agg zeroP, .one (.pl (.i 3))]) rfl ⟨rfl, rfl⟩
 have F0 := h6
 exact CtM.w Tryd.func10 rfl Tryd.ntmps10 Tryd.results10
set_option maxHeartbeats 400000 in
theorem named_n2 (nm : List UInt8) (hl : nm.length ≤ 2000000) (n : Int) (h6 : ¬ ((nm.length : Nat) : Int) < 6) (h0 : ¬ List.take 6 nm = [78, 111, 105, 115, 101, 95]) :
 CtM Tryd.prog 10 [.w (.one (.pl (.str nm)))] [(1000000, ⟨false, bytesC spaceL⟩), (1000001, ⟨false, [.pl (.i n)]⟩)] (Told (fun v m => v = .tup [.agg zeroP, .one (.pl (.i 3))] ∧ m = [])) := by
 have h60 : (6 : Int) ≤ ((nm.length : Nat) : Int) := by omega
 have zE := fun m => told_plain (R := (fun v m => v = .tup [.agg zeroP, .one (.pl (.i 3))] ∧ m = [])) (m := m) (v := .tup [.agg zeroP, .one (.pl (.i 3))]) rfl ⟨rfl, rfl⟩
 have F0 := And.intro h6 <| And.intro h60 <| h0
 exact CtM.w Tryd.func10 rfl Tryd.ntmps10 Tryd.results10
set_option maxHeartbeats 400000 in
theorem named_n3 (nm : List UInt8) (hl : nm.length ≤ 2000000) (n : Int) (h6 : ¬ ((nm.length : Nat) : Int) < 6) (h0 : List.take 6 nm = [78, 111, 105, 115, 101, 95]) (h31 : ((nm.length : Nat) : Int) < 31) :
 CtM Tryd.prog 10 [.w (.one (.pl (.str nm)))] [(1000000, ⟨false, bytesC spaceL⟩), (1000001, ⟨false, [.pl (.i n)]⟩)] (Told (fun v m => v = .tup [.agg zeroP, .one (.pl (.i 3))] ∧ m = [])) := by
 have h60 : (6 : Int) ≤ ((nm.length : Nat) : Int) := by omega
 have zE := fun m => told_plain (R := (fun v m => v = .tup [.agg zeroP, .one (.pl (.i 3))] ∧ m = [])) (m := m) (v := .tup [.agg zeroP, .one (.pl (.i 3))]) rfl ⟨rfl, rfl⟩
 have F0 := And.intro h6 <| And.intro h60 <| And.intro h0 <| h31
 exact CtM.w Tryd.func10 rfl Tryd.ntmps10 Tryd.results10
set_option maxHeartbeats 400000 in
theorem named_n4 (nm : List UInt8) (hl : nm.length ≤ 2000000) (n : Int) (h6 : ¬ ((nm.length : Nat) : Int) < 6) (h0 : List.take 6 nm = [78, 111, 105, 115, 101, 95]) (h31 : ¬ ((nm.length : Nat) : Int) < 31) (ht : ¬ List.take (nm.length - (nm.length - 25)) (List.drop (nm.length - 25) nm) = [95, 50, 53, 53, 49, 57, 95, 67, 104, 97, 67, 104, 97, 80, 111, 108, 121, 95, 66, 76, 65, 75, 69, 50, 115]) :
 CtM Tryd.prog 10 [.w (.one (.pl (.str nm)))] [(1000000, ⟨false, bytesC spaceL⟩), (1000001, ⟨false, [.pl (.i n)]⟩)] (Told (fun v m => v = .tup [.agg zeroP, .one (.pl (.i 3))] ∧ m = [])) := by
 obtain ⟨p, hp⟩ : ∃ p, p = nm.length - 25 := ⟨_, rfl⟩
 have hp0 : (0 : Int) ≤ ((p : Nat) : Int) := Int.natCast_nonneg _
 have hp1 : ((p : Nat) : Int) ≤ ((nm.length : Nat) : Int) := by omega
 have hp6 : (6 : Int) ≤ ((p : Nat) : Int) := by omega
 have h60 : (6 : Int) ≤ ((nm.length : Nat) : Int) := by omega
 rw [← hp] at ht
 have hw : Go.RowKit.wrap64 (((nm.length : Nat) : Int) - 25) = ((p : Nat) : Int) := wnat (by omega) (by omega)
 have zE := fun m => told_plain (R := (fun v m => v = .tup [.agg zeroP, .one (.pl (.i 3))] ∧ m = [])) (m := m) (v := .tup [.agg zeroP, .one (.pl (.i 3))]) rfl ⟨rfl, rfl⟩
 have F0 := And.intro h6 <| And.intro h60 <| And.intro h0 <| And.intro h31 <| And.intro hp0 <| And.intro hp1 <| And.intro ht <| hw
 exact CtM.w Tryd.func10 rfl Tryd.ntmps10 Tryd.results10
set_option maxHeartbeats 400000 in
theorem named_i (q : List UInt8) (hl : (headN ++ (q ++ tailN)).length ≤ 2000000) (n : Int) (hi : Lib.index q [112, 115, 107] < 0) :
 CtM Tryd.prog 10 [.w (.one (.pl (.str (headN ++ (q ++ tailN)))))] [(1000000, ⟨false, bytesC spaceL⟩), (1000001, ⟨false, [.pl (.i n)]⟩)] (Told (fun v m => v = outPV q true [] (wRes q []) ∧ m = [])) := by
 obtain ⟨b1, b2, b3, b4⟩ := bsplit q
 have hl2 : (q ++ tailN).length ≤ 2000000 := by rw [List.length_append] at hl; omega
 have hl3 : q.length ≤ 2000000 := by rw [List.length_append] at hl2; omega
 obtain ⟨nm, hnm⟩ : ∃ nm, headN ++ (q ++ tailN) = nm := ⟨_, rfl⟩
 obtain ⟨e1, e2, e3, e4⟩ := named_facts q nm hnm
 have h6 : ¬ ((nm.length : Nat) : Int) < 6 := by omega
 have h31 : ¬ ((nm.length : Nat) : Int) < 31 := by omega
 have h60 : (6 : Int) ≤ ((nm.length : Nat) : Int) := by omega
 have h0 : List.take 6 nm = [78, 111, 105, 115, 101, 95] := e2
 obtain ⟨p, hp⟩ : ∃ p, q.length + 6 = p := ⟨_, rfl⟩
 rw [hp] at e3 e4
 have ht : List.take (nm.length - p) (List.drop p nm) = [95, 50, 53, 53, 49, 57, 95, 67, 104, 97, 67, 104, 97, 80, 111, 108, 121, 95, 66, 76, 65, 75, 69, 50, 115] := e3
 have hp0 : (0 : Int) ≤ ((p : Nat) : Int) := Int.natCast_nonneg _
 have hp1 : ((p : Nat) : Int) ≤ ((nm.length : Nat) : Int) := by omega
 have hp6 : (6 : Int) ≤ ((p : Nat) : Int) := by omega
 have hpn : p ≤ nm.length := by omega
 rw [hnm]
 have hw : Go.RowKit.wrap64 (((nm.length : Nat) : Int) - 25) = ((p : Nat) : Int) := wnat (by omega) (by omega)
 have zE := fun m => told_plain (R := (fun v m => v = outPV q true [] (wRes q []) ∧ m = [])) (m := m) rfl ⟨(outPV_eq q true [] (wRes q [])).symm, rfl⟩
 have F0 := And.intro h6 <| And.intro h60 <| And.intro h0 <| And.intro h31 <| And.intro hp0 <| And.intro hp1 <| And.intro hp6 <| And.intro ht <| And.intro hw <| And.intro e4 <| hi
 have ch0 := CtM.ch [] (index_ q [112, 115, 107] (Nat.lt_of_le_of_lt hl3 (by decide)) n)
 have ch1 := CtM.ch [] (pwith_o q [] true n)
 exact CtM.w Tryd.func10 rfl Tryd.ntmps10 Tryd.results10
set_option maxHeartbeats 1600000 in
set_option maxRecDepth 100000 in
theorem named_k (q : List UInt8) (hl : (headN ++ (q ++ tailN)).length ≤ 2000000) (n : Int) (k : Nat) (hk : k ≤ q.length) (hi : Lib.index q [112, 115, 107] = (k : Int)) :
 CtM Tryd.prog 10 [.w (.one (.pl (.str (headN ++ (q ++ tailN)))))] [(1000000, ⟨false, bytesC spaceL⟩), (1000001, ⟨false, [.pl (.i n)]⟩)] (Told (fun v m => v = psV true q k ∧ m = [])) := by
 obtain ⟨b1, b2, b3, b4⟩ := bsplit q
 have hl2 : (q ++ tailN).length ≤ 2000000 := by rw [List.length_append] at hl; omega
 have hl3 : q.length ≤ 2000000 := by rw [List.length_append] at hl2; omega
 obtain ⟨nm, hnm⟩ : ∃ nm, headN ++ (q ++ tailN) = nm := ⟨_, rfl⟩
 obtain ⟨e1, e2, e3, e4⟩ := named_facts q nm hnm
 have h6 : ¬ ((nm.length : Nat) : Int) < 6 := by omega
 have h31 : ¬ ((nm.length : Nat) : Int) < 31 := by omega
 have h60 : (6 : Int) ≤ ((nm.length : Nat) : Int) := by omega
 have h0 : List.take 6 nm = [78, 111, 105, 115, 101, 95] := e2
 obtain ⟨p, hp⟩ : ∃ p, q.length + 6 = p := ⟨_, rfl⟩
 rw [hp] at e3 e4
 have ht : List.take (nm.length - p) (List.drop p nm) = [95, 50, 53, 53, 49, 57, 95, 67, 104, 97, 67, 104, 97, 80, 111, 108, 121, 95, 66, 76, 65, 75, 69, 50, 115] := e3
 have hp0 : (0 : Int) ≤ ((p : Nat) : Int) := Int.natCast_nonneg _
 have hp1 : ((p : Nat) : Int) ≤ ((nm.length : Nat) : Int) := by omega
 have hp6 : (6 : Int) ≤ ((p : Nat) : Int) := by omega
 have hpn : p ≤ nm.length := by omega
 rw [hnm]
 have hk0 : ¬ (k : Int) < 0 := by omega
 have hk1 : (0 : Int) ≤ (k : Int) := by omega
 have hk2 : (k : Int) ≤ (q.length : Int) := by omega
 have hc2 := index_ q [112, 115, 107] (Nat.lt_of_le_of_lt hl3 (by decide)) n
 rw [hi] at hc2
 have htk : List.take (q.length - k) (List.drop k q) = List.drop k q := List.take_of_length_le (by rw [List.length_drop]; exact Nat.le_refl _)
 have hdl : (q.drop k).length ≤ 2000000 := by rw [List.length_drop]; omega
 have gadd := fun P t => bin_add_str2 P t (q.drop k) [43] (show (q.drop k).length + 1 ≤ 9223372036854775807 by omega)
 have hw : Go.RowKit.wrap64 (((nm.length : Nat) : Int) - 25) = ((p : Nat) : Int) := wnat (by omega) (by omega)
 have F0 := And.intro h6 <| And.intro h60 <| And.intro h0 <| And.intro h31 <| And.intro hp0 <| And.intro hp1 <| And.intro hp6 <| And.intro ht <| And.intro hw <| And.intro e4 <| And.intro hi <| And.intro htk <| And.intro hk0 <| And.intro hk1 <| And.intro hk2 <| And.intro hk <| And.intro gadd <| And.intro iV_nil <| And.intro iM_nil <| And.intro (@leX_self Ob) <| And.intro (@iM_look 79 2 (by decide)) <| And.intro (@iM_set 79 2 (by decide)) <| And.intro iV_snoc <| And.intro iM_snoc <| And.intro iC_length <| And.intro iC_has <| iC_kill
 refine CtM.k Tryd.func10 rfl Tryd.ntmps10 (congrArg Array.toList Tryd.results10) (by simp) fun w0 ro may fx => ?_
 refine top_k fun zZ zhZ => ?_
 iterate 25 first
  | (refine sr_k fun zK zhK => ?_; simp only [go_sem, F0]; (repeat' (first | apply And.intro | intro _)))
  | refine zhK _ ?_
  | refine skip_k ?_
  | (refine zhN _ ?_; clear zhN zhM)
  | refine block_k fun zB zbn zbx zbr zbi => ?_
  | ((all_goals (refine call_hand false [] (fun k => k) (fun _ _ => rfl) ?_ (by decide) ?_ hc2 ?_; iterate 2 (focus (first | rfl | (simp only [go_sem, F0] <;> first | done | rfl | simp))))); (all_goals (rintro v m ⟨hR, hm⟩; subst hR; subst hm)); (all_goals (refine And.intro ?_ (And.intro ?_ (And.intro ?_ ?_)); iterate 3 (focus (first | rfl | (simp only [go_sem, F0]; done) | (simp [go_sem, look, F0]; done))))); (all_goals (try simp only [go_sem, F0])); (all_goals (try simp only [go_sem, F0])); (all_goals repeat' (first | apply And.intro | intro _)))
  | refine seq_k fun zN zM zhN zhM => ?_
  | (refine condF_k ?_ ?_; focus (first | rfl | (simp [go_sem, F0]; done)))
 refine loop_k (fun y => [(6, .w (.one (.pl (.str y.1.1)))), (7, iV 79 y.1.2)]) (fun y => iM 79 y.1.2) (fun y => y.1.1.length) (⟨(q.drop k ++ [43], []), by rw [List.length_append]; simp only [List.length_nil, List.length_cons, Nat.zero_add]; omega, by cases pmods (q.drop k ++ [43]) <;> simp⟩ : {y : List UInt8 × List Int // y.2.length + y.1.length ≤ 2000001 ∧ (pmods y.1).map (y.2 ++ ·) = pmods (q.drop k ++ [43])}) ?_ ?_ ?_
 · (simp only [go_sem, leX, List.cons_append, List.nil_append, F0]; try simp)
 · (simp only [go_sem, leX, List.cons_append, List.nil_append, F0]; try simp)
 intro yy zN zM zhN zhM
 simp only [List.cons_append, List.nil_append]
 have yN0 := zhN
 obtain ⟨⟨md, acc⟩, g1, g2⟩ := yy
 simp only at g1 g2
 have hdd : (md = [] ∧ acc = []) ∨ (md = [] ∧ acc ≠ []) ∨ (¬ md = [] ∧ md.length < 5) ∨ ∃ a b c d e r, md = a :: b :: c :: d :: e :: r ∧ (¬ (a = 112 ∧ b = 115 ∧ c = 107) ∨ ((a = 112 ∧ b = 115 ∧ c = 107) ∧ ¬ e = 43) ∨ ((a = 112 ∧ b = 115 ∧ c = 107) ∧ e = 43 ∧ d < 48) ∨ ((a = 112 ∧ b = 115 ∧ c = 107) ∧ e = 43 ∧ ¬ d < 48 ∧ 57 < d) ∨ ((a = 112 ∧ b = 115 ∧ c = 107) ∧ e = 43 ∧ ¬ d < 48 ∧ ¬ 57 < d ∧ acc = []) ∨ ((a = 112 ∧ b = 115 ∧ c = 107) ∧ e = 43 ∧ ¬ d < 48 ∧ ¬ 57 < d ∧ acc ≠ [])) := by
  rcases mods_split md with h | h | ⟨a, b, c, d, e, r, rfl⟩
  · by_cases ha : acc = []
    · exact .inl ⟨h, ha⟩
    · exact .inr (.inl ⟨h, ha⟩)
  · exact .inr (.inr (.inl h))
  · refine .inr (.inr (.inr ⟨a, b, c, d, e, r, rfl, ?_⟩))
    by_cases c1 : a = 112 ∧ b = 115 ∧ c = 107
    · by_cases c2 : e = 43
      · by_cases c3 : d < 48
        · exact .inr (.inr (.inl ⟨c1, c2, c3⟩))
        · by_cases c4 : 57 < d
          · exact .inr (.inr (.inr (.inl ⟨c1, c2, c3, c4⟩)))
          · by_cases ha : acc = []
            · exact .inr (.inr (.inr (.inr (.inl ⟨c1, c2, c3, c4, ha⟩))))
            · exact .inr (.inr (.inr (.inr (.inr ⟨c1, c2, c3, c4, ha⟩))))
      · exact .inr (.inl ⟨c1, c2⟩)
    · exact .inl c1
 rcases hdd with ⟨rfl, rfl⟩ | ⟨rfl, hne⟩ | ⟨m0, hl5n⟩ | ⟨a, b, c, d, e, r, hm0, hc | ⟨hc, he⟩ | ⟨hc, he, hb⟩ | ⟨hc, he, hb, hb2⟩ | ⟨hc, he, hb, hb2, rfl⟩ | ⟨hc, he, hb, hb2, hne⟩⟩
 · have hfin := mods_end g2
   have zE := fun m => told_plain (R := (fun v m => v = psV true q k ∧ m = [])) (m := m) rfl ⟨(outPV_eq (q.take k) true [] (wRes (q.take k) [])).symm.trans (psV_ok (r := true) hfin).symm, rfl⟩

   have ch0 := CtM.ch [] (pwith_o (q.take k) [] true n)
   exact HT.w
 · have hv := iV_own (nm := 79) hne
   have hm := iM_own (nm := 79) hne
   have hem : acc.isEmpty = false := by cases acc with | nil => exact absurd rfl hne | cons _ _ => rfl
   have hfin := mods_end g2
   have hps := psV_ok (r := true) hfin
   rw [hem] at hps
   have zE := fun m => told_plain (R := (fun v m => v = psV true q k ∧ m = [])) (m := m) rfl ⟨(outPV_eq (q.take k) false acc (wRes (q.take k) acc)).symm.trans hps.symm, rfl⟩

   have F0 := And.intro hv <| And.intro hm <| F0
   refine seq_k fun zN zM zhN zhM => ?_
   refine sr_k fun zK zhK => ?_
   simp only [go_sem, F0]
   repeat' (first | apply And.intro | intro _)
   refine zhK _ ?_
   (refine condF_k ?_ ?_; focus (first | rfl | (simp [go_sem, F0]; done)))
   refine exit_k ?_
   refine zhM _ _ ?_; clear zhN zhM
   refine zhM _ _ ?_; clear zhN zhM
   refine zbx _ ?_; clear zbn zbx zbr zbi
   refine zhN _ ?_; clear zhN zhM
   refine ht_dropE [0, 1, 6, 8, 9, 10, 11, 12, 13, 14, 15, 16, 17, 18, 19, 20, 21, 22, 23, 24, 25, 26, 27, 28, 29, 30, 31, 32, 33, 34, 35, 36, 37, 38, 39, 40, 41, 42, 43, 44, 45, 46, 47, 48, 49, 50, 51, 52, 53, 54, 55, 56, 57, 58, 59, 60, 61, 62, 63, 64, 65, 66, 67, 68, 69, 70, 71, 72, 73, 74, 75, 76, 77, 78, 79, 80, 81, 82, 83, 84, 85, 86, 87, 88] ?_
   simp only [dropE_mk, fgt_nil, fgt_cons, List.contains_cons, List.contains_nil, Nat.reduceBEq, beq_self_eq_true, Bool.or_false, Bool.or_true, Bool.true_or, Bool.false_or, Bool.false_eq_true, reduceIte]
   refine ht_seal 79 (acc.map PL.i) (b := true) (by simp only [look, F0, Nat.reduceEqDiff, if_true, if_false, reduceIte, iC_pls]) (by decide) ?_
   simp only [St.laid, sealE, sealM, sealV, sealW, List.map_cons, List.map_nil, sealL_pl, sealL_fn0, sealI, seal_pls, sealL_pne (j := 2) (k := 79) (by decide), Nat.reduceLT, Nat.reduceEqDiff, if_true, if_false, reduceIte]
   refine sr_k fun zK zhK => ?_
   simp only [go_sem, F0]
   repeat' (first | apply And.intro | intro _)
   all_goals (refine call_hand false [] (fun k => k) (fun _ _ => rfl) ?_ (by decide) ?_ (pwith_o (q.take k) acc false n) ?_; iterate 2 (focus (first | rfl | (simp only [go_sem, F0] <;> first | done | rfl | simp))))
   all_goals (rintro v m ⟨hR, hm⟩; subst hR; subst hm)
   all_goals (refine And.intro ?_ (And.intro ?_ (And.intro ?_ ?_)); iterate 3 (focus (first | rfl | (simp only [go_sem, F0]; done) | (simp [go_sem, look, F0]; done))))
   all_goals (try simp only [go_sem, F0])
   all_goals (try simp only [go_sem, F0])
   all_goals repeat' (first | apply And.intro | intro _)
   refine zhK _ ?_
   refine ret_k ?_
   refine zhZ _ _ ?_
   simp only [go_sem, F0]
   all_goals (exact zE _)
 · have hl5 : ((md.length : Nat) : Int) < 5 := by omega
   have hbad := pmods_short m0 hl5n
   have zE := fun m => told_plain (R := (fun v m => v = psV true q k ∧ m = [])) (m := m) (v := .tup [.agg zeroP, .one (.pl (.i 3))]) rfl ⟨(psV_bad (mods_bad g2 hbad)).symm, rfl⟩

   have F0 := And.intro m0 <| And.intro hl5 <| F0
   exact HT.w
 · have hbad : pmods (a :: b :: c :: d :: e :: r) = none := by rw [pmods_five, if_neg (fun h => hc ⟨h.1, h.2.1, h.2.2.1⟩)]
   have zE := fun m => told_plain (R := (fun v m => v = psV true q k ∧ m = [])) (m := m) (v := .tup [.agg zeroP, .one (.pl (.i 3))]) rfl ⟨(psV_bad (mods_bad (hm0 ▸ g2) hbad)).symm, rfl⟩
   have hmd := hm0.symm
   have m0 : ¬ md = [] := by rw [← hmd]; simp
   have m1 : md.length = r.length + 5 := by rw [← hmd]; rfl
   have m2 : List.take 3 md = [a, b, c] := by rw [← hmd]; rfl
   have m3 : md.getD 4 0 = e := by rw [← hmd]; rfl
   have m4 : md.getD 3 0 = d := by rw [← hmd]; rfl
   have m5 : List.take (md.length - 5) (List.drop 5 md) = r := by rw [← hmd]; simp
   have m6 : ¬ ((md.length : Nat) : Int) < 5 := by omega
   have m7 : (3 : Int) ≤ ((md.length : Nat) : Int) := by omega
   have m8 : (4 : Int) < ((md.length : Nat) : Int) := by omega
   have m9 : (3 : Int) < ((md.length : Nat) : Int) := by omega
   have m10 : (5 : Int) ≤ ((md.length : Nat) : Int) := by omega
   have m11 : 4 < md.length := by omega
   have m12 : 3 < md.length := by omega
   have habc := abc_ne hc

   have F0 := And.intro m0 <| And.intro m2 <| And.intro m3 <| And.intro m4 <| And.intro m5 <| And.intro m6 <| And.intro m7 <| And.intro m8 <| And.intro m9 <| And.intro m10 <| And.intro m11 <| And.intro m12 <| And.intro habc <| F0
   exact HT.w
 · have hbad : pmods (a :: b :: c :: d :: e :: r) = none := by rw [pmods_five, if_neg (fun h => he h.2.2.2.1)]
   have zE := fun m => told_plain (R := (fun v m => v = psV true q k ∧ m = [])) (m := m) (v := .tup [.agg zeroP, .one (.pl (.i 3))]) rfl ⟨(psV_bad (mods_bad (hm0 ▸ g2) hbad)).symm, rfl⟩
   have hmd := hm0.symm
   have m0 : ¬ md = [] := by rw [← hmd]; simp
   have m1 : md.length = r.length + 5 := by rw [← hmd]; rfl
   have m2 : List.take 3 md = [a, b, c] := by rw [← hmd]; rfl
   have m3 : md.getD 4 0 = e := by rw [← hmd]; rfl
   have m4 : md.getD 3 0 = d := by rw [← hmd]; rfl
   have m5 : List.take (md.length - 5) (List.drop 5 md) = r := by rw [← hmd]; simp
   have m6 : ¬ ((md.length : Nat) : Int) < 5 := by omega
   have m7 : (3 : Int) ≤ ((md.length : Nat) : Int) := by omega
   have m8 : (4 : Int) < ((md.length : Nat) : Int) := by omega
   have m9 : (3 : Int) < ((md.length : Nat) : Int) := by omega
   have m10 : (5 : Int) ≤ ((md.length : Nat) : Int) := by omega
   have m11 : 4 < md.length := by omega
   have m12 : 3 < md.length := by omega
   obtain ⟨rfl, rfl, rfl⟩ := hc

   have F0 := And.intro m0 <| And.intro m2 <| And.intro m3 <| And.intro m4 <| And.intro m5 <| And.intro m6 <| And.intro m7 <| And.intro m8 <| And.intro m9 <| And.intro m10 <| And.intro m11 <| And.intro m12 <| And.intro he <| F0
   exact HT.w
 · have hbad : pmods (a :: b :: c :: d :: e :: r) = none := by rw [pmods_five, if_neg (fun h => h.2.2.2.2.1 hb)]
   have zE := fun m => told_plain (R := (fun v m => v = psV true q k ∧ m = [])) (m := m) (v := .tup [.agg zeroP, .one (.pl (.i 3))]) rfl ⟨(psV_bad (mods_bad (hm0 ▸ g2) hbad)).symm, rfl⟩
   have hmd := hm0.symm
   have m0 : ¬ md = [] := by rw [← hmd]; simp
   have m1 : md.length = r.length + 5 := by rw [← hmd]; rfl
   have m2 : List.take 3 md = [a, b, c] := by rw [← hmd]; rfl
   have m3 : md.getD 4 0 = e := by rw [← hmd]; rfl
   have m4 : md.getD 3 0 = d := by rw [← hmd]; rfl
   have m5 : List.take (md.length - 5) (List.drop 5 md) = r := by rw [← hmd]; simp
   have m6 : ¬ ((md.length : Nat) : Int) < 5 := by omega
   have m7 : (3 : Int) ≤ ((md.length : Nat) : Int) := by omega
   have m8 : (4 : Int) < ((md.length : Nat) : Int) := by omega
   have m9 : (3 : Int) < ((md.length : Nat) : Int) := by omega
   have m10 : (5 : Int) ≤ ((md.length : Nat) : Int) := by omega
   have m11 : 4 < md.length := by omega
   have m12 : 3 < md.length := by omega
   obtain ⟨rfl, rfl, rfl⟩ := hc
   subst he

   have F0 := And.intro m0 <| And.intro m2 <| And.intro m3 <| And.intro m4 <| And.intro m5 <| And.intro m6 <| And.intro m7 <| And.intro m8 <| And.intro m9 <| And.intro m10 <| And.intro m11 <| And.intro m12 <| And.intro hb <| F0
   exact HT.w
 · have hbad : pmods (a :: b :: c :: d :: e :: r) = none := by rw [pmods_five, if_neg (fun h => h.2.2.2.2.2 hb2)]
   have zE := fun m => told_plain (R := (fun v m => v = psV true q k ∧ m = [])) (m := m) (v := .tup [.agg zeroP, .one (.pl (.i 3))]) rfl ⟨(psV_bad (mods_bad (hm0 ▸ g2) hbad)).symm, rfl⟩
   have hmd := hm0.symm
   have m0 : ¬ md = [] := by rw [← hmd]; simp
   have m1 : md.length = r.length + 5 := by rw [← hmd]; rfl
   have m2 : List.take 3 md = [a, b, c] := by rw [← hmd]; rfl
   have m3 : md.getD 4 0 = e := by rw [← hmd]; rfl
   have m4 : md.getD 3 0 = d := by rw [← hmd]; rfl
   have m5 : List.take (md.length - 5) (List.drop 5 md) = r := by rw [← hmd]; simp
   have m6 : ¬ ((md.length : Nat) : Int) < 5 := by omega
   have m7 : (3 : Int) ≤ ((md.length : Nat) : Int) := by omega
   have m8 : (4 : Int) < ((md.length : Nat) : Int) := by omega
   have m9 : (3 : Int) < ((md.length : Nat) : Int) := by omega
   have m10 : (5 : Int) ≤ ((md.length : Nat) : Int) := by omega
   have m11 : 4 < md.length := by omega
   have m12 : 3 < md.length := by omega
   obtain ⟨rfl, rfl, rfl⟩ := hc
   subst he

   have F0 := And.intro m0 <| And.intro m2 <| And.intro m3 <| And.intro m4 <| And.intro m5 <| And.intro m6 <| And.intro m7 <| And.intro m8 <| And.intro m9 <| And.intro m10 <| And.intro m11 <| And.intro m12 <| And.intro hb <| And.intro hb2 <| F0
   exact HT.w
 · have g3 := mods_next (hm0 ▸ g2) ⟨hc.1, hc.2.1, hc.2.2, he, hb, hb2⟩
   have hmd := hm0.symm
   have m0 : ¬ md = [] := by rw [← hmd]; simp
   have m1 : md.length = r.length + 5 := by rw [← hmd]; rfl
   have m2 : List.take 3 md = [a, b, c] := by rw [← hmd]; rfl
   have m3 : md.getD 4 0 = e := by rw [← hmd]; rfl
   have m4 : md.getD 3 0 = d := by rw [← hmd]; rfl
   have m5 : List.take (md.length - 5) (List.drop 5 md) = r := by rw [← hmd]; simp
   have m6 : ¬ ((md.length : Nat) : Int) < 5 := by omega
   have m7 : (3 : Int) ≤ ((md.length : Nat) : Int) := by omega
   have m8 : (4 : Int) < ((md.length : Nat) : Int) := by omega
   have m9 : (3 : Int) < ((md.length : Nat) : Int) := by omega
   have m10 : (5 : Int) ≤ ((md.length : Nat) : Int) := by omega
   have m11 : 4 < md.length := by omega
   have m12 : 3 < md.length := by omega
   obtain ⟨rfl, rfl, rfl⟩ := hc
   subst he

   have F0 := And.intro m0 <| And.intro m2 <| And.intro m3 <| And.intro m4 <| And.intro m5 <| And.intro m6 <| And.intro m7 <| And.intro m8 <| And.intro m9 <| And.intro m10 <| And.intro m11 <| And.intro m12 <| And.intro hb <| And.intro hb2 <| And.intro iV_nil <| And.intro iM_nil <| And.intro iV_one <| And.intro iM_one <| And.intro plsL_nil <| And.intro flatPL_nil <| F0
   have zL := fun S2 => yN0 ⟨(r, [] ++ [(((d - 48).toNat : Nat) : Int)]), (by simp only [List.length_append, List.length_cons, List.length_nil]; (try simp only [List.length_nil] at g1); omega), g3⟩ S2 (by show r.length < md.length; omega)
   exact HT.w
 · have g3 := mods_next (hm0 ▸ g2) ⟨hc.1, hc.2.1, hc.2.2, he, hb, hb2⟩
   have hmd := hm0.symm
   have m0 : ¬ md = [] := by rw [← hmd]; simp
   have m1 : md.length = r.length + 5 := by rw [← hmd]; rfl
   have m2 : List.take 3 md = [a, b, c] := by rw [← hmd]; rfl
   have m3 : md.getD 4 0 = e := by rw [← hmd]; rfl
   have m4 : md.getD 3 0 = d := by rw [← hmd]; rfl
   have m5 : List.take (md.length - 5) (List.drop 5 md) = r := by rw [← hmd]; simp
   have m6 : ¬ ((md.length : Nat) : Int) < 5 := by omega
   have m7 : (3 : Int) ≤ ((md.length : Nat) : Int) := by omega
   have m8 : (4 : Int) < ((md.length : Nat) : Int) := by omega
   have m9 : (3 : Int) < ((md.length : Nat) : Int) := by omega
   have m10 : (5 : Int) ≤ ((md.length : Nat) : Int) := by omega
   have m11 : 4 < md.length := by omega
   have m12 : 3 < md.length := by omega
   obtain ⟨rfl, rfl, rfl⟩ := hc
   subst he
   have hv := iV_own (nm := 79) hne
   have hm := iM_own (nm := 79) hne
   have gcap : (acc.length + 1) * 8 ≤ 140737488355328 := by omega

   have F0 := And.intro m0 <| And.intro m2 <| And.intro m3 <| And.intro m4 <| And.intro m5 <| And.intro m6 <| And.intro m7 <| And.intro m8 <| And.intro m9 <| And.intro m10 <| And.intro m11 <| And.intro m12 <| And.intro hb <| And.intro hb2 <| And.intro hv <| And.intro hm <| And.intro gcap <| F0
   have zL := fun S2 => yN0 ⟨(r, acc ++ [(((d - 48).toNat : Nat) : Int)]), (by simp only [List.length_append, List.length_cons, List.length_nil]; (try simp only [List.length_nil] at g1); omega), g3⟩ S2 (by show r.length < md.length; omega)
   exact HT.w
end Go.Sy

