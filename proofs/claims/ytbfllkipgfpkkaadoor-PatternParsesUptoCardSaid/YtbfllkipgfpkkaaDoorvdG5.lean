/- Walks: the name of a protocol, parsed by the program. -/
import Derived.Test.YtbfllkipgfpkkaaDoorvdG4
set_option linter.unusedVariables false
set_option linter.unusedSimpArgs false
namespace Go.Sy
open Go.Proofs
attribute [local irreducible] atCall HT runOps runD onC onE onO onG goV goA goS onSt onGuard
theorem cut_head (s u : List UInt8) (b : Bool) (hl : s.length ≤ 9223372036854775807) (h1 : Lib.hasPrefix s headN = b) (h2 : Lib.trimPrefix s headN = u) : CtM Tryd.prog 19 [.w (.one (.pl (.str s))), .w (.one (.pl (.str [78, 111, 105, 115, 101, 95])))] [] (fun v m => v = .tup [.one (.pl (.str u)), .one (.pl (.b b))] ∧ m = []) := by
 subst h1 h2; exact cutp_ s headN hl
theorem cut_tail (s u : List UInt8) (b : Bool) (hl : s.length ≤ 9223372036854775807) (h1 : Lib.hasSuffix s tailN = b) (h2 : Lib.trimSuffix s tailN = u) : CtM Tryd.prog 20 [.w (.one (.pl (.str s))), .w (.one (.pl (.str [95, 50, 53, 53, 49, 57, 95, 67, 104, 97, 67, 104, 97, 80, 111, 108, 121, 95, 66, 76, 65, 75, 69, 50, 115])))] [] (fun v m => v = .tup [.one (.pl (.str u)), .one (.pl (.b b))] ∧ m = []) := by
 subst h1 h2; exact cuts_ s tailN hl
theorem big {n : Nat} (h : n ≤ 2000000) : n ≤ 9223372036854775807 := Nat.le_trans h (by decide)
set_option maxHeartbeats 400000 in
theorem parse_n1 (nm : List UInt8) (hl : nm.length ≤ 2000000) (n : Int) (h : Lib.hasPrefix nm headN = false) :
 CtM Tryd.prog 9 [.w (.one (.pl (.str nm)))] [(1000001, ⟨false, [.pl (.i n)]⟩)] (Told (fun v m => v = .tup [.agg zeroP, .one (.pl (.i 3))] ∧ m = [])) := by
 have h2 : Lib.trimPrefix nm headN = nm := by rw [Lib.trimPrefix, h]; rfl
 have zE := fun m => told_plain (R := (fun v m => v = .tup [.agg zeroP, .one (.pl (.i 3))] ∧ m = [])) (m := m) (v := .tup [.agg zeroP, .one (.pl (.i 3))]) rfl ⟨rfl, rfl⟩
 have F0 := trivial
 have ch0 := CtM.ch [] (cut_head nm nm false (big hl) h h2)
 have ch1 := CtM.ch [] (cut_tail nm _ _ (big hl) rfl rfl)
 exact CtM.w Tryd.func9 rfl Tryd.ntmps9 Tryd.results9
set_option maxHeartbeats 400000 in
theorem parse_n2 (nm : List UInt8) (hl : nm.length ≤ 2000000) (n : Int) (h : Lib.hasPrefix nm headN = true) (h3 : Lib.hasSuffix (Lib.trimPrefix nm headN) tailN = false) :
 CtM Tryd.prog 9 [.w (.one (.pl (.str nm)))] [(1000001, ⟨false, [.pl (.i n)]⟩)] (Told (fun v m => v = .tup [.agg zeroP, .one (.pl (.i 3))] ∧ m = [])) := by
 have h2 : (Lib.trimPrefix nm headN).length ≤ nm.length := by rw [Lib.trimPrefix]; split <;> simp
 have zE := fun m => told_plain (R := (fun v m => v = .tup [.agg zeroP, .one (.pl (.i 3))] ∧ m = [])) (m := m) (v := .tup [.agg zeroP, .one (.pl (.i 3))]) rfl ⟨rfl, rfl⟩
 have F0 := trivial
 have ch0 := CtM.ch [] (cut_head nm _ true (big hl) h rfl)
 have ch1 := CtM.ch [] (cut_tail _ _ false (big (Nat.le_trans h2 hl)) h3 rfl)
 exact CtM.w Tryd.func9 rfl Tryd.ntmps9 Tryd.results9
set_option maxHeartbeats 400000 in
theorem parse_i (q : List UInt8) (hl : (headN ++ (q ++ tailN)).length ≤ 2000000) (n : Int) (hi : Lib.index q [112, 115, 107] < 0) :
 CtM Tryd.prog 9 [.w (.one (.pl (.str (headN ++ (q ++ tailN)))))] [(1000001, ⟨false, [.pl (.i n)]⟩)] (Told (fun v m => v = outPV q false [] (wRes q []) ∧ m = [])) := by
 obtain ⟨b1, b2, b3, b4⟩ := bsplit q
 have hl2 : (q ++ tailN).length ≤ 2000000 := by rw [List.length_append] at hl; omega
 have hl3 : q.length ≤ 2000000 := by rw [List.length_append] at hl2; omega
 have hc0 := cut_head _ _ true (big hl) b1 b2
 have hc1 := cut_tail _ _ true (big hl2) b3 b4
 have zE := fun m => told_plain (R := (fun v m => v = outPV q false [] (wRes q []) ∧ m = [])) (m := m) rfl ⟨(outPV_eq q false [] (wRes q [])).symm, rfl⟩
 have F0 := hi
 have ch0 := CtM.ch [] (hc0)
 have ch1 := CtM.ch [] (hc1)
 have ch2 := CtM.ch [] (index_ q [112, 115, 107] (Nat.lt_of_le_of_lt hl3 (by decide)) n)
 have ch3 := CtM.ch [] (with_o q [] true)
 exact CtM.w Tryd.func9 rfl Tryd.ntmps9 Tryd.results9
theorem parts_start (W : List (List UInt8)) : (pParts (W.drop 0)).map (([] : List Int) ++ ·) = pParts W := by
 rw [List.drop_zero]; cases pParts W <;> simp
theorem len_snoc2 {α : Type} {l : List α} {x : α} {n : Nat} (h : l.length ≤ n) : (l ++ [x]).length ≤ n + 1 := by simp only [List.length_append, List.length_cons, List.length_nil]; omega
theorem parts_len (s : List UInt8) : (parts s).length ≤ s.length + 1 := by
 have h := Lib.splitB_all ⟨[43].toArray⟩ (by decide) 0 _ ⟨s.toArray⟩ rfl
 have h2 := Lib.splitB_data ⟨[43].toArray⟩ 0 (Lib.countB ⟨s.toArray⟩ ⟨[43].toArray⟩) ⟨s.toArray⟩
 have h3 : parts s = (Lib.splitB ⟨[43].toArray⟩ 0 (Lib.countB ⟨s.toArray⟩ ⟨[43].toArray⟩) ⟨s.toArray⟩).map (·.data.toList) := h2.symm
 have h4 := Lib.countB_le ⟨[43].toArray⟩ (by decide) _ ⟨s.toArray⟩ (Nat.le_refl _)
 have h5 : (⟨s.toArray⟩ : ByteArray).size = s.length := rfl
 rw [h3, List.length_map, h]; omega
set_option maxHeartbeats 1600000 in
set_option maxRecDepth 100000 in
theorem parse_k (q : List UInt8) (hl : (headN ++ (q ++ tailN)).length ≤ 2000000) (n : Int) (k : Nat) (hk : k ≤ q.length) (hi : Lib.index q [112, 115, 107] = (k : Int)) :
 CtM Tryd.prog 9 [.w (.one (.pl (.str (headN ++ (q ++ tailN)))))] [(1000001, ⟨false, [.pl (.i n)]⟩)] (Told (fun v m => v = psV false q k ∧ m = [])) := by
 obtain ⟨b1, b2, b3, b4⟩ := bsplit q
 have hl2 : (q ++ tailN).length ≤ 2000000 := by rw [List.length_append] at hl; omega
 have hl3 : q.length ≤ 2000000 := by rw [List.length_append] at hl2; omega
 have hc0 := cut_head _ _ true (big hl) b1 b2
 have hc1 := cut_tail _ _ true (big hl2) b3 b4
 have hk0 : ¬ (k : Int) < 0 := by omega
 have hk1 : (0 : Int) ≤ (k : Int) := by omega
 have hk2 : (k : Int) ≤ (q.length : Int) := by omega
 have hc2 := index_ q [112, 115, 107] (Nat.lt_of_le_of_lt hl3 (by decide)) n
 rw [hi] at hc2
 have htk : List.take (q.length - k) (List.drop k q) = List.drop k q := List.take_of_length_le (by rw [List.length_drop]; exact Nat.le_refl _)
 have hpl := parts_len (q.drop k)
 have hdl : (q.drop k).length ≤ 2000000 := by rw [List.length_drop]; omega
 have hc4 := split_ (q.drop k) (Nat.lt_of_le_of_lt hdl (by decide)) n
 have hWl : (parts (q.drop k)).length ≤ 4000000 := by omega
 have hWl4 : (parts (q.drop k)).length ≤ 4000000 := hWl
 have hWt : ∀ i, i < (parts (q.drop k)).length → ((parts (q.drop k)).getD i []).length ≤ 2000000 := fun i hi => by
  have hm : (parts (q.drop k)).getD i [] ∈ parts (q.drop k) := by simp [List.getD, List.getElem?_eq_getElem hi]
  exact Nat.le_trans (splitK_le [43] _ _ _ hm) hdl
 have F0 := And.intro hi <| And.intro htk <| And.intro hk0 <| And.intro hk1 <| And.intro hk2 <| And.intro hk <| And.intro strC_pls <| And.intro mapS_length <| And.intro iV_nil <| And.intro iM_nil <| And.intro (@leX_self Ob) <| And.intro (@iM_look 76 31 (by decide)) <| And.intro (@iM_look 76 2 (by decide)) <| And.intro (@iM_set 76 2 (by decide)) <| And.intro u8idx <| And.intro iV_snoc <| And.intro iM_snoc <| And.intro iC_length <| And.intro iC_has <| iC_kill
 refine CtM.k Tryd.func9 rfl Tryd.ntmps9 (congrArg Array.toList Tryd.results9) (by simp) fun w0 ro may fx => ?_
 refine top_k fun zZ zhZ => ?_
 iterate 30 first
  | (refine sr_k fun zK zhK => ?_; simp only [go_sem, F0]; (repeat' (first | apply And.intro | intro _)))
  | refine zhK _ ?_
  | refine skip_k ?_
  | (refine zhN _ ?_; clear zhN zhM)
  | refine block_k fun zB zbn zbx zbr zbi => ?_
  | ((all_goals (refine call_hand false [] (fun k => k) (fun _ _ => rfl) ?_ (by decide) ?_ hc0 ?_; iterate 2 (focus (first | rfl | (simp only [go_sem, F0] <;> first | done | rfl | simp))))); (all_goals (rintro v m ⟨hR, hm⟩; subst hR; subst hm)); (all_goals (refine And.intro ?_ (And.intro ?_ (And.intro ?_ ?_)); iterate 3 (focus (first | rfl | (simp only [go_sem, F0]; done) | (simp [go_sem, look, F0]; done))))); (all_goals (try simp only [go_sem, F0])); (all_goals (try simp only [go_sem, F0])); (all_goals repeat' (first | apply And.intro | intro _)))
  | ((all_goals (refine call_hand false [] (fun k => k) (fun _ _ => rfl) ?_ (by decide) ?_ hc1 ?_; iterate 2 (focus (first | rfl | (simp only [go_sem, F0] <;> first | done | rfl | simp))))); (all_goals (rintro v m ⟨hR, hm⟩; subst hR; subst hm)); (all_goals (refine And.intro ?_ (And.intro ?_ (And.intro ?_ ?_)); iterate 3 (focus (first | rfl | (simp only [go_sem, F0]; done) | (simp [go_sem, look, F0]; done))))); (all_goals (try simp only [go_sem, F0])); (all_goals (try simp only [go_sem, F0])); (all_goals repeat' (first | apply And.intro | intro _)))
  | ((all_goals (refine call_hand false [] (fun k => k) (fun _ _ => rfl) ?_ (by decide) ?_ hc2 ?_; iterate 2 (focus (first | rfl | (simp only [go_sem, F0] <;> first | done | rfl | simp))))); (all_goals (rintro v m ⟨hR, hm⟩; subst hR; subst hm)); (all_goals (refine And.intro ?_ (And.intro ?_ (And.intro ?_ ?_)); iterate 3 (focus (first | rfl | (simp only [go_sem, F0]; done) | (simp [go_sem, look, F0]; done))))); (all_goals (try simp only [go_sem, F0])); (all_goals (try simp only [go_sem, F0])); (all_goals repeat' (first | apply And.intro | intro _)))
  | ((all_goals (refine call_hand false [] (fun k => k) (fun _ _ => rfl) ?_ (by decide) ?_ hc4 ?_; iterate 2 (focus (first | rfl | (simp only [go_sem, F0] <;> first | done | rfl | simp))))); (all_goals (rintro v m ⟨hR, hm⟩; subst hR; subst hm)); (all_goals (refine And.intro ?_ (And.intro ?_ (And.intro ?_ ?_)); iterate 3 (focus (first | rfl | (simp only [go_sem, F0]; done) | (simp [go_sem, look, F0]; done))))); (all_goals (try simp only [go_sem, F0])); (all_goals (try simp only [go_sem, F0])); (all_goals repeat' (first | apply And.intro | intro _)))
  | refine seq_k fun zN zM zhN zhM => ?_
  | (refine condF_k ?_ ?_; focus (first | rfl | (simp [go_sem, F0]; done)))
 refine loop_k (fun y => [(43, .w (.one (.pl (.i ((y.1.1 : Nat) : Int))))), (8, iV 76 y.1.2)]) (fun y => iM 76 y.1.2) (fun y => (parts (q.drop k)).length - y.1.1) (⟨(0, []), Nat.zero_le _, Nat.le_refl _, parts_start _⟩ : {y : Nat × List Int // y.1 ≤ (parts (q.drop k)).length ∧ y.2.length ≤ y.1 ∧ (pParts ((parts (q.drop k)).drop y.1)).map (y.2 ++ ·) = pParts (parts (q.drop k))}) ?_ ?_ ?_
 · (simp only [go_sem, leX, List.cons_append, List.nil_append, F0]; try simp)
 · (simp only [go_sem, leX, List.cons_append, List.nil_append, F0]; try simp)
 intro yy zN zM zhN zhM
 simp only [List.cons_append, List.nil_append]
 have yN0 := zhN
 obtain ⟨⟨i, acc⟩, h1, h2, h3⟩ := yy
 simp only at h1 h2 h3
 have hd : i < (parts (q.drop k)).length ∨ (i = (parts (q.drop k)).length ∧ acc = []) ∨ (i = (parts (q.drop k)).length ∧ acc ≠ []) := by by_cases acc = [] <;> simp_all <;> omega
 obtain ⟨wd, hwd⟩ : ∃ wd, (parts (q.drop k)).getD i [] = wd := ⟨_, rfl⟩
 have hd2 := part_cases wd
 have hdd : (i < (parts (q.drop k)).length ∧ Lib.hasPrefix wd pskN = false ∧ pPart wd = none) ∨ (i < (parts (q.drop k)).length ∧ Lib.hasPrefix wd pskN = true ∧ ¬ (Lib.trimPrefix wd pskN).length = 1 ∧ pPart wd = none) ∨ (i < (parts (q.drop k)).length ∧ ∃ d, Lib.hasPrefix wd pskN = true ∧ Lib.trimPrefix wd pskN = [d] ∧ d < 48 ∧ pPart wd = none) ∨ (i < (parts (q.drop k)).length ∧ ∃ d, Lib.hasPrefix wd pskN = true ∧ Lib.trimPrefix wd pskN = [d] ∧ ¬ d < 48 ∧ 57 < d ∧ pPart wd = none) ∨ (i < (parts (q.drop k)).length ∧ acc = [] ∧ ∃ d, Lib.hasPrefix wd pskN = true ∧ Lib.trimPrefix wd pskN = [d] ∧ ¬ d < 48 ∧ ¬ 57 < d ∧ pPart wd = some (((d - 48).toNat : Nat) : Int)) ∨ (i < (parts (q.drop k)).length ∧ acc ≠ [] ∧ ∃ d, Lib.hasPrefix wd pskN = true ∧ Lib.trimPrefix wd pskN = [d] ∧ ¬ d < 48 ∧ ¬ 57 < d ∧ pPart wd = some (((d - 48).toNat : Nat) : Int)) ∨ (i = (parts (q.drop k)).length ∧ acc = []) ∨ (i = (parts (q.drop k)).length ∧ acc ≠ []) := by
  rcases hd with h | h | h
  · rcases hd2 with g | g | g | g | g
    · exact .inl ⟨h, g⟩
    · exact .inr (.inl ⟨h, g⟩)
    · exact .inr (.inr (.inl ⟨h, g⟩))
    · exact .inr (.inr (.inr (.inl ⟨h, g⟩)))
    · by_cases ha : acc = []
      · exact .inr (.inr (.inr (.inr (.inl ⟨h, ha, g⟩))))
      · exact .inr (.inr (.inr (.inr (.inr (.inl ⟨h, ha, g⟩)))))
  · exact .inr (.inr (.inr (.inr (.inr (.inr (.inl h))))))
  · exact .inr (.inr (.inr (.inr (.inr (.inr (.inr h))))))
 clear hd hd2
 rcases hdd with ⟨glt, hc, hp⟩ | ⟨glt, hc, hn1, hp⟩ | ⟨glt, d, hc, hu, hb, hp⟩ | ⟨glt, d, hc, hu, hb, hb2, hp⟩ | ⟨glt, rfl, d, hc, hu, hb, hb2, hp⟩ | ⟨glt, hne, d, hc, hu, hb, hb2, hp⟩ | ⟨rfl, rfl⟩ | ⟨rfl, hne⟩
 · have gcq := ltI glt
   have gj := Int.natCast_nonneg i
   have gat := strP_at glt
   rw [hwd] at gat
   have gs1 := wsucc2 glt hWl
   have gle : i + 1 ≤ (parts (q.drop k)).length := glt
   have hwl : wd.length ≤ 2000000 := hwd ▸ hWt i glt
   have zE := fun m => told_plain (R := (fun v m => v = psV false q k ∧ m = [])) (m := m) (v := .tup [.agg zeroP, .one (.pl (.i 3))]) rfl ⟨(psV_bad (by rw [← parts_pmods]; exact parts_bad glt hwd hp h3)).symm, rfl⟩

   have F0 := And.intro gcq <| And.intro gj <| And.intro glt <| And.intro gat <| And.intro gs1 <| And.intro gle <| F0
   have ch0 := CtM.ch [] (cut_part wd _ false (big hwl) hc rfl)
   exact HT.w
 · have gcq := ltI glt
   have gj := Int.natCast_nonneg i
   have gat := strP_at glt
   rw [hwd] at gat
   have gs1 := wsucc2 glt hWl
   have gle : i + 1 ≤ (parts (q.drop k)).length := glt
   have hwl : wd.length ≤ 2000000 := hwd ▸ hWt i glt
   obtain ⟨u, hu⟩ : ∃ u, Lib.trimPrefix wd pskN = u := ⟨_, rfl⟩
   rw [hu] at hn1
   have hn2 : ¬ ((u.length : Nat) : Int) = 1 := by omega
   have zE := fun m => told_plain (R := (fun v m => v = psV false q k ∧ m = [])) (m := m) (v := .tup [.agg zeroP, .one (.pl (.i 3))]) rfl ⟨(psV_bad (by rw [← parts_pmods]; exact parts_bad glt hwd hp h3)).symm, rfl⟩

   have F0 := And.intro gcq <| And.intro gj <| And.intro glt <| And.intro gat <| And.intro gs1 <| And.intro gle <| And.intro hn2 <| F0
   have ch0 := CtM.ch [] (cut_part wd u true (big hwl) hc hu)
   exact HT.w
 · have gcq := ltI glt
   have gj := Int.natCast_nonneg i
   have gat := strP_at glt
   rw [hwd] at gat
   have gs1 := wsucc2 glt hWl
   have gle : i + 1 ≤ (parts (q.drop k)).length := glt
   have hwl : wd.length ≤ 2000000 := hwd ▸ hWt i glt
   have zE := fun m => told_plain (R := (fun v m => v = psV false q k ∧ m = [])) (m := m) (v := .tup [.agg zeroP, .one (.pl (.i 3))]) rfl ⟨(psV_bad (by rw [← parts_pmods]; exact parts_bad glt hwd hp h3)).symm, rfl⟩

   have F0 := And.intro gcq <| And.intro gj <| And.intro glt <| And.intro gat <| And.intro gs1 <| And.intro gle <| And.intro hb <| F0
   have ch0 := CtM.ch [] (cut_part wd [d] true (big hwl) hc hu)
   exact HT.w
 · have gcq := ltI glt
   have gj := Int.natCast_nonneg i
   have gat := strP_at glt
   rw [hwd] at gat
   have gs1 := wsucc2 glt hWl
   have gle : i + 1 ≤ (parts (q.drop k)).length := glt
   have hwl : wd.length ≤ 2000000 := hwd ▸ hWt i glt
   have zE := fun m => told_plain (R := (fun v m => v = psV false q k ∧ m = [])) (m := m) (v := .tup [.agg zeroP, .one (.pl (.i 3))]) rfl ⟨(psV_bad (by rw [← parts_pmods]; exact parts_bad glt hwd hp h3)).symm, rfl⟩

   have F0 := And.intro gcq <| And.intro gj <| And.intro glt <| And.intro gat <| And.intro gs1 <| And.intro gle <| And.intro hb <| And.intro hb2 <| F0
   have ch0 := CtM.ch [] (cut_part wd [d] true (big hwl) hc hu)
   exact HT.w
 · have gcq := ltI glt
   have gj := Int.natCast_nonneg i
   have gat := strP_at glt
   rw [hwd] at gat
   have gs1 := wsucc2 glt hWl
   have gle : i + 1 ≤ (parts (q.drop k)).length := glt
   have hwl : wd.length ≤ 2000000 := hwd ▸ hWt i glt

   have F0 := And.intro gcq <| And.intro gj <| And.intro glt <| And.intro gat <| And.intro gs1 <| And.intro gle <| And.intro hb <| And.intro hb2 <| And.intro iV_nil <| And.intro iM_nil <| And.intro iV_one <| And.intro iM_one <| And.intro plsL_nil <| And.intro flatPL_nil <| F0
   have ch0 := CtM.ch [] (cut_part wd [d] true (big hwl) hc hu)
   have zL := fun S2 => yN0 ⟨(i + 1, [] ++ [(((d - 48).toNat : Nat) : Int)]), glt, len_snoc2 h2, parts_next glt hwd hp h3⟩ S2 (by exact Nat.sub_lt_sub_left glt (Nat.lt_succ_self i))
   exact HT.w
 · have gcq := ltI glt
   have gj := Int.natCast_nonneg i
   have gat := strP_at glt
   rw [hwd] at gat
   have gs1 := wsucc2 glt hWl
   have gle : i + 1 ≤ (parts (q.drop k)).length := glt
   have hwl : wd.length ≤ 2000000 := hwd ▸ hWt i glt
   have hv := iV_own (nm := 76) hne
   have hm := iM_own (nm := 76) hne
   have gcap := capI h2 glt hWl4

   have F0 := And.intro gcq <| And.intro gj <| And.intro glt <| And.intro gat <| And.intro gs1 <| And.intro gle <| And.intro hb <| And.intro hb2 <| And.intro hv <| And.intro hm <| And.intro gcap <| F0
   have ch0 := CtM.ch [] (cut_part wd [d] true (big hwl) hc hu)
   have zL := fun S2 => yN0 ⟨(i + 1, acc ++ [(((d - 48).toNat : Nat) : Int)]), glt, len_snoc2 h2, parts_next glt hwd hp h3⟩ S2 (by exact Nat.sub_lt_sub_left glt (Nat.lt_succ_self i))
   exact HT.w
 · have gcq := nltI (n := (parts (q.drop k)).length)
   have hfin : pmods (q.drop k ++ [43]) = some [] := by rw [← parts_pmods]; exact parts_end h3
   have zE := fun m => told_plain (R := (fun v m => v = psV false q k ∧ m = [])) (m := m) rfl ⟨(outPV_eq (q.take k) false [] (wRes (q.take k) [])).symm.trans (psV_ok (r := false) hfin).symm, rfl⟩

   have F0 := And.intro gcq <| F0
   have ch0 := CtM.ch [] (with_o (q.take k) [] true)
   exact HT.w
 · have gcq := nltI (n := (parts (q.drop k)).length)
   have hv := iV_own (nm := 76) hne
   have hm := iM_own (nm := 76) hne
   have hfin : pmods (q.drop k ++ [43]) = some acc := by rw [← parts_pmods]; exact parts_end h3
   have zE := fun m => told_plain (R := (fun v m => v = psV false q k ∧ m = [])) (m := m) rfl ⟨(outPV_eq (q.take k) false acc (wRes (q.take k) acc)).symm.trans (psV_ok (r := false) hfin).symm, rfl⟩

   have F0 := And.intro gcq <| And.intro hv <| And.intro hm <| F0
   refine sr_k fun zK zhK => ?_
   simp only [go_sem, F0]
   repeat' (first | apply And.intro | intro _)
   refine zhK _ ?_
   refine seq_k fun zN zM zhN zhM => ?_
   (refine condF_k ?_ ?_; focus (first | rfl | (simp [go_sem, F0]; done)))
   refine exit_k ?_
   refine zhM _ _ ?_; clear zhN zhM
   refine zhM _ _ ?_; clear zhN zhM
   refine zbx _ ?_; clear zbn zbx zbr zbi
   refine zhN _ ?_; clear zhN zhM
   refine ht_dropE [0, 1, 5, 6, 9, 10, 11, 12, 13, 14, 15, 16, 17, 18, 19, 20, 21, 22, 23, 24, 25, 26, 27, 28, 29, 30, 31, 32, 33, 34, 35, 36, 37, 38, 39, 40, 41, 42, 43, 44, 45, 46, 47, 48, 49, 50, 51, 52, 53, 54, 55, 56, 57, 58, 59, 60, 61, 62, 63, 64, 65, 66, 67, 68, 69, 70, 71, 72, 73, 74, 75, 76, 77, 78, 79, 80, 81, 82, 83, 84] ?_
   simp only [dropE_mk, fgt_nil, fgt_cons, List.contains_cons, List.contains_nil, Nat.reduceBEq, beq_self_eq_true, Bool.or_false, Bool.or_true, Bool.true_or, Bool.false_or, Bool.false_eq_true, reduceIte]
   refine ht_seal 76 (acc.map PL.i) (b := true) (by simp only [look, F0, Nat.reduceEqDiff, if_true, if_false, reduceIte, iC_pls]) (by decide) ?_
   simp only [St.laid, sealE, sealM, sealV, sealW, List.map_cons, List.map_nil, sealL_pl, sealL_fn0, sealI, seal_pls, sealL_pne (j := 2) (k := 76) (by decide), sealL_sne (j := 31) (k := 76) (by decide), Nat.reduceLT, Nat.reduceEqDiff, if_true, if_false, reduceIte]
   refine sr_k fun zK zhK => ?_
   simp only [go_sem, F0]
   repeat' (first | apply And.intro | intro _)
   all_goals (refine call_hand false [] (fun k => k) (fun _ _ => rfl) ?_ (by decide) ?_ (with_o (q.take k) acc false) ?_; iterate 2 (focus (first | rfl | (simp only [go_sem, F0] <;> first | done | rfl | simp))))
   all_goals (rintro v m ⟨hR, hm⟩; subst hR; subst hm)
   all_goals (refine And.intro ?_ (And.intro ?_ (And.intro ?_ ?_)); iterate 3 (focus (first | rfl | (simp only [go_sem, F0]; done) | (simp [go_sem, look, F0]; done))))
   all_goals (try simp only [go_sem, F0])
   all_goals (try simp only [go_sem, F0])
   all_goals repeat' (first | apply And.intro | intro _)
   refine zhK _ ?_
   refine ret_k ?_
   refine zhZ _ _ ?_
   simp only [go_sem, F0]
   all_goals (exact zE _)
end Go.Sy

