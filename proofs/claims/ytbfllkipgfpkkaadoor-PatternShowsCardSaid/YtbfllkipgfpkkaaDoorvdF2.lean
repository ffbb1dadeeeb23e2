/- Walks: the tokens of a text. -/
import Derived.Test.YtbfllkipgfpkkaaDoorvdC2
import Derived.Test.YtbfllkipgfpkkaaDoorvdF1
set_option linter.unusedVariables false
set_option linter.unusedSimpArgs false
namespace Go.Sy
open Go.Proofs
attribute [local irreducible] atCall HT runOps runD onC onE onO onG goV goA goS onSt onGuard
def tokN : List (List UInt8) := [[], [101], [115], [101, 101], [101, 115], [115, 101], [115, 115], [112, 115, 107]]
def tokG (w : List UInt8) : Nat → List (List UInt8) → List Int
 | _, [] => []
 | j, n :: r => (if n = w then [(j : Int)] else []) ++ tokG w (j + 1) r
def tokL (s : List UInt8) : List Int := (wordsG [] s).flatMap fun w => tokG w 0 tokN
theorem strC_pls (l : List (List UInt8)) : strC l = pls (l.map PL.str) := by simp [strC, pls]
theorem strC_length (l : List (List UInt8)) : (strC l).length = l.length := by simp [strC]
theorem mapS_length (l : List (List UInt8)) : (l.map PL.str).length = l.length := List.length_map ..
theorem strC_at {l : List (List UInt8)} {i : Nat} (h : i < l.length) : List.take 1 (List.drop i (strC l)) = [.pl (.str (l.getD i []))] := by
 have h' : i < (strC l).length := by rw [strC_length]; exact h
 rw [List.drop_eq_getElem_cons h', List.take_succ_cons, List.take_zero]
 simp [strC, List.getD, List.getElem?_eq_getElem h]
theorem tok_len {a : List Int} {x : Int} {i j : Nat} (h : a.length ≤ i * 8 + j) : (a ++ [x]).length ≤ i * 8 + (j + 1) := by rw [List.length_append, List.length_singleton]; omega
theorem tok_yes {w : List UInt8} {j : Nat} {ac T : List Int} (h : j < 8) (hw : tokN.getD j [] = w) (k : ac ++ tokG w j (tokN.drop j) = T) : (ac ++ [(j : Int)]) ++ tokG w (j + 1) (tokN.drop (j + 1)) = T := by
 rw [drop_getD (z := []) (show j < tokN.length from h), tokG, if_pos hw] at k
 rw [← k]; simp
theorem tok_no {w : List UInt8} {j : Nat} {ac T : List Int} (h : j < 8) (hw : ¬ tokN.getD j [] = w) (k : ac ++ tokG w j (tokN.drop j) = T) : ac ++ tokG w (j + 1) (tokN.drop (j + 1)) = T := by
 rw [drop_getD (z := []) (show j < tokN.length from h), tokG, if_neg hw] at k
 exact k
theorem tok_next {W : List (List UInt8)} {i : Nat} {w : List UInt8} {ac acc T : List Int} (h : i < W.length) (hw : W.getD i [] = w) (k : ac = acc ++ tokG w 0 tokN) (h3 : acc ++ (W.drop i).flatMap (fun w => tokG w 0 tokN) = T) :
 ac ++ (W.drop (i + 1)).flatMap (fun w => tokG w 0 tokN) = T := by
 rw [drop_getD (z := []) h, List.flatMap_cons, hw] at h3
 rw [k, ← h3, List.append_assoc]
theorem ltI8 {j : Nat} (h : j < 8) : (j : Int) < 8 := by omega
theorem nI8 : ¬ (8 : Int) < 8 := by decide
theorem j8 {j : Nat} (h : j < 8) : Go.RowKit.wrap64 ((j : Int) + 1) = ((j + 1 : Nat) : Int) := wnat (by omega) (by omega)
def iC (l : List Int) : List L := l.map fun x => .pl (.i x)
def iV (nm : Nat) (l : List Int) : V := match l with | [] => .w (.one (.pl (.R true 1 []))) | _ :: _ => .w (.one (.s nm [] l.length 1))
def iM (nm : Nat) (l : List Int) : List (Nat × Ob) := match l with | [] => [] | _ :: _ => [(nm, ⟨true, iC l⟩)]
theorem iV_nil (nm : Nat) : iV nm [] = .w (.one (.pl (.R true 1 []))) := rfl
theorem iM_nil (nm : Nat) : iM nm [] = [] := rfl
theorem iV_own {nm : Nat} {l : List Int} (h : l ≠ []) : iV nm l = .w (.one (.s nm [] l.length 1)) := by cases l with | nil => exact absurd rfl h | cons a r => rfl
theorem iM_own {nm : Nat} {l : List Int} (h : l ≠ []) : iM nm l = [(nm, ⟨true, iC l⟩)] := by cases l with | nil => exact absurd rfl h | cons a r => rfl
theorem iV_one (nm : Nat) (x : Int) : iV nm [x] = .w (.one (.s nm [] 1 1)) := rfl
theorem iM_one (nm : Nat) (x : Int) : iM nm [x] = [(nm, ⟨true, [.pl (.i x)]⟩)] := rfl
theorem iC_snoc (l : List Int) (x : Int) : iC (l ++ [x]) = iC l ++ [.pl (.i x)] := by simp [iC]
theorem iV_snoc (nm : Nat) (l : List Int) (x : Int) : iV nm (l ++ [x]) = .w (.one (.s nm [] (l.length + 1) 1)) := by rw [iV_own (by simp)]; simp
theorem iM_snoc (nm : Nat) (l : List Int) (x : Int) : iM nm (l ++ [x]) = [(nm, ⟨true, iC l ++ [.pl (.i x)]⟩)] := by rw [iM_own (by simp), iC_snoc]
theorem iM_look {nm k : Nat} (h : nm ≠ k) (l : List Int) (M : List (Nat × Ob)) : look (iM nm l ++ M) k = look M k := by
 cases l with
 | nil => rfl
 | cons a r => simp only [iM, List.cons_append, List.nil_append, look]; first | rfl | (rw [if_neg h]) | (rw [if_neg (fun e => h e.symm)]) | simp [h]
theorem iC_length (l : List Int) : (iC l).length = l.length := by simp [iC]
theorem iC_has (l : List Int) (k : Nat) : (iC l).any (L.has k) = false := by
 induction l with
 | nil => rfl
 | cons a r ih => simp only [iC, List.map_cons, List.any_cons] at ih ⊢; rw [ih]; rfl
theorem iC_pls (l : List Int) : iC l = pls (l.map PL.i) := by simp [iC, pls]
theorem iC_kill (l : List Int) (k : Nat) : (iC l).map (killL k) = iC l := by rw [iC_pls]; exact killL_pls k _
theorem chunks_i : ∀ l : List Int, chunks 1 l.length (l.map PL.i) = iRows l
 | [] => rfl
 | a :: r => by
  have ih := chunks_i r
  simp only [List.map_cons, List.length_cons, chunks, List.take_succ_cons, List.take_zero, List.drop_succ_cons, List.drop_zero, iRows]
  rw [ih]; rfl
theorem told_ints {nm : Nat} (hn : nm < 500000) (l : List Int) {m : List (Nat × Ob)} (hm : l ≠ [] → look m nm = some ⟨true, iC l⟩) : Told (fun v m => v = .w (.one (.pl (rowP l))) ∧ m = []) (iV nm l) m := by
 cases l with
 | nil => exact told_plain rfl ⟨rfl, rfl⟩
 | cons a r =>
  refine told_seal nm (c := (a :: r).map PL.i) ((hm (by simp)).trans (by rw [iC_pls])) hn ?_
  have h0 : pok ((a :: r).map PL.i).length [] ∧ psz ((a :: r).map PL.i).length [] = (a :: r).length * 1 := ⟨trivial, by simp [psz]⟩
  simp only [iV, sealV, sealW, sealL, if_true, if_pos h0]
  rw [show rd ((a :: r).map PL.i) [] = (a :: r).map PL.i from rfl, chunks_i]
  exact told_plain rfl ⟨rfl, rfl⟩
theorem plsL_nil : pls [] = [] := rfl
theorem flatPL_nil : ([] : List (List PL)).flatten = [] := rfl
theorem cap_tok {a i j w : Nat} (h : a ≤ i * 8 + j) (hi : i < w) (hj : j < 8) (hw : w ≤ 1000000) : (a + 1) * 8 ≤ 140737488355328 := by omega
set_option maxHeartbeats 1600000 in
set_option maxRecDepth 100000 in
theorem gs_tokw  :
 Ct Tryd.prog 25 [.w (.one (.pl (.str [32, 101, 32, 115, 32, 101, 101, 32, 101, 115, 32, 115, 101, 32, 115, 115, 32, 112, 115, 107]))), .w (.one (.pl (.str [32]))), .w (.one (.pl (.i 0))), .w (.one (.pl (.i (-1))))] (Told (fun v m => v = .w (.one (.s 31 [(0, 8)] 8 1)) ∧ m = [(31, ⟨true, [.pl (.str []), .pl (.str [101]), .pl (.str [115]), .pl (.str [101, 101]), .pl (.str [101, 115]), .pl (.str [115, 101]), .pl (.str [115, 115]), .pl (.str [112, 115, 107])]⟩)])) := by
 have e0 : Lib.countByte [32, 101, 32, 115, 32, 101, 101, 32, 101, 115, 32, 115, 101, 32, 115, 115, 32, 112, 115, 107] 32 = 7 := by decide
 have q0 := count1_ [32, 101, 32, 115, 32, 101, 101, 32, 101, 115, 32, 115, 101, 32, 115, 115, 32, 112, 115, 107] 32
 rw [e0] at q0
 have e1 : Lib.indexByte [32, 101, 32, 115, 32, 101, 101, 32, 101, 115, 32, 115, 101, 32, 115, 115, 32, 112, 115, 107] 32 = 0 := by decide
 have q1 := indexs_ [32, 101, 32, 115, 32, 101, 101, 32, 101, 115, 32, 115, 101, 32, 115, 115, 32, 112, 115, 107] 32
 rw [e1] at q1
 have e2 : Lib.indexByte [101, 32, 115, 32, 101, 101, 32, 101, 115, 32, 115, 101, 32, 115, 115, 32, 112, 115, 107] 32 = 1 := by decide
 have q2 := indexs_ [101, 32, 115, 32, 101, 101, 32, 101, 115, 32, 115, 101, 32, 115, 115, 32, 112, 115, 107] 32
 rw [e2] at q2
 have e3 : Lib.indexByte [115, 32, 101, 101, 32, 101, 115, 32, 115, 101, 32, 115, 115, 32, 112, 115, 107] 32 = 1 := by decide
 have q3 := indexs_ [115, 32, 101, 101, 32, 101, 115, 32, 115, 101, 32, 115, 115, 32, 112, 115, 107] 32
 rw [e3] at q3
 have e4 : Lib.indexByte [101, 101, 32, 101, 115, 32, 115, 101, 32, 115, 115, 32, 112, 115, 107] 32 = 2 := by decide
 have q4 := indexs_ [101, 101, 32, 101, 115, 32, 115, 101, 32, 115, 115, 32, 112, 115, 107] 32
 rw [e4] at q4
 have e5 : Lib.indexByte [101, 115, 32, 115, 101, 32, 115, 115, 32, 112, 115, 107] 32 = 2 := by decide
 have q5 := indexs_ [101, 115, 32, 115, 101, 32, 115, 115, 32, 112, 115, 107] 32
 rw [e5] at q5
 have e6 : Lib.indexByte [115, 101, 32, 115, 115, 32, 112, 115, 107] 32 = 2 := by decide
 have q6 := indexs_ [115, 101, 32, 115, 115, 32, 112, 115, 107] 32
 rw [e6] at q6
 have e7 : Lib.indexByte [115, 115, 32, 112, 115, 107] 32 = 2 := by decide
 have q7 := indexs_ [115, 115, 32, 112, 115, 107] 32
 rw [e7] at q7
 have F0 := trivial
 have cv0 := Ct.cv (q0)
 have cv1 := Ct.cv (q1)
 have cv2 := Ct.cv (q2)
 have cv3 := Ct.cv (q3)
 have cv4 := Ct.cv (q4)
 have cv5 := Ct.cv (q5)
 have cv6 := Ct.cv (q6)
 have cv7 := Ct.cv (q7)
 have zF : FG [12, 13, 14, 15, 16, 17, 18, 19, 20, 21, 22, 23, 24, 25, 26, 27, 28, 29, 30, 32, 33, 34, 35, 36, 37, 38, 39, 40, 41, 42, 43, 44, 45, 46, 47, 48, 49, 50, 51, 52, 53, 54, 55, 56, 57, 58, 59, 60, 61, 62, 63, 64, 65] := trivial
 exact Ct.run Tryd.func25 rfl Tryd.ntmps25 Tryd.results25
theorem gs_tok : Ct Tryd.prog 25 [.w (.one (.pl (.str [32, 101, 32, 115, 32, 101, 101, 32, 101, 115, 32, 115, 101, 32, 115, 115, 32, 112, 115, 107]))), .w (.one (.pl (.str [32]))), .w (.one (.pl (.i 0))), .w (.one (.pl (.i (-1))))] (fun v m => v = .w (.one (.s 31 [(0, 8)] 8 1)) ∧ m = [(31, ⟨true, [.pl (.str []), .pl (.str [101]), .pl (.str [115]), .pl (.str [101, 101]), .pl (.str [101, 115]), .pl (.str [115, 101]), .pl (.str [115, 115]), .pl (.str [112, 115, 107])]⟩)]) := gs_tokw.told
set_option maxHeartbeats 1600000 in
set_option maxRecDepth 100000 in
theorem sp_tokw  :
 Ct Tryd.prog 15 [.w (.one (.pl (.str [32, 101, 32, 115, 32, 101, 101, 32, 101, 115, 32, 115, 101, 32, 115, 115, 32, 112, 115, 107]))), .w (.one (.pl (.str [32])))] (Told (fun v m => v = .w (.one (.s 1031 [(0, 8)] 8 1)) ∧ m = [(1031, ⟨true, [.pl (.str []), .pl (.str [101]), .pl (.str [115]), .pl (.str [101, 101]), .pl (.str [101, 115]), .pl (.str [115, 101]), .pl (.str [115, 115]), .pl (.str [112, 115, 107])]⟩)])) := by
 have F0 := trivial
 have ch0 := CtM.ch [] (gs_tok.hands)
 have zF : FG [5, 6, 7] := trivial
 exact Ct.run Tryd.func15 rfl Tryd.ntmps15 Tryd.results15
theorem sp_tok : Ct Tryd.prog 15 [.w (.one (.pl (.str [32, 101, 32, 115, 32, 101, 101, 32, 101, 115, 32, 115, 101, 32, 115, 115, 32, 112, 115, 107]))), .w (.one (.pl (.str [32])))] (fun v m => v = .w (.one (.s 1031 [(0, 8)] 8 1)) ∧ m = [(1031, ⟨true, [.pl (.str []), .pl (.str [101]), .pl (.str [115]), .pl (.str [101, 101]), .pl (.str [101, 115]), .pl (.str [115, 101]), .pl (.str [115, 115]), .pl (.str [112, 115, 107])]⟩)]) := sp_tokw.told
set_option maxHeartbeats 1600000 in
set_option maxRecDepth 100000 in
theorem tokens_w (s : List UInt8) (hs : ∀ b ∈ s, b.toNat < 128) (hl : s.length ≤ 1000000) :
 CtM Tryd.prog 17 [.w (.one (.pl (.str s)))] [(1000000, ⟨false, bytesC spaceL⟩)] (Told (fun v m => v = .w (.one (.pl (rowP (tokL s)))) ∧ m = [])) := by
 have hWl : (wordsG [] s).length ≤ 1000000 := Nat.le_trans (by rw [← cnt_all]; exact cntG_le s true) hl
 have F0 := And.intro strC_pls <| And.intro mapS_length <| And.intro iV_nil <| And.intro iM_nil <| And.intro (@leX_self Ob) <| And.intro (@iM_look 30 41 (by decide)) <| And.intro (@iM_look 30 1031 (by decide)) <| And.intro iV_snoc <| And.intro iM_snoc <| And.intro iC_length <| And.intro iC_has <| iC_kill
 refine CtM.k Tryd.func17 rfl Tryd.ntmps17 (congrArg Array.toList Tryd.results17) (by simp) fun w0 ro may fx => ?_
 refine top_k fun zZ zhZ => ?_
 iterate 12 first
  | (refine sr_k fun zK zhK => ?_; simp only [go_sem, F0]; (repeat' (first | apply And.intro | intro _)))
  | refine zhK _ ?_
  | refine block_k fun zB zbn zbx zbr zbi => ?_
  | ((all_goals (refine call_hand false [] (fun k => k) (fun _ _ => rfl) ?_ (by decide) ?_ sp_tok.hands ?_; iterate 2 (focus (first | rfl | (simp only [go_sem, F0] <;> first | done | rfl | simp))))); (all_goals (rintro v m ⟨hR, hm⟩; subst hR; subst hm)); (all_goals (refine And.intro ?_ (And.intro ?_ (And.intro ?_ ?_)); iterate 3 (focus (first | rfl | (simp only [go_sem, F0]; done) | (simp [go_sem, look, F0]; done))))); (all_goals (try simp only [go_sem, F0])); (all_goals (try simp only [go_sem, F0])); (all_goals repeat' (first | apply And.intro | intro _)))
  | ((all_goals (refine call_hand false [] (fun k => k) (fun _ _ => rfl) ?_ (by decide) ?_ (fields_w s hs hl).told ?_; iterate 2 (focus (first | rfl | (simp only [go_sem, F0] <;> first | done | rfl | simp))))); (all_goals (rintro v m ⟨hR, hm⟩; subst hR; subst hm)); (all_goals (refine And.intro ?_ (And.intro ?_ (And.intro ?_ ?_)); iterate 3 (focus (first | rfl | (simp only [go_sem, F0]; done) | (simp [go_sem, look, F0]; done))))); (all_goals (try simp only [go_sem, F0])); (all_goals (try simp only [go_sem, F0])); (all_goals repeat' (first | apply And.intro | intro _)))
  | refine seq_k fun zN zM zhN zhM => ?_
 refine loop_k (fun y => [(13, .w (.one (.pl (.i ((y.1.1 : Nat) : Int))))), (4, iV 30 y.1.2)]) (fun y => iM 30 y.1.2) (fun y => (wordsG [] s).length - y.1.1) (⟨(0, []), Nat.zero_le _, Nat.zero_le _, by simp [tokL]⟩ : {y : Nat × List Int // y.1 ≤ (wordsG [] s).length ∧ y.2.length ≤ y.1 * 8 ∧ y.2 ++ ((wordsG [] s).drop y.1).flatMap (fun w => tokG w 0 tokN) = tokL s}) ?_ ?_ ?_
 · (simp only [go_sem, leX, List.cons_append, List.nil_append, F0]; try simp)
 · (simp only [go_sem, leX, List.cons_append, List.nil_append, F0]; try simp)
 intro yy zN zM zhN zhM
 simp only [List.cons_append, List.nil_append]
 have yN0 := zhN
 obtain ⟨⟨i, acc⟩, h1, h2, h3⟩ := yy
 simp only at h1 h2 h3
 have hd : i < (wordsG [] s).length ∨ (i = (wordsG [] s).length ∧ acc = []) ∨ (i = (wordsG [] s).length ∧ acc ≠ []) := by by_cases acc = [] <;> simp_all <;> omega
 rcases hd with glt | ⟨rfl, rfl⟩ | ⟨rfl, hne⟩
 · have gcq := ltI glt
   have gj := Int.natCast_nonneg i
   have gle : i + 1 ≤ (wordsG [] s).length := glt
   have gat := strC_at glt
   obtain ⟨wd, hwd⟩ : ∃ wd, (wordsG [] s).getD i [] = wd := ⟨_, rfl⟩
   rw [hwd, strC_pls] at gat
   have gs1 := wsucc glt hWl

   have F0 := And.intro gcq <| And.intro gj <| And.intro gat <| And.intro gs1 <| And.intro gle <| F0
   iterate 13 first
    | (refine sr_k fun zK zhK => ?_; simp only [go_sem, F0]; (repeat' (first | apply And.intro | intro _)))
    | refine zhK _ ?_
    | refine block_k fun zB zbn zbx zbr zbi => ?_
    | refine skip_k ?_
    | (refine zhN _ ?_; clear zhN zhM)
    | refine seq_k fun zN zM zhN zhM => ?_
    | (refine condT_k ?_ ?_; focus (first | rfl | (simp [go_sem, F0]; done)))
   refine loop_b [(6, .w (.one (.pl (.str wd)))), (17, .w (.one (.s 1031 [(0, 8)] 8 1))), (18, .w (.one (.pl (.i 8)))), (13, .w (.one (.pl (.i ((i : Nat) : Int))))), (12, .w (.one (.pl (.i (((wordsG [] s).length : Nat) : Int))))), (11, .w (.one (.s 41 [] (wordsG [] s).length 1))), (3, .w (.one (.s 1031 [(0, 8)] 8 1))), (10, .w (.one (.pl (.str s)))), (9, .w (.one (.s 1031 [(0, 8)] 8 1))), (2, .w (.one (.pl (.R true 1 [])))), (0, .w (.one (.pl (.str s))))] [(41, ⟨true, pls ((wordsG [] s).map PL.str)⟩), (1031, ⟨true, [.pl (.str []), .pl (.str [101]), .pl (.str [115]), .pl (.str [101, 101]), .pl (.str [101, 115]), .pl (.str [115, 101]), .pl (.str [115, 115]), .pl (.str [112, 115, 107])]⟩), (1000000, ⟨false, bytesC spaceL⟩)] (fun y => [(19, .w (.one (.pl (.i ((y.1.1 : Nat) : Int))))), (4, iV 30 y.1.2)]) (fun y => iM 30 y.1.2) (fun y => 8 - y.1.1) (⟨(0, acc), Nat.zero_le _, h2, rfl⟩ : {y : Nat × List Int // y.1 ≤ 8 ∧ y.2.length ≤ i * 8 + y.1 ∧ y.2 ++ tokG wd y.1 (tokN.drop y.1) = acc ++ tokG wd 0 tokN}) ?_ ?_ ?_
   · (simp only [go_sem, leX, List.cons_append, List.nil_append, F0]; try simp)
   · (simp only [F0, List.nil_append]; try exact leX_self _)
   intro zz zN zM zhN zhM
   simp only [List.cons_append, List.nil_append]
   have yN1 := zhN
   obtain ⟨⟨j, ac⟩, k1, k2, k3⟩ := zz
   simp only at k1 k2 k3
   have hd1 : (j < 8 ∧ tokN.getD j [] = wd ∧ ac = []) ∨ (j < 8 ∧ tokN.getD j [] = wd ∧ ac ≠ []) ∨ (j < 8 ∧ ¬ tokN.getD j [] = wd) ∨ j = 8 := by by_cases tokN.getD j [] = wd <;> by_cases ac = [] <;> simp_all <;> omega
   rcases hd1 with ⟨jlt, hw, rfl⟩ | ⟨jlt, hw, hne⟩ | ⟨jlt, hw⟩ | rfl
   · have gc8 := ltI8 jlt
     have gj8 := Int.natCast_nonneg j
     have gj9 : j + 1 ≤ 8 := jlt
     have gnm : List.take 1 (List.drop j ([.pl (.str []), .pl (.str [101]), .pl (.str [115]), .pl (.str [101, 101]), .pl (.str [101, 115]), .pl (.str [115, 101]), .pl (.str [115, 115]), .pl (.str [112, 115, 107])] : List L)) = [.pl (.str (tokN.getD j []))] := strC_at (l := tokN) jlt
     have gs8 := j8 jlt
     rw [hw] at gnm

     have F0 := And.intro gc8 <| And.intro gj8 <| And.intro gj9 <| And.intro gnm <| And.intro gs8 <| And.intro iV_nil <| And.intro iM_nil <| And.intro iV_one <| And.intro iM_one <| And.intro plsL_nil <| And.intro flatPL_nil <| F0
     have zL := fun S2 => yN1 ⟨(j + 1, [] ++ [(j : Int)]), jlt, tok_len k2, tok_yes jlt hw k3⟩ S2 (by exact Nat.sub_lt_sub_left jlt (Nat.lt_succ_self j))
     exact HT.w
   · have gc8 := ltI8 jlt
     have gj8 := Int.natCast_nonneg j
     have gj9 : j + 1 ≤ 8 := jlt
     have gnm : List.take 1 (List.drop j ([.pl (.str []), .pl (.str [101]), .pl (.str [115]), .pl (.str [101, 101]), .pl (.str [101, 115]), .pl (.str [115, 101]), .pl (.str [115, 115]), .pl (.str [112, 115, 107])] : List L)) = [.pl (.str (tokN.getD j []))] := strC_at (l := tokN) jlt
     have gs8 := j8 jlt
     rw [hw] at gnm
     have hv := iV_own (nm := 30) hne
     have hm := iM_own (nm := 30) hne
     have gcap := cap_tok k2 glt jlt hWl

     have F0 := And.intro gc8 <| And.intro gj8 <| And.intro gj9 <| And.intro gnm <| And.intro gs8 <| And.intro hv <| And.intro hm <| And.intro gcap <| F0
     have zL := fun S2 => yN1 ⟨(j + 1, ac ++ [(j : Int)]), jlt, tok_len k2, tok_yes jlt hw k3⟩ S2 (by exact Nat.sub_lt_sub_left jlt (Nat.lt_succ_self j))
     exact HT.w
   · have gc8 := ltI8 jlt
     have gj8 := Int.natCast_nonneg j
     have gj9 : j + 1 ≤ 8 := jlt
     have gnm : List.take 1 (List.drop j ([.pl (.str []), .pl (.str [101]), .pl (.str [115]), .pl (.str [101, 101]), .pl (.str [101, 115]), .pl (.str [115, 101]), .pl (.str [115, 115]), .pl (.str [112, 115, 107])] : List L)) = [.pl (.str (tokN.getD j []))] := strC_at (l := tokN) jlt
     have gs8 := j8 jlt
     obtain ⟨tn, htn⟩ : ∃ tn, tokN.getD j [] = tn := ⟨_, rfl⟩
     have k3' := tok_no jlt hw k3
     rw [htn] at gnm hw

     have F0 := And.intro gc8 <| And.intro gj8 <| And.intro gj9 <| And.intro gnm <| And.intro gs8 <| And.intro hw <| F0
     have zL := fun S2 => yN1 ⟨(j + 1, ac), jlt, Nat.le_succ_of_le k2, k3'⟩ S2 (by exact Nat.sub_lt_sub_left jlt (Nat.lt_succ_self j))
     exact HT.w
   · have gc8 := nI8
     have k3' : ac = acc ++ tokG wd 0 tokN := by rw [← k3]; show ac = ac ++ []; rw [List.append_nil]

     have F0 := And.intro gc8 <| F0
     have zL := fun S2 => yN0 ⟨(i + 1, ac), glt, Nat.le_trans k2 (Nat.le_of_eq (Nat.succ_mul i 8).symm), tok_next glt hwd k3' h3⟩ S2 (by exact Nat.sub_lt_sub_left glt (Nat.lt_succ_self i))
     exact HT.w
 · have gcq := nltI (n := (wordsG [] s).length)
   rw [List.drop_length, List.flatMap_nil, List.append_nil] at h3
   have zE := fun m => told_plain (R := fun v m => v = .w (.one (.pl (rowP (tokL s)))) ∧ m = []) (m := m) (v := .w (.one (.pl (.R true 1 [])))) rfl ⟨by rw [← h3]; rfl, rfl⟩

   have F0 := And.intro gcq <| F0
   exact HT.w
 · have gcq := nltI (n := (wordsG [] s).length)
   rw [List.drop_length, List.flatMap_nil, List.append_nil] at h3
   subst h3
   have hv := iV_own (nm := 30) hne
   have hm := iM_own (nm := 30) hne
   have zE := fun m hm => told_ints (nm := 30) (by decide) (tokL s) (m := m) hm
   rw [hv] at zE

   have F0 := And.intro gcq <| And.intro hv <| And.intro hm <| F0
   exact HT.w
end Go.Sy

