/- Walks: the words of a text. -/
import Derived.Test.YtbfllkipgfpkkaaDoorvdC2
import Derived.Test.YtbfllkipgfpkkaaDoorvU5
import Derived.Test.YtbfllkipgfpkkaaDoorvE3
set_option linter.unusedVariables false
set_option linter.unusedSimpArgs false
namespace Go.Sy
open Go.Proofs
attribute [local irreducible] atCall HT runOps runD onC onE onO onG goV goA goS onSt onGuard
theorem bC1 (x : UInt8) : bytesC [x] = [.pl (.u8 x)] := rfl
theorem space_len : (bytesC spaceL).length = 256 := by rw [bytesC_length, spaceL_length]
theorem xn0 : ixor (-1) 0 = -1 := by decide +kernel
theorem xn1 : ixor (-1) 1 = -2 := by decide +kernel
theorem an00 : iand 0 (-1) = 0 := by decide +kernel
theorem an01 : iand 0 (-2) = 0 := by decide +kernel
theorem an10 : iand 1 (-1) = 1 := by decide +kernel
theorem an11 : iand 1 (-2) = 0 := by decide +kernel
theorem iadd0 (n : Nat) : (n : Int) + 0 = (n : Int) := Int.add_zero _
theorem u8t_0 : UInt8.toNat 0 = 0 := rfl
theorem u8t_1 : UInt8.toNat 1 = 1 := rfl
def bI (b : Bool) : Int := if b then 1 else 0
def strC (l : List (List UInt8)) : List L := l.map fun s => .pl (.str s)
theorem or_lt {a b : UInt8} (ha : a.toNat < 128) (hb : b.toNat < 128) : (a ||| b).toNat < 128 := by
 rw [UInt8.toNat_or]; exact Nat.or_lt_two_pow (n := 7) ha hb
theorem u8_lt (b : UInt8) : ((b.toNat : Nat) : Int) < 256 := by have := b.toNat_lt; omega
theorem u8_ltn (b : UInt8) : b.toNat < 256 := b.toNat_lt
theorem u8_255 (b : UInt8) : b.toNat ≤ 255 := Nat.le_of_lt_succ b.toNat_lt
theorem u8_ge (b : UInt8) : (0 : Int) ≤ ((b.toNat : Nat) : Int) := Int.natCast_nonneg _
theorem bIt : bI true = 1 := rfl
theorem bIf : bI false = 0 := rfl
theorem stepN0 {n c t : Nat} (h : n + c = t) (ht : t ≤ 1000000) : n ≤ 1000000 := by omega
theorem stepN1 {n c t : Nat} (h : n + 1 + c = t) (ht : t ≤ 1000000) : n + 1 ≤ 1000000 := by omega
theorem w0n {n : Nat} (h : n ≤ 1000000) : Go.RowKit.wrap64 (n : Int) = (n : Int) := wnat rfl (by omega)
theorem w1n {n : Nat} (h : n + 1 ≤ 1000000) : Go.RowKit.wrap64 ((n : Int) + 1) = ((n + 1 : Nat) : Int) := wnat (by omega) (by omega)
theorem cntG_le : ∀ (s : List UInt8) (w : Bool), cntG w s ≤ s.length
 | [], _ => Nat.le_refl _
 | b :: r, w => by
  have := cntG_le r (isSp b)
  rw [cntG, List.length_cons]; split <;> omega
theorem mk_ok {n : Nat} (h : n ≤ 1000000) : (n : Int) ≤ 281474976710656 ∧ 16 * (n : Int) ≤ 281474976710656 ∧ 0 ≤ (n : Int) := ⟨by omega, by omega, by omega⟩
def fillC (n : Nat) (dn : List (List UInt8)) : List PL := dn.map PL.str ++ List.replicate (n - dn.length) (.str [])
theorem fill_nil (n : Nat) : (List.replicate n [L.pl (.str [])]).flatten = pls (fillC n []) := by simp [fillC, pls]
theorem dn_lt {dn r W : List (List UInt8)} {c : List UInt8} (h : dn ++ c :: r = W) : dn.length < W.length := by rw [← h]; simp
theorem fill_len {W : Nat} {dn : List (List UInt8)} (h : dn.length < W) : (fillC W dn).length = W := by simp [fillC]; omega
theorem fill_put {dn r W : List (List UInt8)} {c : List UInt8} (h : dn ++ c :: r = W) : (pls (fillC W.length dn)).take dn.length ++ .pl (.str c) :: (pls (fillC W.length dn)).drop (dn.length + 1) = pls (fillC W.length (dn ++ [c])) := by
 have hl := dn_lt h
 obtain ⟨k, hk⟩ : ∃ k, W.length = dn.length + (k + 1) := ⟨W.length - dn.length - 1, by omega⟩
 rw [fillC, fillC, hk, List.length_append, List.length_singleton, Nat.add_sub_cancel_left, show dn.length + (k + 1) - (dn.length + 1) = k by omega, List.replicate_succ]
 have e1 : pls (dn.map PL.str ++ PL.str [] :: List.replicate k (PL.str [])) = pls (dn.map PL.str) ++ (L.pl (.str []) :: pls (List.replicate k (PL.str []))) := by simp [pls]
 have h1 : (pls (dn.map PL.str)).length = dn.length := by simp [pls]
 rw [e1, List.take_left' h1, ← List.drop_drop, List.drop_left' h1]
 simp [pls]
theorem fill_put2 {dn r W : List (List UInt8)} {c : List UInt8} (h : dn ++ c :: r = W) : ((pls (fillC W.length dn)).take dn.length ++ [.pl (.str c)]) ++ (pls (fillC W.length dn)).drop (dn.length + 1) = pls (fillC W.length (dn ++ [c])) := by
 rw [← fill_put h]; simp
theorem fill_full {dn W : List (List UInt8)} (h : dn = W) : pls (fillC W.length dn) = strC W := by
 subst h; simp [fillC, pls, strC]
theorem cur_ne {s : List UInt8} {fs i : Nat} (h : fs ≤ i) (hi : i < s.length) (he : fs ≠ i) : ¬ (s.drop fs).take (i - fs) = [] := by
 intro e; have := congrArg List.length e; simp at this; omega
theorem cur_ne2 {s : List UInt8} {fs : Nat} (hi : fs < s.length) : ¬ (s.drop fs).take (s.length - fs) = [] := by
 intro e; have := congrArg List.length e; simp at this; omega
theorem take_rest {s : List UInt8} {fs : Nat} (_ : fs < s.length) : (s.drop fs).take (s.length - fs) = s.drop fs := by
 rw [List.take_of_length_le]; simp
theorem next_w {s : List UInt8} {k i : Nat} {dn W : List (List UInt8)} {c : List UInt8} (h : wordsG [] (s.drop k) = wordsG [] (s.drop (i + 1))) (h3 : dn ++ c :: wordsG [] (s.drop (i + 1)) = W) :
 (dn ++ [c]) ++ wordsG ((s.drop k).take (k - k)) (s.drop k) = W := by
 rw [Nat.sub_self, List.take_zero, h, ← h3]; simp
theorem word_on {s : List UInt8} {fs i : Nat} {dn W : List (List UInt8)} (h2 : fs ≤ i) (hi : i < s.length) (hsp : isSp (s.getD i 0) = false) (h3 : dn ++ wordsG ((s.drop fs).take (i - fs)) (s.drop i) = W) :
 dn ++ wordsG ((s.drop fs).take (i + 1 - fs)) (s.drop (i + 1)) = W := by
 rw [drop_getD (z := 0) hi, wordsG, hsp, if_neg (by decide)] at h3
 rw [← h3, show i + 1 - fs = (i - fs) + 1 by omega, List.take_add_one]
 congr 2
 rw [List.getElem?_drop, show fs + (i - fs) = i by omega, List.getElem?_eq_getElem hi]
 simp [List.getD, List.getElem?_eq_getElem hi]
theorem mem_getD {s : List UInt8} {j : Nat} (h : j < s.length) : s.getD j 0 ∈ s := by simp [List.getD, List.getElem?_eq_getElem h]
set_option maxHeartbeats 1600000 in
set_option maxRecDepth 100000 in
theorem fields_w (s : List UInt8) (hs : ∀ b ∈ s, b.toNat < 128) (hl : s.length ≤ 1000000) :
 CtM Tryd.prog 27 [.w (.one (.pl (.str s)))] [(1000000, ⟨false, bytesC spaceL⟩)] (Told (fun v m => v = .w (.one (.s 41 [] (wordsG [] s).length 1)) ∧ m = [(41, ⟨true, strC (wordsG [] s)⟩)])) := by
 have zE := fun m h => told_some (R := (fun v m => v = .w (.one (.s 41 [] (wordsG [] s).length 1)) ∧ m = [(41, ⟨true, strC (wordsG [] s)⟩)])) (v := .w (.one (.s 41 [] (wordsG [] s).length 1))) (m := m) (m2 := [(41, ⟨true, strC (wordsG [] s)⟩)]) h ⟨rfl, rfl⟩
 have F0 := And.intro u8_255 <| And.intro u8_lt <| And.intro u8_ltn <| And.intro u8_ge <| And.intro bIt <| And.intro bIf <| And.intro bC1 <| And.intro space_len <| And.intro space_get <| And.intro xn0 <| And.intro xn1 <| And.intro an00 <| And.intro an01 <| And.intro an10 <| And.intro an11 <| And.intro u8t_0 <| And.intro u8t_1 <| iadd0
 refine CtM.k Tryd.func27 rfl Tryd.ntmps27 (congrArg Array.toList Tryd.results27) (by simp) fun w0 ro may fx => ?_
 refine top_k fun zZ zhZ => ?_
 iterate 12 first
  | (refine sr_k fun zK zhK => ?_; simp only [go_sem, F0]; (repeat' (first | apply And.intro | intro _)))
  | refine zhK _ ?_
  | refine block_k fun zB zbn zbx zbr zbi => ?_
  | refine seq_k fun zN zM zhN zhM => ?_
 refine loop_k (fun y => [(6, .w (.one (.pl (.i ((y.1.1 : Nat) : Int))))), (3, .w (.one (.pl (.i ((y.1.2.1 : Nat) : Int))))), (4, .w (.one (.pl (.i (bI y.1.2.2.1))))), (5, .w (.one (.pl (.u8 y.1.2.2.2))))]) (fun _ => []) (fun y => s.length - y.1.1) (⟨(0, 0, true, 0), Nat.zero_le _, Nat.zero_add _, by decide⟩ : {y : Nat × Nat × Bool × UInt8 // y.1 ≤ s.length ∧ y.2.1 + cntG y.2.2.1 (s.drop y.1) = cntG true s ∧ y.2.2.2.toNat < 128}) ?_ ?_ ?_
 · (simp only [go_sem, leX, List.cons_append, List.nil_append, F0]; try simp)
 · (simp only [go_sem, leX, List.cons_append, List.nil_append, F0]; try simp)
 intro yy zN zM zhN zhM
 simp only [List.cons_append, List.nil_append]
 have yN0 := zhN
 obtain ⟨⟨j, n, ws, bits⟩, h1, h4, h5⟩ := yy
 simp only at h1 h4 h5
 have hd : (j < s.length ∧ isSp (s.getD j 0) = true ∧ ws = true) ∨ (j < s.length ∧ isSp (s.getD j 0) = true ∧ ws = false) ∨ (j < s.length ∧ isSp (s.getD j 0) = false ∧ ws = true) ∨ (j < s.length ∧ isSp (s.getD j 0) = false ∧ ws = false) ∨ j = s.length := by cases isSp (s.getD j 0) <;> cases ws <;> simp <;> omega
 rcases hd with ⟨glt, hsp, rfl⟩ | ⟨glt, hsp, rfl⟩ | ⟨glt, hsp, rfl⟩ | ⟨glt, hsp, rfl⟩ | rfl
 · have gcq := ltI glt
   have gj := Int.natCast_nonneg j
   obtain ⟨b, hb⟩ : ∃ b, s.getD j 0 = b := ⟨_, rfl⟩
   have hbl : b.toNat < 128 := hs b (hb ▸ mem_getD glt)
   rw [drop_getD (z := 0) glt, hb] at h4
   rw [hb] at hsp
   have hsn : spN b = 1 := by unfold spN; rw [hsp]; rfl
   rw [cntG, hsp] at h4
   have h6 : n + (0 + cntG true (s.drop (j + 1))) = cntG true s := h4
   rw [Nat.zero_add] at h6
   have h7 := h6
   have gw := w0n (stepN0 h7 (Nat.le_trans (cntG_le s true) hl))
   have gs1 := wsucc glt hl

   have F0 := And.intro gcq <| And.intro gj <| And.intro glt <| And.intro hb <| And.intro hsn <| And.intro gw <| And.intro gs1 <| F0
   have zL := fun S2 => yN0 ⟨(j + 1, n, true, bits ||| b), glt, h7, or_lt h5 hbl⟩ S2 (by exact Nat.sub_lt_sub_left glt (Nat.lt_succ_self j))
   exact HT.w
 · have gcq := ltI glt
   have gj := Int.natCast_nonneg j
   obtain ⟨b, hb⟩ : ∃ b, s.getD j 0 = b := ⟨_, rfl⟩
   have hbl : b.toNat < 128 := hs b (hb ▸ mem_getD glt)
   rw [drop_getD (z := 0) glt, hb] at h4
   rw [hb] at hsp
   have hsn : spN b = 1 := by unfold spN; rw [hsp]; rfl
   rw [cntG, hsp] at h4
   have h6 : n + (0 + cntG true (s.drop (j + 1))) = cntG true s := h4
   rw [Nat.zero_add] at h6
   have h7 := h6
   have gw := w0n (stepN0 h7 (Nat.le_trans (cntG_le s true) hl))
   have gs1 := wsucc glt hl

   have F0 := And.intro gcq <| And.intro gj <| And.intro glt <| And.intro hb <| And.intro hsn <| And.intro gw <| And.intro gs1 <| F0
   have zL := fun S2 => yN0 ⟨(j + 1, n, true, bits ||| b), glt, h7, or_lt h5 hbl⟩ S2 (by exact Nat.sub_lt_sub_left glt (Nat.lt_succ_self j))
   exact HT.w
 · have gcq := ltI glt
   have gj := Int.natCast_nonneg j
   obtain ⟨b, hb⟩ : ∃ b, s.getD j 0 = b := ⟨_, rfl⟩
   have hbl : b.toNat < 128 := hs b (hb ▸ mem_getD glt)
   rw [drop_getD (z := 0) glt, hb] at h4
   rw [hb] at hsp
   have hsn : spN b = 0 := by unfold spN; rw [hsp]; rfl
   rw [cntG, hsp] at h4
   have h6 : n + (1 + cntG false (s.drop (j + 1))) = cntG true s := h4
   have h7 := (Nat.add_assoc _ _ _).trans h6
   have gw := w1n (stepN1 h7 (Nat.le_trans (cntG_le s true) hl))
   have gs1 := wsucc glt hl

   have F0 := And.intro gcq <| And.intro gj <| And.intro glt <| And.intro hb <| And.intro hsn <| And.intro gw <| And.intro gs1 <| F0
   have zL := fun S2 => yN0 ⟨(j + 1, n + 1, false, bits ||| b), glt, h7, or_lt h5 hbl⟩ S2 (by exact Nat.sub_lt_sub_left glt (Nat.lt_succ_self j))
   exact HT.w
 · have gcq := ltI glt
   have gj := Int.natCast_nonneg j
   obtain ⟨b, hb⟩ : ∃ b, s.getD j 0 = b := ⟨_, rfl⟩
   have hbl : b.toNat < 128 := hs b (hb ▸ mem_getD glt)
   rw [drop_getD (z := 0) glt, hb] at h4
   rw [hb] at hsp
   have hsn : spN b = 0 := by unfold spN; rw [hsp]; rfl
   rw [cntG, hsp] at h4
   have h6 : n + (0 + cntG false (s.drop (j + 1))) = cntG true s := h4
   rw [Nat.zero_add] at h6
   have h7 := h6
   have gw := w0n (stepN0 h7 (Nat.le_trans (cntG_le s true) hl))
   have gs1 := wsucc glt hl

   have F0 := And.intro gcq <| And.intro gj <| And.intro glt <| And.intro hb <| And.intro hsn <| And.intro gw <| And.intro gs1 <| F0
   have zL := fun S2 => yN0 ⟨(j + 1, n, false, bits ||| b), glt, h7, or_lt h5 hbl⟩ S2 (by exact Nat.sub_lt_sub_left glt (Nat.lt_succ_self j))
   exact HT.w
 · rw [List.drop_length, cntG, Nat.add_zero, cnt_all] at h4
   have gcq := nltI (n := s.length)
   subst h4
   have hWl : (wordsG [] s).length ≤ 1000000 := Nat.le_trans (by rw [← cnt_all]; exact cntG_le s true) hl
   have gmk := mk_ok hWl
   have gfl := fill_nil (wordsG [] s).length
   have hbt : ¬ (128 : UInt8) ≤ bits := by rw [UInt8.le_iff_toNat_le]; have : UInt8.toNat 128 = 128 := rfl; omega

   have F0 := And.intro gcq <| And.intro hbt <| And.intro gmk <| And.intro gfl <| F0
   iterate 23 first
    | (refine sr_k fun zK zhK => ?_; simp only [go_sem, F0]; (repeat' (first | apply And.intro | intro _)))
    | refine zhK _ ?_
    | (refine zhM _ _ ?_; clear zhN zhM)
    | (refine zhN _ ?_; clear zhN zhM)
    | refine exit_k ?_
    | (refine zbx _ ?_; clear zbn zbx zbr zbi)
    | refine skip_k ?_
    | refine seq_k fun zN zM zhN zhM => ?_
    | (refine condF_k ?_ ?_; focus (first | rfl | (simp [go_sem, F0]; done)))
   refine join_l (fun j : Nat => [(12, .w (.one (.pl (.i ((j : Nat) : Int)))))]) (fun _ => []) (fun j => 0 ≤ j ∧ j ≤ s.length ∧ wordsG [] (s.drop j) = wordsG [] s ∧ (j < s.length → isSp (s.getD j 0) = false)) (fun zN zM zhN zhM => ?_) (fun j0 hj0 => ?_)
   · skip
     have jN := zhN
     refine block_k fun zB zbn zbx zbr zbi => ?_
     refine loop_k (fun y => [(12, .w (.one (.pl (.i ((y.1 : Nat) : Int)))))]) (fun _ => []) (fun y => s.length - y.1) (⟨0, Nat.zero_le _, Nat.zero_le _, rfl⟩ : {y : Nat // 0 ≤ y ∧ y ≤ s.length ∧ wordsG [] (s.drop y) = wordsG [] s}) ?_ ?_ ?_
     · (simp only [go_sem, leX, List.cons_append, List.nil_append, F0]; try simp)
     · (simp only [go_sem, leX, List.cons_append, List.nil_append, F0]; try simp)
     intro yy zN zM zhN zhM
     simp only [List.cons_append, List.nil_append]
     have yN1 := zhN
     obtain ⟨j, h1, h2, h3⟩ := yy
     have hd : (j < s.length ∧ isSp (s.getD j 0) = true) ∨ (j < s.length ∧ isSp (s.getD j 0) = false) ∨ j = s.length := by cases isSp (s.getD j 0) <;> simp <;> omega
     rcases hd with ⟨glt, hsp⟩ | ⟨glt, hsp⟩ | rfl
     · have gcq := ltI glt
       have gj := Int.natCast_nonneg j
       obtain ⟨b, hb⟩ : ∃ b, s.getD j 0 = b := ⟨_, rfl⟩
       rw [hb] at hsp
       have hsn : spN b = 1 := by unfold spN; rw [hsp]; rfl
       rw [drop_getD (z := 0) glt, hb, wordsG, if_pos hsp, if_pos rfl] at h3
       have gs1 := wsucc glt hl

       have F0 := And.intro gcq <| And.intro gj <| And.intro glt <| And.intro hb <| And.intro hsn <| And.intro gs1 <| F0
       have zL := fun S2 => yN1 ⟨j + 1, Nat.le_succ_of_le h1, glt, h3⟩ S2 (by exact Nat.sub_lt_sub_left glt (Nat.lt_succ_self j))
       exact HT.w
     · have gcq := ltI glt
       have gj := Int.natCast_nonneg j
       obtain ⟨b, hb⟩ : ∃ b, s.getD j 0 = b := ⟨_, rfl⟩
       rw [hb] at hsp
       have hsn : spN b = 0 := by unfold spN; rw [hsp]; rfl

       have F0 := And.intro gcq <| And.intro gj <| And.intro glt <| And.intro hb <| And.intro hsn <| F0
       have zL := fun S2 => jN j ⟨h1, h2, h3, fun _ => hb ▸ hsp⟩ S2
       exact HT.w
     · have gcq := nltI (n := s.length)

       have F0 := And.intro gcq <| F0
       have zL := fun S2 => jN s.length ⟨h1, h2, h3, fun h => absurd h (Nat.lt_irrefl _)⟩ S2
       exact HT.w
   · obtain ⟨_, g2, g3, g4⟩ := hj0
     refine sr_k fun zK zhK => ?_
     simp only [go_sem, F0]
     repeat' (first | apply And.intro | intro _)
     refine zhK _ ?_
     refine seq_k fun zN zM zhN zhM => ?_
     refine block_k fun zB zbn zbx zbr zbi => ?_
     refine loop_k (fun y => [(12, .w (.one (.pl (.i ((y.1.1 : Nat) : Int))))), (11, .w (.one (.pl (.i ((y.1.2.1 : Nat) : Int))))), (10, .w (.one (.pl (.i ((y.1.2.2.length : Nat) : Int)))))]) (fun y => [(41, ⟨true, pls (fillC (wordsG [] s).length y.1.2.2)⟩)]) (fun y => s.length - y.1.1) (⟨(j0, j0, []), g2, Nat.le_refl _, by simpa using g3, fun _ h => g4 h⟩ : {y : Nat × Nat × List (List UInt8) // y.1 ≤ s.length ∧ y.2.1 ≤ y.1 ∧ y.2.2 ++ wordsG ((s.drop y.2.1).take (y.1 - y.2.1)) (s.drop y.1) = wordsG [] s ∧ (y.2.1 = y.1 → y.1 < s.length → isSp (s.getD y.1 0) = false)}) ?_ ?_ ?_
     · (simp only [go_sem, leX, List.cons_append, List.nil_append, F0]; try simp)
     · (simp only [go_sem, leX, List.cons_append, List.nil_append, F0]; try simp)
     intro zz zN zM zhN zhM
     simp only [List.cons_append, List.nil_append]
     have yN1 := zhN
     obtain ⟨⟨i, fs, dn⟩, h1, h2, h3, h4⟩ := zz
     simp only at h1 h2 h3 h4
     have hd : (i < s.length ∧ isSp (s.getD i 0) = true) ∨ (i < s.length ∧ isSp (s.getD i 0) = false) ∨ (i = s.length ∧ fs < s.length) ∨ (i = s.length ∧ fs = s.length) := by cases isSp (s.getD i 0) <;> simp <;> omega
     rcases hd with ⟨glt, hsp⟩ | ⟨glt, hsp⟩ | ⟨rfl, glt⟩ | ⟨rfl, rfl⟩
     · have gcq := ltI glt
       have gj := Int.natCast_nonneg i
       obtain ⟨b, hb⟩ : ∃ b, s.getD i 0 = b := ⟨_, rfl⟩
       have hne := cur_ne h2 glt (fun e => by rw [h4 e glt] at hsp; cases hsp)
       rw [hb] at hsp
       have hsn : spN b = 1 := by unfold spN; rw [hsp]; rfl
       rw [drop_getD (z := 0) glt, hb, wordsG, if_pos hsp, if_neg hne] at h3
       obtain ⟨cur, hcur⟩ : ∃ cur, (s.drop fs).take (i - fs) = cur := ⟨_, rfl⟩
       rw [hcur] at h3
       have gdl := dn_lt h3
       have gdl2 := ltI gdl
       have gdl3 := Nat.succ_le_of_lt gdl
       have gdl4 : dn.length + 1 ≤ (wordsG [] s).length := gdl
       have gs1 := wsucc glt hl
       have gs2 := wsucc gdl hWl
       have gput := fill_put h3
       have gput2 := fill_put2 h3
       have gfl2 := fill_len gdl
       have gfi : (fs : Int) ≤ (i : Int) := Int.ofNat_le.mpr h2
       have gil : (i : Int) ≤ (s.length : Int) := Int.ofNat_le.mpr h1
       have gf0 := Int.natCast_nonneg fs
       have gd0 := Int.natCast_nonneg dn.length

       have F0 := And.intro gcq <| And.intro gj <| And.intro glt <| And.intro hb <| And.intro hsn <| And.intro hcur <| And.intro gdl <| And.intro gdl2 <| And.intro gdl4 <| And.intro gs1 <| And.intro gs2 <| And.intro gput <| And.intro gput2 <| And.intro gfl2 <| And.intro gfi <| And.intro gil <| And.intro gf0 <| And.intro gd0 <| F0
       iterate 19 first
        | (refine sr_k fun zK zhK => ?_; simp only [go_sem, F0]; (repeat' (first | apply And.intro | intro _)))
        | refine zhK _ ?_
        | refine skip_k ?_
        | (refine zhN _ ?_; clear zhN zhM)
        | refine block_k fun zB zbn zbx zbr zbi => ?_
        | refine seq_k fun zN zM zhN zhM => ?_
        | (refine condT_k ?_ ?_; focus (first | rfl | (simp [go_sem, F0]; done)))
        | (refine condF_k ?_ ?_; focus (first | rfl | (simp [go_sem, F0]; done)))
       refine join_l (fun j : Nat => [(12, .w (.one (.pl (.i ((j : Nat) : Int)))))]) (fun _ => []) (fun j => i + 1 ≤ j ∧ j ≤ s.length ∧ wordsG [] (s.drop j) = wordsG [] (s.drop (i + 1)) ∧ (j < s.length → isSp (s.getD j 0) = false)) (fun zN zM zhN zhM => ?_) (fun k0 hk0 => ?_)
       · skip
         have jN := zhN
         refine block_k fun zB zbn zbx zbr zbi => ?_
         refine loop_k (fun y => [(12, .w (.one (.pl (.i ((y.1 : Nat) : Int)))))]) (fun _ => []) (fun y => s.length - y.1) (⟨i + 1, Nat.le_refl _, glt, rfl⟩ : {y : Nat // i + 1 ≤ y ∧ y ≤ s.length ∧ wordsG [] (s.drop y) = wordsG [] (s.drop (i + 1))}) ?_ ?_ ?_
         · (simp only [go_sem, leX, List.cons_append, List.nil_append, F0]; try simp)
         · (simp only [go_sem, leX, List.cons_append, List.nil_append, F0]; try simp)
         intro yy zN zM zhN zhM
         simp only [List.cons_append, List.nil_append]
         have yN2 := zhN
         obtain ⟨j, h1, h2, h3⟩ := yy
         have hd1 : (j < s.length ∧ isSp (s.getD j 0) = true) ∨ (j < s.length ∧ isSp (s.getD j 0) = false) ∨ j = s.length := by cases isSp (s.getD j 0) <;> simp <;> omega
         rcases hd1 with ⟨glt, hsp⟩ | ⟨glt, hsp⟩ | rfl
         · have gcq := ltI glt
           have gj := Int.natCast_nonneg j
           obtain ⟨b, hb⟩ : ∃ b, s.getD j 0 = b := ⟨_, rfl⟩
           rw [hb] at hsp
           have hsn : spN b = 1 := by unfold spN; rw [hsp]; rfl
           rw [drop_getD (z := 0) glt, hb, wordsG, if_pos hsp, if_pos rfl] at h3
           have gs1 := wsucc glt hl

           have F0 := And.intro gcq <| And.intro gj <| And.intro glt <| And.intro hb <| And.intro hsn <| And.intro gs1 <| F0
           have zL := fun S2 => yN2 ⟨j + 1, Nat.le_succ_of_le h1, glt, h3⟩ S2 (by exact Nat.sub_lt_sub_left glt (Nat.lt_succ_self j))
           exact HT.w
         · have gcq := ltI glt
           have gj := Int.natCast_nonneg j
           obtain ⟨b, hb⟩ : ∃ b, s.getD j 0 = b := ⟨_, rfl⟩
           rw [hb] at hsp
           have hsn : spN b = 0 := by unfold spN; rw [hsp]; rfl

           have F0 := And.intro gcq <| And.intro gj <| And.intro glt <| And.intro hb <| And.intro hsn <| F0
           have zL := fun S2 => jN j ⟨h1, h2, h3, fun _ => hb ▸ hsp⟩ S2
           exact HT.w
         · have gcq := nltI (n := s.length)

           have F0 := And.intro gcq <| F0
           have zL := fun S2 => jN s.length ⟨h1, h2, h3, fun h => absurd h (Nat.lt_irrefl _)⟩ S2
           exact HT.w
       · obtain ⟨g5, g6, g7, g8⟩ := hk0
         have zL := fun S2 => yN1 ⟨(k0, k0, dn ++ [cur]), g6, Nat.le_refl _, next_w g7 h3, fun _ h => g8 h⟩ S2 (by exact Nat.sub_lt_sub_left glt (Nat.lt_of_succ_le g5))
         exact HT.w
     · have gcq := ltI glt
       have gj := Int.natCast_nonneg i
       obtain ⟨b, hb⟩ : ∃ b, s.getD i 0 = b := ⟨_, rfl⟩
       have hsn : spN b = 0 := by unfold spN; rw [← hb, hsp]; rfl
       have h5 := word_on h2 glt hsp h3
       have gs1 := wsucc glt hl

       have F0 := And.intro gcq <| And.intro gj <| And.intro glt <| And.intro hb <| And.intro hsn <| And.intro gs1 <| F0
       have zL := fun S2 => yN1 ⟨(i + 1, fs, dn), glt, Nat.le_succ_of_le h2, h5, fun e => absurd (Nat.le_trans (Nat.le_of_eq (Eq.symm e)) h2) (Nat.not_succ_le_self i)⟩ S2 (by exact Nat.sub_lt_sub_left glt (Nat.lt_succ_self i))
       exact HT.w
     · have gcq := nltI (n := s.length)
       have gfs := ltI glt
       rw [List.drop_length, wordsG, if_neg (cur_ne2 glt), take_rest glt] at h3
       have gdl := dn_lt h3
       have gdl2 := ltI gdl
       have gdl3 := Nat.succ_le_of_lt gdl
       have gdl4 : dn.length + 1 ≤ (wordsG [] s).length := gdl
       have gput := fill_put h3
       have gput2 := fill_put2 h3
       have gfl2 := fill_len gdl
       have gfull := fill_full (dn := dn ++ [s.drop fs]) h3
       have gtk := take_rest glt
       have gf0 := Int.natCast_nonneg fs
       have gd0 := Int.natCast_nonneg dn.length
       have gle : (fs : Int) ≤ (s.length : Int) := Int.le_of_lt gfs

       have F0 := And.intro gcq <| And.intro gfs <| And.intro glt <| And.intro gdl <| And.intro gdl2 <| And.intro gdl4 <| And.intro gput <| And.intro gput2 <| And.intro gfl2 <| And.intro gfull <| And.intro gtk <| And.intro gf0 <| And.intro gd0 <| And.intro gle <| F0
       exact HT.w
     · have gcq := nltI (n := s.length)
       rw [List.drop_length, Nat.sub_self, List.take_zero, wordsG, if_pos rfl, List.append_nil] at h3
       have gfull := fill_full (dn := dn) h3

       have F0 := And.intro gcq <| And.intro gfull <| F0
       exact HT.w
end Go.Sy

