/- Walks: whether two terms are the same. -/
import Derived.Test.YtgnmcmopcmnamaavtA1
set_option linter.unusedVariables false
set_option linter.unusedSimpArgs false
namespace Go.Sy
open Go.Proofs
attribute [local irreducible] atCall HT runOps runD onC onE onO onG goV goA goS onSt onGuard
theorem same_eq (k i o : Int) (l : List TermD) (k2 i2 o2 : Int) (l2 : List TermD) : sameB (.mk k i o l) (.mk k2 i2 o2 l2) = (decide (k = k2) && decide (i = i2) && decide (o = o2) && decide (l.length = l2.length) && sameL l l2) := by rw [sameB]
theorem sameL_cons (a b : TermD) (l l2 : List TermD) : sameL (a :: l) (b :: l2) = (sameB a b && sameL l l2) := by rw [sameL]
theorem sameL_nil (l : List TermD) : sameL [] l = true := by cases l <;> rw [sameL]
set_option maxHeartbeats 800000 in
theorem same_k (k i o : Int) (l : List TermD) (k2 i2 o2 : Int) (l2 : List TermD) (hno : ¬ k = k2) :
 Ct Try.prog 6 [argC k i o l, argC k2 i2 o2 l2] (fun v m => v = .w (.one (.pl (.b (sameB (.mk k i o l) (.mk k2 i2 o2 l2)))))) := by
 have hr : sameB (.mk k i o l) (.mk k2 i2 o2 l2) = false := by rw [same_eq]; simp only [decide_eq_false hno, Bool.false_and, Bool.and_false]
 rw [hr]
 refine Ct.k Try.func6 rfl Try.ntmps6 (congrArg Array.toList Try.results6) (by simp) fun w0 ro => ?_
 refine top_k fun zZ zhZ => ?_
 iterate 11 first
  | (refine sr_k fun zK zhK => ?_; simp only [go_sem, hno, termRows_length]; (repeat' (first | apply And.intro | intro _)))
  | refine zhK _ ?_
  | refine ret_k ?_
  | (refine zhM _ _ ?_; clear zhN zhM)
  | (refine zhZ _ _ ?_; simp only [go_sem, hno, termRows_length]; (all_goals (rfl)))
  | refine seq_k fun zN zM zhN zhM => ?_
  | (refine condT_k ?_ ?_; focus (first | rfl | (simp [go_sem, hno, termRows_length]; done)))
set_option maxHeartbeats 800000 in
theorem same_i (k i o : Int) (l : List TermD) (i2 o2 : Int) (l2 : List TermD) (hno : ¬ i = i2) :
 Ct Try.prog 6 [argC k i o l, argC k i2 o2 l2] (fun v m => v = .w (.one (.pl (.b (sameB (.mk k i o l) (.mk k i2 o2 l2)))))) := by
 have hr : sameB (.mk k i o l) (.mk k i2 o2 l2) = false := by rw [same_eq]; simp only [decide_eq_false hno, Bool.false_and, Bool.and_false]
 rw [hr]
 refine Ct.k Try.func6 rfl Try.ntmps6 (congrArg Array.toList Try.results6) (by simp) fun w0 ro => ?_
 refine top_k fun zZ zhZ => ?_
 iterate 11 first
  | (refine sr_k fun zK zhK => ?_; simp only [go_sem, hno, termRows_length]; (repeat' (first | apply And.intro | intro _)))
  | refine zhK _ ?_
  | refine ret_k ?_
  | (refine zhM _ _ ?_; clear zhN zhM)
  | (refine zhZ _ _ ?_; simp only [go_sem, hno, termRows_length]; (all_goals (rfl)))
  | refine seq_k fun zN zM zhN zhM => ?_
  | (refine condT_k ?_ ?_; focus (first | rfl | (simp [go_sem, hno, termRows_length]; done)))
set_option maxHeartbeats 800000 in
theorem same_o (k i o : Int) (l : List TermD) (o2 : Int) (l2 : List TermD) (hno : ¬ o = o2) :
 Ct Try.prog 6 [argC k i o l, argC k i o2 l2] (fun v m => v = .w (.one (.pl (.b (sameB (.mk k i o l) (.mk k i o2 l2)))))) := by
 have hr : sameB (.mk k i o l) (.mk k i o2 l2) = false := by rw [same_eq]; simp only [decide_eq_false hno, Bool.false_and, Bool.and_false]
 rw [hr]
 refine Ct.k Try.func6 rfl Try.ntmps6 (congrArg Array.toList Try.results6) (by simp) fun w0 ro => ?_
 refine top_k fun zZ zhZ => ?_
 iterate 11 first
  | (refine sr_k fun zK zhK => ?_; simp only [go_sem, hno, termRows_length]; (repeat' (first | apply And.intro | intro _)))
  | refine zhK _ ?_
  | refine ret_k ?_
  | (refine zhM _ _ ?_; clear zhN zhM)
  | (refine zhZ _ _ ?_; simp only [go_sem, hno, termRows_length]; (all_goals (rfl)))
  | refine seq_k fun zN zM zhN zhM => ?_
  | (refine condT_k ?_ ?_; focus (first | rfl | (simp [go_sem, hno, termRows_length]; done)))
set_option maxHeartbeats 800000 in
theorem same_l (k i o : Int) (l : List TermD) (l2 : List TermD) (hno : ¬ ((l.length : Nat) : Int) = ((l2.length : Nat) : Int)) :
 Ct Try.prog 6 [argC k i o l, argC k i o l2] (fun v m => v = .w (.one (.pl (.b (sameB (.mk k i o l) (.mk k i o l2)))))) := by
 have hno2 : ¬ l.length = l2.length := fun e => hno (by rw [e])
 have hr : sameB (.mk k i o l) (.mk k i o l2) = false := by rw [same_eq]; simp only [decide_eq_false hno2, Bool.false_and, Bool.and_false]
 rw [hr]
 refine Ct.k Try.func6 rfl Try.ntmps6 (congrArg Array.toList Try.results6) (by simp) fun w0 ro => ?_
 refine top_k fun zZ zhZ => ?_
 iterate 11 first
  | (refine sr_k fun zK zhK => ?_; simp only [go_sem, hno, termRows_length]; (repeat' (first | apply And.intro | intro _)))
  | refine zhK _ ?_
  | refine ret_k ?_
  | (refine zhM _ _ ?_; clear zhN zhM)
  | (refine zhZ _ _ ?_; simp only [go_sem, hno, termRows_length]; (all_goals (rfl)))
  | refine seq_k fun zN zM zhN zhM => ?_
  | (refine condT_k ?_ ?_; focus (first | rfl | (simp [go_sem, hno, termRows_length]; done)))
set_option maxHeartbeats 1600000 in
set_option maxRecDepth 100000 in
theorem same_ok (k i o : Int) (l : List TermD) (l2 : List TermD) (hl : l.length ≤ 9223372036854775807) (he2 : l2.length = l.length) (ih : ∀ a, a ∈ l → ∀ b, b ∈ l2 → Ct Try.prog 6 [argT a, argT b] (fun v m => v = .w (.one (.pl (.b (sameB a b)))))) :
 Ct Try.prog 6 [argC k i o l, argC k i o l2] (fun v m => v = .w (.one (.pl (.b (sameB (.mk k i o l) (.mk k i o l2)))))) := by
 have hr : sameB (.mk k i o l) (.mk k i o l2) = sameL l l2 := by rw [same_eq]; simp [he2]
 refine Ct.k Try.func6 rfl Try.ntmps6 (congrArg Array.toList Try.results6) (by simp) fun w0 ro => ?_
 refine top_k fun zZ zhZ => ?_
 iterate 12 first
  | (refine sr_k fun zK zhK => ?_; simp only [go_sem, he2, termRows_length]; (repeat' (first | apply And.intro | intro _)))
  | refine zhK _ ?_
  | refine skip_k ?_
  | (refine zhN _ ?_; clear zhN zhM)
  | refine block_k fun zB zbn zbx zbr zbi => ?_
  | refine seq_k fun zN zM zhN zhM => ?_
  | (refine condF_k ?_ ?_; focus (first | rfl | (simp [go_sem, he2, termRows_length]; done)))
 refine ht_dropE [0, 1, 6, 7, 8, 9, 10, 11, 12, 13, 14, 15, 16, 17, 18, 19, 20, 21, 22, 23, 24, 25, 26, 27, 28, 29, 30, 31, 32, 33, 34, 35] ?_
 simp only [dropE_mk, fgt_nil, fgt_cons, List.contains_cons, List.contains_nil, Nat.reduceBEq, beq_self_eq_true, Bool.or_false, Bool.or_true, Bool.true_or, Bool.false_or, Bool.false_eq_true, reduceIte]
 refine loop_k (fun y => [(37, .w (.one (.pl (.i ((y.1 : Nat) : Int)))))]) (fun _ => []) (fun y => l.length - y.1) (⟨0, Nat.zero_le _, rfl⟩ : {y : Nat // y ≤ l.length ∧ sameL (l.drop y) (l2.drop y) = sameL l l2}) ?_ ?_ ?_
 · (simp only [go_sem, leX, List.cons_append, List.nil_append]; try simp)
 · (simp only [go_sem, leX, List.cons_append, List.nil_append]; try simp)
 intro yy zN zM zhN zhM
 simp only [List.cons_append, List.nil_append]
 obtain ⟨j, h1, h4⟩ := yy
 rcases Nat.lt_or_ge j l.length with hlt | hge
 rcases hsb : sameB (l.getD j (.mk 0 0 0 [])) (l2.getD j (.mk 0 0 0 [])) with _ | _
 · obtain ⟨k2, i2, o2, m2, he, hm, hdr, hg⟩ := rows_get hlt
   obtain ⟨k3, i3, o3, m3, he3, hm3, hdr3, hg3⟩ := rows_get (l := l2) (n := j) (by omega)
   have hc := ih _ hm _ hm3
   rw [argC_eq, argC_eq] at hc
   have hcq : ((j : Nat) : Int) < ((l.length : Nat) : Int) := by omega
   have hj : (0 : Int) ≤ ((j : Nat) : Int) := by omega
   rw [hdr, hdr3, sameL_cons] at h4
   rw [he, he3] at hsb
   rw [hsb] at hc h4
   rw [Bool.false_and] at h4
   have F7 := And.intro hcq <| And.intro hj <| And.intro hlt <| And.intro hg <| hg3
   iterate 23 first
    | (refine sr_k fun zK zhK => ?_; simp only [go_sem, he2, termRows_length, F7]; (repeat' (first | apply And.intro | intro _)))
    | refine zhK _ ?_
    | (refine zhM _ _ ?_; clear zhN zhM)
    | (refine zbr _ ?_; clear zbn zbx zbr zbi)
    | refine skip_k ?_
    | (refine zhN _ ?_; clear zhN zhM)
    | refine block_k fun zB zbn zbx zbr zbi => ?_
    | (refine sd_k (id := 6) [40, 41, 42, 43, 44, 45, 46, 47, 48, 49, 50, 51] [0, 1, 0, 7, 15, 0, 32, 0, 224, 480, 1023, 2047] [] mixed (by kernel_rfl) (by simp only [go_sem]) fun zK zhK => ?_; simp only [go_sem, he2, termRows_length, F7]; (repeat' (first | apply And.intro | intro _)))
    | refine zhK _ _ trivial ?_
    | refine ret_k ?_
    | (refine zhZ _ _ ?_; simp only [go_sem, he2, termRows_length, F7]; (all_goals (rw [hr, ← h4])))
    | ((all_goals (refine call_draw (fun k => k) _ [] (fun _ _ => rfl) ?_ (hc.plain fun _ _ h => h) ?_ ?_; focus (first | rfl | (simp only [go_sem, he2, termRows_length, F7] <;> rfl)))); (all_goals try (refine And.intro ?_ (And.intro ?_ (And.intro ?_ ?_)) <;> first | rfl | simp only [go_sem])); (all_goals simp only [go_sem, he2, termRows_length, F7]); (all_goals repeat' (first | apply And.intro | intro _)))
    | refine seq_k fun zN zM zhN zhM => ?_
    | (refine condT_k ?_ ?_; focus (first | rfl | (simp [go_sem, he2, termRows_length, F7]; done)))
 · obtain ⟨k2, i2, o2, m2, he, hm, hdr, hg⟩ := rows_get hlt
   obtain ⟨k3, i3, o3, m3, he3, hm3, hdr3, hg3⟩ := rows_get (l := l2) (n := j) (by omega)
   have hc := ih _ hm _ hm3
   rw [argC_eq, argC_eq] at hc
   have hcq : ((j : Nat) : Int) < ((l.length : Nat) : Int) := by omega
   have hj : (0 : Int) ≤ ((j : Nat) : Int) := by omega
   rw [hdr, hdr3, sameL_cons] at h4
   rw [he, he3] at hsb
   rw [hsb] at hc h4
   rw [Bool.true_and] at h4
   have hs1 : Go.RowKit.wrap64 (((j : Nat) : Int) + 1) = ((j + 1 : Nat) : Int) := wnat (by omega) (by omega)
   have F14 := And.intro hcq <| And.intro hj <| And.intro hlt <| And.intro hg <| And.intro hg3 <| hs1
   refine sr_k fun zK zhK => ?_
   simp only [go_sem, he2, termRows_length, F14]
   repeat' (first | apply And.intro | intro _)
   refine zhK _ ?_
   refine seq_k fun zN zM zhN zhM => ?_
   (refine condT_k ?_ ?_; focus (first | rfl | (simp [go_sem, he2, termRows_length, F14]; done)))
   refine skip_k ?_
   refine zhN _ ?_; clear zhN zhM
   refine seq_k fun zN zM zhN zhM => ?_
   refine block_k fun zB zbn zbx zbr zbi => ?_
   refine sr_k fun zK zhK => ?_
   simp only [go_sem, he2, termRows_length, F14]
   repeat' (first | apply And.intro | intro _)
   refine zhK _ ?_
   refine sd_k (id := 6) [40, 41, 42, 43, 44, 45, 46, 47, 48, 49, 50, 51] [0, 1, 0, 7, 15, 0, 32, 0, 224, 480, 1023, 2047] [] mixed (by kernel_rfl) (by simp only [go_sem]) fun zK zhK => ?_
   simp only [go_sem, he2, termRows_length, F14]
   repeat' (first | apply And.intro | intro _)
   all_goals (refine call_draw (fun k => k) _ [] (fun _ _ => rfl) ?_ (hc.plain fun _ _ h => h) ?_ ?_; focus (first | rfl | (simp only [go_sem, he2, termRows_length, F14] <;> rfl)))
   all_goals try (refine And.intro ?_ (And.intro ?_ (And.intro ?_ ?_)) <;> first | rfl | simp only [go_sem])
   all_goals simp only [go_sem, he2, termRows_length, F14]
   all_goals repeat' (first | apply And.intro | intro _)
   refine zhK _ _ trivial ?_
   (refine condF_k ?_ ?_; focus (first | rfl | (simp [go_sem, he2, termRows_length, F14]; done)))
   refine skip_k ?_
   refine zbn _ ?_; clear zbn zbx zbr zbi
   refine zhN _ ?_; clear zhN zhM
   refine region_k fun zK zhK => ?_
   simp only [go_sem, he2, termRows_length, F14]
   repeat' (first | apply And.intro | intro _)
   refine zhK _ ?_
   refine zhN ⟨j + 1, hlt, h4⟩ _ ?_ ?_ ?_
   · (exact Nat.sub_lt_sub_left hlt (Nat.lt_succ_self j))
   · (simp only [go_sem, leX, List.cons_append, List.nil_append]; try simp)
   · (simp only [go_sem, leX, List.cons_append, List.nil_append]; try simp)
 · obtain rfl : j = l.length := by omega
   rw [List.drop_length, sameL_nil] at h4
   have hcq : ¬ ((l.length : Nat) : Int) < ((l.length : Nat) : Int) := by omega
   iterate 13 first
    | (refine sr_k fun zK zhK => ?_; simp only [go_sem, he2, termRows_length, hcq]; (repeat' (first | apply And.intro | intro _)))
    | refine zhK _ ?_
    | (refine zhM _ _ ?_; clear zhN zhM)
    | refine exit_k ?_
    | (refine zbx _ ?_; clear zbn zbx zbr zbi)
    | (refine zhN _ ?_; clear zhN zhM)
    | refine ret_k ?_
    | (refine zhZ _ _ ?_; simp only [go_sem, he2, termRows_length, hcq]; (all_goals (rw [hr, ← h4])))
    | refine seq_k fun zN zM zhN zhM => ?_
    | (refine condF_k ?_ ?_; focus (first | rfl | (simp [go_sem, he2, termRows_length, hcq]; done)))
theorem same_ : ∀ (t u : TermD), t.ok → u.ok → Ct Try.prog 6 [argT t, argT u] (fun v m => v = .w (.one (.pl (.b (sameB t u)))))
 | .mk k i o l, .mk k2 i2 o2 l2, ht, hu => by
  rw [TermD.ok] at ht hu
  rw [argC_eq, argC_eq]
  by_cases hk : k = k2
  · subst hk
    by_cases hi : i = i2
    · subst hi
      by_cases ho : o = o2
      · subst ho
        by_cases hl : ((l.length : Nat) : Int) = ((l2.length : Nat) : Int)
        · exact same_ok k i o l l2 ht.2.2.2.1 (by omega) fun a ha b hb => same_ a b (termsOk_mem ht.2.2.2.2 a ha) (termsOk_mem hu.2.2.2.2 b hb)
        · exact same_l k i o l l2 hl
      · exact same_o k i o l o2 l2 ho
    · exact same_i k i o l i2 o2 l2 hi
  · exact same_k k i o l k2 i2 o2 l2 hk
termination_by t => SizeOf.sizeOf t
decreasing_by
 have := List.sizeOf_lt_of_mem ha
 simp only [TermD.mk.sizeOf_spec]
 omega
set_option maxHeartbeats 800000 in
theorem samr_k (k i o : Int) (l : List TermD) (k2 i2 o2 : Int) (l2 : List TermD) (hno : ¬ k = k2) :
 Ct Try.prog 8 [argC k i o l, argC k2 i2 o2 l2] (fun v m => v = .w (.one (.pl (.b (sameB (.mk k i o l) (.mk k2 i2 o2 l2)))))) := by
 have hr : sameB (.mk k i o l) (.mk k2 i2 o2 l2) = false := by rw [same_eq]; simp only [decide_eq_false hno, Bool.false_and, Bool.and_false]
 rw [hr]
 refine Ct.k Try.func8 rfl Try.ntmps8 (congrArg Array.toList Try.results8) (by simp) fun w0 ro => ?_
 refine top_k fun zZ zhZ => ?_
 iterate 11 first
  | (refine sr_k fun zK zhK => ?_; simp only [go_sem, hno, termRows_length]; (repeat' (first | apply And.intro | intro _)))
  | refine zhK _ ?_
  | refine ret_k ?_
  | (refine zhM _ _ ?_; clear zhN zhM)
  | (refine zhZ _ _ ?_; simp only [go_sem, hno, termRows_length]; (all_goals (rfl)))
  | refine seq_k fun zN zM zhN zhM => ?_
  | (refine condT_k ?_ ?_; focus (first | rfl | (simp [go_sem, hno, termRows_length]; done)))
set_option maxHeartbeats 800000 in
theorem samr_i (k i o : Int) (l : List TermD) (i2 o2 : Int) (l2 : List TermD) (hno : ¬ i = i2) :
 Ct Try.prog 8 [argC k i o l, argC k i2 o2 l2] (fun v m => v = .w (.one (.pl (.b (sameB (.mk k i o l) (.mk k i2 o2 l2)))))) := by
 have hr : sameB (.mk k i o l) (.mk k i2 o2 l2) = false := by rw [same_eq]; simp only [decide_eq_false hno, Bool.false_and, Bool.and_false]
 rw [hr]
 refine Ct.k Try.func8 rfl Try.ntmps8 (congrArg Array.toList Try.results8) (by simp) fun w0 ro => ?_
 refine top_k fun zZ zhZ => ?_
 iterate 11 first
  | (refine sr_k fun zK zhK => ?_; simp only [go_sem, hno, termRows_length]; (repeat' (first | apply And.intro | intro _)))
  | refine zhK _ ?_
  | refine ret_k ?_
  | (refine zhM _ _ ?_; clear zhN zhM)
  | (refine zhZ _ _ ?_; simp only [go_sem, hno, termRows_length]; (all_goals (rfl)))
  | refine seq_k fun zN zM zhN zhM => ?_
  | (refine condT_k ?_ ?_; focus (first | rfl | (simp [go_sem, hno, termRows_length]; done)))
set_option maxHeartbeats 800000 in
theorem samr_o (k i o : Int) (l : List TermD) (o2 : Int) (l2 : List TermD) (hno : ¬ o = o2) :
 Ct Try.prog 8 [argC k i o l, argC k i o2 l2] (fun v m => v = .w (.one (.pl (.b (sameB (.mk k i o l) (.mk k i o2 l2)))))) := by
 have hr : sameB (.mk k i o l) (.mk k i o2 l2) = false := by rw [same_eq]; simp only [decide_eq_false hno, Bool.false_and, Bool.and_false]
 rw [hr]
 refine Ct.k Try.func8 rfl Try.ntmps8 (congrArg Array.toList Try.results8) (by simp) fun w0 ro => ?_
 refine top_k fun zZ zhZ => ?_
 iterate 11 first
  | (refine sr_k fun zK zhK => ?_; simp only [go_sem, hno, termRows_length]; (repeat' (first | apply And.intro | intro _)))
  | refine zhK _ ?_
  | refine ret_k ?_
  | (refine zhM _ _ ?_; clear zhN zhM)
  | (refine zhZ _ _ ?_; simp only [go_sem, hno, termRows_length]; (all_goals (rfl)))
  | refine seq_k fun zN zM zhN zhM => ?_
  | (refine condT_k ?_ ?_; focus (first | rfl | (simp [go_sem, hno, termRows_length]; done)))
set_option maxHeartbeats 800000 in
theorem samr_l (k i o : Int) (l : List TermD) (l2 : List TermD) (hno : ¬ ((l.length : Nat) : Int) = ((l2.length : Nat) : Int)) :
 Ct Try.prog 8 [argC k i o l, argC k i o l2] (fun v m => v = .w (.one (.pl (.b (sameB (.mk k i o l) (.mk k i o l2)))))) := by
 have hno2 : ¬ l.length = l2.length := fun e => hno (by rw [e])
 have hr : sameB (.mk k i o l) (.mk k i o l2) = false := by rw [same_eq]; simp only [decide_eq_false hno2, Bool.false_and, Bool.and_false]
 rw [hr]
 refine Ct.k Try.func8 rfl Try.ntmps8 (congrArg Array.toList Try.results8) (by simp) fun w0 ro => ?_
 refine top_k fun zZ zhZ => ?_
 iterate 11 first
  | (refine sr_k fun zK zhK => ?_; simp only [go_sem, hno, termRows_length]; (repeat' (first | apply And.intro | intro _)))
  | refine zhK _ ?_
  | refine ret_k ?_
  | (refine zhM _ _ ?_; clear zhN zhM)
  | (refine zhZ _ _ ?_; simp only [go_sem, hno, termRows_length]; (all_goals (rfl)))
  | refine seq_k fun zN zM zhN zhM => ?_
  | (refine condT_k ?_ ?_; focus (first | rfl | (simp [go_sem, hno, termRows_length]; done)))
set_option maxHeartbeats 1600000 in
set_option maxRecDepth 100000 in
theorem samr_ok (k i o : Int) (l : List TermD) (l2 : List TermD) (hl : l.length ≤ 9223372036854775807) (he2 : l2.length = l.length) (ih : ∀ a, a ∈ l → ∀ b, b ∈ l2 → Ct Try.prog 8 [argT a, argT b] (fun v m => v = .w (.one (.pl (.b (sameB a b)))))) :
 Ct Try.prog 8 [argC k i o l, argC k i o l2] (fun v m => v = .w (.one (.pl (.b (sameB (.mk k i o l) (.mk k i o l2)))))) := by
 have hr : sameB (.mk k i o l) (.mk k i o l2) = sameL l l2 := by rw [same_eq]; simp [he2]
 refine Ct.k Try.func8 rfl Try.ntmps8 (congrArg Array.toList Try.results8) (by simp) fun w0 ro => ?_
 refine top_k fun zZ zhZ => ?_
 iterate 12 first
  | (refine sr_k fun zK zhK => ?_; simp only [go_sem, he2, termRows_length]; (repeat' (first | apply And.intro | intro _)))
  | refine zhK _ ?_
  | refine skip_k ?_
  | (refine zhN _ ?_; clear zhN zhM)
  | refine block_k fun zB zbn zbx zbr zbi => ?_
  | refine seq_k fun zN zM zhN zhM => ?_
  | (refine condF_k ?_ ?_; focus (first | rfl | (simp [go_sem, he2, termRows_length]; done)))
 refine ht_dropE [0, 1, 2, 7, 8, 9, 10, 11, 12, 13, 14, 15, 16, 17, 18, 19, 20, 21, 22, 23, 24, 25, 26, 27, 28, 29, 30, 31, 32, 33, 34, 35] ?_
 simp only [dropE_mk, fgt_nil, fgt_cons, List.contains_cons, List.contains_nil, Nat.reduceBEq, beq_self_eq_true, Bool.or_false, Bool.or_true, Bool.true_or, Bool.false_or, Bool.false_eq_true, reduceIte]
 refine loop_k (fun y => [(38, .w (.one (.pl (.i ((y.1 : Nat) : Int)))))]) (fun _ => []) (fun y => l.length - y.1) (⟨0, Nat.zero_le _, rfl⟩ : {y : Nat // y ≤ l.length ∧ sameL (l.drop y) (l2.drop y) = sameL l l2}) ?_ ?_ ?_
 · (simp only [go_sem, leX, List.cons_append, List.nil_append]; try simp)
 · (simp only [go_sem, leX, List.cons_append, List.nil_append]; try simp)
 intro yy zN zM zhN zhM
 simp only [List.cons_append, List.nil_append]
 obtain ⟨j, h1, h4⟩ := yy
 rcases Nat.lt_or_ge j l.length with hlt | hge
 rcases hsb : sameB (l.getD j (.mk 0 0 0 [])) (l2.getD j (.mk 0 0 0 [])) with _ | _
 · obtain ⟨k2, i2, o2, m2, he, hm, hdr, hg⟩ := rows_get hlt
   obtain ⟨k3, i3, o3, m3, he3, hm3, hdr3, hg3⟩ := rows_get (l := l2) (n := j) (by omega)
   have hc := ih _ hm _ hm3
   rw [argC_eq, argC_eq] at hc
   have hcq : ((j : Nat) : Int) < ((l.length : Nat) : Int) := by omega
   have hj : (0 : Int) ≤ ((j : Nat) : Int) := by omega
   rw [hdr, hdr3, sameL_cons] at h4
   rw [he, he3] at hsb
   rw [hsb] at hc h4
   rw [Bool.false_and] at h4
   have F7 := And.intro hcq <| And.intro hj <| And.intro hlt <| And.intro hg <| hg3
   iterate 23 first
    | (refine sr_k fun zK zhK => ?_; simp only [go_sem, he2, termRows_length, F7]; (repeat' (first | apply And.intro | intro _)))
    | refine zhK _ ?_
    | (refine zhM _ _ ?_; clear zhN zhM)
    | (refine zbr _ ?_; clear zbn zbx zbr zbi)
    | refine skip_k ?_
    | (refine zhN _ ?_; clear zhN zhM)
    | refine block_k fun zB zbn zbx zbr zbi => ?_
    | (refine sd_k (id := 6) [43, 44, 45, 46, 47, 48, 49, 50] [0, 0, 2, 0, 14, 30, 63, 127] [] mixed (by kernel_rfl) (by simp only [go_sem]) fun zK zhK => ?_; simp only [go_sem, he2, termRows_length, F7]; (repeat' (first | apply And.intro | intro _)))
    | refine zhK _ _ trivial ?_
    | refine ret_k ?_
    | (refine zhZ _ _ ?_; simp only [go_sem, he2, termRows_length, F7]; (all_goals (rw [hr, ← h4])))
    | ((all_goals (refine call_draw (fun k => k) _ [] (fun _ _ => rfl) ?_ (hc.plain fun _ _ h => h) ?_ ?_; focus (first | rfl | (simp only [go_sem, he2, termRows_length, F7] <;> rfl)))); (all_goals try (refine And.intro ?_ (And.intro ?_ (And.intro ?_ ?_)) <;> first | rfl | simp only [go_sem])); (all_goals simp only [go_sem, he2, termRows_length, F7]); (all_goals repeat' (first | apply And.intro | intro _)))
    | refine seq_k fun zN zM zhN zhM => ?_
    | (refine condT_k ?_ ?_; focus (first | rfl | (simp [go_sem, he2, termRows_length, F7]; done)))
 · obtain ⟨k2, i2, o2, m2, he, hm, hdr, hg⟩ := rows_get hlt
   obtain ⟨k3, i3, o3, m3, he3, hm3, hdr3, hg3⟩ := rows_get (l := l2) (n := j) (by omega)
   have hc := ih _ hm _ hm3
   rw [argC_eq, argC_eq] at hc
   have hcq : ((j : Nat) : Int) < ((l.length : Nat) : Int) := by omega
   have hj : (0 : Int) ≤ ((j : Nat) : Int) := by omega
   rw [hdr, hdr3, sameL_cons] at h4
   rw [he, he3] at hsb
   rw [hsb] at hc h4
   rw [Bool.true_and] at h4
   have hs1 : Go.RowKit.wrap64 (((j : Nat) : Int) + 1) = ((j + 1 : Nat) : Int) := wnat (by omega) (by omega)
   have F14 := And.intro hcq <| And.intro hj <| And.intro hlt <| And.intro hg <| And.intro hg3 <| hs1
   refine sr_k fun zK zhK => ?_
   simp only [go_sem, he2, termRows_length, F14]
   repeat' (first | apply And.intro | intro _)
   refine zhK _ ?_
   refine seq_k fun zN zM zhN zhM => ?_
   (refine condT_k ?_ ?_; focus (first | rfl | (simp [go_sem, he2, termRows_length, F14]; done)))
   refine skip_k ?_
   refine zhN _ ?_; clear zhN zhM
   refine seq_k fun zN zM zhN zhM => ?_
   refine block_k fun zB zbn zbx zbr zbi => ?_
   refine sr_k fun zK zhK => ?_
   simp only [go_sem, he2, termRows_length, F14]
   repeat' (first | apply And.intro | intro _)
   refine zhK _ ?_
   refine sd_k (id := 6) [43, 44, 45, 46, 47, 48, 49, 50] [0, 0, 2, 0, 14, 30, 63, 127] [] mixed (by kernel_rfl) (by simp only [go_sem]) fun zK zhK => ?_
   simp only [go_sem, he2, termRows_length, F14]
   repeat' (first | apply And.intro | intro _)
   all_goals (refine call_draw (fun k => k) _ [] (fun _ _ => rfl) ?_ (hc.plain fun _ _ h => h) ?_ ?_; focus (first | rfl | (simp only [go_sem, he2, termRows_length, F14] <;> rfl)))
   all_goals try (refine And.intro ?_ (And.intro ?_ (And.intro ?_ ?_)) <;> first | rfl | simp only [go_sem])
   all_goals simp only [go_sem, he2, termRows_length, F14]
   all_goals repeat' (first | apply And.intro | intro _)
   refine zhK _ _ trivial ?_
   (refine condF_k ?_ ?_; focus (first | rfl | (simp [go_sem, he2, termRows_length, F14]; done)))
   refine skip_k ?_
   refine zbn _ ?_; clear zbn zbx zbr zbi
   refine zhN _ ?_; clear zhN zhM
   refine region_k fun zK zhK => ?_
   simp only [go_sem, he2, termRows_length, F14]
   repeat' (first | apply And.intro | intro _)
   refine zhK _ ?_
   refine zhN ⟨j + 1, hlt, h4⟩ _ ?_ ?_ ?_
   · (exact Nat.sub_lt_sub_left hlt (Nat.lt_succ_self j))
   · (simp only [go_sem, leX, List.cons_append, List.nil_append]; try simp)
   · (simp only [go_sem, leX, List.cons_append, List.nil_append]; try simp)
 · obtain rfl : j = l.length := by omega
   rw [List.drop_length, sameL_nil] at h4
   have hcq : ¬ ((l.length : Nat) : Int) < ((l.length : Nat) : Int) := by omega
   iterate 13 first
    | (refine sr_k fun zK zhK => ?_; simp only [go_sem, he2, termRows_length, hcq]; (repeat' (first | apply And.intro | intro _)))
    | refine zhK _ ?_
    | (refine zhM _ _ ?_; clear zhN zhM)
    | refine exit_k ?_
    | (refine zbx _ ?_; clear zbn zbx zbr zbi)
    | (refine zhN _ ?_; clear zhN zhM)
    | refine ret_k ?_
    | (refine zhZ _ _ ?_; simp only [go_sem, he2, termRows_length, hcq]; (all_goals (rw [hr, ← h4])))
    | refine seq_k fun zN zM zhN zhM => ?_
    | (refine condF_k ?_ ?_; focus (first | rfl | (simp [go_sem, he2, termRows_length, hcq]; done)))
theorem samr_ : ∀ (t u : TermD), t.ok → u.ok → Ct Try.prog 8 [argT t, argT u] (fun v m => v = .w (.one (.pl (.b (sameB t u)))))
 | .mk k i o l, .mk k2 i2 o2 l2, ht, hu => by
  rw [TermD.ok] at ht hu
  rw [argC_eq, argC_eq]
  by_cases hk : k = k2
  · subst hk
    by_cases hi : i = i2
    · subst hi
      by_cases ho : o = o2
      · subst ho
        by_cases hl : ((l.length : Nat) : Int) = ((l2.length : Nat) : Int)
        · exact samr_ok k i o l l2 ht.2.2.2.1 (by omega) fun a ha b hb => samr_ a b (termsOk_mem ht.2.2.2.2 a ha) (termsOk_mem hu.2.2.2.2 b hb)
        · exact samr_l k i o l l2 hl
      · exact samr_o k i o l o2 l2 ho
    · exact samr_i k i o l i2 o2 l2 hi
  · exact samr_k k i o l k2 i2 o2 l2 hk
termination_by t => SizeOf.sizeOf t
decreasing_by
 have := List.sizeOf_lt_of_mem ha
 simp only [TermD.mk.sizeOf_spec]
 omega
end Go.Sy

