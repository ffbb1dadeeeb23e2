/- Terms that were told twice are the same: what the law asks. -/
import Derived.Test.YtbfllkipgfpkkaavtVF
set_option linter.unusedVariables false
set_option linter.unusedSimpArgs false
namespace Go.Sy
open Go.Proofs
attribute [local irreducible] atCall HT runOps runD onC onE onO onG goV goA goS onSt onGuard
abbrev argC (k i o : Int) (l : List TermD) : V := .w (.agg [.pl (.i k), .pl (.i i), .pl (.i o), .pl (.R false 4 (termRows l))])
theorem argC_eq (k i o : Int) (l : List TermD) : argT (.mk k i o l) = argC k i o l := by rw [argT, TermD.cells]; rfl
theorem rows_get {l : List TermD} {n : Nat} (h : n < l.length) : ∃ k i o m, l.getD n (.mk 0 0 0 []) = .mk k i o m ∧ .mk k i o m ∈ l ∧ (termRows l).getD n [] = [.i k, .i i, .i o, .R false 4 (termRows m)] := by
 obtain ⟨k, i, o, m, he⟩ : ∃ k i o m, l[n] = TermD.mk k i o m := ⟨_, _, _, _, (by cases l[n] with | mk k i o m => rfl : l[n] = .mk l[n].kind l[n].id l[n].other l[n].args)⟩
 refine ⟨k, i, o, m, ?_, ?_, ?_⟩
 · rw [← he]; simp [List.getD, List.getElem?_eq_getElem h]
 · rw [← he]; exact List.getElem_mem h
 · rw [termRows_map, List.getD, List.getElem?_map, List.getElem?_eq_getElem h, he]; simp [TermD.cells]
mutual
def TermD.lok : TermD → Prop
 | .mk _ _ _ l => l.length ≤ 1000000 ∧ lokL l
def lokL : List TermD → Prop
 | [] => True
 | a :: l => a.lok ∧ lokL l
end
theorem lokL_mem : ∀ {l : List TermD}, lokL l → ∀ a ∈ l, a.lok
 | [], _, a, h => by cases h
 | b :: l, hk, a, h => by
  rw [lokL] at hk
  rcases List.mem_cons.mp h with rfl | h
  · exact hk.1
  · exact lokL_mem hk.2 a h
set_option maxHeartbeats 1600000 in
set_option maxRecDepth 100000 in
theorem same_ok (k i o : Int) (l : List TermD) (hl : l.length ≤ 1000000) (ih : ∀ a, a ∈ l → Ct Try.prog 44 [argT a, argT a] (fun v m => v = .w (.one (.pl (.b true))))) :
 Ct Try.prog 44 [argC k i o l, argC k i o l] (fun v m => v = .w (.one (.pl (.b true)))) := by
 refine Ct.k Try.func44 rfl Try.ntmps44 (congrArg Array.toList Try.results44) (by simp) fun w0 ro => ?_
 refine top_k fun zZ zhZ => ?_
 iterate 12 first
  | (refine sr_k fun zK zhK => ?_; simp only [go_sem, termRows_length]; (repeat' (first | apply And.intro | intro _)))
  | refine zhK _ ?_
  | refine skip_k ?_
  | (refine zhN _ ?_; clear zhN zhM)
  | refine block_k fun zB zbn zbx zbr zbi => ?_
  | refine seq_k fun zN zM zhN zhM => ?_
  | (refine condF_k ?_ ?_; focus (first | rfl | (simp [go_sem, termRows_length]; done)))
 refine ht_dropE [0, 1, 2, 7, 8, 9, 10, 11, 12, 13, 14, 15, 16, 17, 18, 19, 20, 21, 22, 23, 24, 25, 26, 27, 28, 29, 30, 31, 32, 33, 34, 35] ?_
 simp only [dropE_mk, fgt_nil, fgt_cons, List.contains_cons, List.contains_nil, Nat.reduceBEq, beq_self_eq_true, Bool.or_false, Bool.or_true, Bool.true_or, Bool.false_or, Bool.false_eq_true, reduceIte]
 refine loop_k (fun y => [(38, .w (.one (.pl (.i ((y.1 : Nat) : Int)))))]) (fun _ => []) (fun y => l.length - y.1) (⟨0, Nat.zero_le _⟩ : {y : Nat // y ≤ l.length}) ?_ ?_ ?_
 · (simp only [go_sem, leX, List.cons_append, List.nil_append]; try simp)
 · (simp only [go_sem, leX, List.cons_append, List.nil_append]; try simp)
 intro yy zN zM zhN zhM
 simp only [List.cons_append, List.nil_append]
 obtain ⟨j, h1⟩ := yy
 rcases Nat.lt_or_eq_of_le h1 with hlt | rfl
 · obtain ⟨k2, i2, o2, m2, he, hm, hg⟩ := rows_get hlt
   have hc := ih _ hm
   rw [argC_eq] at hc
   have hcq := ltI' hlt
   have hj := iInt j
   have hs1 := wsucc' hlt hl
   have F7 := And.intro hcq <| And.intro hj <| And.intro hlt <| And.intro hg <| hs1
   refine sr_k fun zK zhK => ?_
   simp only [go_sem, termRows_length, F7]
   repeat' (first | apply And.intro | intro _)
   refine zhK _ ?_
   refine seq_k fun zN zM zhN zhM => ?_
   (refine condT_k ?_ ?_; focus (first | rfl | (simp [go_sem, termRows_length, F7]; done)))
   refine skip_k ?_
   refine zhN _ ?_; clear zhN zhM
   refine seq_k fun zN zM zhN zhM => ?_
   refine block_k fun zB zbn zbx zbr zbi => ?_
   refine sr_k fun zK zhK => ?_
   simp only [go_sem, termRows_length, F7]
   repeat' (first | apply And.intro | intro _)
   refine zhK _ ?_
   refine sd_k (id := 6) [43, 44, 45, 46, 47, 48, 49, 50] [0, 0, 2, 0, 14, 30, 63, 127] [] mixed (by kernel_rfl) (by simp only [go_sem]) fun zK zhK => ?_
   simp only [go_sem, termRows_length, F7]
   repeat' (first | apply And.intro | intro _)
   all_goals (refine call_draw (fun k => k) _ [] (fun _ _ => rfl) ?_ (hc.plain fun _ _ h => h) ?_ ?_; focus (first | rfl | (simp only [go_sem, termRows_length, F7] <;> rfl)))
   all_goals try (refine And.intro ?_ (And.intro ?_ (And.intro ?_ ?_)) <;> first | rfl | simp only [go_sem])
   all_goals simp only [go_sem, termRows_length, F7]
   all_goals repeat' (first | apply And.intro | intro _)
   refine zhK _ _ trivial ?_
   (refine condF_k ?_ ?_; focus (first | rfl | (simp [go_sem, termRows_length, F7]; done)))
   refine skip_k ?_
   refine zbn _ ?_; clear zbn zbx zbr zbi
   refine zhN _ ?_; clear zhN zhM
   refine region_k fun zK zhK => ?_
   simp only [go_sem, termRows_length, F7]
   repeat' (first | apply And.intro | intro _)
   refine zhK _ ?_
   refine zhN ⟨j + 1, hlt⟩ _ ?_ ?_ ?_
   · (exact Nat.sub_lt_sub_left hlt (Nat.lt_succ_self j))
   · (simp only [go_sem, leX, List.cons_append, List.nil_append]; try simp)
   · (simp only [go_sem, leX, List.cons_append, List.nil_append]; try simp)
 · have hcq := nltI' (n := l.length)
   iterate 13 first
    | (refine sr_k fun zK zhK => ?_; simp only [go_sem, termRows_length, hcq]; (repeat' (first | apply And.intro | intro _)))
    | refine zhK _ ?_
    | (refine zhM _ _ ?_; clear zhN zhM)
    | refine exit_k ?_
    | (refine zbx _ ?_; clear zbn zbx zbr zbi)
    | (refine zhN _ ?_; clear zhN zhM)
    | refine ret_k ?_
    | (refine zhZ _ _ ?_; simp only [go_sem, termRows_length, hcq]; (all_goals (rfl)))
    | refine seq_k fun zN zM zhN zhM => ?_
    | (refine condF_k ?_ ?_; focus (first | rfl | (simp [go_sem, termRows_length, hcq]; done)))
theorem same_ : ∀ (t : TermD), t.lok → Ct Try.prog 44 [argT t, argT t] (fun v m => v = .w (.one (.pl (.b true))))
 | .mk k i o l, ht => by
  rw [TermD.lok] at ht
  rw [argC_eq]
  exact same_ok k i o l ht.1 fun a ha => same_ a (lokL_mem ht.2 a ha)
termination_by t => SizeOf.sizeOf t
decreasing_by
 have := List.sizeOf_lt_of_mem ha
 simp only [TermD.mk.sizeOf_spec]
 omega
set_option maxHeartbeats 1600000 in
set_option maxRecDepth 100000 in
theorem sames_ok (l : List TermD) (hl : l.length ≤ 1000000) (ih : ∀ a, a ∈ l → Ct Try.prog 44 [argT a, argT a] (fun v m => v = .w (.one (.pl (.b true))))) :
 Ct Try.prog 13 [.w (.one (.pl (.R false 4 (termRows l)))), .w (.one (.pl (.R false 4 (termRows l))))] (fun v m => v = .w (.one (.pl (.b true)))) := by
 refine Ct.k Try.func13 rfl Try.ntmps13 (congrArg Array.toList Try.results13) (by simp) fun w0 ro => ?_
 refine top_k fun zZ zhZ => ?_
 iterate 12 first
  | (refine sr_k fun zK zhK => ?_; simp only [go_sem, termRows_length]; (repeat' (first | apply And.intro | intro _)))
  | refine zhK _ ?_
  | refine skip_k ?_
  | (refine zhN _ ?_; clear zhN zhM)
  | refine block_k fun zB zbn zbx zbr zbi => ?_
  | refine seq_k fun zN zM zhN zhM => ?_
  | (refine condF_k ?_ ?_; focus (first | rfl | (simp [go_sem, termRows_length]; done)))
 refine ht_dropE [6, 7, 8, 9, 10, 11] ?_
 simp only [dropE_mk, fgt_nil, fgt_cons, List.contains_cons, List.contains_nil, Nat.reduceBEq, beq_self_eq_true, Bool.or_false, Bool.or_true, Bool.true_or, Bool.false_or, Bool.false_eq_true, reduceIte]
 refine loop_k (fun y => [(13, .w (.one (.pl (.i ((y.1 : Nat) : Int)))))]) (fun _ => []) (fun y => l.length - y.1) (⟨0, Nat.zero_le _⟩ : {y : Nat // y ≤ l.length}) ?_ ?_ ?_
 · (simp only [go_sem, leX, List.cons_append, List.nil_append]; try simp)
 · (simp only [go_sem, leX, List.cons_append, List.nil_append]; try simp)
 intro yy zN zM zhN zhM
 simp only [List.cons_append, List.nil_append]
 obtain ⟨j, h1⟩ := yy
 rcases Nat.lt_or_eq_of_le h1 with hlt | rfl
 · obtain ⟨k2, i2, o2, m2, he, hm, hg⟩ := rows_get hlt
   have hc := ih _ hm
   rw [argC_eq] at hc
   have hcq := ltI' hlt
   have hj := iInt j
   have hs1 := wsucc' hlt hl
   have F7 := And.intro hcq <| And.intro hj <| And.intro hlt <| And.intro hg <| hs1
   refine sr_k fun zK zhK => ?_
   simp only [go_sem, termRows_length, F7]
   repeat' (first | apply And.intro | intro _)
   refine zhK _ ?_
   refine seq_k fun zN zM zhN zhM => ?_
   (refine condT_k ?_ ?_; focus (first | rfl | (simp [go_sem, termRows_length, F7]; done)))
   refine skip_k ?_
   refine zhN _ ?_; clear zhN zhM
   refine seq_k fun zN zM zhN zhM => ?_
   refine block_k fun zB zbn zbx zbr zbi => ?_
   refine sr_k fun zK zhK => ?_
   simp only [go_sem, termRows_length, F7]
   repeat' (first | apply And.intro | intro _)
   refine zhK _ ?_
   refine sd_k (id := 6) [16, 17, 18, 19, 20, 21, 22, 23, 24, 25] [0, 0, 3, 7, 0, 0, 48, 112, 255, 511] [] mixed (by kernel_rfl) (by simp only [go_sem]) fun zK zhK => ?_
   simp only [go_sem, termRows_length, F7]
   repeat' (first | apply And.intro | intro _)
   all_goals (refine call_draw (fun k => k) _ [] (fun _ _ => rfl) ?_ (hc.plain fun _ _ h => h) ?_ ?_; focus (first | rfl | (simp only [go_sem, termRows_length, F7] <;> rfl)))
   all_goals try (refine And.intro ?_ (And.intro ?_ (And.intro ?_ ?_)) <;> first | rfl | simp only [go_sem])
   all_goals simp only [go_sem, termRows_length, F7]
   all_goals repeat' (first | apply And.intro | intro _)
   refine zhK _ _ trivial ?_
   (refine condF_k ?_ ?_; focus (first | rfl | (simp [go_sem, termRows_length, F7]; done)))
   refine skip_k ?_
   refine zbn _ ?_; clear zbn zbx zbr zbi
   refine zhN _ ?_; clear zhN zhM
   refine region_k fun zK zhK => ?_
   simp only [go_sem, termRows_length, F7]
   repeat' (first | apply And.intro | intro _)
   refine zhK _ ?_
   refine zhN ⟨j + 1, hlt⟩ _ ?_ ?_ ?_
   · (exact Nat.sub_lt_sub_left hlt (Nat.lt_succ_self j))
   · (simp only [go_sem, leX, List.cons_append, List.nil_append]; try simp)
   · (simp only [go_sem, leX, List.cons_append, List.nil_append]; try simp)
 · have hcq := nltI' (n := l.length)
   iterate 13 first
    | (refine sr_k fun zK zhK => ?_; simp only [go_sem, termRows_length, hcq]; (repeat' (first | apply And.intro | intro _)))
    | refine zhK _ ?_
    | (refine zhM _ _ ?_; clear zhN zhM)
    | refine exit_k ?_
    | (refine zbx _ ?_; clear zbn zbx zbr zbi)
    | (refine zhN _ ?_; clear zhN zhM)
    | refine ret_k ?_
    | (refine zhZ _ _ ?_; simp only [go_sem, termRows_length, hcq]; (all_goals (rfl)))
    | refine seq_k fun zN zM zhN zhM => ?_
    | (refine condF_k ?_ ?_; focus (first | rfl | (simp [go_sem, termRows_length, hcq]; done)))
set_option maxHeartbeats 1600000 in
set_option maxRecDepth 100000 in
theorem sames_nil  :
 Ct Try.prog 13 [.w (.one (.pl (.R true 1 []))), .w (.one (.pl (.R true 1 [])))] (fun v m => v = .w (.one (.pl (.b true)))) := by
 refine Ct.k Try.func13 rfl Try.ntmps13 (congrArg Array.toList Try.results13) (by simp) fun w0 ro => ?_
 refine top_k fun zZ zhZ => ?_
 iterate 27 first
  | refine rnd_k fun zN zM zhN zhM => ?_
  | (refine sr_k fun zK zhK => ?_; simp only [go_sem]; (repeat' (first | apply And.intro | intro _)))
  | refine zhK _ ?_
  | (refine zhN _ ?_; clear zhN zhM)
  | (refine zhM _ _ ?_; clear zhN zhM)
  | refine skip_k ?_
  | refine block_k fun zB zbn zbx zbr zbi => ?_
  | refine rounds_k (x := .seq (.region 4 _ _) _) 1 ?_
  | refine exit_k ?_
  | (refine zbx _ ?_; clear zbn zbx zbr zbi)
  | refine ret_k ?_
  | (refine zhZ _ _ ?_; simp only [go_sem]; (all_goals (rfl)))
  | refine seq_k fun zN zM zhN zhM => ?_
  | (refine condF_k ?_ ?_; focus (first | rfl | (simp [go_sem]; done)))
end Go.Sy

