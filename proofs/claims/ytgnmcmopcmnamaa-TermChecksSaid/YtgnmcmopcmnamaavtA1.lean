/- Walks: how many terms a term has. -/
import Derived.Test.YtgnmcmopcmnamaavtT
import Derived.Test.YtgnmcmopcmnamaavU1
set_option linter.unusedVariables false
set_option linter.unusedSimpArgs false
namespace Go.Sy
open Go.Proofs
attribute [local irreducible] atCall HT runOps runD onC onE onO onG goV goA goS onSt onGuard
theorem wnat {a : Int} {n : Nat} (h : a = (n : Int)) (hn : n ≤ 9223372036854775807) : Go.RowKit.wrap64 a = (n : Int) := by subst h; exact w64 (by omega)
abbrev argT (t : TermD) : V := .w (.agg (pls t.cells))
abbrev argC (k i o : Int) (l : List TermD) : V := .w (.agg [.pl (.i k), .pl (.i i), .pl (.i o), .pl (.R false 4 (termRows l))])
theorem argC_eq (k i o : Int) (l : List TermD) : argT (.mk k i o l) = argC k i o l := by rw [argT, TermD.cells]; rfl
theorem rows_get {l : List TermD} {n : Nat} (h : n < l.length) : ∃ k i o m, l.getD n (.mk 0 0 0 []) = .mk k i o m ∧ .mk k i o m ∈ l ∧ l.drop n = .mk k i o m :: l.drop (n + 1) ∧ (termRows l).getD n [] = [.i k, .i i, .i o, .R false 4 (termRows m)] := by
 obtain ⟨k, i, o, m, he⟩ : ∃ k i o m, l[n] = TermD.mk k i o m := ⟨_, _, _, _, (by cases l[n] with | mk k i o m => rfl : l[n] = .mk l[n].kind l[n].id l[n].other l[n].args)⟩
 refine ⟨k, i, o, m, ?_, ?_, ?_, ?_⟩
 · rw [← he]; simp [List.getD, List.getElem?_eq_getElem h]
 · rw [← he]; exact List.getElem_mem h
 · rw [← he]; exact List.drop_eq_getElem_cons h
 · rw [termRows_map, List.getD, List.getElem?_map, List.getElem?_eq_getElem h, he]; simp [TermD.cells]
set_option maxHeartbeats 400000 in
theorem size_deep (k i o : Int) (l : List TermD) (hl : l.length ≤ 9223372036854775807) (d : Int) (hd : 1 ≤ d ∧ d ≤ 41) (h : 40 < d) :
 Ct Try.prog 11 [argC k i o l, .w (.one (.pl (.i d)))] (fun v m => v = .w (.one (.pl (.i (sizeN (.mk k i o l) d))))) := by
 have hr : sizeN (.mk k i o l) d = 301 := by rw [sizeN, if_pos h]
 rw [hr]
 refine Ct.k Try.func11 rfl Try.ntmps11 (congrArg Array.toList Try.results11) (by simp) fun w0 ro => ?_
 refine top_k fun zZ zhZ => ?_
 iterate 11 first
  | (refine sr_k fun zK zhK => ?_; simp only [go_sem, h]; (repeat' (first | apply And.intro | intro _)))
  | refine zhK _ ?_
  | refine ret_k ?_
  | (refine zhM _ _ ?_; clear zhN zhM)
  | (refine zhZ _ _ ?_; simp only [go_sem, h]; (all_goals (rfl)))
  | refine seq_k fun zN zM zhN zhM => ?_
  | (refine condT_k ?_ ?_; focus (first | rfl | (simp [go_sem, h]; done)))
set_option maxHeartbeats 1600000 in
set_option maxRecDepth 100000 in
theorem size_loop (k i o : Int) (l : List TermD) (hl : l.length ≤ 9223372036854775807) (d : Int) (hd : 1 ≤ d ∧ d ≤ 41) (h : ¬ 40 < d) (ih : ∀ a, a ∈ l → ∀ e, 1 ≤ e → e ≤ 41 → Ct Try.prog 11 [argT a, .w (.one (.pl (.i e)))] (fun v m => v = .w (.one (.pl (.i (sizeN a e)))))) :
 Ct Try.prog 11 [argC k i o l, .w (.one (.pl (.i d)))] (fun v m => v = .w (.one (.pl (.i (sizeN (.mk k i o l) d))))) := by
 have hr : sizeN (.mk k i o l) d = sizeL l d 1 := by rw [sizeN, if_neg h]
 refine Ct.k Try.func11 rfl Try.ntmps11 (congrArg Array.toList Try.results11) (by simp) fun w0 ro => ?_
 refine top_k fun zZ zhZ => ?_
 iterate 14 first
  | (refine sr_k fun zK zhK => ?_; simp only [go_sem, h, termRows_length]; (repeat' (first | apply And.intro | intro _)))
  | refine zhK _ ?_
  | refine skip_k ?_
  | (refine zhN _ ?_; clear zhN zhM)
  | refine block_k fun zB zbn zbx zbr zbi => ?_
  | refine seq_k fun zN zM zhN zhM => ?_
  | (refine condF_k ?_ ?_; focus (first | rfl | (simp [go_sem, h, termRows_length]; done)))
 refine ht_dropE [0, 2, 8, 9, 10] ?_
 simp only [dropE_mk, fgt_nil, fgt_cons, List.contains_cons, List.contains_nil, Nat.reduceBEq, beq_self_eq_true, Bool.or_false, Bool.or_true, Bool.true_or, Bool.false_or, Bool.false_eq_true, reduceIte]
 refine loop_k (fun y => [(5, .w (.one (.pl (.i y.1.2)))), (13, .w (.one (.pl (.i ((y.1.1 : Nat) : Int)))))]) (fun _ => []) (fun y => l.length - y.1.1) (⟨(0, 1), Nat.zero_le _, by decide, by decide, rfl⟩ : {y : Nat × Int // y.1 ≤ l.length ∧ 1 ≤ y.2 ∧ y.2 ≤ sbd 41 ∧ sizeL (l.drop y.1) d y.2 = sizeL l d 1}) ?_ ?_ ?_
 · (simp only [go_sem, leX, List.cons_append, List.nil_append]; try simp)
 · (simp only [go_sem, leX, List.cons_append, List.nil_append]; try simp)
 intro yy zN zM zhN zhM
 simp only [List.cons_append, List.nil_append]
 obtain ⟨⟨j, n⟩, h1, h2, h3, h4⟩ := yy
 rcases Nat.lt_or_ge j l.length with hlt | hge
 rcases Int.lt_or_le 300 n with hbig | hbig
 · simp only at h1 h2 h3 h4
   obtain ⟨k2, i2, o2, m2, he, hm, hdr, hg⟩ := rows_get hlt
   have hc := ih _ hm (d + 1) (by omega) (by omega)
   rw [argC_eq] at hc
   have hcq : ((j : Nat) : Int) < ((l.length : Nat) : Int) := by omega
   have hj : (0 : Int) ≤ ((j : Nat) : Int) := by omega
   have hjl : j < (termRows l).length := by rw [termRows_length]; exact hlt
   have hb := sizeN_le (.mk k2 i2 o2 m2) (d + 1) 40 (by omega)
   have hb1 : sbd 41 = 300 + sbd 40 := sbd_succ 40
   have hb2 : sbd 41 = 12601 := by decide
   have hp := sizeN_pos (.mk k2 i2 o2 m2) (d + 1)
   obtain ⟨w, hw⟩ : ∃ w, sizeN (.mk k2 i2 o2 m2) (d + 1) = w := ⟨_, rfl⟩
   rw [hw] at hc hb hp
   rw [hdr, sizeL, hw] at h4
   rw [if_pos hbig] at h4
   have F8 := And.intro hcq <| And.intro hj <| And.intro hjl <| And.intro hg <| hbig
   iterate 25 first
    | (refine sr_k fun zK zhK => ?_; simp only [go_sem, h, termRows_length, F8]; (repeat' (first | apply And.intro | intro _)))
    | refine zhK _ ?_
    | (refine zhM _ _ ?_; clear zhN zhM)
    | (refine zhN _ ?_; clear zhN zhM)
    | refine skip_k ?_
    | refine block_k fun zB zbn zbx zbr zbi => ?_
    | refine exit_k ?_
    | (refine zbi _ _ (by decide) ?_; clear zbn zbx zbr zbi)
    | (refine zbx _ ?_; clear zbn zbx zbr zbi)
    | refine ret_k ?_
    | (refine zhZ _ _ ?_; simp only [go_sem, h, termRows_length, F8]; (all_goals (rw [hr, ← h4])))
    | refine seq_k fun zN zM zhN zhM => ?_
    | (refine condT_k ?_ ?_; focus (first | rfl | (simp [go_sem, h, termRows_length, F8]; done)))
 · simp only at h1 h2 h3 h4
   obtain ⟨k2, i2, o2, m2, he, hm, hdr, hg⟩ := rows_get hlt
   have hc := ih _ hm (d + 1) (by omega) (by omega)
   rw [argC_eq] at hc
   have hcq : ((j : Nat) : Int) < ((l.length : Nat) : Int) := by omega
   have hj : (0 : Int) ≤ ((j : Nat) : Int) := by omega
   have hjl : j < (termRows l).length := by rw [termRows_length]; exact hlt
   have hb := sizeN_le (.mk k2 i2 o2 m2) (d + 1) 40 (by omega)
   have hb1 : sbd 41 = 300 + sbd 40 := sbd_succ 40
   have hb2 : sbd 41 = 12601 := by decide
   have hp := sizeN_pos (.mk k2 i2 o2 m2) (d + 1)
   obtain ⟨w, hw⟩ : ∃ w, sizeN (.mk k2 i2 o2 m2) (d + 1) = w := ⟨_, rfl⟩
   rw [hw] at hc hb hp
   rw [hdr, sizeL, hw] at h4
   rw [if_neg (by omega)] at h4
   have hnb : ¬ 300 < n := by omega
   obtain ⟨hs1, hs2, hs3⟩ : Go.RowKit.wrap64 (((j : Nat) : Int) + 1) = ((j + 1 : Nat) : Int) ∧ Go.RowKit.wrap64 (d + 1) = d + 1 ∧ Go.RowKit.wrap64 (n + w) = n + w := ⟨wnat (by omega) (by omega), w64 (by omega), w64 (by omega)⟩
   have FZ := And.intro hcq <| And.intro hj <| And.intro hjl <| And.intro hg <| And.intro hnb <| And.intro hs1 <| And.intro hs2 <| hs3
   iterate 23 first
    | refine zhK _ ?_
    | (refine sr_k fun zK zhK => ?_; simp only [go_sem, h, termRows_length, FZ]; (repeat' (first | apply And.intro | intro _)))
    | (refine zhN _ ?_; clear zhN zhM)
    | refine skip_k ?_
    | (refine region_k fun zK zhK => ?_; simp only [go_sem, h, termRows_length, FZ]; (repeat' (first | apply And.intro | intro _)))
    | refine block_k fun zB zbn zbx zbr zbi => ?_
    | (refine zbn _ ?_; clear zbn zbx zbr zbi)
    | ((all_goals (refine call_view (fun k => k) (fun _ _ => rfl) ?_ (hc.plain fun _ _ h => h) ?_; focus (first | rfl | (simp only [go_sem, h, termRows_length, FZ] <;> rfl)))); (all_goals (rintro v m ⟨hR, hm⟩; subst hR; subst hm)); (all_goals refine And.intro (by first | rfl | simp only [go_sem, h, termRows_length, FZ]) (And.intro (by first | rfl | simp only [go_sem, h, termRows_length, FZ]) ?_)); (all_goals simp only [go_sem, h, termRows_length, FZ]); (all_goals repeat' (first | apply And.intro | intro _)))
    | refine seq_k fun zN zM zhN zhM => ?_
    | (refine condT_k ?_ ?_; focus (first | rfl | (simp [go_sem, h, termRows_length, FZ]; done)))
    | (refine condF_k ?_ ?_; focus (first | rfl | (simp [go_sem, h, termRows_length, FZ]; done)))
   refine zhN ⟨(j + 1, n + w), hlt, by clear hs1 hs2 hs3 FZ; simp only; omega, by clear hs1 hs2 hs3 FZ; simp only; omega, h4⟩ _ ?_ ?_ ?_
   · (exact Nat.sub_lt_sub_left hlt (Nat.lt_succ_self j))
   · (simp only [go_sem, leX, List.cons_append, List.nil_append]; try simp)
   · (simp only [go_sem, leX, List.cons_append, List.nil_append]; try simp)
 · simp only at h1 h2 h3 h4
   obtain rfl : j = l.length := by omega
   rw [List.drop_length, sizeL] at h4
   have hcq : ¬ ((l.length : Nat) : Int) < ((l.length : Nat) : Int) := by omega
   iterate 13 first
    | (refine sr_k fun zK zhK => ?_; simp only [go_sem, h, termRows_length, hcq]; (repeat' (first | apply And.intro | intro _)))
    | refine zhK _ ?_
    | (refine zhM _ _ ?_; clear zhN zhM)
    | refine exit_k ?_
    | (refine zbx _ ?_; clear zbn zbx zbr zbi)
    | (refine zhN _ ?_; clear zhN zhM)
    | refine ret_k ?_
    | (refine zhZ _ _ ?_; simp only [go_sem, h, termRows_length, hcq]; (all_goals (rw [hr, ← h4])))
    | refine seq_k fun zN zM zhN zhM => ?_
    | (refine condF_k ?_ ?_; focus (first | rfl | (simp [go_sem, h, termRows_length, hcq]; done)))
set_option maxHeartbeats 400000 in
theorem weigh_deep (k i o : Int) (l : List TermD) (hl : l.length ≤ 9223372036854775807) (d : Int) (hd : 1 ≤ d ∧ d ≤ 41) (h : 40 < d) :
 Ct Try.prog 13 [argC k i o l, .w (.one (.pl (.i d)))] (fun v m => v = .w (.one (.pl (.i (weighN (.mk k i o l) d))))) := by
 have hr : weighN (.mk k i o l) d = 1048576 := by rw [weighN, if_pos h]
 rw [hr]
 refine Ct.k Try.func13 rfl Try.ntmps13 (congrArg Array.toList Try.results13) (by simp) fun w0 ro => ?_
 refine top_k fun zZ zhZ => ?_
 iterate 11 first
  | (refine sr_k fun zK zhK => ?_; simp only [go_sem, h]; (repeat' (first | apply And.intro | intro _)))
  | refine zhK _ ?_
  | refine ret_k ?_
  | (refine zhM _ _ ?_; clear zhN zhM)
  | (refine zhZ _ _ ?_; simp only [go_sem, h]; (all_goals (rfl)))
  | refine seq_k fun zN zM zhN zhM => ?_
  | (refine condT_k ?_ ?_; focus (first | rfl | (simp [go_sem, h]; done)))
set_option maxHeartbeats 1600000 in
set_option maxRecDepth 100000 in
theorem weigh_loop (k i o : Int) (l : List TermD) (hl : l.length ≤ 9223372036854775807) (d : Int) (hd : 1 ≤ d ∧ d ≤ 41) (h : ¬ 40 < d) (ih : ∀ a, a ∈ l → ∀ e, 1 ≤ e → e ≤ 41 → Ct Try.prog 13 [argT a, .w (.one (.pl (.i e)))] (fun v m => v = .w (.one (.pl (.i (weighN a e)))))) :
 Ct Try.prog 13 [argC k i o l, .w (.one (.pl (.i d)))] (fun v m => v = .w (.one (.pl (.i (weighN (.mk k i o l) d))))) := by
 have hr : weighN (.mk k i o l) d = weighL l d 1 := by rw [weighN, if_neg h]
 refine Ct.k Try.func13 rfl Try.ntmps13 (congrArg Array.toList Try.results13) (by simp) fun w0 ro => ?_
 refine top_k fun zZ zhZ => ?_
 iterate 14 first
  | (refine sr_k fun zK zhK => ?_; simp only [go_sem, h, termRows_length]; (repeat' (first | apply And.intro | intro _)))
  | refine zhK _ ?_
  | refine skip_k ?_
  | (refine zhN _ ?_; clear zhN zhM)
  | refine block_k fun zB zbn zbx zbr zbi => ?_
  | refine seq_k fun zN zM zhN zhM => ?_
  | (refine condF_k ?_ ?_; focus (first | rfl | (simp [go_sem, h, termRows_length]; done)))
 refine ht_dropE [0, 2, 8, 9, 10] ?_
 simp only [dropE_mk, fgt_nil, fgt_cons, List.contains_cons, List.contains_nil, Nat.reduceBEq, beq_self_eq_true, Bool.or_false, Bool.or_true, Bool.true_or, Bool.false_or, Bool.false_eq_true, reduceIte]
 refine loop_k (fun y => [(5, .w (.one (.pl (.i y.1.2)))), (13, .w (.one (.pl (.i ((y.1.1 : Nat) : Int)))))]) (fun _ => []) (fun y => l.length - y.1.1) (⟨(0, 1), Nat.zero_le _, by decide, by decide, rfl⟩ : {y : Nat × Int // y.1 ≤ l.length ∧ 1 ≤ y.2 ∧ y.2 ≤ 1048576 ∧ weighL (l.drop y.1) d y.2 = weighL l d 1}) ?_ ?_ ?_
 · (simp only [go_sem, leX, List.cons_append, List.nil_append]; try simp)
 · (simp only [go_sem, leX, List.cons_append, List.nil_append]; try simp)
 intro yy zN zM zhN zhM
 simp only [List.cons_append, List.nil_append]
 obtain ⟨⟨j, n⟩, h1, h2, h3, h4⟩ := yy
 rcases Nat.lt_or_ge j l.length with hlt | hge
 rcases Int.lt_or_le 1048576 (n + weighN (l.getD j (.mk 0 0 0 [])) (d + 1)) with hbig | hbig
 · simp only at h1 h2 h3 h4
   obtain ⟨k2, i2, o2, m2, he, hm, hdr, hg⟩ := rows_get hlt
   have hc := ih _ hm (d + 1) (by omega) (by omega)
   rw [argC_eq] at hc
   have hcq : ((j : Nat) : Int) < ((l.length : Nat) : Int) := by omega
   have hj : (0 : Int) ≤ ((j : Nat) : Int) := by omega
   have hjl : j < (termRows l).length := by rw [termRows_length]; exact hlt
   have hb := weighN_le (.mk k2 i2 o2 m2) (d + 1) 40 (by omega)
   have hb2 : bnd 40 = 42991616 := by decide
   have hp := weighN_pos (.mk k2 i2 o2 m2) (d + 1)
   obtain ⟨w, hw⟩ : ∃ w, weighN (.mk k2 i2 o2 m2) (d + 1) = w := ⟨_, rfl⟩
   rw [hw] at hc hb hp
   rw [hdr, weighL, hw] at h4
   rw [he, hw] at hbig
   rw [if_pos hbig] at h4
   obtain ⟨hs1, hs2, hs3⟩ : Go.RowKit.wrap64 (((j : Nat) : Int) + 1) = ((j + 1 : Nat) : Int) ∧ Go.RowKit.wrap64 (d + 1) = d + 1 ∧ Go.RowKit.wrap64 (n + w) = n + w := ⟨wnat (by omega) (by omega), w64 (by omega), w64 (by omega)⟩
   have FZ := And.intro hcq <| And.intro hj <| And.intro hjl <| And.intro hg <| And.intro hbig <| And.intro hs1 <| And.intro hs2 <| hs3
   iterate 25 first
    | (refine sr_k fun zK zhK => ?_; simp only [go_sem, h, termRows_length, FZ]; (repeat' (first | apply And.intro | intro _)))
    | refine zhK _ ?_
    | (refine zhM _ _ ?_; clear zhN zhM)
    | (refine zbr _ ?_; clear zbn zbx zbr zbi)
    | refine skip_k ?_
    | (refine zhN _ ?_; clear zhN zhM)
    | refine block_k fun zB zbn zbx zbr zbi => ?_
    | refine ret_k ?_
    | (refine zhZ _ _ ?_; simp only [go_sem, h, termRows_length, FZ]; (all_goals (rw [hr, ← h4])))
    | ((all_goals (refine call_view (fun k => k) (fun _ _ => rfl) ?_ (hc.plain fun _ _ h => h) ?_; focus (first | rfl | (simp only [go_sem, h, termRows_length, FZ] <;> rfl)))); (all_goals (rintro v m ⟨hR, hm⟩; subst hR; subst hm)); (all_goals refine And.intro (by first | rfl | simp only [go_sem, h, termRows_length, FZ]) (And.intro (by first | rfl | simp only [go_sem, h, termRows_length, FZ]) ?_)); (all_goals simp only [go_sem, h, termRows_length, FZ]); (all_goals repeat' (first | apply And.intro | intro _)))
    | refine seq_k fun zN zM zhN zhM => ?_
    | (refine condT_k ?_ ?_; focus (first | rfl | (simp [go_sem, h, termRows_length, FZ]; done)))
 · simp only at h1 h2 h3 h4
   obtain ⟨k2, i2, o2, m2, he, hm, hdr, hg⟩ := rows_get hlt
   have hc := ih _ hm (d + 1) (by omega) (by omega)
   rw [argC_eq] at hc
   have hcq : ((j : Nat) : Int) < ((l.length : Nat) : Int) := by omega
   have hj : (0 : Int) ≤ ((j : Nat) : Int) := by omega
   have hjl : j < (termRows l).length := by rw [termRows_length]; exact hlt
   have hb := weighN_le (.mk k2 i2 o2 m2) (d + 1) 40 (by omega)
   have hb2 : bnd 40 = 42991616 := by decide
   have hp := weighN_pos (.mk k2 i2 o2 m2) (d + 1)
   obtain ⟨w, hw⟩ : ∃ w, weighN (.mk k2 i2 o2 m2) (d + 1) = w := ⟨_, rfl⟩
   rw [hw] at hc hb hp
   rw [hdr, weighL, hw] at h4
   rw [he, hw] at hbig
   rw [if_neg (by omega)] at h4
   have hnb : ¬ 1048576 < n + w := by omega
   obtain ⟨hs1, hs2, hs3⟩ : Go.RowKit.wrap64 (((j : Nat) : Int) + 1) = ((j + 1 : Nat) : Int) ∧ Go.RowKit.wrap64 (d + 1) = d + 1 ∧ Go.RowKit.wrap64 (n + w) = n + w := ⟨wnat (by omega) (by omega), w64 (by omega), w64 (by omega)⟩
   have FZ := And.intro hcq <| And.intro hj <| And.intro hjl <| And.intro hg <| And.intro hnb <| And.intro hs1 <| And.intro hs2 <| hs3
   iterate 21 first
    | refine zhK _ ?_
    | (refine sr_k fun zK zhK => ?_; simp only [go_sem, h, termRows_length, FZ]; (repeat' (first | apply And.intro | intro _)))
    | refine skip_k ?_
    | (refine zhN _ ?_; clear zhN zhM)
    | refine block_k fun zB zbn zbx zbr zbi => ?_
    | (refine zbn _ ?_; clear zbn zbx zbr zbi)
    | (refine region_k fun zK zhK => ?_; simp only [go_sem, h, termRows_length, FZ]; (repeat' (first | apply And.intro | intro _)))
    | ((all_goals (refine call_view (fun k => k) (fun _ _ => rfl) ?_ (hc.plain fun _ _ h => h) ?_; focus (first | rfl | (simp only [go_sem, h, termRows_length, FZ] <;> rfl)))); (all_goals (rintro v m ⟨hR, hm⟩; subst hR; subst hm)); (all_goals refine And.intro (by first | rfl | simp only [go_sem, h, termRows_length, FZ]) (And.intro (by first | rfl | simp only [go_sem, h, termRows_length, FZ]) ?_)); (all_goals simp only [go_sem, h, termRows_length, FZ]); (all_goals repeat' (first | apply And.intro | intro _)))
    | refine seq_k fun zN zM zhN zhM => ?_
    | (refine condT_k ?_ ?_; focus (first | rfl | (simp [go_sem, h, termRows_length, FZ]; done)))
    | (refine condF_k ?_ ?_; focus (first | rfl | (simp [go_sem, h, termRows_length, FZ]; done)))
   refine zhN ⟨(j + 1, n + w), hlt, by clear hs1 hs2 hs3 FZ; simp only; omega, by clear hs1 hs2 hs3 FZ; simp only; omega, h4⟩ _ ?_ ?_ ?_
   · (exact Nat.sub_lt_sub_left hlt (Nat.lt_succ_self j))
   · (simp only [go_sem, leX, List.cons_append, List.nil_append]; try simp)
   · (simp only [go_sem, leX, List.cons_append, List.nil_append]; try simp)
 · simp only at h1 h2 h3 h4
   obtain rfl : j = l.length := by omega
   rw [List.drop_length, weighL] at h4
   have hcq : ¬ ((l.length : Nat) : Int) < ((l.length : Nat) : Int) := by omega
   iterate 13 first
    | (refine sr_k fun zK zhK => ?_; simp only [go_sem, h, termRows_length, hcq]; (repeat' (first | apply And.intro | intro _)))
    | refine zhK _ ?_
    | (refine zhM _ _ ?_; clear zhN zhM)
    | refine exit_k ?_
    | (refine zbx _ ?_; clear zbn zbx zbr zbi)
    | (refine zhN _ ?_; clear zhN zhM)
    | refine ret_k ?_
    | (refine zhZ _ _ ?_; simp only [go_sem, h, termRows_length, hcq]; (all_goals (rw [hr, ← h4])))
    | refine seq_k fun zN zM zhN zhM => ?_
    | (refine condF_k ?_ ?_; focus (first | rfl | (simp [go_sem, h, termRows_length, hcq]; done)))
end Go.Sy

