/- Walks: what a handshake tells, where its pattern holds. -/
import Derived.Test.YtbfllkipgfpkkaavtVA
set_option linter.unusedVariables false
set_option linter.unusedSimpArgs false
namespace Go.Sy
open Go.Proofs
attribute [local irreducible] atCall HT runOps runD onC onE onO onG goV goA goS onSt onGuard
theorem iInt (j : Nat) : (0 : Int) ≤ ((j : Nat) : Int) := Int.natCast_nonneg j
theorem ltI' {j n : Nat} (h : j < n) : ((j : Nat) : Int) < ((n : Nat) : Int) := Int.ofNat_lt.mpr h
theorem nltI' {n : Nat} : ¬ ((n : Nat) : Int) < ((n : Nat) : Int) := Int.lt_irrefl _
theorem wsucc' {j n : Nat} (h : j < n) (hn : n ≤ 1000000) : Go.RowKit.wrap64 ((j : Int) + 1) = ((j + 1 : Nat) : Int) := wnat (by omega) (by omega)
theorem bnd1 {a s j n i t : Nat} (h1 : a ≤ s + j) (h2 : j ≤ n) (h3 : n ≤ 6) (h4 : s ≤ 7 * i) (h5 : i < t) (h6 : t ≤ 5) : a ≤ 1000000 := by omega
theorem bnd2 {a s j n i t : Nat} (h1 : a ≤ s + j) (h2 : j ≤ n) (h3 : n ≤ 6) (h4 : s ≤ 6 * i) (h5 : i < t) (h6 : t ≤ 5) : a ≤ 1000 := by omega
theorem bnd4 {a q s n i : Nat} (h0 : a = q + 1) (h1 : q ≤ s + n) (h3 : n ≤ 6) (h4 : s ≤ 7 * i) : a ≤ 7 * (i + 1) := by omega
theorem bnd5 {a q s n i : Nat} (h0 : a = q) (h1 : q ≤ s + n) (h3 : n ≤ 6) (h4 : s ≤ 6 * i) : a ≤ 6 * (i + 1) := by omega
theorem w20 {i n : Nat} (h : i < n) (hn : n ≤ 1000000) : Go.RowKit.wrap64 (20 + (i : Int)) = 20 + (i : Int) := w64 (by omega)
theorem hN_hand (mx : List TermD) : handM 26 20 ⟨mx, 0, []⟩ = hN mx := rfl
theorem hN_start : hN [] = [(26, ⟨false, handC (atomT 0) [.i 0, .i 0, .i 0, .R true 1 []] false 0 (.pl (.R true 1 []))⟩)] := rfl
set_option maxHeartbeats 3200000 in
set_option maxRecDepth 100000 in
theorem told_ok (bs : List UInt8) (lt : Bool) (ps : List (List PL)) (p0 p1 : List Int) (ts : List (List Int)) (pk : Bool) (hpk : decide ((0 : Int) < ((ps.length : Nat) : Int)) = pk) (hps : ¬ (4 : Int) < ((ps.length : Nat) : Int)) (ht5 : 1 ≤ ts.length ∧ ts.length ≤ 5) (hrng : ∀ l ∈ p0 :: p1 :: ts, scan1 l = 0 ∧ l.length ≤ 6) (hC : Ct Try.prog 7 [.w (.agg (patC bs lt ps p0 p1 ts))] (fun v m => v = .w (.one (.pl (.i 0))))) :
 Ct Try.prog 11 [.w (.agg (patC bs lt ps p0 p1 ts))] (Told (fun v m => v = .tup [.one (.pl (.R false 4 (termRows (telOf lt pk p0 p1 ts).out))), .one (.pl (.i 0))] ∧ m = [])) := by
 have hts : ts.length ≤ 1000000 := by omega
 have hsz0 : 0 < ts.length := by omega
 have F0 := And.intro patC.eq_1 <| And.intro iRows_length <| And.intro tRows_length <| And.intro pls_has <| And.intro leavesIn_pseg <| And.intro leavesIn_pls <| And.intro leafOut_pls <| And.intro killL_pls <| And.intro appL_assoc <| And.intro cells_len <| And.intro keyC_len <| And.intro pls_len <| And.intro renL_pls <| hps
 have cv0 := Ct.cv (hC)
 refine Ct.k Try.func11 rfl Try.ntmps11 (congrArg Array.toList Try.results11) (by simp) fun w0 ro => ?_
 refine top_k fun zZ zhZ => ?_
 iterate 39 first
  | refine rnd_k fun zN zM zhN zhM => ?_
  | (refine sr_k fun zK zhK => ?_; simp only [go_sem, F0]; (repeat' (first | apply And.intro | intro _)))
  | refine zhK _ ?_
  | refine skip_k ?_
  | (refine zhN _ ?_; clear zhN zhM)
  | refine block_k fun zB zbn zbx zbr zbi => ?_
  | refine rounds_k (x := .seq (.region 8 _ _) _) 3 ?_
  | ((all_goals (refine call_view (fun k => k) (fun _ _ => rfl) ?_ cv0 ?_; focus (first | rfl | (simp only [go_sem, F0] <;> rfl)))); (all_goals (rintro v m ⟨hR, hm⟩; subst hR; subst hm)); (all_goals refine And.intro (by first | rfl | simp only [go_sem, F0]) (And.intro (by first | rfl | simp only [go_sem, F0]) ?_)); (all_goals simp only [go_sem, F0]); (all_goals repeat' (first | apply And.intro | intro _)))
  | ((all_goals (refine call_hand false [] (fun k => k) (fun _ _ => rfl) ?_ (by decide) ?_ ((atom_ 0).plain fun _ _ h => h).hands ?_; iterate 2 (focus (first | rfl | (simp only [go_sem, F0] <;> first | done | rfl | simp))))); (all_goals (rintro v m ⟨hR, hm⟩; subst hR; subst hm)); (all_goals (refine And.intro ?_ (And.intro ?_ (And.intro ?_ ?_)); iterate 3 (focus (first | rfl | (simp only [go_sem, F0]; done) | (simp [go_sem, look, F0]; done))))); (all_goals (try simp only [go_sem, F0])); (all_goals (try simp only [go_sem, F0])); (all_goals repeat' (first | apply And.intro | intro _)))
  | refine seq_k fun zN zM zhN zhM => ?_
  | (refine condF_k ?_ ?_; focus (first | rfl | (simp [go_sem, F0]; done)))
  | (refine condT_k ?_ ?_; focus (first | rfl | (simp [go_sem, F0]; done)))
 refine loop_b [(1, .w (.one (.p 1 []))), (28, .w (.agg [.pl (.R false 1 (iRows p0)), .pl (.R false 1 (iRows p1))])), (29, .w (.one (.pl (.i 0)))), (6, .w (.one (.pl (.i 0)))), (33, .w (.one (.pl (.R false 1 (iRows p0))))), (34, .w (.one (.pl (.i ((p0.length : Nat) : Int))))), (5, .w (.one (.p 26 [])))] [(1, ⟨false, patC bs lt ps p0 p1 ts⟩)] (fun y => [(35, .w (.one (.pl (.i ((y.1.1 : Nat) : Int)))))]) (fun y => hN y.1.2) (fun y => p0.length - y.1.1) (⟨(0, []), Nat.zero_le _, rfl⟩ : {y : Nat × List TermD // y.1 ≤ p0.length ∧ preX pk 0 y.2 (p0.drop y.1) = preX pk 0 [] p0}) ?_ ?_ ?_
 · (simp only [go_sem, leX, List.cons_append, List.nil_append, F0]; try simp)
 · (simp only [go_sem, leX, hN_start, handC.eq_1, List.cons_append, List.nil_append, F0]; try simp)
 intro zz zN zM zhN zhM
 simp only [List.cons_append, List.nil_append]
 have yN0 := zhN
 obtain ⟨⟨j, q0⟩, g1, g4⟩ := zz
 simp only at g1 g4
 have hd : (j < p0.length ∧ p0.getD j 0 = 1 ∧ pk = true) ∨ (j < p0.length ∧ p0.getD j 0 = 1 ∧ pk = false) ∨ (j < p0.length ∧ ¬ p0.getD j 0 = 1) ∨ j = p0.length := by
  by_cases h : j < p0.length
  · by_cases h2 : p0.getD j 0 = 1
    · rcases Bool.eq_false_or_eq_true pk with hb | hb
      · exact .inl ⟨h, h2, hb⟩
      · exact .inr (.inl ⟨h, h2, hb⟩)
    · exact .inr (.inr (.inl ⟨h, h2⟩))
  · exact .inr (.inr (.inr (Nat.le_antisymm g1 (Nat.le_of_not_lt h))))
 rcases hd with ⟨glt, hx, hb⟩ | ⟨glt, hx, hb⟩ | ⟨glt, hx⟩ | rfl
 · have gcq := ltI' glt
   have gj := iInt j
   have gg := iRows_get glt
   rw [drop_getD (z := 0) glt, preX] at g4
   simp only [Int.reduceAdd, Int.add_zero] at g4
   have gs1 := wsucc' glt (Nat.le_trans (hrng p0 (by simp)).2 (by decide))
   rw [if_pos ⟨hx, hb⟩] at g4
   rw [hx] at gg
   have hq : (0 : Int) < ((ps.length : Nat) : Int) := of_decide_eq_true (hpk.trans hb)
   have F0 := And.intro gcq <| And.intro gj <| And.intro glt <| And.intro gg <| And.intro gs1 <| And.intro hN.eq_1 <| And.intro handC.eq_1 <| And.intro chainT_snoc <| And.intro keyC_snoc <| And.intro hasK_snoc <| And.intro hq <| F0
   iterate 21 first
    | refine zhK _ ?_
    | (refine sr_k fun zK zhK => ?_; simp only [go_sem, F0]; (repeat' (first | apply And.intro | intro _)))
    | (refine zhN _ ?_; clear zhN zhM)
    | (refine region_k fun zK zhK => ?_; simp only [go_sem, F0]; (repeat' (first | apply And.intro | intro _)))
    | refine skip_k ?_
    | refine block_k fun zB zbn zbx zbr zbi => ?_
    | (refine zbn _ ?_; clear zbn zbx zbr zbi)
    | ((all_goals (refine call_hand false [] (fun k => k) (fun _ _ => rfl) ?_ (by decide) ?_ ((pub_ 3).plain fun _ _ h => h).hands ?_; iterate 2 (focus (first | rfl | (simp only [go_sem, F0] <;> first | done | rfl | simp))))); (all_goals (rintro v m ⟨hR, hm⟩; subst hR; subst hm)); (all_goals (refine And.intro ?_ (And.intro ?_ (And.intro ?_ ?_)); iterate 3 (focus (first | rfl | (simp only [go_sem, F0]; done) | (simp [go_sem, look, F0]; done))))); (all_goals (try simp only [go_sem, F0])); (all_goals (try simp only [go_sem, F0])); (all_goals repeat' (first | apply And.intro | intro _)))
    | ((all_goals (refine call_hand false [(500000, 26)] (fun k => k) (fun _ _ => rfl) ?_ (by decide) ?_ (mix_nw (chainT 1 q0) (pubT 3) (keyC q0) (keyC_len q0) (hasK q0) 0).told ?_; iterate 2 (focus (first | rfl | (simp only [go_sem, F0] <;> first | done | rfl | simp))))); (all_goals (rintro v m ⟨hR, hm⟩; subst hR; subst hm)); (all_goals (refine And.intro ?_ (And.intro ?_ (And.intro ?_ ?_)); iterate 3 (focus (first | rfl | (simp only [go_sem, F0]; done) | (simp [go_sem, look, F0]; done))))); (all_goals (try simp only [go_sem, F0])); (all_goals (try simp only [go_sem, F0])); (all_goals repeat' (first | apply And.intro | intro _)))
    | refine seq_k fun zN zM zhN zhM => ?_
    | (refine condT_k ?_ ?_; focus (first | rfl | (simp [go_sem, F0]; done)))
   refine zhN ⟨(j + 1, q0 ++ [(pubT 3)]), glt, g4⟩ _ ?_ ?_ ?_
   · exact Nat.sub_lt_sub_left glt (Nat.lt_succ_self j)
   · (simp only [go_sem, leX, List.cons_append, List.nil_append, F0]; try simp)
   · (simp only [go_sem, leX, List.cons_append, List.nil_append, F0]; try simp)
 · have gcq := ltI' glt
   have gj := iInt j
   have gg := iRows_get glt
   rw [drop_getD (z := 0) glt, preX] at g4
   simp only [Int.reduceAdd, Int.add_zero] at g4
   have gs1 := wsucc' glt (Nat.le_trans (hrng p0 (by simp)).2 (by decide))
   rw [if_neg (by simp [hb])] at g4
   rw [hx] at gg
   have hq : ¬ (0 : Int) < ((ps.length : Nat) : Int) := of_decide_eq_false (hpk.trans hb)
   have F0 := And.intro gcq <| And.intro gj <| And.intro glt <| And.intro gg <| And.intro gs1 <| And.intro hN.eq_1 <| And.intro handC.eq_1 <| And.intro chainT_snoc <| And.intro keyC_snoc <| And.intro hasK_snoc <| And.intro hq <| F0
   have zL := fun S2 => yN0 ⟨(j + 1, q0), glt, g4⟩ S2 (by exact Nat.sub_lt_sub_left glt (Nat.lt_succ_self j))
   exact HT.w
 · have gcq := ltI' glt
   have gj := iInt j
   have gg := iRows_get glt
   rw [drop_getD (z := 0) glt, preX] at g4
   simp only [Int.reduceAdd, Int.add_zero] at g4
   have gs1 := wsucc' glt (Nat.le_trans (hrng p0 (by simp)).2 (by decide))
   rw [if_neg (fun h => hx h.1)] at g4
   have F0 := And.intro gcq <| And.intro gj <| And.intro glt <| And.intro gg <| And.intro gs1 <| And.intro hN.eq_1 <| And.intro handC.eq_1 <| And.intro chainT_snoc <| And.intro keyC_snoc <| And.intro hasK_snoc <| And.intro hx <| F0
   have zL := fun S2 => yN0 ⟨(j + 1, q0), glt, g4⟩ S2 (by exact Nat.sub_lt_sub_left glt (Nat.lt_succ_self j))
   exact HT.w
 · rw [List.drop_length, preX] at g4
   have gcq := nltI' (n := p0.length)
   have hq0 := g4
   have F0 := And.intro gcq <| And.intro hN.eq_1 <| And.intro handC.eq_1 <| F0
   iterate 27 first
    | refine rnd_k fun zN zM zhN zhM => ?_
    | refine zhK _ ?_
    | (refine sr_k fun zK zhK => ?_; simp only [go_sem, F0]; (repeat' (first | apply And.intro | intro _)))
    | (refine zhN _ ?_; clear zhN zhM)
    | (refine zhM _ _ ?_; clear zhN zhM)
    | refine block_k fun zB zbn zbx zbr zbi => ?_
    | refine exit_k ?_
    | (refine zbx _ ?_; clear zbn zbx zbr zbi)
    | (refine zbn _ ?_; clear zbn zbx zbr zbi)
    | (refine region_k fun zK zhK => ?_; simp only [go_sem, F0]; (repeat' (first | apply And.intro | intro _)))
    | refine skip_k ?_
    | refine seq_k fun zN zM zhN zhM => ?_
    | (refine condF_k ?_ ?_; focus (first | rfl | (simp [go_sem, F0]; done)))
    | (refine condT_k ?_ ?_; focus (first | rfl | (simp [go_sem, F0]; done)))
   refine loop_b [(1, .w (.one (.p 1 []))), (28, .w (.agg [.pl (.R false 1 (iRows p0)), .pl (.R false 1 (iRows p1))])), (29, .w (.one (.pl (.i 1)))), (6, .w (.one (.pl (.i 1)))), (33, .w (.one (.pl (.R false 1 (iRows p1))))), (34, .w (.one (.pl (.i ((p1.length : Nat) : Int))))), (5, .w (.one (.p 26 [])))] [(1, ⟨false, patC bs lt ps p0 p1 ts⟩)] (fun y => [(35, .w (.one (.pl (.i ((y.1.1 : Nat) : Int)))))]) (fun y => hN y.1.2) (fun y => p1.length - y.1.1) (⟨(0, q0), Nat.zero_le _, rfl⟩ : {y : Nat × List TermD // y.1 ≤ p1.length ∧ preX pk 1 y.2 (p1.drop y.1) = preX pk 1 q0 p1}) ?_ ?_ ?_
   · (simp only [go_sem, leX, List.cons_append, List.nil_append, F0]; try simp)
   · (simp only [go_sem, leX, hN.eq_1, handC.eq_1, List.cons_append, List.nil_append, F0]; try simp)
   intro zz zN zM zhN zhM
   simp only [List.cons_append, List.nil_append]
   have yN1 := zhN
   obtain ⟨⟨j, q1⟩, g1, g4⟩ := zz
   simp only at g1 g4
   have hd : (j < p1.length ∧ p1.getD j 0 = 1 ∧ pk = true) ∨ (j < p1.length ∧ p1.getD j 0 = 1 ∧ pk = false) ∨ (j < p1.length ∧ ¬ p1.getD j 0 = 1) ∨ j = p1.length := by
    by_cases h : j < p1.length
    · by_cases h2 : p1.getD j 0 = 1
      · rcases Bool.eq_false_or_eq_true pk with hb | hb
        · exact .inl ⟨h, h2, hb⟩
        · exact .inr (.inl ⟨h, h2, hb⟩)
      · exact .inr (.inr (.inl ⟨h, h2⟩))
    · exact .inr (.inr (.inr (Nat.le_antisymm g1 (Nat.le_of_not_lt h))))
   rcases hd with ⟨glt, hx, hb⟩ | ⟨glt, hx, hb⟩ | ⟨glt, hx⟩ | rfl
   · have gcq := ltI' glt
     have gj := iInt j
     have gg := iRows_get glt
     rw [drop_getD (z := 0) glt, preX] at g4
     simp only [Int.reduceAdd, Int.add_zero] at g4
     have gs1 := wsucc' glt (Nat.le_trans (hrng p1 (by simp)).2 (by decide))
     rw [if_pos ⟨hx, hb⟩] at g4
     rw [hx] at gg
     have hq : (0 : Int) < ((ps.length : Nat) : Int) := of_decide_eq_true (hpk.trans hb)
     have F0 := And.intro gcq <| And.intro gj <| And.intro glt <| And.intro gg <| And.intro gs1 <| And.intro hN.eq_1 <| And.intro handC.eq_1 <| And.intro chainT_snoc <| And.intro keyC_snoc <| And.intro hasK_snoc <| And.intro hq <| F0
     iterate 21 first
      | refine zhK _ ?_
      | (refine sr_k fun zK zhK => ?_; simp only [go_sem, F0]; (repeat' (first | apply And.intro | intro _)))
      | (refine zhN _ ?_; clear zhN zhM)
      | (refine region_k fun zK zhK => ?_; simp only [go_sem, F0]; (repeat' (first | apply And.intro | intro _)))
      | refine skip_k ?_
      | refine block_k fun zB zbn zbx zbr zbi => ?_
      | (refine zbn _ ?_; clear zbn zbx zbr zbi)
      | ((all_goals (refine call_hand false [] (fun k => k) (fun _ _ => rfl) ?_ (by decide) ?_ ((pub_ 4).plain fun _ _ h => h).hands ?_; iterate 2 (focus (first | rfl | (simp only [go_sem, F0] <;> first | done | rfl | simp))))); (all_goals (rintro v m ⟨hR, hm⟩; subst hR; subst hm)); (all_goals (refine And.intro ?_ (And.intro ?_ (And.intro ?_ ?_)); iterate 3 (focus (first | rfl | (simp only [go_sem, F0]; done) | (simp [go_sem, look, F0]; done))))); (all_goals (try simp only [go_sem, F0])); (all_goals (try simp only [go_sem, F0])); (all_goals repeat' (first | apply And.intro | intro _)))
      | ((all_goals (refine call_hand false [(500000, 26)] (fun k => k) (fun _ _ => rfl) ?_ (by decide) ?_ (mix_nw (chainT 1 q1) (pubT 4) (keyC q1) (keyC_len q1) (hasK q1) 0).told ?_; iterate 2 (focus (first | rfl | (simp only [go_sem, F0] <;> first | done | rfl | simp))))); (all_goals (rintro v m ⟨hR, hm⟩; subst hR; subst hm)); (all_goals (refine And.intro ?_ (And.intro ?_ (And.intro ?_ ?_)); iterate 3 (focus (first | rfl | (simp only [go_sem, F0]; done) | (simp [go_sem, look, F0]; done))))); (all_goals (try simp only [go_sem, F0])); (all_goals (try simp only [go_sem, F0])); (all_goals repeat' (first | apply And.intro | intro _)))
      | refine seq_k fun zN zM zhN zhM => ?_
      | (refine condT_k ?_ ?_; focus (first | rfl | (simp [go_sem, F0]; done)))
     refine zhN ⟨(j + 1, q1 ++ [(pubT 4)]), glt, g4⟩ _ ?_ ?_ ?_
     · exact Nat.sub_lt_sub_left glt (Nat.lt_succ_self j)
     · (simp only [go_sem, leX, List.cons_append, List.nil_append, F0]; try simp)
     · (simp only [go_sem, leX, List.cons_append, List.nil_append, F0]; try simp)
   · have gcq := ltI' glt
     have gj := iInt j
     have gg := iRows_get glt
     rw [drop_getD (z := 0) glt, preX] at g4
     simp only [Int.reduceAdd, Int.add_zero] at g4
     have gs1 := wsucc' glt (Nat.le_trans (hrng p1 (by simp)).2 (by decide))
     rw [if_neg (by simp [hb])] at g4
     rw [hx] at gg
     have hq : ¬ (0 : Int) < ((ps.length : Nat) : Int) := of_decide_eq_false (hpk.trans hb)
     have F0 := And.intro gcq <| And.intro gj <| And.intro glt <| And.intro gg <| And.intro gs1 <| And.intro hN.eq_1 <| And.intro handC.eq_1 <| And.intro chainT_snoc <| And.intro keyC_snoc <| And.intro hasK_snoc <| And.intro hq <| F0
     have zL := fun S2 => yN1 ⟨(j + 1, q1), glt, g4⟩ S2 (by exact Nat.sub_lt_sub_left glt (Nat.lt_succ_self j))
     exact HT.w
   · have gcq := ltI' glt
     have gj := iInt j
     have gg := iRows_get glt
     rw [drop_getD (z := 0) glt, preX] at g4
     simp only [Int.reduceAdd, Int.add_zero] at g4
     have gs1 := wsucc' glt (Nat.le_trans (hrng p1 (by simp)).2 (by decide))
     rw [if_neg (fun h => hx h.1)] at g4
     have F0 := And.intro gcq <| And.intro gj <| And.intro glt <| And.intro gg <| And.intro gs1 <| And.intro hN.eq_1 <| And.intro handC.eq_1 <| And.intro chainT_snoc <| And.intro keyC_snoc <| And.intro hasK_snoc <| And.intro hx <| F0
     have zL := fun S2 => yN1 ⟨(j + 1, q1), glt, g4⟩ S2 (by exact Nat.sub_lt_sub_left glt (Nat.lt_succ_self j))
     exact HT.w
   · rw [List.drop_length, preX] at g4
     have gcq := nltI' (n := p1.length)
     have hq1 := g4
     have F0 := And.intro gcq <| And.intro hN.eq_1 <| And.intro handC.eq_1 <| F0
     iterate 27 first
      | refine rnd_k fun zN zM zhN zhM => ?_
      | refine zhK _ ?_
      | (refine zhM _ _ ?_; clear zhN zhM)
      | (refine sr_k fun zK zhK => ?_; simp only [go_sem, F0]; (repeat' (first | apply And.intro | intro _)))
      | (refine zhN _ ?_; clear zhN zhM)
      | refine exit_k ?_
      | (refine zbx _ ?_; clear zbn zbx zbr zbi)
      | (refine zbn _ ?_; clear zbn zbx zbr zbi)
      | (refine region_k fun zK zhK => ?_; simp only [go_sem, F0]; (repeat' (first | apply And.intro | intro _)))
      | refine block_k fun zB zbn zbx zbr zbi => ?_
      | refine seq_k fun zN zM zhN zhM => ?_
      | (refine condF_k ?_ ?_; focus (first | rfl | (simp [go_sem, F0]; done)))
     refine loop_b [(1, .w (.one (.p 1 []))), (5, .w (.one (.p 26 []))), (55, .w (.one (.pl (.R false 1 (tRows ts))))), (56, .w (.one (.pl (.i ((ts.length : Nat) : Int)))))] [(1, ⟨false, patC bs lt ps p0 p1 ts⟩)] (fun y => [(57, .w (.one (.pl (.i ((y.1.1 : Nat) : Int)))))]) (fun y => handM 26 20 y.1.2) (fun y => ts.length - y.1.1) (⟨(0, ⟨q1, 0, []⟩), Nat.zero_le _, rfl, Nat.zero_le _, Nat.zero_le _, fun h => absurd h (Nat.lt_irrefl 0)⟩ : {y : Nat × TelS // y.1 ≤ ts.length ∧ telTurns lt pk y.1 y.2 (ts.drop y.1) = telTurns lt pk 0 ⟨q1, 0, []⟩ ts ∧ y.2.out.length ≤ 7 * y.1 ∧ y.2.ps ≤ 6 * y.1 ∧ (0 < y.1 → y.2.out ≠ [])}) ?_ ?_ ?_
     · (simp only [go_sem, leX, List.cons_append, List.nil_append, F0]; try simp)
     · (simp only [go_sem, leX, hN_hand, hN.eq_1, handC.eq_1, List.cons_append, List.nil_append, F0]; try simp)
     intro yy zN zM zhN zhM
     simp only [List.cons_append, List.nil_append]
     have yN2 := zhN
     obtain ⟨⟨i, s⟩, h1, h4, h5, h6, h7⟩ := yy
     simp only at h1 h4 h5 h6 h7
     have hd : (i < ts.length ∧ s.out = []) ∨ (i < ts.length ∧ s.out ≠ []) ∨ (i = ts.length ∧ s.out ≠ []) := by
      rcases Nat.lt_or_eq_of_le h1 with h | h
      · by_cases h2 : s.out = []
        · exact .inl ⟨h, h2⟩
        · exact .inr (.inl ⟨h, h2⟩)
      · exact .inr (.inr ⟨h, h7 (h ▸ hsz0)⟩)
     rcases hd with ⟨hlt, hs⟩ | ⟨hlt, hs⟩ | ⟨rfl, hs⟩
     · have hcq := ltI' hlt
       have hi0 := iInt i
       have hg := tRows_get hlt
       obtain ⟨l, hl⟩ : ∃ l, ts.getD i [] = l := ⟨_, rfl⟩
       have hlm : l ∈ ts := hl ▸ getD_mem' hlt
       have hlr := hrng l (by simp [hlm])
       obtain ⟨wb, hwb⟩ : ∃ wb, whoT lt i = wb := ⟨_, rfl⟩
       rw [drop_getD (z := []) hlt, telTurns, hl, hwb] at h4
       rw [hl] at hg
       have hs1 := wsucc' hlt hts
       have hw20 : Go.RowKit.wrap64 (20 + (i : Int)) = 20 + (i : Int) := w20 hlt hts
       have hM0 := handM_nil (h := 26) (o := 20) hs
       have F0 := And.intro hcq <| And.intro hi0 <| And.intro hlt <| And.intro hg <| And.intro hs1 <| And.intro hw20 <| And.intro hM0 <| And.intro handC.eq_1 <| F0
       iterate 12 first
        | (refine sr_k fun zK zhK => ?_; simp only [go_sem, F0]; (repeat' (first | apply And.intro | intro _)))
        | refine zhK _ ?_
        | refine skip_k ?_
        | (refine zhN _ ?_; clear zhN zhM)
        | refine block_k fun zB zbn zbx zbr zbi => ?_
        | refine seq_k fun zN zM zhN zhM => ?_
        | (refine condT_k ?_ ?_; focus (first | rfl | (simp [go_sem, F0]; done)))
       refine join_l (fun w => [(12, .w (.one (.pl (.i (whoI w)))))]) (fun _ => []) (fun w => whoT lt i = w) (fun zN zM zhN zhM => ?_) (fun wc hwc => ?_)
       · rcases lt with _ | _
         · have hw1 := who_f i
           have F0 := And.intro hw1 <| F0
           have zL := fun S2 => zhN (whoT false i) rfl S2
           exact HT.w
         · have hw1 := who_t i
           have hw2 := who_2 (whoT true i)
           have F0 := And.intro hw1 <| And.intro hw2 <| F0
           have zL := fun S2 => zhN (whoT true i) rfl S2
           exact HT.w
       · rw [hwb] at hwc
         subst hwc
         refine seq_k fun zN zM zhN zhM => ?_
         refine sr_k fun zK zhK => ?_
         simp only [go_sem, F0]
         repeat' (first | apply And.intro | intro _)
         refine zhK _ ?_
         refine block_k fun zB zbn zbx zbr zbi => ?_
         refine loop_b [(57, .w (.one (.pl (.i ((i : Nat) : Int))))), (10, .w (.one (.pl (.i ((i : Nat) : Int))))), (12, .w (.one (.pl (.i (whoI wb))))), (68, .w (.one (.pl (.R false 1 (iRows l))))), (69, .w (.one (.pl (.i ((l.length : Nat) : Int))))), (1, .w (.one (.p 1 []))), (5, .w (.one (.p 26 []))), (55, .w (.one (.pl (.R false 1 (tRows ts))))), (56, .w (.one (.pl (.i ((ts.length : Nat) : Int)))))] [(1, ⟨false, patC bs lt ps p0 p1 ts⟩)] (fun y => [(70, .w (.one (.pl (.i ((y.1.1 : Nat) : Int)))))]) (fun y => handM 26 20 y.1.2) (fun y => l.length - y.1.1) (⟨(0, s), Nat.zero_le _, rfl, Nat.le_refl _, Nat.le_refl _⟩ : {y : Nat × TelS // y.1 ≤ l.length ∧ TelS.turn pk (whoI wb) y.2 (l.drop y.1) = TelS.turn pk (whoI wb) s l ∧ y.2.out.length ≤ s.out.length + y.1 ∧ y.2.ps ≤ s.ps + y.1}) ?_ ?_ ?_
         · (simp only [go_sem, leX, List.cons_append, List.nil_append, F0]; try simp)
         · (simp only [go_sem, leX, List.cons_append, List.nil_append, F0]; try simp)
         intro zz zN zM zhN zhM
         simp only [List.cons_append, List.nil_append]
         have yN3 := zhN
         obtain ⟨⟨j, q⟩, g1, g4, g5, g6⟩ := zz
         simp only at g1 g4 g5 g6
         have hd : (j < l.length ∧ q.out = [] ∧ (q.token pk (whoI wb) (l.getD j 0)).out = []) ∨ (j < l.length ∧ q.out = [] ∧ (q.token pk (whoI wb) (l.getD j 0)).out ≠ []) ∨ (j < l.length ∧ q.out ≠ []) ∨ (j = l.length ∧ q.out = []) ∨ (j = l.length ∧ q.out ≠ []) := by
          rcases Nat.lt_or_eq_of_le g1 with h | h
          · by_cases h1 : q.out = []
            · by_cases h2 : (q.token pk (whoI wb) (l.getD j 0)).out = []
              · exact .inl ⟨h, h1, h2⟩
              · exact .inr (.inl ⟨h, h1, h2⟩)
            · exact .inr (.inr (.inl ⟨h, h1⟩))
          · by_cases h1 : q.out = []
            · exact .inr (.inr (.inr (.inl ⟨h, h1⟩)))
            · exact .inr (.inr (.inr (.inr ⟨h, h1⟩)))
         rcases hd with ⟨glt, hn, hn2⟩ | ⟨glt, hn, hn2⟩ | ⟨glt, hn⟩ | ⟨rfl, hn⟩ | ⟨rfl, hn⟩
         · have gcq := ltI' glt
           have gj := iInt j
           have gg := iRows_get glt
           obtain ⟨x, hx⟩ : ∃ x, l.getD j 0 = x := ⟨_, rfl⟩
           have hxr := scan1_ok hlr.1 x (hx ▸ getD_mem' glt)
           rw [drop_getD (z := 0) glt, TelS.turn, hx] at g4
           rw [hx] at gg hn2
           have gs1 := wsucc' glt (Nat.le_trans hlr.2 (by decide))
           have ht := token_ pk (whoI wb) (who_rng wb) q x hxr (bnd1 g5 (Nat.le_of_lt glt) hlr.2 h5 hlt ht5.2) (bnd2 g6 (Nat.le_of_lt glt) hlr.2 h6 hlt ht5.2)
           have k1 : (q.token pk (whoI wb) x).out.length ≤ s.out.length + (j + 1) := Nat.le_trans (token_out pk (whoI wb) q x) (Nat.succ_le_succ g5)
           have k2 : (q.token pk (whoI wb) x).ps ≤ s.ps + (j + 1) := Nat.le_trans (token_ps pk (whoI wb) q x) (Nat.succ_le_succ g6)
           obtain ⟨q2, hq2⟩ : ∃ z, q.token pk (whoI wb) x = z := ⟨_, rfl⟩
           rw [hq2] at g4 k1 k2 hn2 ht
           rw [show tokN q 20 = 20 from if_pos hn, handM_nil hn, handM_nil hn2] at ht
           have hM := handM_nil (h := 26) (o := 20) hn
           have hE := handM_nil (h := 26) (o := 20) hn2
           have F0 := And.intro gcq <| And.intro gj <| And.intro glt <| And.intro gg <| And.intro gs1 <| And.intro hpk <| And.intro hM <| And.intro hE <| And.intro handC.eq_1 <| F0
           iterate 17 first
            | refine zhK _ ?_
            | (refine sr_k fun zK zhK => ?_; simp only [go_sem, F0]; (repeat' (first | apply And.intro | intro _)))
            | (refine zhN _ ?_; clear zhN zhM)
            | (refine region_k fun zK zhK => ?_; simp only [go_sem, F0]; (repeat' (first | apply And.intro | intro _)))
            | refine skip_k ?_
            | refine block_k fun zB zbn zbx zbr zbi => ?_
            | (refine zbn _ ?_; clear zbn zbx zbr zbi)
            | ((all_goals (refine call_hand false [(500000, 26)] (fun k => k) (fun _ _ => rfl) ?_ (by decide) ?_ ht ?_; iterate 2 (focus (first | rfl | (simp only [go_sem, F0] <;> first | done | rfl | simp))))); (all_goals (rintro v m ⟨hR, hm⟩; subst hR; subst hm)); (all_goals (refine And.intro ?_ (And.intro ?_ (And.intro ?_ ?_)); iterate 3 (focus (first | rfl | (simp only [go_sem, F0]; done) | (simp [go_sem, look, F0]; done))))); (all_goals (try simp only [go_sem, F0])); (all_goals (try simp only [go_sem, F0])); (all_goals repeat' (first | apply And.intro | intro _)))
            | refine seq_k fun zN zM zhN zhM => ?_
            | (refine condT_k ?_ ?_; focus (first | rfl | (simp [go_sem, F0]; done)))
           refine zhN ⟨(j + 1, q2), glt, g4, k1, k2⟩ _ ?_ ?_ ?_
           · exact Nat.sub_lt_sub_left glt (Nat.lt_succ_self j)
           · (simp only [go_sem, leX, List.cons_append, List.nil_append, F0]; try simp)
           · (simp only [go_sem, leX, List.cons_append, List.nil_append, F0]; try simp)
         · have gcq := ltI' glt
           have gj := iInt j
           have gg := iRows_get glt
           obtain ⟨x, hx⟩ : ∃ x, l.getD j 0 = x := ⟨_, rfl⟩
           have hxr := scan1_ok hlr.1 x (hx ▸ getD_mem' glt)
           rw [drop_getD (z := 0) glt, TelS.turn, hx] at g4
           rw [hx] at gg hn2
           have gs1 := wsucc' glt (Nat.le_trans hlr.2 (by decide))
           have ht := token_ pk (whoI wb) (who_rng wb) q x hxr (bnd1 g5 (Nat.le_of_lt glt) hlr.2 h5 hlt ht5.2) (bnd2 g6 (Nat.le_of_lt glt) hlr.2 h6 hlt ht5.2)
           have k1 : (q.token pk (whoI wb) x).out.length ≤ s.out.length + (j + 1) := Nat.le_trans (token_out pk (whoI wb) q x) (Nat.succ_le_succ g5)
           have k2 : (q.token pk (whoI wb) x).ps ≤ s.ps + (j + 1) := Nat.le_trans (token_ps pk (whoI wb) q x) (Nat.succ_le_succ g6)
           obtain ⟨q2, hq2⟩ : ∃ z, q.token pk (whoI wb) x = z := ⟨_, rfl⟩
           rw [hq2] at g4 k1 k2 hn2 ht
           rw [show tokN q 20 = 20 from if_pos hn, handM_nil hn, handM_own hn2] at ht
           have hM := handM_nil (h := 26) (o := 20) hn
           have hE := handM_own (h := 26) (o := 20) hn2
           have F0 := And.intro gcq <| And.intro gj <| And.intro glt <| And.intro gg <| And.intro gs1 <| And.intro hpk <| And.intro hM <| And.intro hE <| And.intro handC.eq_1 <| F0
           iterate 17 first
            | refine zhK _ ?_
            | (refine sr_k fun zK zhK => ?_; simp only [go_sem, F0]; (repeat' (first | apply And.intro | intro _)))
            | (refine zhN _ ?_; clear zhN zhM)
            | (refine region_k fun zK zhK => ?_; simp only [go_sem, F0]; (repeat' (first | apply And.intro | intro _)))
            | refine skip_k ?_
            | refine block_k fun zB zbn zbx zbr zbi => ?_
            | (refine zbn _ ?_; clear zbn zbx zbr zbi)
            | ((all_goals (refine call_hand false [(500000, 26)] (fun k => k) (fun _ _ => rfl) ?_ (by decide) ?_ ht ?_; iterate 2 (focus (first | rfl | (simp only [go_sem, F0] <;> first | done | rfl | simp))))); (all_goals (rintro v m ⟨hR, hm⟩; subst hR; subst hm)); (all_goals (refine And.intro ?_ (And.intro ?_ (And.intro ?_ ?_)); iterate 3 (focus (first | rfl | (simp only [go_sem, F0]; done) | (simp [go_sem, look, F0]; done))))); (all_goals (try simp only [go_sem, F0])); (all_goals (try simp only [go_sem, F0])); (all_goals repeat' (first | apply And.intro | intro _)))
            | refine seq_k fun zN zM zhN zhM => ?_
            | (refine condT_k ?_ ?_; focus (first | rfl | (simp [go_sem, F0]; done)))
           refine zhN ⟨(j + 1, q2), glt, g4, k1, k2⟩ _ ?_ ?_ ?_
           · exact Nat.sub_lt_sub_left glt (Nat.lt_succ_self j)
           · (simp only [go_sem, leX, List.cons_append, List.nil_append, F0]; try simp)
           · (simp only [go_sem, leX, List.cons_append, List.nil_append, F0]; try simp)
         · have gcq := ltI' glt
           have gj := iInt j
           have gg := iRows_get glt
           obtain ⟨x, hx⟩ : ∃ x, l.getD j 0 = x := ⟨_, rfl⟩
           have hxr := scan1_ok hlr.1 x (hx ▸ getD_mem' glt)
           rw [drop_getD (z := 0) glt, TelS.turn, hx] at g4
           rw [hx] at gg
           have gs1 := wsucc' glt (Nat.le_trans hlr.2 (by decide))
           have ht := token_ pk (whoI wb) (who_rng wb) q x hxr (bnd1 g5 (Nat.le_of_lt glt) hlr.2 h5 hlt ht5.2) (bnd2 g6 (Nat.le_of_lt glt) hlr.2 h6 hlt ht5.2)
           have k1 : (q.token pk (whoI wb) x).out.length ≤ s.out.length + (j + 1) := Nat.le_trans (token_out pk (whoI wb) q x) (Nat.succ_le_succ g5)
           have k2 : (q.token pk (whoI wb) x).ps ≤ s.ps + (j + 1) := Nat.le_trans (token_ps pk (whoI wb) q x) (Nat.succ_le_succ g6)
           have hn2 := token_ne pk (whoI wb) q x hn
           obtain ⟨q2, hq2⟩ : ∃ z, q.token pk (whoI wb) x = z := ⟨_, rfl⟩
           rw [hq2] at g4 k1 k2 hn2 ht
           rw [show tokN q 20 = 750001 from if_neg hn, handM_own hn, handM_own hn2] at ht
           have hM := handM_own (h := 26) (o := 20) hn
           have hE := handM_own (h := 26) (o := 20) hn2

           have F0 := And.intro gcq <| And.intro gj <| And.intro glt <| And.intro gg <| And.intro gs1 <| And.intro hpk <| And.intro hM <| And.intro hE <| And.intro handC.eq_1 <| F0
           iterate 17 first
            | refine zhK _ ?_
            | (refine sr_k fun zK zhK => ?_; simp only [go_sem, F0]; (repeat' (first | apply And.intro | intro _)))
            | (refine zhN _ ?_; clear zhN zhM)
            | (refine region_k fun zK zhK => ?_; simp only [go_sem, F0]; (repeat' (first | apply And.intro | intro _)))
            | refine skip_k ?_
            | refine block_k fun zB zbn zbx zbr zbi => ?_
            | (refine zbn _ ?_; clear zbn zbx zbr zbi)
            | ((all_goals (refine call_handM false [(500000, 26), (750001, 20)] (fun k => k) (fun _ _ => rfl) ?_ (by decide) ?_ ?_ ht ?_; iterate 3 (focus (first | rfl | (simp only [go_sem, F0] <;> first | done | rfl | simp))))); (all_goals (rintro v m ⟨hR, hm⟩; subst hR; subst hm)); (all_goals (refine And.intro ?_ (And.intro ?_ (And.intro ?_ ?_)); iterate 3 (focus (first | rfl | (simp only [go_sem, F0]; done) | (simp [go_sem, look, F0]; done))))); (all_goals (try simp only [go_sem, F0])); (all_goals (try simp only [go_sem, F0])); (all_goals repeat' (first | apply And.intro | intro _)))
            | refine seq_k fun zN zM zhN zhM => ?_
            | (refine condT_k ?_ ?_; focus (first | rfl | (simp [go_sem, F0]; done)))
           refine zhN ⟨(j + 1, q2), glt, g4, k1, k2⟩ _ ?_ ?_ ?_
           · exact Nat.sub_lt_sub_left glt (Nat.lt_succ_self j)
           · (simp only [go_sem, leX, List.cons_append, List.nil_append, F0]; try simp)
           · (simp only [go_sem, leX, List.cons_append, List.nil_append, F0]; try simp)
         · rw [List.drop_length, TelS.turn] at g4
           have gcq := nltI' (n := l.length)
           rw [← g4] at h4
           have k1 := tell_len q (atomT (20 + (i : Int)))
           have k2 := tell_ps q (atomT (20 + (i : Int)))
           have hn2 := tell_ne q (atomT (20 + (i : Int)))
           have ht := tell_ q (atomT (20 + (i : Int))) (bnd1 g5 (Nat.le_refl _) hlr.2 h5 hlt ht5.2)
           obtain ⟨q2, hq2⟩ : ∃ z, q.tell (atomT (20 + (i : Int))) = z := ⟨_, rfl⟩
           rw [hq2] at h4 k1 k2 hn2 ht
           have k4 := bnd4 k1 g5 hlr.2 h5
           have k5 := bnd5 k2 g6 hlr.2 h6
           rw [show tokN q 29 = 29 from if_pos hn, handM_nil hn, handM_own hn2] at ht
           have hM := handM_nil (h := 26) (o := 20) hn
           have hE := handM_own (h := 26) (o := 20) hn2
           have F0 := And.intro gcq <| And.intro hM <| And.intro hE <| And.intro handC.eq_1 <| F0
           refine sr_k fun zK zhK => ?_
           simp only [go_sem, F0]
           repeat' (first | apply And.intro | intro _)
           refine zhK _ ?_
           refine seq_k fun zN zM zhN zhM => ?_
           (refine condF_k ?_ ?_; focus (first | rfl | (simp [go_sem, F0]; done)))
           refine exit_k ?_
           refine zhM _ _ ?_; clear zhN zhM
           refine zhM _ _ ?_; clear zhN zhM
           refine zbx _ ?_; clear zbn zbx zbr zbi
           refine zhN _ ?_; clear zhN zhM
           refine region_k fun zK zhK => ?_
           simp only [go_sem, F0]
           repeat' (first | apply And.intro | intro _)
           all_goals (refine call_hand false [] (fun k => k) (fun _ _ => rfl) ?_ (by decide) ?_ ((atom_ (20 + (i : Int))).plain fun _ _ h => h).hands ?_; iterate 2 (focus (first | rfl | (simp only [go_sem, F0] <;> first | done | rfl | simp))))
           all_goals (rintro v m ⟨hR, hm⟩; subst hR; subst hm)
           all_goals (refine And.intro ?_ (And.intro ?_ (And.intro ?_ ?_)); iterate 3 (focus (first | rfl | (simp only [go_sem, F0]; done) | (simp [go_sem, look, F0]; done))))
           all_goals (try simp only [go_sem, F0])
           all_goals (try simp only [go_sem, F0])
           all_goals repeat' (first | apply And.intro | intro _)
           all_goals (refine call_hand false [(500000, 26)] (fun k => if k = 29 then 20 else k) (fun _ _ => rfl) ?_ (by decide) ?_ ht ?_; iterate 2 (focus (first | rfl | (simp only [go_sem, F0] <;> first | done | rfl | simp))))
           all_goals (rintro v m ⟨hR, hm⟩; subst hR; subst hm)
           all_goals (refine And.intro ?_ (And.intro ?_ (And.intro ?_ ?_)); iterate 3 (focus (first | rfl | (simp only [go_sem, F0]; done) | (simp [go_sem, look, F0]; done))))
           all_goals (try simp only [go_sem, F0])
           all_goals (try simp only [go_sem, F0])
           all_goals repeat' (first | apply And.intro | intro _)
           refine zhK _ ?_
           refine zbn _ ?_; clear zbn zbx zbr zbi
           refine zhN _ ?_; clear zhN zhM
           refine region_k fun zK zhK => ?_
           simp only [go_sem, F0]
           repeat' (first | apply And.intro | intro _)
           refine zhK _ ?_
           refine zhN ⟨(i + 1, q2), hlt, h4, k4, k5, fun _ => hn2⟩ _ ?_ ?_ ?_
           · exact Nat.sub_lt_sub_left hlt (Nat.lt_succ_self i)
           · (simp only [go_sem, leX, List.cons_append, List.nil_append, F0]; try simp)
           · (simp only [go_sem, leX, List.cons_append, List.nil_append, F0]; try simp)
         · rw [List.drop_length, TelS.turn] at g4
           have gcq := nltI' (n := l.length)
           rw [← g4] at h4
           have k1 := tell_len q (atomT (20 + (i : Int)))
           have k2 := tell_ps q (atomT (20 + (i : Int)))
           have hn2 := tell_ne q (atomT (20 + (i : Int)))
           have ht := tell_ q (atomT (20 + (i : Int))) (bnd1 g5 (Nat.le_refl _) hlr.2 h5 hlt ht5.2)
           obtain ⟨q2, hq2⟩ : ∃ z, q.tell (atomT (20 + (i : Int))) = z := ⟨_, rfl⟩
           rw [hq2] at h4 k1 k2 hn2 ht
           have k4 := bnd4 k1 g5 hlr.2 h5
           have k5 := bnd5 k2 g6 hlr.2 h6
           rw [show tokN q 29 = 750001 from if_neg hn, handM_own hn, handM_own hn2] at ht
           have hM := handM_own (h := 26) (o := 20) hn
           have hE := handM_own (h := 26) (o := 20) hn2
           have F0 := And.intro gcq <| And.intro hM <| And.intro hE <| And.intro handC.eq_1 <| F0
           refine sr_k fun zK zhK => ?_
           simp only [go_sem, F0]
           repeat' (first | apply And.intro | intro _)
           refine zhK _ ?_
           refine seq_k fun zN zM zhN zhM => ?_
           (refine condF_k ?_ ?_; focus (first | rfl | (simp [go_sem, F0]; done)))
           refine exit_k ?_
           refine zhM _ _ ?_; clear zhN zhM
           refine zhM _ _ ?_; clear zhN zhM
           refine zbx _ ?_; clear zbn zbx zbr zbi
           refine zhN _ ?_; clear zhN zhM
           refine region_k fun zK zhK => ?_
           simp only [go_sem, F0]
           repeat' (first | apply And.intro | intro _)
           all_goals (refine call_hand false [] (fun k => k) (fun _ _ => rfl) ?_ (by decide) ?_ ((atom_ (20 + (i : Int))).plain fun _ _ h => h).hands ?_; iterate 2 (focus (first | rfl | (simp only [go_sem, F0] <;> first | done | rfl | simp))))
           all_goals (rintro v m ⟨hR, hm⟩; subst hR; subst hm)
           all_goals (refine And.intro ?_ (And.intro ?_ (And.intro ?_ ?_)); iterate 3 (focus (first | rfl | (simp only [go_sem, F0]; done) | (simp [go_sem, look, F0]; done))))
           all_goals (try simp only [go_sem, F0])
           all_goals (try simp only [go_sem, F0])
           all_goals repeat' (first | apply And.intro | intro _)
           all_goals (refine call_handM false [(500000, 26), (750001, 20)] (fun k => k) (fun _ _ => rfl) ?_ (by decide) ?_ ?_ ht ?_; iterate 3 (focus (first | rfl | (simp only [go_sem, F0] <;> first | done | rfl | simp))))
           all_goals (rintro v m ⟨hR, hm⟩; subst hR; subst hm)
           all_goals (refine And.intro ?_ (And.intro ?_ (And.intro ?_ ?_)); iterate 3 (focus (first | rfl | (simp only [go_sem, F0]; done) | (simp [go_sem, look, F0]; done))))
           all_goals (try simp only [go_sem, F0])
           all_goals (try simp only [go_sem, F0])
           all_goals repeat' (first | apply And.intro | intro _)
           refine zhK _ ?_
           refine zbn _ ?_; clear zbn zbx zbr zbi
           refine zhN _ ?_; clear zhN zhM
           refine region_k fun zK zhK => ?_
           simp only [go_sem, F0]
           repeat' (first | apply And.intro | intro _)
           refine zhK _ ?_
           refine zhN ⟨(i + 1, q2), hlt, h4, k4, k5, fun _ => hn2⟩ _ ?_ ?_ ?_
           · exact Nat.sub_lt_sub_left hlt (Nat.lt_succ_self i)
           · (simp only [go_sem, leX, List.cons_append, List.nil_append, F0]; try simp)
           · (simp only [go_sem, leX, List.cons_append, List.nil_append, F0]; try simp)
     · have hcq := ltI' hlt
       have hi0 := iInt i
       have hg := tRows_get hlt
       obtain ⟨l, hl⟩ : ∃ l, ts.getD i [] = l := ⟨_, rfl⟩
       have hlm : l ∈ ts := hl ▸ getD_mem' hlt
       have hlr := hrng l (by simp [hlm])
       obtain ⟨wb, hwb⟩ : ∃ wb, whoT lt i = wb := ⟨_, rfl⟩
       rw [drop_getD (z := []) hlt, telTurns, hl, hwb] at h4
       rw [hl] at hg
       have hs1 := wsucc' hlt hts
       have hw20 : Go.RowKit.wrap64 (20 + (i : Int)) = 20 + (i : Int) := w20 hlt hts
       have hM0 := handM_own (h := 26) (o := 20) hs
       have F0 := And.intro hcq <| And.intro hi0 <| And.intro hlt <| And.intro hg <| And.intro hs1 <| And.intro hw20 <| And.intro hM0 <| And.intro handC.eq_1 <| F0
       iterate 12 first
        | (refine sr_k fun zK zhK => ?_; simp only [go_sem, F0]; (repeat' (first | apply And.intro | intro _)))
        | refine zhK _ ?_
        | refine skip_k ?_
        | (refine zhN _ ?_; clear zhN zhM)
        | refine block_k fun zB zbn zbx zbr zbi => ?_
        | refine seq_k fun zN zM zhN zhM => ?_
        | (refine condT_k ?_ ?_; focus (first | rfl | (simp [go_sem, F0]; done)))
       refine join_l (fun w => [(12, .w (.one (.pl (.i (whoI w)))))]) (fun _ => []) (fun w => whoT lt i = w) (fun zN zM zhN zhM => ?_) (fun wc hwc => ?_)
       · rcases lt with _ | _
         · have hw1 := who_f i
           have F0 := And.intro hw1 <| F0
           have zL := fun S2 => zhN (whoT false i) rfl S2
           exact HT.w
         · have hw1 := who_t i
           have hw2 := who_2 (whoT true i)
           have F0 := And.intro hw1 <| And.intro hw2 <| F0
           have zL := fun S2 => zhN (whoT true i) rfl S2
           exact HT.w
       · rw [hwb] at hwc
         subst hwc
         refine seq_k fun zN zM zhN zhM => ?_
         refine sr_k fun zK zhK => ?_
         simp only [go_sem, F0]
         repeat' (first | apply And.intro | intro _)
         refine zhK _ ?_
         refine block_k fun zB zbn zbx zbr zbi => ?_
         refine loop_b [(57, .w (.one (.pl (.i ((i : Nat) : Int))))), (10, .w (.one (.pl (.i ((i : Nat) : Int))))), (12, .w (.one (.pl (.i (whoI wb))))), (68, .w (.one (.pl (.R false 1 (iRows l))))), (69, .w (.one (.pl (.i ((l.length : Nat) : Int))))), (1, .w (.one (.p 1 []))), (5, .w (.one (.p 26 []))), (55, .w (.one (.pl (.R false 1 (tRows ts))))), (56, .w (.one (.pl (.i ((ts.length : Nat) : Int)))))] [(1, ⟨false, patC bs lt ps p0 p1 ts⟩)] (fun y => [(70, .w (.one (.pl (.i ((y.1.1 : Nat) : Int)))))]) (fun y => handM 26 20 y.1.2) (fun y => l.length - y.1.1) (⟨(0, s), Nat.zero_le _, rfl, Nat.le_refl _, Nat.le_refl _, hs⟩ : {y : Nat × TelS // y.1 ≤ l.length ∧ TelS.turn pk (whoI wb) y.2 (l.drop y.1) = TelS.turn pk (whoI wb) s l ∧ y.2.out.length ≤ s.out.length + y.1 ∧ y.2.ps ≤ s.ps + y.1 ∧ y.2.out ≠ []}) ?_ ?_ ?_
         · (simp only [go_sem, leX, List.cons_append, List.nil_append, F0]; try simp)
         · (simp only [go_sem, leX, List.cons_append, List.nil_append, F0]; try simp)
         intro zz zN zM zhN zhM
         simp only [List.cons_append, List.nil_append]
         have yN3 := zhN
         obtain ⟨⟨j, q⟩, g1, g4, g5, g6, hn⟩ := zz
         simp only at g1 g4 g5 g6 hn
         rcases Nat.lt_or_eq_of_le g1 with glt | rfl
         · have gcq := ltI' glt
           have gj := iInt j
           have gg := iRows_get glt
           obtain ⟨x, hx⟩ : ∃ x, l.getD j 0 = x := ⟨_, rfl⟩
           have hxr := scan1_ok hlr.1 x (hx ▸ getD_mem' glt)
           rw [drop_getD (z := 0) glt, TelS.turn, hx] at g4
           rw [hx] at gg
           have gs1 := wsucc' glt (Nat.le_trans hlr.2 (by decide))
           have ht := token_ pk (whoI wb) (who_rng wb) q x hxr (bnd1 g5 (Nat.le_of_lt glt) hlr.2 h5 hlt ht5.2) (bnd2 g6 (Nat.le_of_lt glt) hlr.2 h6 hlt ht5.2)
           have k1 : (q.token pk (whoI wb) x).out.length ≤ s.out.length + (j + 1) := Nat.le_trans (token_out pk (whoI wb) q x) (Nat.succ_le_succ g5)
           have k2 : (q.token pk (whoI wb) x).ps ≤ s.ps + (j + 1) := Nat.le_trans (token_ps pk (whoI wb) q x) (Nat.succ_le_succ g6)
           have hn2 := token_ne pk (whoI wb) q x hn
           obtain ⟨q2, hq2⟩ : ∃ z, q.token pk (whoI wb) x = z := ⟨_, rfl⟩
           rw [hq2] at g4 k1 k2 hn2 ht
           rw [show tokN q 20 = 750001 from if_neg hn, handM_own hn, handM_own hn2] at ht
           have hM := handM_own (h := 26) (o := 20) hn
           have hE := handM_own (h := 26) (o := 20) hn2
           have k3 := hn2
           have F0 := And.intro gcq <| And.intro gj <| And.intro glt <| And.intro gg <| And.intro gs1 <| And.intro hpk <| And.intro hM <| And.intro hE <| And.intro handC.eq_1 <| F0
           iterate 17 first
            | refine zhK _ ?_
            | (refine sr_k fun zK zhK => ?_; simp only [go_sem, F0]; (repeat' (first | apply And.intro | intro _)))
            | (refine zhN _ ?_; clear zhN zhM)
            | (refine region_k fun zK zhK => ?_; simp only [go_sem, F0]; (repeat' (first | apply And.intro | intro _)))
            | refine skip_k ?_
            | refine block_k fun zB zbn zbx zbr zbi => ?_
            | (refine zbn _ ?_; clear zbn zbx zbr zbi)
            | ((all_goals (refine call_handM false [(500000, 26), (750001, 20)] (fun k => k) (fun _ _ => rfl) ?_ (by decide) ?_ ?_ ht ?_; iterate 3 (focus (first | rfl | (simp only [go_sem, F0] <;> first | done | rfl | simp))))); (all_goals (rintro v m ⟨hR, hm⟩; subst hR; subst hm)); (all_goals (refine And.intro ?_ (And.intro ?_ (And.intro ?_ ?_)); iterate 3 (focus (first | rfl | (simp only [go_sem, F0]; done) | (simp [go_sem, look, F0]; done))))); (all_goals (try simp only [go_sem, F0])); (all_goals (try simp only [go_sem, F0])); (all_goals repeat' (first | apply And.intro | intro _)))
            | refine seq_k fun zN zM zhN zhM => ?_
            | (refine condT_k ?_ ?_; focus (first | rfl | (simp [go_sem, F0]; done)))
           refine zhN ⟨(j + 1, q2), glt, g4, k1, k2, k3⟩ _ ?_ ?_ ?_
           · exact Nat.sub_lt_sub_left glt (Nat.lt_succ_self j)
           · (simp only [go_sem, leX, List.cons_append, List.nil_append, F0]; try simp)
           · (simp only [go_sem, leX, List.cons_append, List.nil_append, F0]; try simp)
         · rw [List.drop_length, TelS.turn] at g4
           have gcq := nltI' (n := l.length)
           rw [← g4] at h4
           have k1 := tell_len q (atomT (20 + (i : Int)))
           have k2 := tell_ps q (atomT (20 + (i : Int)))
           have hn2 := tell_ne q (atomT (20 + (i : Int)))
           have ht := tell_ q (atomT (20 + (i : Int))) (bnd1 g5 (Nat.le_refl _) hlr.2 h5 hlt ht5.2)
           obtain ⟨q2, hq2⟩ : ∃ z, q.tell (atomT (20 + (i : Int))) = z := ⟨_, rfl⟩
           rw [hq2] at h4 k1 k2 hn2 ht
           have k4 := bnd4 k1 g5 hlr.2 h5
           have k5 := bnd5 k2 g6 hlr.2 h6
           rw [show tokN q 29 = 750001 from if_neg hn, handM_own hn, handM_own hn2] at ht
           have hM := handM_own (h := 26) (o := 20) hn
           have hE := handM_own (h := 26) (o := 20) hn2
           have F0 := And.intro gcq <| And.intro hM <| And.intro hE <| And.intro handC.eq_1 <| F0
           refine sr_k fun zK zhK => ?_
           simp only [go_sem, F0]
           repeat' (first | apply And.intro | intro _)
           refine zhK _ ?_
           refine seq_k fun zN zM zhN zhM => ?_
           (refine condF_k ?_ ?_; focus (first | rfl | (simp [go_sem, F0]; done)))
           refine exit_k ?_
           refine zhM _ _ ?_; clear zhN zhM
           refine zhM _ _ ?_; clear zhN zhM
           refine zbx _ ?_; clear zbn zbx zbr zbi
           refine zhN _ ?_; clear zhN zhM
           refine region_k fun zK zhK => ?_
           simp only [go_sem, F0]
           repeat' (first | apply And.intro | intro _)
           all_goals (refine call_hand false [] (fun k => k) (fun _ _ => rfl) ?_ (by decide) ?_ ((atom_ (20 + (i : Int))).plain fun _ _ h => h).hands ?_; iterate 2 (focus (first | rfl | (simp only [go_sem, F0] <;> first | done | rfl | simp))))
           all_goals (rintro v m ⟨hR, hm⟩; subst hR; subst hm)
           all_goals (refine And.intro ?_ (And.intro ?_ (And.intro ?_ ?_)); iterate 3 (focus (first | rfl | (simp only [go_sem, F0]; done) | (simp [go_sem, look, F0]; done))))
           all_goals (try simp only [go_sem, F0])
           all_goals (try simp only [go_sem, F0])
           all_goals repeat' (first | apply And.intro | intro _)
           all_goals (refine call_handM false [(500000, 26), (750001, 20)] (fun k => k) (fun _ _ => rfl) ?_ (by decide) ?_ ?_ ht ?_; iterate 3 (focus (first | rfl | (simp only [go_sem, F0] <;> first | done | rfl | simp))))
           all_goals (rintro v m ⟨hR, hm⟩; subst hR; subst hm)
           all_goals (refine And.intro ?_ (And.intro ?_ (And.intro ?_ ?_)); iterate 3 (focus (first | rfl | (simp only [go_sem, F0]; done) | (simp [go_sem, look, F0]; done))))
           all_goals (try simp only [go_sem, F0])
           all_goals (try simp only [go_sem, F0])
           all_goals repeat' (first | apply And.intro | intro _)
           refine zhK _ ?_
           refine zbn _ ?_; clear zbn zbx zbr zbi
           refine zhN _ ?_; clear zhN zhM
           refine region_k fun zK zhK => ?_
           simp only [go_sem, F0]
           repeat' (first | apply And.intro | intro _)
           refine zhK _ ?_
           refine zhN ⟨(i + 1, q2), hlt, h4, k4, k5, fun _ => hn2⟩ _ ?_ ?_ ?_
           · exact Nat.sub_lt_sub_left hlt (Nat.lt_succ_self i)
           · (simp only [go_sem, leX, List.cons_append, List.nil_append, F0]; try simp)
           · (simp only [go_sem, leX, List.cons_append, List.nil_append, F0]; try simp)
     · rw [List.drop_length, telTurns] at h4
       have hcq := nltI' (n := ts.length)
       have hM0 := handM_own (h := 26) (o := 20) hs
       have hout : telOf lt pk p0 p1 ts = s := by rw [telOf, ← hq0, ← hq1]; exact h4.symm
       rw [hout] at zhZ
       have F0 := And.intro hcq <| And.intro hM0 <| And.intro handC.eq_1 <| F0
       have zE := fun m => told_terms (R := fun v m => v = .tup [.one (.pl (.R false 4 (termRows s.out))), .one (.pl (.i 0))] ∧ m = []) (m := m) (b := true) (k := 20) (by decide) s.out 0 ⟨rfl, rfl⟩
       exact HT.w
end Go.Sy

