/- Walks: the faults of a pattern, as the document's answer finds them: where nothing is known ahead. -/
import Derived.Test.YtbfllkipgfpkkaavtJB
set_option linter.unusedVariables false
set_option linter.unusedSimpArgs false
namespace Go.Sy
open Go.Proofs
attribute [local irreducible] atCall HT runOps runD onC onE onO onG goV goA goS onSt onGuard
set_option maxHeartbeats 3200000 in
set_option maxRecDepth 100000 in
theorem pfault_204 (bs : List UInt8) (lt : Bool) (ps : List (List PL)) (p0 p1 : List Int) (ts : List (List Int)) (h1 : ¬ ((ts.length : Nat) : Int) = 0) (h2 : ¬ (5 : Int) < ((ts.length : Nat) : Int)) (hz : scan (p0 :: p1 :: ts) = 0) (hq : ∀ q0 q1, some q0 = preE [] false p0 → some q1 = preE q0 true p1 → q1 = []) :
 Ct Try.prog 8 [.w (.agg (patC bs lt ps p0 p1 ts))] (fun v m => v = .w (.one (.pl (.i (checkP lt p0 p1 ts))))) := by
 have hlen : ¬ (ts.length < 1 ∨ 5 < ts.length) := by omega
 have hts : ts.length ≤ 1000000 := by omega
 have ht5 : ts.length ≤ 5 := by omega
 have hbb : (2 + ts.length) * 24 ≤ 140737488355328 := by omega
 have hrng := scan_ok hz
 have hp0 := (hrng p0 (by simp)).2
 have hp1 := (hrng p1 (by simp)).2
 have hfo := firstof_ (p0 :: p1 :: ts) false (by simp only [List.length_cons]; omega)
 have hch := allC_chunks (p0 :: p1 :: ts)
 have hsz : (p0 :: p1 :: ts).length = 2 + ts.length := by simp only [List.length_cons]; omega
 rw [hsz] at hch
 rw [hz] at hfo
 have F0 := And.intro patC.eq_1 <| And.intro tRows_length <| And.intro iRows_length <| And.intro h1 <| And.intro h2 <| And.intro hbb <| And.intro pls_has <| And.intro allC_eq <| And.intro allC_has <| And.intro allC_length <| And.intro allC_unpl <| And.intro hch <| And.intro hsz <| And.intro flatPL_nil <| And.intro evC_kill <| And.intro iC_kill <| And.intro whoI_f <| And.intro whoI_t <| And.intro (@evM_look 64 1 (by decide)) <| And.intro evC_length <| And.intro evC_unpl <| And.intro evC_has <| And.intro evC_chunks <| And.intro evV_snoc <| evM_snoc
 have cv0 := Ct.cv (hfo)
 refine Ct.k Try.func8 rfl Try.ntmps8 (congrArg Array.toList Try.results8) (by simp) fun w0 ro => ?_
 refine top_k fun zZ zhZ => ?_
 iterate 38 first
  | refine rnd_k fun zN zM zhN zhM => ?_
  | (refine sr_k fun zK zhK => ?_; simp only [go_sem, F0]; (repeat' (first | apply And.intro | intro _)))
  | refine zhK _ ?_
  | refine skip_k ?_
  | (refine zhN _ ?_; clear zhN zhM)
  | refine block_k fun zB zbn zbx zbr zbi => ?_
  | refine rounds_k (x := .seq (.region 8 _ _) _) 3 ?_
  | ((all_goals (refine call_view (fun k => k) (fun _ _ => rfl) ?_ cv0 ?_; focus (first | rfl | (simp only [go_sem, F0] <;> rfl)))); (all_goals (rintro v m ⟨hR, hm⟩; subst hR; subst hm)); (all_goals refine And.intro (by first | rfl | simp only [go_sem, F0]) (And.intro (by first | rfl | simp only [go_sem, F0]) ?_)); (all_goals simp only [go_sem, F0]); (all_goals repeat' (first | apply And.intro | intro _)))
  | refine seq_k fun zN zM zhN zhM => ?_
  | (refine condF_k ?_ ?_; focus (first | rfl | (simp [go_sem, F0]; done)))
  | (refine condT_k ?_ ?_; focus (first | rfl | (simp [go_sem, F0]; done)))
 refine loop_b [(1, .w (.one (.p 1 []))), (39, .w (.one (.pl (.i 0)))), (5, .w (.one (.pl (.i 0)))), (45, .w (.one (.pl (.R false 1 (iRows p0))))), (46, .w (.one (.pl (.i ((p0.length : Nat) : Int)))))] [(1, ⟨false, patC bs lt ps p0 p1 ts⟩)] (fun y => [(47, .w (.one (.pl (.i ((y.1.1 : Nat) : Int))))), (3, evV 64 y.1.2)]) (fun y => evM 64 y.1.2) (fun y => p0.length - y.1.1) (⟨(0, []), Nat.zero_le _, rfl, Nat.le_refl _⟩ : {y : Nat × List (Bool × Int) // y.1 ≤ p0.length ∧ preE y.2 false (p0.drop y.1) = preE [] false p0 ∧ y.2.length ≤ y.1}) ?_ ?_ ?_
 · (simp only [go_sem, leX, List.cons_append, List.nil_append, evV_nil, iRows_length, F0]; try simp)
 · (simp only [go_sem, leX, List.cons_append, List.nil_append, evM_nil, F0]; try simp)
 intro zz zN zM zhN zhM
 simp only [List.cons_append, List.nil_append]
 have yN0 := zhN
 obtain ⟨⟨j, q0⟩, g1, g4, g5⟩ := zz
 simp only at g1 g4 g5
 have hd : (j < p0.length ∧ 2 < p0.getD j 0) ∨ (j < p0.length ∧ ¬ 2 < p0.getD j 0 ∧ hap q0 false (p0.getD j 0) = true ∧ q0 ≠ []) ∨ (j < p0.length ∧ ¬ 2 < p0.getD j 0 ∧ hap q0 false (p0.getD j 0) = false ∧ q0 = []) ∨ (j < p0.length ∧ ¬ 2 < p0.getD j 0 ∧ hap q0 false (p0.getD j 0) = false ∧ q0 ≠ []) ∨ j = p0.length := by
  rcases (by omega : (j < p0.length ∧ 2 < p0.getD j 0) ∨ (j < p0.length ∧ ¬ 2 < p0.getD j 0) ∨ j = p0.length) with h | ⟨h, h2⟩ | h
  · exact .inl h
  · by_cases hn : q0 = []
    · subst hn; exact .inr (.inr (.inl ⟨h, h2, rfl, rfl⟩))
    · cases hh : hap q0 false (p0.getD j 0)
      · exact .inr (.inr (.inr (.inl ⟨h, h2, rfl, hn⟩)))
      · exact .inr (.inl ⟨h, h2, rfl, hn⟩)
  · exact .inr (.inr (.inr (.inr h)))
 rcases hd with ⟨glt, hbad⟩ | ⟨glt, hbad, hfl, hne⟩ | ⟨glt, hbad, hfl, rfl⟩ | ⟨glt, hbad, hfl, hne⟩ | rfl
 · have gcq := ltI glt
   have gj := Int.natCast_nonneg j
   have gg := iRows_get glt
   obtain ⟨x, hx⟩ : ∃ x, p0.getD j 0 = x := ⟨_, rfl⟩
   have hxr := scan1_ok (hrng p0 (by simp)).1 x (hx ▸ getD_mem' glt)
   rw [drop_getD (z := 0) glt, preE, hx] at g4
   rw [hx] at gg hbad
   rw [if_pos (.inl hbad)] at g4
   have F0 := And.intro gcq <| And.intro gj <| And.intro glt <| And.intro gg <| And.intro hbad <| F0
   have zE := chp_pre0 (lt := lt) hlen hz g4
   exact HT.w
 · have gcq := ltI glt
   have gj := Int.natCast_nonneg j
   have gg := iRows_get glt
   obtain ⟨x, hx⟩ : ∃ x, p0.getD j 0 = x := ⟨_, rfl⟩
   have hxr := scan1_ok (hrng p0 (by simp)).1 x (hx ▸ getD_mem' glt)
   rw [drop_getD (z := 0) glt, preE, hx] at g4
   rw [hx] at gg hbad
   have hv := evV_own (nm := 64) hne
   have hm := evM_own (nm := 64) hne
   have h60 : q0.length ≤ 60 := b60a g5 glt hp0
   have hcap := cap16 h60
   rw [hx] at hfl
   rw [if_pos (.inr hfl)] at g4
   have F0 := And.intro gcq <| And.intro gj <| And.intro glt <| And.intro gg <| And.intro hv <| And.intro hm <| And.intro hcap <| And.intro hbad <| F0
   have cv0 := Ct.cv (hap_w q0 false 2 (fun _ => rfl) (lenI h60) false x true hfl)
   have zE := chp_pre0 (lt := lt) hlen hz g4
   exact HT.w
 · have gcq := ltI glt
   have gj := Int.natCast_nonneg j
   have gg := iRows_get glt
   obtain ⟨x, hx⟩ : ∃ x, p0.getD j 0 = x := ⟨_, rfl⟩
   have hxr := scan1_ok (hrng p0 (by simp)).1 x (hx ▸ getD_mem' glt)
   rw [drop_getD (z := 0) glt, preE, hx] at g4
   rw [hx] at gg hbad
   rw [hx] at hfl
   rw [if_neg (by simp [hbad, hfl])] at g4
   have gs1 := wsucc glt (Nat.le_trans hp0 (by decide))
   have F0 := And.intro gcq <| And.intro gj <| And.intro glt <| And.intro gg <| And.intro hbad <| And.intro gs1 <| And.intro (evV_nil 64) <| And.intro (evM_nil 64) <| And.intro (evV_one 64) <| And.intro (evM_one 64) <| F0
   have cv0 := Ct.cv (hap_w [] true 1 (fun h => absurd rfl h) (by decide) false x false rfl)
   have zL := fun S2 => yN0 ⟨(j + 1, [] ++ [(false, x)]), glt, g4, len_snoc g5⟩ S2 (by exact Nat.sub_lt_sub_left glt (Nat.lt_succ_self j))
   exact HT.w
 · have gcq := ltI glt
   have gj := Int.natCast_nonneg j
   have gg := iRows_get glt
   obtain ⟨x, hx⟩ : ∃ x, p0.getD j 0 = x := ⟨_, rfl⟩
   have hxr := scan1_ok (hrng p0 (by simp)).1 x (hx ▸ getD_mem' glt)
   rw [drop_getD (z := 0) glt, preE, hx] at g4
   rw [hx] at gg hbad
   have hv := evV_own (nm := 64) hne
   have hm := evM_own (nm := 64) hne
   have h60 : q0.length ≤ 60 := b60a g5 glt hp0
   have hcap := cap16 h60
   rw [hx] at hfl
   rw [if_neg (by simp [hbad, hfl])] at g4
   have gs1 := wsucc glt (Nat.le_trans hp0 (by decide))
   have F0 := And.intro gcq <| And.intro gj <| And.intro glt <| And.intro gg <| And.intro hv <| And.intro hm <| And.intro hcap <| And.intro hbad <| And.intro gs1 <| F0
   have cv0 := Ct.cv (hap_w q0 false 2 (fun _ => rfl) (lenI h60) false x false hfl)
   have zL := fun S2 => yN0 ⟨(j + 1, q0 ++ [(false, x)]), glt, g4, len_snoc g5⟩ S2 (by exact Nat.sub_lt_sub_left glt (Nat.lt_succ_self j))
   exact HT.w
 · rw [List.drop_length, preE] at g4
   have gcq := nltI (n := p0.length)
   have hq0 := g4
   have hl0 : q0.length ≤ 6 := by omega
   have F0 := And.intro gcq <| F0
   iterate 27 first
    | refine rnd_k fun zN zM zhN zhM => ?_
    | refine zhK _ ?_
    | (refine sr_k fun zK zhK => ?_; simp only [go_sem, F0]; (repeat' (first | apply And.intro | intro _)))
    | (refine zhN _ ?_; clear zhN zhM)
    | (refine zhM _ _ ?_; clear zhN zhM)
    | refine block_k fun zB zbn zbx zbr zbi => ?_
    | refine exit_k ?_
    | (refine zbx _ ?_; clear zbn zbx zbr zbi)
    | (refine zbn _ ?_; clear zbn zbx zbr zbi)
    | (refine region_k fun zK zhK => ?_; simp only [go_sem, F0]; (repeat' (first | apply And.intro | intro _)))
    | refine skip_k ?_
    | refine seq_k fun zN zM zhN zhM => ?_
    | (refine condF_k ?_ ?_; focus (first | rfl | (simp [go_sem, F0]; done)))
    | (refine condT_k ?_ ?_; focus (first | rfl | (simp [go_sem, F0]; done)))
   refine loop_b [(1, .w (.one (.p 1 []))), (39, .w (.one (.pl (.i 1)))), (5, .w (.one (.pl (.i 1)))), (45, .w (.one (.pl (.R false 1 (iRows p1))))), (46, .w (.one (.pl (.i ((p1.length : Nat) : Int)))))] [(1, ⟨false, patC bs lt ps p0 p1 ts⟩)] (fun y => [(47, .w (.one (.pl (.i ((y.1.1 : Nat) : Int))))), (3, evV 64 y.1.2)]) (fun y => evM 64 y.1.2) (fun y => p1.length - y.1.1) (⟨(0, q0), Nat.zero_le _, rfl, hl0⟩ : {y : Nat × List (Bool × Int) // y.1 ≤ p1.length ∧ preE y.2 true (p1.drop y.1) = preE q0 true p1 ∧ y.2.length ≤ 6 + y.1}) ?_ ?_ ?_
   · (simp only [go_sem, leX, List.cons_append, List.nil_append, evV_nil, iRows_length, F0]; try simp)
   · (simp only [go_sem, patC.eq_1]; first | exact leX_self _ | (rw [← patC.eq_1]; exact leX_self _))
   intro zz zN zM zhN zhM
   simp only [List.cons_append, List.nil_append]
   have yN1 := zhN
   obtain ⟨⟨j, q1⟩, g1, g4, g5⟩ := zz
   simp only at g1 g4 g5
   have hd : (j < p1.length ∧ 2 < p1.getD j 0) ∨ (j < p1.length ∧ ¬ 2 < p1.getD j 0 ∧ hap q1 true (p1.getD j 0) = true ∧ q1 ≠ []) ∨ (j < p1.length ∧ ¬ 2 < p1.getD j 0 ∧ hap q1 true (p1.getD j 0) = false ∧ q1 = []) ∨ (j < p1.length ∧ ¬ 2 < p1.getD j 0 ∧ hap q1 true (p1.getD j 0) = false ∧ q1 ≠ []) ∨ j = p1.length := by
    rcases (by omega : (j < p1.length ∧ 2 < p1.getD j 0) ∨ (j < p1.length ∧ ¬ 2 < p1.getD j 0) ∨ j = p1.length) with h | ⟨h, h2⟩ | h
    · exact .inl h
    · by_cases hn : q1 = []
      · subst hn; exact .inr (.inr (.inl ⟨h, h2, rfl, rfl⟩))
      · cases hh : hap q1 true (p1.getD j 0)
        · exact .inr (.inr (.inr (.inl ⟨h, h2, rfl, hn⟩)))
        · exact .inr (.inl ⟨h, h2, rfl, hn⟩)
    · exact .inr (.inr (.inr (.inr h)))
   rcases hd with ⟨glt, hbad⟩ | ⟨glt, hbad, hfl, hne⟩ | ⟨glt, hbad, hfl, rfl⟩ | ⟨glt, hbad, hfl, hne⟩ | rfl
   · have gcq := ltI glt
     have gj := Int.natCast_nonneg j
     have gg := iRows_get glt
     obtain ⟨x, hx⟩ : ∃ x, p1.getD j 0 = x := ⟨_, rfl⟩
     have hxr := scan1_ok (hrng p1 (by simp)).1 x (hx ▸ getD_mem' glt)
     rw [drop_getD (z := 0) glt, preE, hx] at g4
     rw [hx] at gg hbad
     rw [if_pos (.inl hbad)] at g4
     have F0 := And.intro gcq <| And.intro gj <| And.intro glt <| And.intro gg <| And.intro hbad <| F0
     have zE := chp_pre1 (lt := lt) hlen hz hq0 g4
     exact HT.w
   · have gcq := ltI glt
     have gj := Int.natCast_nonneg j
     have gg := iRows_get glt
     obtain ⟨x, hx⟩ : ∃ x, p1.getD j 0 = x := ⟨_, rfl⟩
     have hxr := scan1_ok (hrng p1 (by simp)).1 x (hx ▸ getD_mem' glt)
     rw [drop_getD (z := 0) glt, preE, hx] at g4
     rw [hx] at gg hbad
     have hv := evV_own (nm := 64) hne
     have hm := evM_own (nm := 64) hne
     have h60 : q1.length ≤ 60 := b60b g5 glt hp1
     have hcap := cap16 h60
     rw [hx] at hfl
     rw [if_pos (.inr hfl)] at g4
     have F0 := And.intro gcq <| And.intro gj <| And.intro glt <| And.intro gg <| And.intro hv <| And.intro hm <| And.intro hcap <| And.intro hbad <| F0
     have cv0 := Ct.cv (hap_w q1 false 2 (fun _ => rfl) (lenI h60) true x true hfl)
     have zE := chp_pre1 (lt := lt) hlen hz hq0 g4
     exact HT.w
   · have gcq := ltI glt
     have gj := Int.natCast_nonneg j
     have gg := iRows_get glt
     obtain ⟨x, hx⟩ : ∃ x, p1.getD j 0 = x := ⟨_, rfl⟩
     have hxr := scan1_ok (hrng p1 (by simp)).1 x (hx ▸ getD_mem' glt)
     rw [drop_getD (z := 0) glt, preE, hx] at g4
     rw [hx] at gg hbad
     rw [hx] at hfl
     rw [if_neg (by simp [hbad, hfl])] at g4
     have gs1 := wsucc glt (Nat.le_trans hp1 (by decide))
     have F0 := And.intro gcq <| And.intro gj <| And.intro glt <| And.intro gg <| And.intro hbad <| And.intro gs1 <| And.intro (evV_nil 64) <| And.intro (evM_nil 64) <| And.intro (evV_one 64) <| And.intro (evM_one 64) <| F0
     have cv0 := Ct.cv (hap_w [] true 1 (fun h => absurd rfl h) (by decide) true x false rfl)
     have zL := fun S2 => yN1 ⟨(j + 1, [] ++ [(true, x)]), glt, g4, len_snoc g5⟩ S2 (by exact Nat.sub_lt_sub_left glt (Nat.lt_succ_self j))
     exact HT.w
   · have gcq := ltI glt
     have gj := Int.natCast_nonneg j
     have gg := iRows_get glt
     obtain ⟨x, hx⟩ : ∃ x, p1.getD j 0 = x := ⟨_, rfl⟩
     have hxr := scan1_ok (hrng p1 (by simp)).1 x (hx ▸ getD_mem' glt)
     rw [drop_getD (z := 0) glt, preE, hx] at g4
     rw [hx] at gg hbad
     have hv := evV_own (nm := 64) hne
     have hm := evM_own (nm := 64) hne
     have h60 : q1.length ≤ 60 := b60b g5 glt hp1
     have hcap := cap16 h60
     rw [hx] at hfl
     rw [if_neg (by simp [hbad, hfl])] at g4
     have gs1 := wsucc glt (Nat.le_trans hp1 (by decide))
     have F0 := And.intro gcq <| And.intro gj <| And.intro glt <| And.intro gg <| And.intro hv <| And.intro hm <| And.intro hcap <| And.intro hbad <| And.intro gs1 <| F0
     have cv0 := Ct.cv (hap_w q1 false 2 (fun _ => rfl) (lenI h60) true x false hfl)
     have zL := fun S2 => yN1 ⟨(j + 1, q1 ++ [(true, x)]), glt, g4, len_snoc g5⟩ S2 (by exact Nat.sub_lt_sub_left glt (Nat.lt_succ_self j))
     exact HT.w
   · rw [List.drop_length, preE] at g4
     have gcq := nltI (n := p1.length)
     have hq1 := g4
     have hl1 : q1.length ≤ 12 := by omega
     have F0 := And.intro gcq <| F0
     refine sr_k fun zK zhK => ?_
     simp only [go_sem, F0]
     repeat' (first | apply And.intro | intro _)
     refine zhK _ ?_
     refine seq_k fun zN zM zhN zhM => ?_
     (refine condF_k ?_ ?_; focus (first | rfl | (simp [go_sem, F0]; done)))
     refine exit_k ?_
     refine zhM _ _ ?_; clear zhN zhM
     refine zhM _ _ ?_; clear zhN zhM
     refine zbx _ ?_; clear zbn zbx zbr zbi
     refine zbn _ ?_; clear zbn zbx zbr zbi
     refine zhN _ ?_; clear zhN zhM
     refine region_k fun zK zhK => ?_
     simp only [go_sem, F0]
     repeat' (first | apply And.intro | intro _)
     refine zhK _ ?_
     refine zhN _ ?_; clear zhN zhM
     refine rnd_k fun zN zM zhN zhM => ?_
     refine sr_k fun zK zhK => ?_
     simp only [go_sem, F0]
     repeat' (first | apply And.intro | intro _)
     refine zhK _ ?_
     refine seq_k fun zN zM zhN zhM => ?_
     (refine condF_k ?_ ?_; focus (first | rfl | (simp [go_sem, F0]; done)))
     refine exit_k ?_
     refine zhM _ _ ?_; clear zhN zhM
     refine zhM _ _ ?_; clear zhN zhM
     refine zbx _ ?_; clear zbn zbx zbr zbi
     refine zhN _ ?_; clear zhN zhM
     have hne1 := hq q0 q1 hq0 hq1
     · subst hne1
       have F0 := And.intro (evV_nil 64) <| And.intro (evM_nil 64) <| F0
       refine seq_k fun zN zM zhN zhM => ?_
       refine sr_k fun zK zhK => ?_
       simp only [go_sem, F0]
       repeat' (first | apply And.intro | intro _)
       refine zhK _ ?_
       refine block_k fun zB zbn zbx zbr zbi => ?_
       refine loop_b [(1, .w (.one (.p 1 []))), (68, .w (.one (.pl (.R false 1 (tRows ts))))), (69, .w (.one (.pl (.i ((ts.length : Nat) : Int)))))] [(1, ⟨false, patC bs lt ps p0 p1 ts⟩)] (fun y => [(70, .w (.one (.pl (.i ((y.1.1 : Nat) : Int))))), (3, evV 204 y.1.2)]) (fun y => evM 204 y.1.2) (fun y => ts.length - y.1.1) (⟨(0, ([] : List (Bool × Int))), Nat.zero_le _, rfl, Nat.zero_le _⟩ : {y : Nat × List (Bool × Int) // y.1 ≤ ts.length ∧ turnsE lt y.2 y.1 (ts.drop y.1) = turnsE lt ([] : List (Bool × Int)) 0 ts ∧ y.2.length ≤ 12 + 7 * y.1}) ?_ ?_ ?_
       · (simp only [go_sem, leX, List.cons_append, List.nil_append, evV_nil, tRows_length, F0]; try simp)
       · (simp only [go_sem, leX, List.cons_append, List.nil_append, evM_nil, F0]; try simp)
       intro yy zN zM zhN zhM
       simp only [List.cons_append, List.nil_append]
       have yN2 := zhN
       obtain ⟨⟨i, q2⟩, h1, h4, h5⟩ := yy
       simp only at h1 h4 h5
       have hd : (i < ts.length ∧ q2 = []) ∨ (i < ts.length ∧ q2 ≠ []) ∨ i = ts.length := by
        by_cases hn : q2 = [] <;> simp [hn] <;> omega
       rcases hd with ⟨hlt, rfl⟩ | ⟨hlt, hn2⟩ | rfl
       · have hcq := ltI hlt
         have hi0 := Int.natCast_nonneg i
         have hg := tRows_get hlt
         obtain ⟨l, hl⟩ : ∃ l, ts.getD i [] = l := ⟨_, rfl⟩
         have hlm : l ∈ ts := hl ▸ getD_mem' hlt
         have hlr := hrng l (by simp [hlm])
         obtain ⟨wb, hwb⟩ : ∃ wb, whoT lt i = wb := ⟨_, rfl⟩
         rw [drop_getD (z := []) hlt, turnsE, hl, hwb, ← turnX_eq] at h4
         rw [hl] at hg
         have hln : (l ++ [0]).length = l.length + 1 := by simp
         have hcl := cap8 (n := l.length) (Nat.le_trans hlr.2 (by decide))
         have hcl2 := cap8 (n := l.length + 1) (Nat.le_trans (Nat.succ_le_succ hlr.2) (by decide))
         have hs1 := wsucc hlt hts
         have hq40 := b60c h5 hlt ht5

         have F0 := And.intro hcq <| And.intro hi0 <| And.intro hlt <| And.intro hg <| And.intro hs1 <| And.intro iC_length <| And.intro iC_has <| And.intro iC_pls <| And.intro iC_snoc <| And.intro hcl <| And.intro hcl2 <| And.intro (evV_nil 204) <| And.intro (evM_nil 204) <| F0
         iterate 12 first
          | (refine sr_k fun zK zhK => ?_; simp only [go_sem, F0]; (repeat' (first | apply And.intro | intro _)))
          | refine zhK _ ?_
          | refine skip_k ?_
          | (refine zhN _ ?_; clear zhN zhM)
          | refine block_k fun zB zbn zbx zbr zbi => ?_
          | refine seq_k fun zN zM zhN zhM => ?_
          | (refine condT_k ?_ ?_; focus (first | rfl | (simp [go_sem, F0]; done)))
         refine join_l (fun w => [(10, .w (.one (.pl (.i (whoI w)))))]) (fun _ => []) (fun w => whoT lt i = w) (fun zN zM zhN zhM => ?_) (fun wc hwc => ?_)
         · rcases lt with _ | _
           · have hw1 := who_f i
             have F0 := And.intro hw1 <| F0
             have zL := fun S2 => zhN (whoT false i) rfl S2
             exact HT.w
           · have hw1 := who_g i
             have F0 := And.intro hw1 <| F0
             have zL := fun S2 => zhN (whoT true i) rfl S2
             exact HT.w
         · rw [hwb] at hwc
           subst hwc
           refine sr_k fun zK zhK => ?_
           simp only [go_sem, F0]
           repeat' (first | apply And.intro | intro _)
           refine zhK _ ?_
           refine block_k fun zB zbn zbx zbr zbi => ?_
           refine loop_b [(70, .w (.one (.pl (.i ((i : Nat) : Int))))), (10, .w (.one (.pl (.i (whoI wb))))), (86, .w (.one (.s 82 [] (l.length + 1) 1))), (87, .w (.one (.pl (.i ((l.length + 1 : Nat) : Int))))), (1, .w (.one (.p 1 []))), (68, .w (.one (.pl (.R false 1 (tRows ts))))), (69, .w (.one (.pl (.i ((ts.length : Nat) : Int)))))] [(82, ⟨true, iC (l ++ [0])⟩), (1, ⟨false, patC bs lt ps p0 p1 ts⟩)] (fun y => [(88, .w (.one (.pl (.i ((y.1.1 : Nat) : Int))))), (3, evV 204 y.1.2)]) (fun y => evM 204 y.1.2) (fun y => l.length + 1 - y.1.1) (⟨(0, ([] : List (Bool × Int))), Nat.zero_le _, rfl, Nat.le_refl _, fun h => absurd h (Nat.lt_irrefl 0)⟩ : {y : Nat × List (Bool × Int) // y.1 ≤ l.length + 1 ∧ turnX y.2 wb ((l ++ [0]).drop y.1) = turnX ([] : List (Bool × Int)) wb (l ++ [0]) ∧ y.2.length ≤ ([] : List (Bool × Int)).length + y.1 ∧ (0 < y.1 → y.2 ≠ [])}) ?_ ?_ ?_
           · (simp only [go_sem, leX, List.cons_append, List.nil_append, F0]; try simp)
           · (simp only [go_sem, leX, List.cons_append, List.nil_append, F0]; try simp)
           intro zz zN zM zhN zhM
           simp only [List.cons_append, List.nil_append]
           have yN3 := zhN
           obtain ⟨⟨j, q3⟩, g1, g4, g5, g6⟩ := zz
           simp only at g1 g4 g5 g6
           have hd : (j < l.length + 1 ∧ q3 = []) ∨ (j < l.length + 1 ∧ q3 ≠ []) ∨ j = l.length + 1 := by
            by_cases hn : q3 = [] <;> simp [hn] <;> omega
           rcases hd with ⟨glt, rfl⟩ | ⟨glt, hne⟩ | rfl
           · have gcq := ltI glt
             have gj := Int.natCast_nonneg j
             have glt2 : j < (l ++ [0]).length := hln ▸ glt
             have glt3 : j < l.length + 1 := glt
             have hjl : j ≤ l.length := Nat.le_of_lt_succ glt
             have gg := iC_get glt2
             obtain ⟨x, hx⟩ : ∃ x, (l ++ [0]).getD j 0 = x := ⟨_, rfl⟩
             have hxr : 0 ≤ x ∧ x ≤ 7 := by
              have hm := hx ▸ getD_mem' (z := (0 : Int)) glt2
              rcases List.mem_append.mp hm with h | h
              · have := scan1_ok hlr.1 x h; omega
              · rw [List.mem_singleton.mp h]; decide
             rw [drop_getD (z := 0) glt2, turnX, hx] at g4
             rw [hx] at gg
             have gs1 := wsucc glt (Nat.le_trans (Nat.succ_le_succ hlr.2) (by decide))

             have F0 := And.intro gcq <| And.intro gj <| And.intro glt3 <| And.intro hjl <| And.intro gg <| And.intro gs1 <| And.intro (evV_nil 204) <| And.intro (evM_nil 204) <| And.intro (evV_one 204) <| And.intro (evM_one 204) <| F0
             iterate 10 first
              | (refine sr_k fun zK zhK => ?_; simp only [go_sem, F0]; (repeat' (first | apply And.intro | intro _)))
              | refine zhK _ ?_
              | refine skip_k ?_
              | (refine zhN _ ?_; clear zhN zhM)
              | refine block_k fun zB zbn zbx zbr zbi => ?_
              | refine seq_k fun zN zM zhN zhM => ?_
              | (refine condT_k ?_ ?_; focus (first | rfl | (simp [go_sem, F0]; done)))
             refine join_l (fun w => [(13, .w (.one (.pl (.b w))))]) (fun _ => []) (fun w => locksE [] = w) (fun zN zM zhN zhM => ?_) (fun lk hlk => ?_)
             · skip
               · skip
                 have cv0 := Ct.cv (hap_a [] true 1 (fun h => absurd rfl h) (by decide) 3 false rfl)
                 have cv1 := Ct.cv (hap_a [] true 1 (fun h => absurd rfl h) (by decide) 4 false rfl)
                 have cv2 := Ct.cv (hap_a [] true 1 (fun h => absurd rfl h) (by decide) 5 false rfl)
                 have cv3 := Ct.cv (hap_a [] true 1 (fun h => absurd rfl h) (by decide) 6 false rfl)
                 have cv4 := Ct.cv (hap_a [] true 1 (fun h => absurd rfl h) (by decide) 7 false rfl)
                 have zL := fun S2 => zhN false rfl S2
                 exact HT.w
             · have hk : lk = false := hlk.symm
               have F0 := And.intro hk <| F0
               rcases (by omega : x = 0 ∨ x = 1 ∨ x = 2 ∨ x = 3 ∨ x = 4 ∨ x = 5 ∨ x = 6 ∨ x = 7) with hx0 | hx0 | hx0 | hx0 | hx0 | hx0 | hx0 | hx0
               · have hok : okE [] wb x = true := by rw [hx0]; rfl
                 rw [hok, if_pos rfl] at g4
                 have F0 := And.intro hx0 <| F0
                 have zL := fun S2 => yN3 ⟨(j + 1, [] ++ [(wb, x)]), glt, g4, len_snoc g5, fun _ => snoc_ne _ _⟩ S2 (by exact Nat.sub_lt_sub_left glt (Nat.lt_succ_self j))
                 exact HT.w
               · have hok : okE [] wb x = true := by rw [hx0]; rfl
                 rw [hok, if_pos rfl] at g4
                 have F0 := And.intro hx0 <| F0
                 have cv0 := Ct.cv (hap_w [] true 1 (fun h => absurd rfl h) (by decide) wb 1 false rfl)
                 have zL := fun S2 => yN3 ⟨(j + 1, [] ++ [(wb, x)]), glt, g4, len_snoc g5, fun _ => snoc_ne _ _⟩ S2 (by exact Nat.sub_lt_sub_left glt (Nat.lt_succ_self j))
                 exact HT.w
               · have hok : okE [] wb x = true := by rw [hx0]; rfl
                 rw [hok, if_pos rfl] at g4
                 have F0 := And.intro hx0 <| F0
                 have cv0 := Ct.cv (hap_w [] true 1 (fun h => absurd rfl h) (by decide) wb 2 false rfl)
                 have zL := fun S2 => yN3 ⟨(j + 1, [] ++ [(wb, x)]), glt, g4, len_snoc g5, fun _ => snoc_ne _ _⟩ S2 (by exact Nat.sub_lt_sub_left glt (Nat.lt_succ_self j))
                 exact HT.w
               · have hok : okE [] wb x = false := by rw [hx0]; rfl
                 rw [hok, if_neg (by decide)] at g4
                 rw [← g4] at h4
                 have F0 := And.intro hx0 <| F0
                 have cv0 := Ct.cv (hap_w [] true 1 (fun h => absurd rfl h) (by decide) false 1 false rfl)
                 have zE := (chp_turns (lt := lt) hlen hz hq0 hq1).trans (show (3 : Int) = _ from h4).symm
                 exact HT.w
               · have hok : okE [] wb x = false := by rw [hx0]; rfl
                 rw [hok, if_neg (by decide)] at g4
                 rw [← g4] at h4
                 have F0 := And.intro hx0 <| F0
                 have cv0 := Ct.cv (hap_w [] true 1 (fun h => absurd rfl h) (by decide) false 1 false rfl)
                 have zE := (chp_turns (lt := lt) hlen hz hq0 hq1).trans (show (3 : Int) = _ from h4).symm
                 exact HT.w
               · have hok : okE [] wb x = false := by rw [hx0]; rfl
                 rw [hok, if_neg (by decide)] at g4
                 rw [← g4] at h4
                 have F0 := And.intro hx0 <| F0
                 have cv0 := Ct.cv (hap_w [] true 1 (fun h => absurd rfl h) (by decide) false 2 false rfl)
                 have zE := (chp_turns (lt := lt) hlen hz hq0 hq1).trans (show (3 : Int) = _ from h4).symm
                 exact HT.w
               · have hok : okE [] wb x = false := by rw [hx0]; rfl
                 rw [hok, if_neg (by decide)] at g4
                 rw [← g4] at h4
                 have F0 := And.intro hx0 <| F0
                 have cv0 := Ct.cv (hap_w [] true 1 (fun h => absurd rfl h) (by decide) false 2 false rfl)
                 have zE := (chp_turns (lt := lt) hlen hz hq0 hq1).trans (show (3 : Int) = _ from h4).symm
                 exact HT.w
               · have hok : okE [] wb x = true := by rw [hx0]; rfl
                 rw [hok, if_pos rfl] at g4
                 have F0 := And.intro hx0 <| F0
                 have zL := fun S2 => yN3 ⟨(j + 1, [] ++ [(wb, x)]), glt, g4, len_snoc g5, fun _ => snoc_ne _ _⟩ S2 (by exact Nat.sub_lt_sub_left glt (Nat.lt_succ_self j))
                 exact HT.w
           · have gcq := ltI glt
             have gj := Int.natCast_nonneg j
             have glt2 : j < (l ++ [0]).length := hln ▸ glt
             have glt3 : j < l.length + 1 := glt
             have hjl : j ≤ l.length := Nat.le_of_lt_succ glt
             have gg := iC_get glt2
             obtain ⟨x, hx⟩ : ∃ x, (l ++ [0]).getD j 0 = x := ⟨_, rfl⟩
             have hxr : 0 ≤ x ∧ x ≤ 7 := by
              have hm := hx ▸ getD_mem' (z := (0 : Int)) glt2
              rcases List.mem_append.mp hm with h | h
              · have := scan1_ok hlr.1 x h; omega
              · rw [List.mem_singleton.mp h]; decide
             rw [drop_getD (z := 0) glt2, turnX, hx] at g4
             rw [hx] at gg
             have gs1 := wsucc glt (Nat.le_trans (Nat.succ_le_succ hlr.2) (by decide))
             have hv := evV_own (nm := 204) hne
             have hm := evM_own (nm := 204) hne
             have h60 : q3.length ≤ 60 := b60d g5 hq40 g1 hlr.2
             have hcap := cap16 h60

             have F0 := And.intro gcq <| And.intro gj <| And.intro glt3 <| And.intro hjl <| And.intro gg <| And.intro gs1 <| And.intro hv <| And.intro hm <| And.intro hcap <| F0
             iterate 10 first
              | (refine sr_k fun zK zhK => ?_; simp only [go_sem, F0]; (repeat' (first | apply And.intro | intro _)))
              | refine zhK _ ?_
              | refine skip_k ?_
              | (refine zhN _ ?_; clear zhN zhM)
              | refine block_k fun zB zbn zbx zbr zbi => ?_
              | refine seq_k fun zN zM zhN zhM => ?_
              | (refine condT_k ?_ ?_; focus (first | rfl | (simp [go_sem, F0]; done)))
             refine join_l (fun w => [(13, .w (.one (.pl (.b w))))]) (fun _ => []) (fun w => locksE q3 = w) (fun zN zM zhN zhM => ?_) (fun lk hlk => ?_)
             · have hd : any q3 3 = true ∨ (any q3 3 = false ∧ any q3 4 = true) ∨ (any q3 3 = false ∧ any q3 4 = false ∧ any q3 5 = true) ∨ (any q3 3 = false ∧ any q3 4 = false ∧ any q3 5 = false ∧ any q3 6 = true) ∨ (any q3 3 = false ∧ any q3 4 = false ∧ any q3 5 = false ∧ any q3 6 = false ∧ any q3 7 = true) ∨ (any q3 3 = false ∧ any q3 4 = false ∧ any q3 5 = false ∧ any q3 6 = false ∧ any q3 7 = false) := by cases any q3 3 <;> cases any q3 4 <;> cases any q3 5 <;> cases any q3 6 <;> cases any q3 7 <;> simp
               rcases hd with h3 | ⟨h3, h4'⟩ | ⟨h3, h4', h5⟩ | ⟨h3, h4', h5, h6⟩ | ⟨h3, h4', h5, h6, h7⟩ | ⟨h3, h4', h5, h6, h7⟩
               · skip
                 have cv0 := Ct.cv (hap_a q3 false 2 (fun _ => rfl) (lenI h60) 3 true h3)
                 have zL := fun S2 => zhN true (by rw [locksE, h3]; simp) S2
                 exact HT.w
               · skip
                 have cv0 := Ct.cv (hap_a q3 false 2 (fun _ => rfl) (lenI h60) 3 false h3)
                 have cv1 := Ct.cv (hap_a q3 false 2 (fun _ => rfl) (lenI h60) 4 true h4')
                 have zL := fun S2 => zhN true (by rw [locksE, h3, h4']; simp) S2
                 exact HT.w
               · skip
                 have cv0 := Ct.cv (hap_a q3 false 2 (fun _ => rfl) (lenI h60) 3 false h3)
                 have cv1 := Ct.cv (hap_a q3 false 2 (fun _ => rfl) (lenI h60) 4 false h4')
                 have cv2 := Ct.cv (hap_a q3 false 2 (fun _ => rfl) (lenI h60) 5 true h5)
                 have zL := fun S2 => zhN true (by rw [locksE, h3, h4', h5]; simp) S2
                 exact HT.w
               · skip
                 have cv0 := Ct.cv (hap_a q3 false 2 (fun _ => rfl) (lenI h60) 3 false h3)
                 have cv1 := Ct.cv (hap_a q3 false 2 (fun _ => rfl) (lenI h60) 4 false h4')
                 have cv2 := Ct.cv (hap_a q3 false 2 (fun _ => rfl) (lenI h60) 5 false h5)
                 have cv3 := Ct.cv (hap_a q3 false 2 (fun _ => rfl) (lenI h60) 6 true h6)
                 have zL := fun S2 => zhN true (by rw [locksE, h3, h4', h5, h6]; simp) S2
                 exact HT.w
               · skip
                 have cv0 := Ct.cv (hap_a q3 false 2 (fun _ => rfl) (lenI h60) 3 false h3)
                 have cv1 := Ct.cv (hap_a q3 false 2 (fun _ => rfl) (lenI h60) 4 false h4')
                 have cv2 := Ct.cv (hap_a q3 false 2 (fun _ => rfl) (lenI h60) 5 false h5)
                 have cv3 := Ct.cv (hap_a q3 false 2 (fun _ => rfl) (lenI h60) 6 false h6)
                 have cv4 := Ct.cv (hap_a q3 false 2 (fun _ => rfl) (lenI h60) 7 true h7)
                 have zL := fun S2 => zhN true (by rw [locksE, h3, h4', h5, h6, h7]; simp) S2
                 exact HT.w
               · skip
                 have cv0 := Ct.cv (hap_a q3 false 2 (fun _ => rfl) (lenI h60) 3 false h3)
                 have cv1 := Ct.cv (hap_a q3 false 2 (fun _ => rfl) (lenI h60) 4 false h4')
                 have cv2 := Ct.cv (hap_a q3 false 2 (fun _ => rfl) (lenI h60) 5 false h5)
                 have cv3 := Ct.cv (hap_a q3 false 2 (fun _ => rfl) (lenI h60) 6 false h6)
                 have cv4 := Ct.cv (hap_a q3 false 2 (fun _ => rfl) (lenI h60) 7 false h7)
                 have zL := fun S2 => zhN false (by rw [locksE, h3, h4', h5, h6, h7]; simp) S2
                 exact HT.w
             · skip
               rcases (tok_split lk (lockM q3 wb) (hap q3 wb 1) (hap q3 wb 2) (hap q3 false 1) (hap q3 true 1) (hap q3 false 2) (hap q3 true 2) (any q3 3) (any q3 4) (any q3 5) (any q3 6) hxr : (x = 0 ∧ lk = false) ∨ (x = 0 ∧ lk = true ∧ lockM q3 wb = true) ∨ (x = 0 ∧ lk = true ∧ lockM q3 wb = false) ∨ (x = 1 ∧ hap q3 wb 1 = false) ∨ (x = 1 ∧ hap q3 wb 1 = true) ∨ (x = 2 ∧ hap q3 wb 2 = true) ∨ (x = 2 ∧ hap q3 wb 2 = false ∧ lk = false) ∨ (x = 2 ∧ hap q3 wb 2 = false ∧ lk = true ∧ lockM q3 wb = true) ∨ (x = 2 ∧ hap q3 wb 2 = false ∧ lk = true ∧ lockM q3 wb = false) ∨ (x = 3 ∧ hap q3 false 1 = false) ∨ (x = 3 ∧ hap q3 false 1 = true ∧ hap q3 true 1 = false) ∨ (x = 3 ∧ hap q3 false 1 = true ∧ hap q3 true 1 = true ∧ any q3 3 = true) ∨ (x = 3 ∧ hap q3 false 1 = true ∧ hap q3 true 1 = true ∧ any q3 3 = false) ∨ (x = 4 ∧ hap q3 false 1 = false) ∨ (x = 4 ∧ hap q3 false 1 = true ∧ hap q3 true 2 = false) ∨ (x = 4 ∧ hap q3 false 1 = true ∧ hap q3 true 2 = true ∧ any q3 4 = true) ∨ (x = 4 ∧ hap q3 false 1 = true ∧ hap q3 true 2 = true ∧ any q3 4 = false) ∨ (x = 5 ∧ hap q3 false 2 = false) ∨ (x = 5 ∧ hap q3 false 2 = true ∧ hap q3 true 1 = false) ∨ (x = 5 ∧ hap q3 false 2 = true ∧ hap q3 true 1 = true ∧ any q3 5 = true) ∨ (x = 5 ∧ hap q3 false 2 = true ∧ hap q3 true 1 = true ∧ any q3 5 = false) ∨ (x = 6 ∧ hap q3 false 2 = false) ∨ (x = 6 ∧ hap q3 false 2 = true ∧ hap q3 true 2 = false) ∨ (x = 6 ∧ hap q3 false 2 = true ∧ hap q3 true 2 = true ∧ any q3 6 = true) ∨ (x = 6 ∧ hap q3 false 2 = true ∧ hap q3 true 2 = true ∧ any q3 6 = false) ∨ x = 7) with ⟨hx0, hk⟩ | ⟨hx0, hk, hm_⟩ | ⟨hx0, hk, hm_⟩ | ⟨hx0, ha⟩ | ⟨hx0, ha⟩ | ⟨hx0, ha⟩ | ⟨hx0, ha, hk⟩ | ⟨hx0, ha, hk, hm_⟩ | ⟨hx0, ha, hk, hm_⟩ | ⟨hx0, ha⟩ | ⟨hx0, ha, hb⟩ | ⟨hx0, ha, hb, hc⟩ | ⟨hx0, ha, hb, hc⟩ | ⟨hx0, ha⟩ | ⟨hx0, ha, hb⟩ | ⟨hx0, ha, hb, hc⟩ | ⟨hx0, ha, hb, hc⟩ | ⟨hx0, ha⟩ | ⟨hx0, ha, hb⟩ | ⟨hx0, ha, hb, hc⟩ | ⟨hx0, ha, hb, hc⟩ | ⟨hx0, ha⟩ | ⟨hx0, ha, hb⟩ | ⟨hx0, ha, hb, hc⟩ | ⟨hx0, ha, hb, hc⟩ | hx0
               · have hok : okE q3 wb x = true := by rw [hx0]; simp [okE, hk, hlk]
                 rw [hok, if_pos rfl] at g4
                 have F0 := And.intro hx0 <| And.intro hk <| F0
                 have zL := fun S2 => yN3 ⟨(j + 1, q3 ++ [(wb, x)]), glt, g4, len_snoc g5, fun _ => snoc_ne _ _⟩ S2 (by exact Nat.sub_lt_sub_left glt (Nat.lt_succ_self j))
                 exact HT.w
               · have hok : okE q3 wb x = true := by rw [hx0]; simp [okE, hk, hm_, hlk]
                 rw [hok, if_pos rfl] at g4
                 have F0 := And.intro hx0 <| And.intro hk <| F0
                 have cv0 := Ct.cv (may_w q3 false 2 (fun _ => rfl) (lenI h60) wb true hm_)
                 have zL := fun S2 => yN3 ⟨(j + 1, q3 ++ [(wb, x)]), glt, g4, len_snoc g5, fun _ => snoc_ne _ _⟩ S2 (by exact Nat.sub_lt_sub_left glt (Nat.lt_succ_self j))
                 exact HT.w
               · have hok : okE q3 wb x = false := by rw [hx0]; simp [okE, hk, hm_, hlk]
                 rw [hok, if_neg (by decide)] at g4
                 rw [← g4] at h4
                 have F0 := And.intro hx0 <| And.intro hk <| F0
                 have cv0 := Ct.cv (may_w q3 false 2 (fun _ => rfl) (lenI h60) wb false hm_)
                 have zE := (chp_turns (lt := lt) hlen hz hq0 hq1).trans (show (3 : Int) = _ from h4).symm
                 exact HT.w
               · have hok : okE q3 wb x = true := by rw [hx0]; simp [okE, ha, hlk]
                 rw [hok, if_pos rfl] at g4
                 have F0 := And.intro hx0 <| F0
                 have cv0 := Ct.cv (hap_w q3 false 2 (fun _ => rfl) (lenI h60) wb 1 false ha)
                 have zL := fun S2 => yN3 ⟨(j + 1, q3 ++ [(wb, x)]), glt, g4, len_snoc g5, fun _ => snoc_ne _ _⟩ S2 (by exact Nat.sub_lt_sub_left glt (Nat.lt_succ_self j))
                 exact HT.w
               · have hok : okE q3 wb x = false := by rw [hx0]; simp [okE, ha, hlk]
                 rw [hok, if_neg (by decide)] at g4
                 rw [← g4] at h4
                 have F0 := And.intro hx0 <| F0
                 have cv0 := Ct.cv (hap_w q3 false 2 (fun _ => rfl) (lenI h60) wb 1 true ha)
                 have zE := (chp_turns (lt := lt) hlen hz hq0 hq1).trans (show (3 : Int) = _ from h4).symm
                 exact HT.w
               · have hok : okE q3 wb x = false := by rw [hx0]; simp [okE, ha, hlk]
                 rw [hok, if_neg (by decide)] at g4
                 rw [← g4] at h4
                 have F0 := And.intro hx0 <| F0
                 have cv0 := Ct.cv (hap_w q3 false 2 (fun _ => rfl) (lenI h60) wb 2 true ha)
                 have zE := (chp_turns (lt := lt) hlen hz hq0 hq1).trans (show (3 : Int) = _ from h4).symm
                 exact HT.w
               · have hok : okE q3 wb x = true := by rw [hx0]; simp [okE, ha, hk, hlk]
                 rw [hok, if_pos rfl] at g4
                 have F0 := And.intro hx0 <| And.intro hk <| F0
                 have cv0 := Ct.cv (hap_w q3 false 2 (fun _ => rfl) (lenI h60) wb 2 false ha)
                 have zL := fun S2 => yN3 ⟨(j + 1, q3 ++ [(wb, x)]), glt, g4, len_snoc g5, fun _ => snoc_ne _ _⟩ S2 (by exact Nat.sub_lt_sub_left glt (Nat.lt_succ_self j))
                 exact HT.w
               · have hok : okE q3 wb x = true := by rw [hx0]; simp [okE, ha, hk, hm_, hlk]
                 rw [hok, if_pos rfl] at g4
                 have F0 := And.intro hx0 <| And.intro hk <| F0
                 have cv0 := Ct.cv (hap_w q3 false 2 (fun _ => rfl) (lenI h60) wb 2 false ha)
                 have cv1 := Ct.cv (may_w q3 false 2 (fun _ => rfl) (lenI h60) wb true hm_)
                 have zL := fun S2 => yN3 ⟨(j + 1, q3 ++ [(wb, x)]), glt, g4, len_snoc g5, fun _ => snoc_ne _ _⟩ S2 (by exact Nat.sub_lt_sub_left glt (Nat.lt_succ_self j))
                 exact HT.w
               · have hok : okE q3 wb x = false := by rw [hx0]; simp [okE, ha, hk, hm_, hlk]
                 rw [hok, if_neg (by decide)] at g4
                 rw [← g4] at h4
                 have F0 := And.intro hx0 <| And.intro hk <| F0
                 have cv0 := Ct.cv (hap_w q3 false 2 (fun _ => rfl) (lenI h60) wb 2 false ha)
                 have cv1 := Ct.cv (may_w q3 false 2 (fun _ => rfl) (lenI h60) wb false hm_)
                 have zE := (chp_turns (lt := lt) hlen hz hq0 hq1).trans (show (3 : Int) = _ from h4).symm
                 exact HT.w
               · have hok : okE q3 wb x = false := by rw [hx0]; simp [okE, ha, hlk]
                 rw [hok, if_neg (by decide)] at g4
                 rw [← g4] at h4
                 have F0 := And.intro hx0 <| F0
                 have cv0 := Ct.cv (hap_w q3 false 2 (fun _ => rfl) (lenI h60) false 1 false ha)
                 have zE := (chp_turns (lt := lt) hlen hz hq0 hq1).trans (show (3 : Int) = _ from h4).symm
                 exact HT.w
               · have hok : okE q3 wb x = false := by rw [hx0]; simp [okE, ha, hb, hlk]
                 rw [hok, if_neg (by decide)] at g4
                 rw [← g4] at h4
                 have F0 := And.intro hx0 <| F0
                 have cv0 := Ct.cv (hap_w q3 false 2 (fun _ => rfl) (lenI h60) false 1 true ha)
                 have cv1 := Ct.cv (hap_w q3 false 2 (fun _ => rfl) (lenI h60) true 1 false hb)
                 have zE := (chp_turns (lt := lt) hlen hz hq0 hq1).trans (show (3 : Int) = _ from h4).symm
                 exact HT.w
               · have hok : okE q3 wb x = false := by rw [hx0]; simp [okE, ha, hb, hc, hlk]
                 rw [hok, if_neg (by decide)] at g4
                 rw [← g4] at h4
                 have F0 := And.intro hx0 <| F0
                 have cv0 := Ct.cv (hap_w q3 false 2 (fun _ => rfl) (lenI h60) false 1 true ha)
                 have cv1 := Ct.cv (hap_w q3 false 2 (fun _ => rfl) (lenI h60) true 1 true hb)
                 have cv2 := Ct.cv (hap_a q3 false 2 (fun _ => rfl) (lenI h60) 3 true hc)
                 have zE := (chp_turns (lt := lt) hlen hz hq0 hq1).trans (show (3 : Int) = _ from h4).symm
                 exact HT.w
               · have hok : okE q3 wb x = true := by rw [hx0]; simp [okE, ha, hb, hc, hlk]
                 rw [hok, if_pos rfl] at g4
                 have F0 := And.intro hx0 <| F0
                 have cv0 := Ct.cv (hap_w q3 false 2 (fun _ => rfl) (lenI h60) false 1 true ha)
                 have cv1 := Ct.cv (hap_w q3 false 2 (fun _ => rfl) (lenI h60) true 1 true hb)
                 have cv2 := Ct.cv (hap_a q3 false 2 (fun _ => rfl) (lenI h60) 3 false hc)
                 have zL := fun S2 => yN3 ⟨(j + 1, q3 ++ [(wb, x)]), glt, g4, len_snoc g5, fun _ => snoc_ne _ _⟩ S2 (by exact Nat.sub_lt_sub_left glt (Nat.lt_succ_self j))
                 exact HT.w
               · have hok : okE q3 wb x = false := by rw [hx0]; simp [okE, ha, hlk]
                 rw [hok, if_neg (by decide)] at g4
                 rw [← g4] at h4
                 have F0 := And.intro hx0 <| F0
                 have cv0 := Ct.cv (hap_w q3 false 2 (fun _ => rfl) (lenI h60) false 1 false ha)
                 have zE := (chp_turns (lt := lt) hlen hz hq0 hq1).trans (show (3 : Int) = _ from h4).symm
                 exact HT.w
               · have hok : okE q3 wb x = false := by rw [hx0]; simp [okE, ha, hb, hlk]
                 rw [hok, if_neg (by decide)] at g4
                 rw [← g4] at h4
                 have F0 := And.intro hx0 <| F0
                 have cv0 := Ct.cv (hap_w q3 false 2 (fun _ => rfl) (lenI h60) false 1 true ha)
                 have cv1 := Ct.cv (hap_w q3 false 2 (fun _ => rfl) (lenI h60) true 2 false hb)
                 have zE := (chp_turns (lt := lt) hlen hz hq0 hq1).trans (show (3 : Int) = _ from h4).symm
                 exact HT.w
               · have hok : okE q3 wb x = false := by rw [hx0]; simp [okE, ha, hb, hc, hlk]
                 rw [hok, if_neg (by decide)] at g4
                 rw [← g4] at h4
                 have F0 := And.intro hx0 <| F0
                 have cv0 := Ct.cv (hap_w q3 false 2 (fun _ => rfl) (lenI h60) false 1 true ha)
                 have cv1 := Ct.cv (hap_w q3 false 2 (fun _ => rfl) (lenI h60) true 2 true hb)
                 have cv2 := Ct.cv (hap_a q3 false 2 (fun _ => rfl) (lenI h60) 4 true hc)
                 have zE := (chp_turns (lt := lt) hlen hz hq0 hq1).trans (show (3 : Int) = _ from h4).symm
                 exact HT.w
               · have hok : okE q3 wb x = true := by rw [hx0]; simp [okE, ha, hb, hc, hlk]
                 rw [hok, if_pos rfl] at g4
                 have F0 := And.intro hx0 <| F0
                 have cv0 := Ct.cv (hap_w q3 false 2 (fun _ => rfl) (lenI h60) false 1 true ha)
                 have cv1 := Ct.cv (hap_w q3 false 2 (fun _ => rfl) (lenI h60) true 2 true hb)
                 have cv2 := Ct.cv (hap_a q3 false 2 (fun _ => rfl) (lenI h60) 4 false hc)
                 have zL := fun S2 => yN3 ⟨(j + 1, q3 ++ [(wb, x)]), glt, g4, len_snoc g5, fun _ => snoc_ne _ _⟩ S2 (by exact Nat.sub_lt_sub_left glt (Nat.lt_succ_self j))
                 exact HT.w
               · have hok : okE q3 wb x = false := by rw [hx0]; simp [okE, ha, hlk]
                 rw [hok, if_neg (by decide)] at g4
                 rw [← g4] at h4
                 have F0 := And.intro hx0 <| F0
                 have cv0 := Ct.cv (hap_w q3 false 2 (fun _ => rfl) (lenI h60) false 2 false ha)
                 have zE := (chp_turns (lt := lt) hlen hz hq0 hq1).trans (show (3 : Int) = _ from h4).symm
                 exact HT.w
               · have hok : okE q3 wb x = false := by rw [hx0]; simp [okE, ha, hb, hlk]
                 rw [hok, if_neg (by decide)] at g4
                 rw [← g4] at h4
                 have F0 := And.intro hx0 <| F0
                 have cv0 := Ct.cv (hap_w q3 false 2 (fun _ => rfl) (lenI h60) false 2 true ha)
                 have cv1 := Ct.cv (hap_w q3 false 2 (fun _ => rfl) (lenI h60) true 1 false hb)
                 have zE := (chp_turns (lt := lt) hlen hz hq0 hq1).trans (show (3 : Int) = _ from h4).symm
                 exact HT.w
               · have hok : okE q3 wb x = false := by rw [hx0]; simp [okE, ha, hb, hc, hlk]
                 rw [hok, if_neg (by decide)] at g4
                 rw [← g4] at h4
                 have F0 := And.intro hx0 <| F0
                 have cv0 := Ct.cv (hap_w q3 false 2 (fun _ => rfl) (lenI h60) false 2 true ha)
                 have cv1 := Ct.cv (hap_w q3 false 2 (fun _ => rfl) (lenI h60) true 1 true hb)
                 have cv2 := Ct.cv (hap_a q3 false 2 (fun _ => rfl) (lenI h60) 5 true hc)
                 have zE := (chp_turns (lt := lt) hlen hz hq0 hq1).trans (show (3 : Int) = _ from h4).symm
                 exact HT.w
               · have hok : okE q3 wb x = true := by rw [hx0]; simp [okE, ha, hb, hc, hlk]
                 rw [hok, if_pos rfl] at g4
                 have F0 := And.intro hx0 <| F0
                 have cv0 := Ct.cv (hap_w q3 false 2 (fun _ => rfl) (lenI h60) false 2 true ha)
                 have cv1 := Ct.cv (hap_w q3 false 2 (fun _ => rfl) (lenI h60) true 1 true hb)
                 have cv2 := Ct.cv (hap_a q3 false 2 (fun _ => rfl) (lenI h60) 5 false hc)
                 have zL := fun S2 => yN3 ⟨(j + 1, q3 ++ [(wb, x)]), glt, g4, len_snoc g5, fun _ => snoc_ne _ _⟩ S2 (by exact Nat.sub_lt_sub_left glt (Nat.lt_succ_self j))
                 exact HT.w
               · have hok : okE q3 wb x = false := by rw [hx0]; simp [okE, ha, hlk]
                 rw [hok, if_neg (by decide)] at g4
                 rw [← g4] at h4
                 have F0 := And.intro hx0 <| F0
                 have cv0 := Ct.cv (hap_w q3 false 2 (fun _ => rfl) (lenI h60) false 2 false ha)
                 have zE := (chp_turns (lt := lt) hlen hz hq0 hq1).trans (show (3 : Int) = _ from h4).symm
                 exact HT.w
               · have hok : okE q3 wb x = false := by rw [hx0]; simp [okE, ha, hb, hlk]
                 rw [hok, if_neg (by decide)] at g4
                 rw [← g4] at h4
                 have F0 := And.intro hx0 <| F0
                 have cv0 := Ct.cv (hap_w q3 false 2 (fun _ => rfl) (lenI h60) false 2 true ha)
                 have cv1 := Ct.cv (hap_w q3 false 2 (fun _ => rfl) (lenI h60) true 2 false hb)
                 have zE := (chp_turns (lt := lt) hlen hz hq0 hq1).trans (show (3 : Int) = _ from h4).symm
                 exact HT.w
               · have hok : okE q3 wb x = false := by rw [hx0]; simp [okE, ha, hb, hc, hlk]
                 rw [hok, if_neg (by decide)] at g4
                 rw [← g4] at h4
                 have F0 := And.intro hx0 <| F0
                 have cv0 := Ct.cv (hap_w q3 false 2 (fun _ => rfl) (lenI h60) false 2 true ha)
                 have cv1 := Ct.cv (hap_w q3 false 2 (fun _ => rfl) (lenI h60) true 2 true hb)
                 have cv2 := Ct.cv (hap_a q3 false 2 (fun _ => rfl) (lenI h60) 6 true hc)
                 have zE := (chp_turns (lt := lt) hlen hz hq0 hq1).trans (show (3 : Int) = _ from h4).symm
                 exact HT.w
               · have hok : okE q3 wb x = true := by rw [hx0]; simp [okE, ha, hb, hc, hlk]
                 rw [hok, if_pos rfl] at g4
                 have F0 := And.intro hx0 <| F0
                 have cv0 := Ct.cv (hap_w q3 false 2 (fun _ => rfl) (lenI h60) false 2 true ha)
                 have cv1 := Ct.cv (hap_w q3 false 2 (fun _ => rfl) (lenI h60) true 2 true hb)
                 have cv2 := Ct.cv (hap_a q3 false 2 (fun _ => rfl) (lenI h60) 6 false hc)
                 have zL := fun S2 => yN3 ⟨(j + 1, q3 ++ [(wb, x)]), glt, g4, len_snoc g5, fun _ => snoc_ne _ _⟩ S2 (by exact Nat.sub_lt_sub_left glt (Nat.lt_succ_self j))
                 exact HT.w
               · have hok : okE q3 wb x = true := by rw [hx0]; simp [okE, hlk]
                 rw [hok, if_pos rfl] at g4
                 have F0 := And.intro hx0 <| F0
                 have zL := fun S2 => yN3 ⟨(j + 1, q3 ++ [(wb, x)]), glt, g4, len_snoc g5, fun _ => snoc_ne _ _⟩ S2 (by exact Nat.sub_lt_sub_left glt (Nat.lt_succ_self j))
                 exact HT.w
           · rw [List.drop_eq_nil_of_le (Nat.le_of_eq hln), turnX] at g4
             have gcq := nltI (n := l.length + 1)
             have hne : q3 ≠ [] := g6 (Nat.succ_pos _)
             rw [← g4] at h4
             have hv := evV_own (nm := 204) hne
             have hm := evM_own (nm := 204) hne
             have h60 : q3.length ≤ 60 := b60d g5 hq40 g1 hlr.2
             have hcap := cap16 h60

             have F0 := And.intro gcq <| And.intro hv <| And.intro hm <| And.intro hcap <| F0
             have zL := fun S2 => yN2 ⟨(i + 1, q3), hlt, h4, len_turn g5 h5 hlr.2⟩ S2 (by exact Nat.sub_lt_sub_left hlt (Nat.lt_succ_self i))
             exact HT.w
       · have hcq := ltI hlt
         have hi0 := Int.natCast_nonneg i
         have hg := tRows_get hlt
         obtain ⟨l, hl⟩ : ∃ l, ts.getD i [] = l := ⟨_, rfl⟩
         have hlm : l ∈ ts := hl ▸ getD_mem' hlt
         have hlr := hrng l (by simp [hlm])
         obtain ⟨wb, hwb⟩ : ∃ wb, whoT lt i = wb := ⟨_, rfl⟩
         rw [drop_getD (z := []) hlt, turnsE, hl, hwb, ← turnX_eq] at h4
         rw [hl] at hg
         have hln : (l ++ [0]).length = l.length + 1 := by simp
         have hcl := cap8 (n := l.length) (Nat.le_trans hlr.2 (by decide))
         have hcl2 := cap8 (n := l.length + 1) (Nat.le_trans (Nat.succ_le_succ hlr.2) (by decide))
         have hs1 := wsucc hlt hts
         have hq40 := b60c h5 hlt ht5
         have hv := evV_own (nm := 204) hn2
         have hm := evM_own (nm := 204) hn2
         have h60 : q2.length ≤ 60 := Nat.le_trans hq40 (by decide)
         have hcap := cap16 h60
         have hne := hn2

         have F0 := And.intro hcq <| And.intro hi0 <| And.intro hlt <| And.intro hg <| And.intro hs1 <| And.intro iC_length <| And.intro iC_has <| And.intro iC_pls <| And.intro iC_snoc <| And.intro hcl <| And.intro hcl2 <| And.intro hv <| And.intro hm <| And.intro hcap <| F0
         iterate 12 first
          | (refine sr_k fun zK zhK => ?_; simp only [go_sem, F0]; (repeat' (first | apply And.intro | intro _)))
          | refine zhK _ ?_
          | refine skip_k ?_
          | (refine zhN _ ?_; clear zhN zhM)
          | refine block_k fun zB zbn zbx zbr zbi => ?_
          | refine seq_k fun zN zM zhN zhM => ?_
          | (refine condT_k ?_ ?_; focus (first | rfl | (simp [go_sem, F0]; done)))
         refine join_l (fun w => [(10, .w (.one (.pl (.i (whoI w)))))]) (fun _ => []) (fun w => whoT lt i = w) (fun zN zM zhN zhM => ?_) (fun wc hwc => ?_)
         · rcases lt with _ | _
           · have hw1 := who_f i
             have F0 := And.intro hw1 <| F0
             have zL := fun S2 => zhN (whoT false i) rfl S2
             exact HT.w
           · have hw1 := who_g i
             have F0 := And.intro hw1 <| F0
             have zL := fun S2 => zhN (whoT true i) rfl S2
             exact HT.w
         · rw [hwb] at hwc
           subst hwc
           refine sr_k fun zK zhK => ?_
           simp only [go_sem, F0]
           repeat' (first | apply And.intro | intro _)
           refine zhK _ ?_
           refine block_k fun zB zbn zbx zbr zbi => ?_
           refine loop_b [(70, .w (.one (.pl (.i ((i : Nat) : Int))))), (10, .w (.one (.pl (.i (whoI wb))))), (86, .w (.one (.s 82 [] (l.length + 1) 1))), (87, .w (.one (.pl (.i ((l.length + 1 : Nat) : Int))))), (1, .w (.one (.p 1 []))), (68, .w (.one (.pl (.R false 1 (tRows ts))))), (69, .w (.one (.pl (.i ((ts.length : Nat) : Int)))))] [(82, ⟨true, iC (l ++ [0])⟩), (1, ⟨false, patC bs lt ps p0 p1 ts⟩)] (fun y => [(88, .w (.one (.pl (.i ((y.1.1 : Nat) : Int))))), (3, evV 204 y.1.2)]) (fun y => evM 204 y.1.2) (fun y => l.length + 1 - y.1.1) (⟨(0, q2), Nat.zero_le _, rfl, Nat.le_refl _, fun _ => hne⟩ : {y : Nat × List (Bool × Int) // y.1 ≤ l.length + 1 ∧ turnX y.2 wb ((l ++ [0]).drop y.1) = turnX q2 wb (l ++ [0]) ∧ y.2.length ≤ q2.length + y.1 ∧ (True → y.2 ≠ [])}) ?_ ?_ ?_
           · (simp only [go_sem, leX, List.cons_append, List.nil_append, F0]; try simp)
           · (simp only [go_sem, leX, List.cons_append, List.nil_append, F0]; try simp)
           intro zz zN zM zhN zhM
           simp only [List.cons_append, List.nil_append]
           have yN3 := zhN
           obtain ⟨⟨j, q3⟩, g1, g4, g5, g6⟩ := zz
           simp only at g1 g4 g5 g6
           have hd : (j < l.length + 1 ∧ q3 ≠ []) ∨ j = l.length + 1 := by
            have hn : q3 ≠ [] := g6 trivial
            simp [hn]; omega
           rcases hd with ⟨glt, hne⟩ | rfl
           · have gcq := ltI glt
             have gj := Int.natCast_nonneg j
             have glt2 : j < (l ++ [0]).length := hln ▸ glt
             have glt3 : j < l.length + 1 := glt
             have hjl : j ≤ l.length := Nat.le_of_lt_succ glt
             have gg := iC_get glt2
             obtain ⟨x, hx⟩ : ∃ x, (l ++ [0]).getD j 0 = x := ⟨_, rfl⟩
             have hxr : 0 ≤ x ∧ x ≤ 7 := by
              have hm := hx ▸ getD_mem' (z := (0 : Int)) glt2
              rcases List.mem_append.mp hm with h | h
              · have := scan1_ok hlr.1 x h; omega
              · rw [List.mem_singleton.mp h]; decide
             rw [drop_getD (z := 0) glt2, turnX, hx] at g4
             rw [hx] at gg
             have gs1 := wsucc glt (Nat.le_trans (Nat.succ_le_succ hlr.2) (by decide))
             have hv := evV_own (nm := 204) hne
             have hm := evM_own (nm := 204) hne
             have h60 : q3.length ≤ 60 := b60d g5 hq40 g1 hlr.2
             have hcap := cap16 h60

             have F0 := And.intro gcq <| And.intro gj <| And.intro glt3 <| And.intro hjl <| And.intro gg <| And.intro gs1 <| And.intro hv <| And.intro hm <| And.intro hcap <| F0
             iterate 10 first
              | (refine sr_k fun zK zhK => ?_; simp only [go_sem, F0]; (repeat' (first | apply And.intro | intro _)))
              | refine zhK _ ?_
              | refine skip_k ?_
              | (refine zhN _ ?_; clear zhN zhM)
              | refine block_k fun zB zbn zbx zbr zbi => ?_
              | refine seq_k fun zN zM zhN zhM => ?_
              | (refine condT_k ?_ ?_; focus (first | rfl | (simp [go_sem, F0]; done)))
             refine join_l (fun w => [(13, .w (.one (.pl (.b w))))]) (fun _ => []) (fun w => locksE q3 = w) (fun zN zM zhN zhM => ?_) (fun lk hlk => ?_)
             · have hd : any q3 3 = true ∨ (any q3 3 = false ∧ any q3 4 = true) ∨ (any q3 3 = false ∧ any q3 4 = false ∧ any q3 5 = true) ∨ (any q3 3 = false ∧ any q3 4 = false ∧ any q3 5 = false ∧ any q3 6 = true) ∨ (any q3 3 = false ∧ any q3 4 = false ∧ any q3 5 = false ∧ any q3 6 = false ∧ any q3 7 = true) ∨ (any q3 3 = false ∧ any q3 4 = false ∧ any q3 5 = false ∧ any q3 6 = false ∧ any q3 7 = false) := by cases any q3 3 <;> cases any q3 4 <;> cases any q3 5 <;> cases any q3 6 <;> cases any q3 7 <;> simp
               rcases hd with h3 | ⟨h3, h4'⟩ | ⟨h3, h4', h5⟩ | ⟨h3, h4', h5, h6⟩ | ⟨h3, h4', h5, h6, h7⟩ | ⟨h3, h4', h5, h6, h7⟩
               · skip
                 have cv0 := Ct.cv (hap_a q3 false 2 (fun _ => rfl) (lenI h60) 3 true h3)
                 have zL := fun S2 => zhN true (by rw [locksE, h3]; simp) S2
                 exact HT.w
               · skip
                 have cv0 := Ct.cv (hap_a q3 false 2 (fun _ => rfl) (lenI h60) 3 false h3)
                 have cv1 := Ct.cv (hap_a q3 false 2 (fun _ => rfl) (lenI h60) 4 true h4')
                 have zL := fun S2 => zhN true (by rw [locksE, h3, h4']; simp) S2
                 exact HT.w
               · skip
                 have cv0 := Ct.cv (hap_a q3 false 2 (fun _ => rfl) (lenI h60) 3 false h3)
                 have cv1 := Ct.cv (hap_a q3 false 2 (fun _ => rfl) (lenI h60) 4 false h4')
                 have cv2 := Ct.cv (hap_a q3 false 2 (fun _ => rfl) (lenI h60) 5 true h5)
                 have zL := fun S2 => zhN true (by rw [locksE, h3, h4', h5]; simp) S2
                 exact HT.w
               · skip
                 have cv0 := Ct.cv (hap_a q3 false 2 (fun _ => rfl) (lenI h60) 3 false h3)
                 have cv1 := Ct.cv (hap_a q3 false 2 (fun _ => rfl) (lenI h60) 4 false h4')
                 have cv2 := Ct.cv (hap_a q3 false 2 (fun _ => rfl) (lenI h60) 5 false h5)
                 have cv3 := Ct.cv (hap_a q3 false 2 (fun _ => rfl) (lenI h60) 6 true h6)
                 have zL := fun S2 => zhN true (by rw [locksE, h3, h4', h5, h6]; simp) S2
                 exact HT.w
               · skip
                 have cv0 := Ct.cv (hap_a q3 false 2 (fun _ => rfl) (lenI h60) 3 false h3)
                 have cv1 := Ct.cv (hap_a q3 false 2 (fun _ => rfl) (lenI h60) 4 false h4')
                 have cv2 := Ct.cv (hap_a q3 false 2 (fun _ => rfl) (lenI h60) 5 false h5)
                 have cv3 := Ct.cv (hap_a q3 false 2 (fun _ => rfl) (lenI h60) 6 false h6)
                 have cv4 := Ct.cv (hap_a q3 false 2 (fun _ => rfl) (lenI h60) 7 true h7)
                 have zL := fun S2 => zhN true (by rw [locksE, h3, h4', h5, h6, h7]; simp) S2
                 exact HT.w
               · skip
                 have cv0 := Ct.cv (hap_a q3 false 2 (fun _ => rfl) (lenI h60) 3 false h3)
                 have cv1 := Ct.cv (hap_a q3 false 2 (fun _ => rfl) (lenI h60) 4 false h4')
                 have cv2 := Ct.cv (hap_a q3 false 2 (fun _ => rfl) (lenI h60) 5 false h5)
                 have cv3 := Ct.cv (hap_a q3 false 2 (fun _ => rfl) (lenI h60) 6 false h6)
                 have cv4 := Ct.cv (hap_a q3 false 2 (fun _ => rfl) (lenI h60) 7 false h7)
                 have zL := fun S2 => zhN false (by rw [locksE, h3, h4', h5, h6, h7]; simp) S2
                 exact HT.w
             · skip
               rcases (tok_split lk (lockM q3 wb) (hap q3 wb 1) (hap q3 wb 2) (hap q3 false 1) (hap q3 true 1) (hap q3 false 2) (hap q3 true 2) (any q3 3) (any q3 4) (any q3 5) (any q3 6) hxr : (x = 0 ∧ lk = false) ∨ (x = 0 ∧ lk = true ∧ lockM q3 wb = true) ∨ (x = 0 ∧ lk = true ∧ lockM q3 wb = false) ∨ (x = 1 ∧ hap q3 wb 1 = false) ∨ (x = 1 ∧ hap q3 wb 1 = true) ∨ (x = 2 ∧ hap q3 wb 2 = true) ∨ (x = 2 ∧ hap q3 wb 2 = false ∧ lk = false) ∨ (x = 2 ∧ hap q3 wb 2 = false ∧ lk = true ∧ lockM q3 wb = true) ∨ (x = 2 ∧ hap q3 wb 2 = false ∧ lk = true ∧ lockM q3 wb = false) ∨ (x = 3 ∧ hap q3 false 1 = false) ∨ (x = 3 ∧ hap q3 false 1 = true ∧ hap q3 true 1 = false) ∨ (x = 3 ∧ hap q3 false 1 = true ∧ hap q3 true 1 = true ∧ any q3 3 = true) ∨ (x = 3 ∧ hap q3 false 1 = true ∧ hap q3 true 1 = true ∧ any q3 3 = false) ∨ (x = 4 ∧ hap q3 false 1 = false) ∨ (x = 4 ∧ hap q3 false 1 = true ∧ hap q3 true 2 = false) ∨ (x = 4 ∧ hap q3 false 1 = true ∧ hap q3 true 2 = true ∧ any q3 4 = true) ∨ (x = 4 ∧ hap q3 false 1 = true ∧ hap q3 true 2 = true ∧ any q3 4 = false) ∨ (x = 5 ∧ hap q3 false 2 = false) ∨ (x = 5 ∧ hap q3 false 2 = true ∧ hap q3 true 1 = false) ∨ (x = 5 ∧ hap q3 false 2 = true ∧ hap q3 true 1 = true ∧ any q3 5 = true) ∨ (x = 5 ∧ hap q3 false 2 = true ∧ hap q3 true 1 = true ∧ any q3 5 = false) ∨ (x = 6 ∧ hap q3 false 2 = false) ∨ (x = 6 ∧ hap q3 false 2 = true ∧ hap q3 true 2 = false) ∨ (x = 6 ∧ hap q3 false 2 = true ∧ hap q3 true 2 = true ∧ any q3 6 = true) ∨ (x = 6 ∧ hap q3 false 2 = true ∧ hap q3 true 2 = true ∧ any q3 6 = false) ∨ x = 7) with ⟨hx0, hk⟩ | ⟨hx0, hk, hm_⟩ | ⟨hx0, hk, hm_⟩ | ⟨hx0, ha⟩ | ⟨hx0, ha⟩ | ⟨hx0, ha⟩ | ⟨hx0, ha, hk⟩ | ⟨hx0, ha, hk, hm_⟩ | ⟨hx0, ha, hk, hm_⟩ | ⟨hx0, ha⟩ | ⟨hx0, ha, hb⟩ | ⟨hx0, ha, hb, hc⟩ | ⟨hx0, ha, hb, hc⟩ | ⟨hx0, ha⟩ | ⟨hx0, ha, hb⟩ | ⟨hx0, ha, hb, hc⟩ | ⟨hx0, ha, hb, hc⟩ | ⟨hx0, ha⟩ | ⟨hx0, ha, hb⟩ | ⟨hx0, ha, hb, hc⟩ | ⟨hx0, ha, hb, hc⟩ | ⟨hx0, ha⟩ | ⟨hx0, ha, hb⟩ | ⟨hx0, ha, hb, hc⟩ | ⟨hx0, ha, hb, hc⟩ | hx0
               · have hok : okE q3 wb x = true := by rw [hx0]; simp [okE, hk, hlk]
                 rw [hok, if_pos rfl] at g4
                 have F0 := And.intro hx0 <| And.intro hk <| F0
                 have zL := fun S2 => yN3 ⟨(j + 1, q3 ++ [(wb, x)]), glt, g4, len_snoc g5, fun _ => snoc_ne _ _⟩ S2 (by exact Nat.sub_lt_sub_left glt (Nat.lt_succ_self j))
                 exact HT.w
               · have hok : okE q3 wb x = true := by rw [hx0]; simp [okE, hk, hm_, hlk]
                 rw [hok, if_pos rfl] at g4
                 have F0 := And.intro hx0 <| And.intro hk <| F0
                 have cv0 := Ct.cv (may_w q3 false 2 (fun _ => rfl) (lenI h60) wb true hm_)
                 have zL := fun S2 => yN3 ⟨(j + 1, q3 ++ [(wb, x)]), glt, g4, len_snoc g5, fun _ => snoc_ne _ _⟩ S2 (by exact Nat.sub_lt_sub_left glt (Nat.lt_succ_self j))
                 exact HT.w
               · have hok : okE q3 wb x = false := by rw [hx0]; simp [okE, hk, hm_, hlk]
                 rw [hok, if_neg (by decide)] at g4
                 rw [← g4] at h4
                 have F0 := And.intro hx0 <| And.intro hk <| F0
                 have cv0 := Ct.cv (may_w q3 false 2 (fun _ => rfl) (lenI h60) wb false hm_)
                 have zE := (chp_turns (lt := lt) hlen hz hq0 hq1).trans (show (3 : Int) = _ from h4).symm
                 exact HT.w
               · have hok : okE q3 wb x = true := by rw [hx0]; simp [okE, ha, hlk]
                 rw [hok, if_pos rfl] at g4
                 have F0 := And.intro hx0 <| F0
                 have cv0 := Ct.cv (hap_w q3 false 2 (fun _ => rfl) (lenI h60) wb 1 false ha)
                 have zL := fun S2 => yN3 ⟨(j + 1, q3 ++ [(wb, x)]), glt, g4, len_snoc g5, fun _ => snoc_ne _ _⟩ S2 (by exact Nat.sub_lt_sub_left glt (Nat.lt_succ_self j))
                 exact HT.w
               · have hok : okE q3 wb x = false := by rw [hx0]; simp [okE, ha, hlk]
                 rw [hok, if_neg (by decide)] at g4
                 rw [← g4] at h4
                 have F0 := And.intro hx0 <| F0
                 have cv0 := Ct.cv (hap_w q3 false 2 (fun _ => rfl) (lenI h60) wb 1 true ha)
                 have zE := (chp_turns (lt := lt) hlen hz hq0 hq1).trans (show (3 : Int) = _ from h4).symm
                 exact HT.w
               · have hok : okE q3 wb x = false := by rw [hx0]; simp [okE, ha, hlk]
                 rw [hok, if_neg (by decide)] at g4
                 rw [← g4] at h4
                 have F0 := And.intro hx0 <| F0
                 have cv0 := Ct.cv (hap_w q3 false 2 (fun _ => rfl) (lenI h60) wb 2 true ha)
                 have zE := (chp_turns (lt := lt) hlen hz hq0 hq1).trans (show (3 : Int) = _ from h4).symm
                 exact HT.w
               · have hok : okE q3 wb x = true := by rw [hx0]; simp [okE, ha, hk, hlk]
                 rw [hok, if_pos rfl] at g4
                 have F0 := And.intro hx0 <| And.intro hk <| F0
                 have cv0 := Ct.cv (hap_w q3 false 2 (fun _ => rfl) (lenI h60) wb 2 false ha)
                 have zL := fun S2 => yN3 ⟨(j + 1, q3 ++ [(wb, x)]), glt, g4, len_snoc g5, fun _ => snoc_ne _ _⟩ S2 (by exact Nat.sub_lt_sub_left glt (Nat.lt_succ_self j))
                 exact HT.w
               · have hok : okE q3 wb x = true := by rw [hx0]; simp [okE, ha, hk, hm_, hlk]
                 rw [hok, if_pos rfl] at g4
                 have F0 := And.intro hx0 <| And.intro hk <| F0
                 have cv0 := Ct.cv (hap_w q3 false 2 (fun _ => rfl) (lenI h60) wb 2 false ha)
                 have cv1 := Ct.cv (may_w q3 false 2 (fun _ => rfl) (lenI h60) wb true hm_)
                 have zL := fun S2 => yN3 ⟨(j + 1, q3 ++ [(wb, x)]), glt, g4, len_snoc g5, fun _ => snoc_ne _ _⟩ S2 (by exact Nat.sub_lt_sub_left glt (Nat.lt_succ_self j))
                 exact HT.w
               · have hok : okE q3 wb x = false := by rw [hx0]; simp [okE, ha, hk, hm_, hlk]
                 rw [hok, if_neg (by decide)] at g4
                 rw [← g4] at h4
                 have F0 := And.intro hx0 <| And.intro hk <| F0
                 have cv0 := Ct.cv (hap_w q3 false 2 (fun _ => rfl) (lenI h60) wb 2 false ha)
                 have cv1 := Ct.cv (may_w q3 false 2 (fun _ => rfl) (lenI h60) wb false hm_)
                 have zE := (chp_turns (lt := lt) hlen hz hq0 hq1).trans (show (3 : Int) = _ from h4).symm
                 exact HT.w
               · have hok : okE q3 wb x = false := by rw [hx0]; simp [okE, ha, hlk]
                 rw [hok, if_neg (by decide)] at g4
                 rw [← g4] at h4
                 have F0 := And.intro hx0 <| F0
                 have cv0 := Ct.cv (hap_w q3 false 2 (fun _ => rfl) (lenI h60) false 1 false ha)
                 have zE := (chp_turns (lt := lt) hlen hz hq0 hq1).trans (show (3 : Int) = _ from h4).symm
                 exact HT.w
               · have hok : okE q3 wb x = false := by rw [hx0]; simp [okE, ha, hb, hlk]
                 rw [hok, if_neg (by decide)] at g4
                 rw [← g4] at h4
                 have F0 := And.intro hx0 <| F0
                 have cv0 := Ct.cv (hap_w q3 false 2 (fun _ => rfl) (lenI h60) false 1 true ha)
                 have cv1 := Ct.cv (hap_w q3 false 2 (fun _ => rfl) (lenI h60) true 1 false hb)
                 have zE := (chp_turns (lt := lt) hlen hz hq0 hq1).trans (show (3 : Int) = _ from h4).symm
                 exact HT.w
               · have hok : okE q3 wb x = false := by rw [hx0]; simp [okE, ha, hb, hc, hlk]
                 rw [hok, if_neg (by decide)] at g4
                 rw [← g4] at h4
                 have F0 := And.intro hx0 <| F0
                 have cv0 := Ct.cv (hap_w q3 false 2 (fun _ => rfl) (lenI h60) false 1 true ha)
                 have cv1 := Ct.cv (hap_w q3 false 2 (fun _ => rfl) (lenI h60) true 1 true hb)
                 have cv2 := Ct.cv (hap_a q3 false 2 (fun _ => rfl) (lenI h60) 3 true hc)
                 have zE := (chp_turns (lt := lt) hlen hz hq0 hq1).trans (show (3 : Int) = _ from h4).symm
                 exact HT.w
               · have hok : okE q3 wb x = true := by rw [hx0]; simp [okE, ha, hb, hc, hlk]
                 rw [hok, if_pos rfl] at g4
                 have F0 := And.intro hx0 <| F0
                 have cv0 := Ct.cv (hap_w q3 false 2 (fun _ => rfl) (lenI h60) false 1 true ha)
                 have cv1 := Ct.cv (hap_w q3 false 2 (fun _ => rfl) (lenI h60) true 1 true hb)
                 have cv2 := Ct.cv (hap_a q3 false 2 (fun _ => rfl) (lenI h60) 3 false hc)
                 have zL := fun S2 => yN3 ⟨(j + 1, q3 ++ [(wb, x)]), glt, g4, len_snoc g5, fun _ => snoc_ne _ _⟩ S2 (by exact Nat.sub_lt_sub_left glt (Nat.lt_succ_self j))
                 exact HT.w
               · have hok : okE q3 wb x = false := by rw [hx0]; simp [okE, ha, hlk]
                 rw [hok, if_neg (by decide)] at g4
                 rw [← g4] at h4
                 have F0 := And.intro hx0 <| F0
                 have cv0 := Ct.cv (hap_w q3 false 2 (fun _ => rfl) (lenI h60) false 1 false ha)
                 have zE := (chp_turns (lt := lt) hlen hz hq0 hq1).trans (show (3 : Int) = _ from h4).symm
                 exact HT.w
               · have hok : okE q3 wb x = false := by rw [hx0]; simp [okE, ha, hb, hlk]
                 rw [hok, if_neg (by decide)] at g4
                 rw [← g4] at h4
                 have F0 := And.intro hx0 <| F0
                 have cv0 := Ct.cv (hap_w q3 false 2 (fun _ => rfl) (lenI h60) false 1 true ha)
                 have cv1 := Ct.cv (hap_w q3 false 2 (fun _ => rfl) (lenI h60) true 2 false hb)
                 have zE := (chp_turns (lt := lt) hlen hz hq0 hq1).trans (show (3 : Int) = _ from h4).symm
                 exact HT.w
               · have hok : okE q3 wb x = false := by rw [hx0]; simp [okE, ha, hb, hc, hlk]
                 rw [hok, if_neg (by decide)] at g4
                 rw [← g4] at h4
                 have F0 := And.intro hx0 <| F0
                 have cv0 := Ct.cv (hap_w q3 false 2 (fun _ => rfl) (lenI h60) false 1 true ha)
                 have cv1 := Ct.cv (hap_w q3 false 2 (fun _ => rfl) (lenI h60) true 2 true hb)
                 have cv2 := Ct.cv (hap_a q3 false 2 (fun _ => rfl) (lenI h60) 4 true hc)
                 have zE := (chp_turns (lt := lt) hlen hz hq0 hq1).trans (show (3 : Int) = _ from h4).symm
                 exact HT.w
               · have hok : okE q3 wb x = true := by rw [hx0]; simp [okE, ha, hb, hc, hlk]
                 rw [hok, if_pos rfl] at g4
                 have F0 := And.intro hx0 <| F0
                 have cv0 := Ct.cv (hap_w q3 false 2 (fun _ => rfl) (lenI h60) false 1 true ha)
                 have cv1 := Ct.cv (hap_w q3 false 2 (fun _ => rfl) (lenI h60) true 2 true hb)
                 have cv2 := Ct.cv (hap_a q3 false 2 (fun _ => rfl) (lenI h60) 4 false hc)
                 have zL := fun S2 => yN3 ⟨(j + 1, q3 ++ [(wb, x)]), glt, g4, len_snoc g5, fun _ => snoc_ne _ _⟩ S2 (by exact Nat.sub_lt_sub_left glt (Nat.lt_succ_self j))
                 exact HT.w
               · have hok : okE q3 wb x = false := by rw [hx0]; simp [okE, ha, hlk]
                 rw [hok, if_neg (by decide)] at g4
                 rw [← g4] at h4
                 have F0 := And.intro hx0 <| F0
                 have cv0 := Ct.cv (hap_w q3 false 2 (fun _ => rfl) (lenI h60) false 2 false ha)
                 have zE := (chp_turns (lt := lt) hlen hz hq0 hq1).trans (show (3 : Int) = _ from h4).symm
                 exact HT.w
               · have hok : okE q3 wb x = false := by rw [hx0]; simp [okE, ha, hb, hlk]
                 rw [hok, if_neg (by decide)] at g4
                 rw [← g4] at h4
                 have F0 := And.intro hx0 <| F0
                 have cv0 := Ct.cv (hap_w q3 false 2 (fun _ => rfl) (lenI h60) false 2 true ha)
                 have cv1 := Ct.cv (hap_w q3 false 2 (fun _ => rfl) (lenI h60) true 1 false hb)
                 have zE := (chp_turns (lt := lt) hlen hz hq0 hq1).trans (show (3 : Int) = _ from h4).symm
                 exact HT.w
               · have hok : okE q3 wb x = false := by rw [hx0]; simp [okE, ha, hb, hc, hlk]
                 rw [hok, if_neg (by decide)] at g4
                 rw [← g4] at h4
                 have F0 := And.intro hx0 <| F0
                 have cv0 := Ct.cv (hap_w q3 false 2 (fun _ => rfl) (lenI h60) false 2 true ha)
                 have cv1 := Ct.cv (hap_w q3 false 2 (fun _ => rfl) (lenI h60) true 1 true hb)
                 have cv2 := Ct.cv (hap_a q3 false 2 (fun _ => rfl) (lenI h60) 5 true hc)
                 have zE := (chp_turns (lt := lt) hlen hz hq0 hq1).trans (show (3 : Int) = _ from h4).symm
                 exact HT.w
               · have hok : okE q3 wb x = true := by rw [hx0]; simp [okE, ha, hb, hc, hlk]
                 rw [hok, if_pos rfl] at g4
                 have F0 := And.intro hx0 <| F0
                 have cv0 := Ct.cv (hap_w q3 false 2 (fun _ => rfl) (lenI h60) false 2 true ha)
                 have cv1 := Ct.cv (hap_w q3 false 2 (fun _ => rfl) (lenI h60) true 1 true hb)
                 have cv2 := Ct.cv (hap_a q3 false 2 (fun _ => rfl) (lenI h60) 5 false hc)
                 have zL := fun S2 => yN3 ⟨(j + 1, q3 ++ [(wb, x)]), glt, g4, len_snoc g5, fun _ => snoc_ne _ _⟩ S2 (by exact Nat.sub_lt_sub_left glt (Nat.lt_succ_self j))
                 exact HT.w
               · have hok : okE q3 wb x = false := by rw [hx0]; simp [okE, ha, hlk]
                 rw [hok, if_neg (by decide)] at g4
                 rw [← g4] at h4
                 have F0 := And.intro hx0 <| F0
                 have cv0 := Ct.cv (hap_w q3 false 2 (fun _ => rfl) (lenI h60) false 2 false ha)
                 have zE := (chp_turns (lt := lt) hlen hz hq0 hq1).trans (show (3 : Int) = _ from h4).symm
                 exact HT.w
               · have hok : okE q3 wb x = false := by rw [hx0]; simp [okE, ha, hb, hlk]
                 rw [hok, if_neg (by decide)] at g4
                 rw [← g4] at h4
                 have F0 := And.intro hx0 <| F0
                 have cv0 := Ct.cv (hap_w q3 false 2 (fun _ => rfl) (lenI h60) false 2 true ha)
                 have cv1 := Ct.cv (hap_w q3 false 2 (fun _ => rfl) (lenI h60) true 2 false hb)
                 have zE := (chp_turns (lt := lt) hlen hz hq0 hq1).trans (show (3 : Int) = _ from h4).symm
                 exact HT.w
               · have hok : okE q3 wb x = false := by rw [hx0]; simp [okE, ha, hb, hc, hlk]
                 rw [hok, if_neg (by decide)] at g4
                 rw [← g4] at h4
                 have F0 := And.intro hx0 <| F0
                 have cv0 := Ct.cv (hap_w q3 false 2 (fun _ => rfl) (lenI h60) false 2 true ha)
                 have cv1 := Ct.cv (hap_w q3 false 2 (fun _ => rfl) (lenI h60) true 2 true hb)
                 have cv2 := Ct.cv (hap_a q3 false 2 (fun _ => rfl) (lenI h60) 6 true hc)
                 have zE := (chp_turns (lt := lt) hlen hz hq0 hq1).trans (show (3 : Int) = _ from h4).symm
                 exact HT.w
               · have hok : okE q3 wb x = true := by rw [hx0]; simp [okE, ha, hb, hc, hlk]
                 rw [hok, if_pos rfl] at g4
                 have F0 := And.intro hx0 <| F0
                 have cv0 := Ct.cv (hap_w q3 false 2 (fun _ => rfl) (lenI h60) false 2 true ha)
                 have cv1 := Ct.cv (hap_w q3 false 2 (fun _ => rfl) (lenI h60) true 2 true hb)
                 have cv2 := Ct.cv (hap_a q3 false 2 (fun _ => rfl) (lenI h60) 6 false hc)
                 have zL := fun S2 => yN3 ⟨(j + 1, q3 ++ [(wb, x)]), glt, g4, len_snoc g5, fun _ => snoc_ne _ _⟩ S2 (by exact Nat.sub_lt_sub_left glt (Nat.lt_succ_self j))
                 exact HT.w
               · have hok : okE q3 wb x = true := by rw [hx0]; simp [okE, hlk]
                 rw [hok, if_pos rfl] at g4
                 have F0 := And.intro hx0 <| F0
                 have zL := fun S2 => yN3 ⟨(j + 1, q3 ++ [(wb, x)]), glt, g4, len_snoc g5, fun _ => snoc_ne _ _⟩ S2 (by exact Nat.sub_lt_sub_left glt (Nat.lt_succ_self j))
                 exact HT.w
           · rw [List.drop_eq_nil_of_le (Nat.le_of_eq hln), turnX] at g4
             have gcq := nltI (n := l.length + 1)
             have hne : q3 ≠ [] := g6 trivial
             rw [← g4] at h4
             have hv := evV_own (nm := 204) hne
             have hm := evM_own (nm := 204) hne
             have h60 : q3.length ≤ 60 := b60d g5 hq40 g1 hlr.2
             have hcap := cap16 h60

             have F0 := And.intro gcq <| And.intro hv <| And.intro hm <| And.intro hcap <| F0
             have zL := fun S2 => yN2 ⟨(i + 1, q3), hlt, h4, len_turn g5 h5 hlr.2⟩ S2 (by exact Nat.sub_lt_sub_left hlt (Nat.lt_succ_self i))
             exact HT.w
       · rw [List.drop_length, turnsE] at h4
         have hcq := nltI (n := ts.length)
         have F0 := And.intro hcq <| F0
         have zE := (chp_turns (lt := lt) hlen hz hq0 hq1).trans h4.symm
         exact HT.w
end Go.Sy

