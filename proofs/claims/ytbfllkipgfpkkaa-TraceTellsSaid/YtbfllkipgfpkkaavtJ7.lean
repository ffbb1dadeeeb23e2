/- Walks: a pattern is checked. -/
import Derived.Test.YtbfllkipgfpkkaavtJ6
import Derived.Test.YtbfllkipgfpkkaavE3
set_option linter.unusedVariables false
set_option linter.unusedSimpArgs false
namespace Go.Sy
open Go.Proofs
attribute [local irreducible] atCall HT runOps runD onC onE onO onG goV goA goS onSt onGuard
set_option maxHeartbeats 1600000 in
set_option maxRecDepth 100000 in
theorem pcheck_f (bs : List UInt8) (ps : List (List PL)) (p0 p1 : List Int) (ts : List (List Int)) (h1 : ¬ ((ts.length : Nat) : Int) < 1) (h2 : ¬ (5 : Int) < ((ts.length : Nat) : Int)) :
 Ct Try.prog 7 [.w (.agg (patC bs false ps p0 p1 ts))] (fun v m => v = .w (.one (.pl (.i (checkJ false p0 p1 ts))))) := by
 have hlen : ¬ (ts.length < 1 ∨ 5 < ts.length) := by omega
 have hbb : (2 + ts.length) * 24 ≤ 140737488355328 := by omega
 have F0 := And.intro patC.eq_1 <| And.intro tRows_length <| And.intro iRows_length <| And.intro h1 <| And.intro h2 <| And.intro hbb <| And.intro allC_eq <| And.intro allC_has <| allC_length
 refine Ct.k Try.func7 rfl Try.ntmps7 (congrArg Array.toList Try.results7) (by simp) fun w0 ro => ?_
 refine top_k fun zZ zhZ => ?_
 refine sr_k fun zK zhK => ?_
 simp only [go_sem, F0]
 repeat' (first | apply And.intro | intro _)
 refine zhK _ ?_
 refine seq_k fun zN zM zhN zhM => ?_
 refine sr_k fun zK zhK => ?_
 simp only [go_sem, F0]
 repeat' (first | apply And.intro | intro _)
 refine zhK _ ?_
 (refine condF_k ?_ ?_; focus (first | rfl | (simp [go_sem, F0]; done)))
 refine skip_k ?_
 refine zhN _ ?_; clear zhN zhM
 refine seq_k fun zN zM zhN zhM => ?_
 refine sd_k (id := 3) [27, 28, 29, 30, 31, 32, 33, 34, 35] [0, 0, 2, 7, 0, 16, 63, 127, 0] [(3, 4), (3, 5), (3, 8), (6, 8)] mixed (by kernel_rfl) (by simp only [go_sem]) fun zK zhK => ?_
 simp only [go_sem, F0]
 repeat' (first | apply And.intro | intro _)
 refine zhK _ _ ?_ ?_
 focus (first | trivial | (simp only [go_sem]; done) | (simp only [go_sem]; simp; done) | (simp only [go_sem]; simp; simp only [go_sem]))
 refine block_k fun zB zbn zbx zbr zbi => ?_
 refine loop_k (fun y => [(35, .w (.one (.pl (.i ((y.1 : Nat) : Int)))))]) (fun _ => []) (fun y => (2 + ts.length) - y.1) (⟨0, Nat.zero_le _, rfl⟩ : {y : Nat // y ≤ (2 + ts.length) ∧ scan ((p0 :: p1 :: ts).drop y) = scan (p0 :: p1 :: ts)}) ?_ ?_ ?_
 · (simp only [go_sem, leX, List.cons_append, List.nil_append, F0]; try simp)
 · (simp only [go_sem, leX, List.cons_append, List.nil_append, F0]; try simp)
 intro yy zN zM zhN zhM
 simp only [List.cons_append, List.nil_append]
 have yN0 := zhN
 obtain ⟨i, h1, h4⟩ := yy
 have hd : (i < (2 + ts.length) ∧ 6 < ((p0 :: p1 :: ts).getD i []).length) ∨ (i < (2 + ts.length) ∧ ¬ 6 < ((p0 :: p1 :: ts).getD i []).length) ∨ i = (2 + ts.length) := by omega
 rcases hd with ⟨hlt, hlg⟩ | ⟨hlt, hlg⟩ | rfl
 · try simp only at h1 h4
   have hcq : ((i : Nat) : Int) < ((2 + ts.length : Nat) : Int) := by omega
   have hi0 : (0 : Int) ≤ ((i : Nat) : Int) := by omega
   have hil : i < (p0 :: p1 :: ts).length := by simp only [List.length_cons]; omega
   have hil3 : i ≤ ts.length + 1 := by omega
   have hg := allC_get hil
   obtain ⟨l, hl⟩ : ∃ l, (p0 :: p1 :: ts).getD i [] = l := ⟨_, rfl⟩
   rw [drop_getD (z := []) hil, scan, hl] at h4
   rw [hl] at hg hlg
   rw [if_pos hlg] at h4
   have hlg2 : (6 : Int) < ((l.length : Nat) : Int) := by omega
   have F0 := And.intro hcq <| And.intro hi0 <| And.intro hil <| And.intro hil3 <| And.intro hlt <| And.intro hg <| And.intro hlg2 <| F0
   have zE := chk_scan (lt := false) hlen h4 (by decide)
   exact HT.w
 · try simp only at h1 h4
   have hcq : ((i : Nat) : Int) < ((2 + ts.length : Nat) : Int) := by omega
   have hi0 : (0 : Int) ≤ ((i : Nat) : Int) := by omega
   have hil : i < (p0 :: p1 :: ts).length := by simp only [List.length_cons]; omega
   have hil3 : i ≤ ts.length + 1 := by omega
   have hg := allC_get hil
   obtain ⟨l, hl⟩ : ∃ l, (p0 :: p1 :: ts).getD i [] = l := ⟨_, rfl⟩
   rw [drop_getD (z := []) hil, scan, hl] at h4
   rw [hl] at hg hlg
   rw [if_neg hlg] at h4
   have hlg2 : ¬ (6 : Int) < ((l.length : Nat) : Int) := by omega
   have F0 := And.intro hcq <| And.intro hi0 <| And.intro hil <| And.intro hil3 <| And.intro hlt <| And.intro hg <| And.intro hlg2 <| F0
   iterate 19 first
    | (refine sr_k fun zK zhK => ?_; simp only [go_sem, F0]; (repeat' (first | apply And.intro | intro _)))
    | refine zhK _ ?_
    | refine skip_k ?_
    | (refine zhN _ ?_; clear zhN zhM)
    | refine block_k fun zB zbn zbx zbr zbi => ?_
    | refine seq_k fun zN zM zhN zhM => ?_
    | (refine condT_k ?_ ?_; focus (first | rfl | (simp [go_sem, F0]; done)))
    | (refine condF_k ?_ ?_; focus (first | rfl | (simp [go_sem, F0]; done)))
   refine loop_k (fun y => [(44, .w (.one (.pl (.i ((y.1 : Nat) : Int)))))]) (fun _ => []) (fun y => l.length - y.1) (⟨0, Nat.zero_le _, rfl⟩ : {y : Nat // y ≤ l.length ∧ scan1 (l.drop y) = scan1 l}) ?_ ?_ ?_
   · (simp only [go_sem, leX, List.cons_append, List.nil_append, F0]; try simp)
   · (simp only [go_sem, leX, List.cons_append, List.nil_append, F0]; try simp)
   intro zz zN zM zhN zhM
   simp only [List.cons_append, List.nil_append]
   have yN1 := zhN
   obtain ⟨j, g1, g4⟩ := zz
   have hd : (j < l.length ∧ l.getD j 0 < 1) ∨ (j < l.length ∧ ¬ l.getD j 0 < 1 ∧ 7 < l.getD j 0) ∨ (j < l.length ∧ ¬ (l.getD j 0 < 1 ∨ 7 < l.getD j 0)) ∨ j = l.length := by omega
   rcases hd with ⟨glt, hbad⟩ | ⟨glt, hbad, hb2⟩ | ⟨glt, hbad⟩ | rfl
   · try simp only at g1 g4
     have gcq : ((j : Nat) : Int) < ((l.length : Nat) : Int) := by omega
     have gj : (0 : Int) ≤ ((j : Nat) : Int) := by omega
     have gg := iRows_get glt
     obtain ⟨x, hx⟩ : ∃ x, l.getD j 0 = x := ⟨_, rfl⟩
     rw [drop_getD (z := 0) glt, scan1, hx] at g4
     rw [hx] at hbad gg
     rw [if_pos (.inl hbad)] at g4
     rw [if_neg (by rw [← g4]; decide), ← g4] at h4
     have F0 := And.intro gcq <| And.intro gj <| And.intro glt <| And.intro gg <| And.intro hbad <| F0
     have zE := chk_scan (lt := false) hlen h4 (by decide)
     exact HT.w
   · try simp only at g1 g4
     have gcq : ((j : Nat) : Int) < ((l.length : Nat) : Int) := by omega
     have gj : (0 : Int) ≤ ((j : Nat) : Int) := by omega
     have gg := iRows_get glt
     obtain ⟨x, hx⟩ : ∃ x, l.getD j 0 = x := ⟨_, rfl⟩
     rw [drop_getD (z := 0) glt, scan1, hx] at g4
     rw [hx] at hbad hb2 gg
     rw [if_pos (.inr hb2)] at g4
     rw [if_neg (by rw [← g4]; decide), ← g4] at h4
     have F0 := And.intro gcq <| And.intro gj <| And.intro glt <| And.intro gg <| And.intro hbad <| And.intro hb2 <| F0
     have zE := chk_scan (lt := false) hlen h4 (by decide)
     exact HT.w
   · try simp only at g1 g4
     have gcq : ((j : Nat) : Int) < ((l.length : Nat) : Int) := by omega
     have gj : (0 : Int) ≤ ((j : Nat) : Int) := by omega
     have gg := iRows_get glt
     obtain ⟨x, hx⟩ : ∃ x, l.getD j 0 = x := ⟨_, rfl⟩
     rw [drop_getD (z := 0) glt, scan1, hx] at g4
     rw [hx] at hbad gg
     rw [if_neg hbad] at g4
     have hb1 : ¬ x < 1 := by omega
     have hb2 : ¬ 7 < x := by omega
     have gs1 : Go.RowKit.wrap64 (((j : Nat) : Int) + 1) = ((j + 1 : Nat) : Int) := wnat (by omega) (by omega)
     have F0 := And.intro gcq <| And.intro gj <| And.intro glt <| And.intro gg <| And.intro hb1 <| And.intro hb2 <| And.intro gs1 <| F0
     have zL := fun S2 => yN1 ⟨j + 1, glt, g4⟩ S2 (by (exact Nat.sub_lt_sub_left glt (Nat.lt_succ_self j)))
     exact HT.w
   · try simp only at g1 g4
     rw [List.drop_length, scan1] at g4
     have gcq : ¬ ((l.length : Nat) : Int) < ((l.length : Nat) : Int) := by omega
     rw [if_pos g4.symm] at h4
     have hs1 : Go.RowKit.wrap64 (((i : Nat) : Int) + 1) = ((i + 1 : Nat) : Int) := wnat (by omega) (by omega)
     have F0 := And.intro gcq <| And.intro hs1 <| F0
     have zL := fun S2 => yN0 ⟨i + 1, hlt, h4⟩ S2 (by (exact Nat.sub_lt_sub_left hlt (Nat.lt_succ_self i)))
     exact HT.w
 · try simp only at h1 h4
   have hcq : ¬ ((2 + ts.length : Nat) : Int) < ((2 + ts.length : Nat) : Int) := by omega
   have hz : scan (p0 :: p1 :: ts) = 0 := by rw [← h4, List.drop_eq_nil_of_le (by simp only [List.length_cons]; omega), scan]
   have hrng := scan_ok hz
   have hp0 := (hrng p0 (by simp)).2
   have hp1 := (hrng p1 (by simp)).2

   have F0 := And.intro hcq <| F0
   iterate 30 first
    | refine rnd_k fun zN zM zhN zhM => ?_
    | (refine sr_k fun zK zhK => ?_; simp only [go_sem, F0]; (repeat' (first | apply And.intro | intro _)))
    | refine zhK _ ?_
    | refine block_k fun zB zbn zbx zbr zbi => ?_
    | (refine zhM _ _ ?_; clear zhN zhM)
    | (refine zhN _ ?_; clear zhN zhM)
    | refine exit_k ?_
    | (refine zbx _ ?_; clear zbn zbx zbr zbi)
    | refine rounds_k (x := .seq (.region 17 _ _) _) 3 ?_
    | refine skip_k ?_
    | refine seq_k fun zN zM zhN zhM => ?_
    | (refine condF_k ?_ ?_; focus (first | rfl | (simp [go_sem, F0]; done)))
    | (refine condT_k ?_ ?_; focus (first | rfl | (simp [go_sem, F0]; done)))
   refine loop_k (fun y => [(66, .w (.one (.pl (.i ((y.1.1 : Nat) : Int)))))]) (fun y => [(57, ⟨false, y.1.2.ls⟩)]) (fun y => p0.length - y.1.1) (⟨(0, Jd.nil), Nat.zero_le _, rfl⟩ : {y : Nat × Jd // y.1 ≤ p0.length ∧ preJ y.2 false (p0.drop y.1) = preJ Jd.nil false p0}) ?_ ?_ ?_
   · (simp only [go_sem, leX, List.cons_append, List.nil_append, F0]; try simp)
   · (simp only [go_sem, leX, List.cons_append, List.nil_append]; first | done | trivial | rfl | simp [Jd.ls, Jd.nil])
   intro zz zN zM zhN zhM
   simp only [List.cons_append, List.nil_append]
   have yN1 := zhN
   obtain ⟨⟨j, q0⟩, g1, g4⟩ := zz
   simp only at g1 g4
   have hd : (j < p0.length ∧ 2 < p0.getD j 0) ∨ (j < p0.length ∧ ¬ 2 < p0.getD j 0 ∧ q0.flag false (p0.getD j 0) = true) ∨ (j < p0.length ∧ ¬ 2 < p0.getD j 0 ∧ q0.flag false (p0.getD j 0) = false) ∨ j = p0.length := by
    cases q0.flag false (p0.getD j 0) <;> simp <;> omega
   rcases hd with ⟨glt, hbad⟩ | ⟨glt, hbad, hfl⟩ | ⟨glt, hbad, hfl⟩ | rfl
   · have gcq : ((j : Nat) : Int) < ((p0.length : Nat) : Int) := by omega
     have gj : (0 : Int) ≤ ((j : Nat) : Int) := by omega
     have gg := iRows_get glt
     obtain ⟨x, hx⟩ : ∃ x, p0.getD j 0 = x := ⟨_, rfl⟩
     have hxr := scan1_ok (hrng p0 (by simp)).1 x (hx ▸ getD_mem' glt)
     rw [drop_getD (z := 0) glt, preJ, hx] at g4
     rw [hx] at gg hbad
     rw [if_pos (.inl hbad)] at g4
     have F0 := And.intro gcq <| And.intro gj <| And.intro glt <| And.intro gg <| And.intro hbad <| F0
     have zE := chk_pre0 (lt := false) hlen hz g4
     exact HT.w
   · have gcq : ((j : Nat) : Int) < ((p0.length : Nat) : Int) := by omega
     have gj : (0 : Int) ≤ ((j : Nat) : Int) := by omega
     have gg := iRows_get glt
     obtain ⟨x, hx⟩ : ∃ x, p0.getD j 0 = x := ⟨_, rfl⟩
     have hxr := scan1_ok (hrng p0 (by simp)).1 x (hx ▸ getD_mem' glt)
     rw [drop_getD (z := 0) glt, preJ, hx] at g4
     rw [hx] at gg hbad
     rw [hx] at hfl
     have ht : x = 1 ∨ x = 2 := by omega
     have hC := toldJ_all q0 false true x ht hfl
     rw [if_pos (.inr hfl)] at g4
     have F0 := And.intro gcq <| And.intro gj <| And.intro glt <| And.intro gg <| And.intro hbad <| F0
     have ch0 := CtM.ch [(500000, 57)] (hC)
     have zE := chk_pre0 (lt := false) hlen hz g4
     exact HT.w
   · have gcq : ((j : Nat) : Int) < ((p0.length : Nat) : Int) := by omega
     have gj : (0 : Int) ≤ ((j : Nat) : Int) := by omega
     have gg := iRows_get glt
     obtain ⟨x, hx⟩ : ∃ x, p0.getD j 0 = x := ⟨_, rfl⟩
     have hxr := scan1_ok (hrng p0 (by simp)).1 x (hx ▸ getD_mem' glt)
     rw [drop_getD (z := 0) glt, preJ, hx] at g4
     rw [hx] at gg hbad
     rw [hx] at hfl
     have ht : x = 1 ∨ x = 2 := by omega
     have hC := toldJ_all q0 false false x ht hfl
     rw [if_neg (by simp [hbad, hfl])] at g4
     have gs1 : Go.RowKit.wrap64 (((j : Nat) : Int) + 1) = ((j + 1 : Nat) : Int) := wnat (by omega) (by omega)
     have F0 := And.intro gcq <| And.intro gj <| And.intro glt <| And.intro gg <| And.intro hbad <| And.intro gs1 <| F0
     have ch0 := CtM.ch [(500000, 57)] (hC)
     have zL := fun S2 => yN1 ⟨(j + 1, q0.tell false x), glt, g4⟩ S2 (by (exact Nat.sub_lt_sub_left glt (Nat.lt_succ_self j)))
     exact HT.w
   · rw [List.drop_length, preJ] at g4
     have gcq : ¬ ((p0.length : Nat) : Int) < ((p0.length : Nat) : Int) := by omega
     have hq0 := g4
     have F0 := And.intro gcq <| F0
     iterate 27 first
      | (refine rnd_forget (x := .seq (.region 17 _ _) _) [8, 9, 11, 61, 62, 63, 64, 65, 66, 67, 68, 69, 70, 71, 72, 73, 74, 75, 76, 77, 78, 79, 80] ?_; simp only [go_sem, St.forget, fgt]; refine rnd_k fun zN zM zhN zhM => ?_)
      | refine zhK _ ?_
      | (refine sr_k fun zK zhK => ?_; simp only [go_sem, F0]; (repeat' (first | apply And.intro | intro _)))
      | (refine zhN _ ?_; clear zhN zhM)
      | (refine zhM _ _ ?_; clear zhN zhM)
      | refine block_k fun zB zbn zbx zbr zbi => ?_
      | refine exit_k ?_
      | (refine zbx _ ?_; clear zbn zbx zbr zbi)
      | (refine zbn _ ?_; clear zbn zbx zbr zbi)
      | (refine region_k fun zK zhK => ?_; simp only [go_sem, F0]; (repeat' (first | apply And.intro | intro _)))
      | refine skip_k ?_
      | refine seq_k fun zN zM zhN zhM => ?_
      | (refine condF_k ?_ ?_; focus (first | rfl | (simp [go_sem, F0]; done)))
      | (refine condT_k ?_ ?_; focus (first | rfl | (simp [go_sem, F0]; done)))
     refine loop_k (fun y => [(66, .w (.one (.pl (.i ((y.1.1 : Nat) : Int)))))]) (fun y => [(57, ⟨false, y.1.2.ls⟩)]) (fun y => p1.length - y.1.1) (⟨(0, q0), Nat.zero_le _, rfl⟩ : {y : Nat × Jd // y.1 ≤ p1.length ∧ preJ y.2 true (p1.drop y.1) = preJ q0 true p1}) ?_ ?_ ?_
     · (simp only [go_sem, leX, List.cons_append, List.nil_append, F0]; try simp)
     · (simp only [go_sem, leX, List.cons_append, List.nil_append]; first | done | trivial | rfl | simp [Jd.ls, Jd.nil])
     intro zz zN zM zhN zhM
     simp only [List.cons_append, List.nil_append]
     have yN2 := zhN
     obtain ⟨⟨j, q1⟩, g1, g4⟩ := zz
     simp only at g1 g4
     have hd : (j < p1.length ∧ 2 < p1.getD j 0) ∨ (j < p1.length ∧ ¬ 2 < p1.getD j 0 ∧ q1.flag true (p1.getD j 0) = true) ∨ (j < p1.length ∧ ¬ 2 < p1.getD j 0 ∧ q1.flag true (p1.getD j 0) = false) ∨ j = p1.length := by
      cases q1.flag true (p1.getD j 0) <;> simp <;> omega
     rcases hd with ⟨glt, hbad⟩ | ⟨glt, hbad, hfl⟩ | ⟨glt, hbad, hfl⟩ | rfl
     · have gcq : ((j : Nat) : Int) < ((p1.length : Nat) : Int) := by omega
       have gj : (0 : Int) ≤ ((j : Nat) : Int) := by omega
       have gg := iRows_get glt
       obtain ⟨x, hx⟩ : ∃ x, p1.getD j 0 = x := ⟨_, rfl⟩
       have hxr := scan1_ok (hrng p1 (by simp)).1 x (hx ▸ getD_mem' glt)
       rw [drop_getD (z := 0) glt, preJ, hx] at g4
       rw [hx] at gg hbad
       rw [if_pos (.inl hbad)] at g4
       have F0 := And.intro gcq <| And.intro gj <| And.intro glt <| And.intro gg <| And.intro hbad <| F0
       have zE := chk_pre1 (lt := false) hlen hz hq0 g4
       exact HT.w
     · have gcq : ((j : Nat) : Int) < ((p1.length : Nat) : Int) := by omega
       have gj : (0 : Int) ≤ ((j : Nat) : Int) := by omega
       have gg := iRows_get glt
       obtain ⟨x, hx⟩ : ∃ x, p1.getD j 0 = x := ⟨_, rfl⟩
       have hxr := scan1_ok (hrng p1 (by simp)).1 x (hx ▸ getD_mem' glt)
       rw [drop_getD (z := 0) glt, preJ, hx] at g4
       rw [hx] at gg hbad
       rw [hx] at hfl
       have ht : x = 1 ∨ x = 2 := by omega
       have hC := toldJ_all q1 true true x ht hfl
       rw [if_pos (.inr hfl)] at g4
       have F0 := And.intro gcq <| And.intro gj <| And.intro glt <| And.intro gg <| And.intro hbad <| F0
       have ch0 := CtM.ch [(500000, 57)] (hC)
       have zE := chk_pre1 (lt := false) hlen hz hq0 g4
       exact HT.w
     · have gcq : ((j : Nat) : Int) < ((p1.length : Nat) : Int) := by omega
       have gj : (0 : Int) ≤ ((j : Nat) : Int) := by omega
       have gg := iRows_get glt
       obtain ⟨x, hx⟩ : ∃ x, p1.getD j 0 = x := ⟨_, rfl⟩
       have hxr := scan1_ok (hrng p1 (by simp)).1 x (hx ▸ getD_mem' glt)
       rw [drop_getD (z := 0) glt, preJ, hx] at g4
       rw [hx] at gg hbad
       rw [hx] at hfl
       have ht : x = 1 ∨ x = 2 := by omega
       have hC := toldJ_all q1 true false x ht hfl
       rw [if_neg (by simp [hbad, hfl])] at g4
       have gs1 : Go.RowKit.wrap64 (((j : Nat) : Int) + 1) = ((j + 1 : Nat) : Int) := wnat (by omega) (by omega)
       have F0 := And.intro gcq <| And.intro gj <| And.intro glt <| And.intro gg <| And.intro hbad <| And.intro gs1 <| F0
       have ch0 := CtM.ch [(500000, 57)] (hC)
       have zL := fun S2 => yN2 ⟨(j + 1, q1.tell true x), glt, g4⟩ S2 (by (exact Nat.sub_lt_sub_left glt (Nat.lt_succ_self j)))
       exact HT.w
     · rw [List.drop_length, preJ] at g4
       have gcq : ¬ ((p1.length : Nat) : Int) < ((p1.length : Nat) : Int) := by omega
       have hq1 := g4
       have F0 := And.intro gcq <| F0
       iterate 27 first
        | (refine rnd_forget (x := .seq (.region 17 _ _) _) [8, 9, 11, 61, 62, 63, 64, 65, 66, 67, 68, 69, 70, 71, 72, 73, 74, 75, 76, 77, 78, 79, 80] ?_; simp only [go_sem, St.forget, fgt]; refine rnd_k fun zN zM zhN zhM => ?_)
        | refine zhK _ ?_
        | (refine zhM _ _ ?_; clear zhN zhM)
        | (refine sr_k fun zK zhK => ?_; simp only [go_sem, F0]; (repeat' (first | apply And.intro | intro _)))
        | (refine zhN _ ?_; clear zhN zhM)
        | refine exit_k ?_
        | (refine zbx _ ?_; clear zbn zbx zbr zbi)
        | (refine zbn _ ?_; clear zbn zbx zbr zbi)
        | (refine region_k fun zK zhK => ?_; simp only [go_sem, F0]; (repeat' (first | apply And.intro | intro _)))
        | refine block_k fun zB zbn zbx zbr zbi => ?_
        | refine seq_k fun zN zM zhN zhM => ?_
        | (refine condF_k ?_ ?_; focus (first | rfl | (simp [go_sem, F0]; done)))
       refine loop_k (fun y => [(84, .w (.one (.pl (.i ((y.1.1 : Nat) : Int)))))]) (fun y => [(57, ⟨false, y.1.2.ls⟩)]) (fun y => ts.length - y.1.1) (⟨(0, q1), Nat.zero_le _, rfl⟩ : {y : Nat × Jd // y.1 ≤ ts.length ∧ turnsJ false y.2 y.1 (ts.drop y.1) = turnsJ false q1 0 ts}) ?_ ?_ ?_
       · (simp only [go_sem, leX, List.cons_append, List.nil_append, F0]; try simp)
       · (simp only [go_sem, leX, List.cons_append, List.nil_append, F0]; try simp)
       intro yy zN zM zhN zhM
       simp only [List.cons_append, List.nil_append]
       have yN3 := zhN
       obtain ⟨⟨i, q2⟩, h1, h4⟩ := yy
       simp only at h1 h4
       rcases (by omega : i < ts.length ∨ i = ts.length) with hlt | rfl
       · have hcq : ((i : Nat) : Int) < ((ts.length : Nat) : Int) := by omega
         have hi0 : (0 : Int) ≤ ((i : Nat) : Int) := by omega
         have hg := tRows_get hlt
         obtain ⟨l, hl⟩ : ∃ l, ts.getD i [] = l := ⟨_, rfl⟩
         have hlm : l ∈ ts := hl ▸ getD_mem' hlt
         have hlr := hrng l (by simp [hlm])
         obtain ⟨wb, hwb⟩ : ∃ wb, whoT false i = wb := ⟨_, rfl⟩
         rw [drop_getD (z := []) hlt, turnsJ, hl, hwb] at h4
         rw [hl] at hg
         have hs1 : Go.RowKit.wrap64 (((i : Nat) : Int) + 1) = ((i + 1 : Nat) : Int) := wnat (by omega) (by omega)
         have hw1 := who_f i
         rw [hwb] at hw1

         have F0 := And.intro hcq <| And.intro hi0 <| And.intro hlt <| And.intro hg <| And.intro hs1 <| And.intro hw1 <| F0
         iterate 22 first
          | (refine sr_k fun zK zhK => ?_; simp only [go_sem, F0]; (repeat' (first | apply And.intro | intro _)))
          | refine zhK _ ?_
          | refine skip_k ?_
          | (refine zhN _ ?_; clear zhN zhM)
          | refine block_k fun zB zbn zbx zbr zbi => ?_
          | refine seq_k fun zN zM zhN zhM => ?_
          | (refine condT_k ?_ ?_; focus (first | rfl | (simp [go_sem, F0]; done)))
          | (refine condF_k ?_ ?_; focus (first | rfl | (simp [go_sem, F0]; done)))
         refine loop_k (fun y => [(97, .w (.one (.pl (.i ((y.1.1 : Nat) : Int)))))]) (fun y => [(57, ⟨false, y.1.2.ls⟩)]) (fun y => l.length - y.1.1) (⟨(0, q2), Nat.zero_le _, rfl⟩ : {y : Nat × Jd // y.1 ≤ l.length ∧ turnJ y.2 wb (l.drop y.1) = turnJ q2 wb l}) ?_ ?_ ?_
         · (simp only [go_sem, leX, List.cons_append, List.nil_append, F0]; try simp)
         · (simp only [go_sem, leX, List.cons_append, List.nil_append, F0]; try simp)
         intro zz zN zM zhN zhM
         simp only [List.cons_append, List.nil_append]
         have yN4 := zhN
         obtain ⟨⟨j, q3⟩, g1, g4⟩ := zz
         simp only at g1 g4
         have hd : (j < l.length ∧ (q3.token wb (l.getD j 0)).1 = false) ∨ (j < l.length ∧ (q3.token wb (l.getD j 0)).1 = true) ∨ (j = l.length ∧ q3.locks = false) ∨ (j = l.length ∧ q3.locks = true ∧ q3.may wb = true) ∨ (j = l.length ∧ q3.locks = true ∧ q3.may wb = false) := by
          cases (q3.token wb (l.getD j 0)).1 <;> cases q3.locks <;> cases q3.may wb <;> simp <;> omega
         rcases hd with ⟨glt, hfl⟩ | ⟨glt, hfl⟩ | ⟨rfl, hlk⟩ | ⟨rfl, hlk, hmy⟩ | ⟨rfl, hlk, hmy⟩
         · have gcq : ((j : Nat) : Int) < ((l.length : Nat) : Int) := by omega
           have gj : (0 : Int) ≤ ((j : Nat) : Int) := by omega
           have gg := iRows_get glt
           obtain ⟨x, hx⟩ : ∃ x, l.getD j 0 = x := ⟨_, rfl⟩
           have hxr := scan1_ok hlr.1 x (hx ▸ getD_mem' glt)
           rw [drop_getD (z := 0) glt, turnJ, hx] at g4
           rw [hx] at gg hfl
           have hC := tok_all q3 wb x hxr.1 hxr.2
           rw [hfl] at hC
           rw [hfl] at g4
           simp only [reduceIte, Bool.false_eq_true] at g4
           rw [← g4] at h4
           have F0 := And.intro gcq <| And.intro gj <| And.intro glt <| And.intro gg <| And.intro hfl <| F0
           have ch0 := CtM.ch [(500000, 57)] (hC)
           have zE := (chk_turns (lt := false) hlen hz hq0 hq1).trans (h4).symm
           exact HT.w
         · have gcq : ((j : Nat) : Int) < ((l.length : Nat) : Int) := by omega
           have gj : (0 : Int) ≤ ((j : Nat) : Int) := by omega
           have gg := iRows_get glt
           obtain ⟨x, hx⟩ : ∃ x, l.getD j 0 = x := ⟨_, rfl⟩
           have hxr := scan1_ok hlr.1 x (hx ▸ getD_mem' glt)
           rw [drop_getD (z := 0) glt, turnJ, hx] at g4
           rw [hx] at gg hfl
           have hC := tok_all q3 wb x hxr.1 hxr.2
           rw [hfl] at hC
           rw [hfl] at g4
           simp only [reduceIte] at g4
           have gs1 : Go.RowKit.wrap64 (((j : Nat) : Int) + 1) = ((j + 1 : Nat) : Int) := wnat (by omega) (by omega)
           have F0 := And.intro gcq <| And.intro gj <| And.intro glt <| And.intro gg <| And.intro hfl <| And.intro gs1 <| F0
           have ch0 := CtM.ch [(500000, 57)] (hC)
           have zL := fun S2 => yN4 ⟨(j + 1, (q3.token wb x).2), glt, g4⟩ S2 (by (exact Nat.sub_lt_sub_left glt (Nat.lt_succ_self j)))
           exact HT.w
         · rw [List.drop_length, turnJ] at g4
           have gcq : ¬ ((l.length : Nat) : Int) < ((l.length : Nat) : Int) := by omega
           have hL := locks_ q3
           rw [hlk] at hL g4
           simp only [Bool.false_and, reduceIte, Bool.false_eq_true] at g4
           rw [← g4] at h4
           have F0 := And.intro gcq <| F0
           have ch0 := CtM.ch [(500000, 57)] (hL)
           have zL := fun S2 => yN3 ⟨(i + 1, q3), hlt, h4⟩ S2 (by (exact Nat.sub_lt_sub_left hlt (Nat.lt_succ_self i)))
           exact HT.w
         · rw [List.drop_length, turnJ] at g4
           have gcq : ¬ ((l.length : Nat) : Int) < ((l.length : Nat) : Int) := by omega
           have hL := locks_ q3
           rw [hlk] at hL g4
           have hM := may_all q3 wb
           rw [hmy] at hM g4
           simp only [Bool.true_and, Bool.not_true, reduceIte, Bool.false_eq_true] at g4
           rw [← g4] at h4
           have F0 := And.intro gcq <| F0
           have ch0 := CtM.ch [(500000, 57)] (hL)
           have ch1 := CtM.ch [(500000, 57)] (hM)
           have zL := fun S2 => yN3 ⟨(i + 1, q3), hlt, h4⟩ S2 (by (exact Nat.sub_lt_sub_left hlt (Nat.lt_succ_self i)))
           exact HT.w
         · rw [List.drop_length, turnJ] at g4
           have gcq : ¬ ((l.length : Nat) : Int) < ((l.length : Nat) : Int) := by omega
           have hL := locks_ q3
           rw [hlk] at hL g4
           have hM := may_all q3 wb
           rw [hmy] at hM g4
           simp only [Bool.true_and, Bool.not_false, reduceIte] at g4
           rw [← g4] at h4
           have F0 := And.intro gcq <| F0
           have ch0 := CtM.ch [(500000, 57)] (hL)
           have ch1 := CtM.ch [(500000, 57)] (hM)
           have zE := (chk_turns (lt := false) hlen hz hq0 hq1).trans (h4).symm
           exact HT.w
       · rw [List.drop_length, turnsJ] at h4
         have hcq : ¬ ((ts.length : Nat) : Int) < ((ts.length : Nat) : Int) := by omega
         have F0 := And.intro hcq <| F0
         have zE := (chk_turns (lt := false) hlen hz hq0 hq1).trans (h4).symm
         exact HT.w
set_option maxHeartbeats 1600000 in
set_option maxRecDepth 100000 in
theorem pcheck_t (bs : List UInt8) (ps : List (List PL)) (p0 p1 : List Int) (ts : List (List Int)) (h1 : ¬ ((ts.length : Nat) : Int) < 1) (h2 : ¬ (5 : Int) < ((ts.length : Nat) : Int)) :
 Ct Try.prog 7 [.w (.agg (patC bs true ps p0 p1 ts))] (fun v m => v = .w (.one (.pl (.i (checkJ true p0 p1 ts))))) := by
 have hlen : ¬ (ts.length < 1 ∨ 5 < ts.length) := by omega
 have hbb : (2 + ts.length) * 24 ≤ 140737488355328 := by omega
 have F0 := And.intro patC.eq_1 <| And.intro tRows_length <| And.intro iRows_length <| And.intro h1 <| And.intro h2 <| And.intro hbb <| And.intro allC_eq <| And.intro allC_has <| allC_length
 refine Ct.k Try.func7 rfl Try.ntmps7 (congrArg Array.toList Try.results7) (by simp) fun w0 ro => ?_
 refine top_k fun zZ zhZ => ?_
 refine sr_k fun zK zhK => ?_
 simp only [go_sem, F0]
 repeat' (first | apply And.intro | intro _)
 refine zhK _ ?_
 refine seq_k fun zN zM zhN zhM => ?_
 refine sr_k fun zK zhK => ?_
 simp only [go_sem, F0]
 repeat' (first | apply And.intro | intro _)
 refine zhK _ ?_
 (refine condF_k ?_ ?_; focus (first | rfl | (simp [go_sem, F0]; done)))
 refine skip_k ?_
 refine zhN _ ?_; clear zhN zhM
 refine seq_k fun zN zM zhN zhM => ?_
 refine sd_k (id := 3) [27, 28, 29, 30, 31, 32, 33, 34, 35] [0, 0, 2, 7, 0, 16, 63, 127, 0] [(3, 4), (3, 5), (3, 8), (6, 8)] mixed (by kernel_rfl) (by simp only [go_sem]) fun zK zhK => ?_
 simp only [go_sem, F0]
 repeat' (first | apply And.intro | intro _)
 refine zhK _ _ ?_ ?_
 focus (first | trivial | (simp only [go_sem]; done) | (simp only [go_sem]; simp; done) | (simp only [go_sem]; simp; simp only [go_sem]))
 refine block_k fun zB zbn zbx zbr zbi => ?_
 refine loop_k (fun y => [(35, .w (.one (.pl (.i ((y.1 : Nat) : Int)))))]) (fun _ => []) (fun y => (2 + ts.length) - y.1) (⟨0, Nat.zero_le _, rfl⟩ : {y : Nat // y ≤ (2 + ts.length) ∧ scan ((p0 :: p1 :: ts).drop y) = scan (p0 :: p1 :: ts)}) ?_ ?_ ?_
 · (simp only [go_sem, leX, List.cons_append, List.nil_append, F0]; try simp)
 · (simp only [go_sem, leX, List.cons_append, List.nil_append, F0]; try simp)
 intro yy zN zM zhN zhM
 simp only [List.cons_append, List.nil_append]
 have yN0 := zhN
 obtain ⟨i, h1, h4⟩ := yy
 have hd : (i < (2 + ts.length) ∧ 6 < ((p0 :: p1 :: ts).getD i []).length) ∨ (i < (2 + ts.length) ∧ ¬ 6 < ((p0 :: p1 :: ts).getD i []).length) ∨ i = (2 + ts.length) := by omega
 rcases hd with ⟨hlt, hlg⟩ | ⟨hlt, hlg⟩ | rfl
 · try simp only at h1 h4
   have hcq : ((i : Nat) : Int) < ((2 + ts.length : Nat) : Int) := by omega
   have hi0 : (0 : Int) ≤ ((i : Nat) : Int) := by omega
   have hil : i < (p0 :: p1 :: ts).length := by simp only [List.length_cons]; omega
   have hil3 : i ≤ ts.length + 1 := by omega
   have hg := allC_get hil
   obtain ⟨l, hl⟩ : ∃ l, (p0 :: p1 :: ts).getD i [] = l := ⟨_, rfl⟩
   rw [drop_getD (z := []) hil, scan, hl] at h4
   rw [hl] at hg hlg
   rw [if_pos hlg] at h4
   have hlg2 : (6 : Int) < ((l.length : Nat) : Int) := by omega
   have F0 := And.intro hcq <| And.intro hi0 <| And.intro hil <| And.intro hil3 <| And.intro hlt <| And.intro hg <| And.intro hlg2 <| F0
   have zE := chk_scan (lt := true) hlen h4 (by decide)
   exact HT.w
 · try simp only at h1 h4
   have hcq : ((i : Nat) : Int) < ((2 + ts.length : Nat) : Int) := by omega
   have hi0 : (0 : Int) ≤ ((i : Nat) : Int) := by omega
   have hil : i < (p0 :: p1 :: ts).length := by simp only [List.length_cons]; omega
   have hil3 : i ≤ ts.length + 1 := by omega
   have hg := allC_get hil
   obtain ⟨l, hl⟩ : ∃ l, (p0 :: p1 :: ts).getD i [] = l := ⟨_, rfl⟩
   rw [drop_getD (z := []) hil, scan, hl] at h4
   rw [hl] at hg hlg
   rw [if_neg hlg] at h4
   have hlg2 : ¬ (6 : Int) < ((l.length : Nat) : Int) := by omega
   have F0 := And.intro hcq <| And.intro hi0 <| And.intro hil <| And.intro hil3 <| And.intro hlt <| And.intro hg <| And.intro hlg2 <| F0
   iterate 19 first
    | (refine sr_k fun zK zhK => ?_; simp only [go_sem, F0]; (repeat' (first | apply And.intro | intro _)))
    | refine zhK _ ?_
    | refine skip_k ?_
    | (refine zhN _ ?_; clear zhN zhM)
    | refine block_k fun zB zbn zbx zbr zbi => ?_
    | refine seq_k fun zN zM zhN zhM => ?_
    | (refine condT_k ?_ ?_; focus (first | rfl | (simp [go_sem, F0]; done)))
    | (refine condF_k ?_ ?_; focus (first | rfl | (simp [go_sem, F0]; done)))
   refine loop_k (fun y => [(44, .w (.one (.pl (.i ((y.1 : Nat) : Int)))))]) (fun _ => []) (fun y => l.length - y.1) (⟨0, Nat.zero_le _, rfl⟩ : {y : Nat // y ≤ l.length ∧ scan1 (l.drop y) = scan1 l}) ?_ ?_ ?_
   · (simp only [go_sem, leX, List.cons_append, List.nil_append, F0]; try simp)
   · (simp only [go_sem, leX, List.cons_append, List.nil_append, F0]; try simp)
   intro zz zN zM zhN zhM
   simp only [List.cons_append, List.nil_append]
   have yN1 := zhN
   obtain ⟨j, g1, g4⟩ := zz
   have hd : (j < l.length ∧ l.getD j 0 < 1) ∨ (j < l.length ∧ ¬ l.getD j 0 < 1 ∧ 7 < l.getD j 0) ∨ (j < l.length ∧ ¬ (l.getD j 0 < 1 ∨ 7 < l.getD j 0)) ∨ j = l.length := by omega
   rcases hd with ⟨glt, hbad⟩ | ⟨glt, hbad, hb2⟩ | ⟨glt, hbad⟩ | rfl
   · try simp only at g1 g4
     have gcq : ((j : Nat) : Int) < ((l.length : Nat) : Int) := by omega
     have gj : (0 : Int) ≤ ((j : Nat) : Int) := by omega
     have gg := iRows_get glt
     obtain ⟨x, hx⟩ : ∃ x, l.getD j 0 = x := ⟨_, rfl⟩
     rw [drop_getD (z := 0) glt, scan1, hx] at g4
     rw [hx] at hbad gg
     rw [if_pos (.inl hbad)] at g4
     rw [if_neg (by rw [← g4]; decide), ← g4] at h4
     have F0 := And.intro gcq <| And.intro gj <| And.intro glt <| And.intro gg <| And.intro hbad <| F0
     have zE := chk_scan (lt := true) hlen h4 (by decide)
     exact HT.w
   · try simp only at g1 g4
     have gcq : ((j : Nat) : Int) < ((l.length : Nat) : Int) := by omega
     have gj : (0 : Int) ≤ ((j : Nat) : Int) := by omega
     have gg := iRows_get glt
     obtain ⟨x, hx⟩ : ∃ x, l.getD j 0 = x := ⟨_, rfl⟩
     rw [drop_getD (z := 0) glt, scan1, hx] at g4
     rw [hx] at hbad hb2 gg
     rw [if_pos (.inr hb2)] at g4
     rw [if_neg (by rw [← g4]; decide), ← g4] at h4
     have F0 := And.intro gcq <| And.intro gj <| And.intro glt <| And.intro gg <| And.intro hbad <| And.intro hb2 <| F0
     have zE := chk_scan (lt := true) hlen h4 (by decide)
     exact HT.w
   · try simp only at g1 g4
     have gcq : ((j : Nat) : Int) < ((l.length : Nat) : Int) := by omega
     have gj : (0 : Int) ≤ ((j : Nat) : Int) := by omega
     have gg := iRows_get glt
     obtain ⟨x, hx⟩ : ∃ x, l.getD j 0 = x := ⟨_, rfl⟩
     rw [drop_getD (z := 0) glt, scan1, hx] at g4
     rw [hx] at hbad gg
     rw [if_neg hbad] at g4
     have hb1 : ¬ x < 1 := by omega
     have hb2 : ¬ 7 < x := by omega
     have gs1 : Go.RowKit.wrap64 (((j : Nat) : Int) + 1) = ((j + 1 : Nat) : Int) := wnat (by omega) (by omega)
     have F0 := And.intro gcq <| And.intro gj <| And.intro glt <| And.intro gg <| And.intro hb1 <| And.intro hb2 <| And.intro gs1 <| F0
     have zL := fun S2 => yN1 ⟨j + 1, glt, g4⟩ S2 (by (exact Nat.sub_lt_sub_left glt (Nat.lt_succ_self j)))
     exact HT.w
   · try simp only at g1 g4
     rw [List.drop_length, scan1] at g4
     have gcq : ¬ ((l.length : Nat) : Int) < ((l.length : Nat) : Int) := by omega
     rw [if_pos g4.symm] at h4
     have hs1 : Go.RowKit.wrap64 (((i : Nat) : Int) + 1) = ((i + 1 : Nat) : Int) := wnat (by omega) (by omega)
     have F0 := And.intro gcq <| And.intro hs1 <| F0
     have zL := fun S2 => yN0 ⟨i + 1, hlt, h4⟩ S2 (by (exact Nat.sub_lt_sub_left hlt (Nat.lt_succ_self i)))
     exact HT.w
 · try simp only at h1 h4
   have hcq : ¬ ((2 + ts.length : Nat) : Int) < ((2 + ts.length : Nat) : Int) := by omega
   have hz : scan (p0 :: p1 :: ts) = 0 := by rw [← h4, List.drop_eq_nil_of_le (by simp only [List.length_cons]; omega), scan]
   have hrng := scan_ok hz
   have hp0 := (hrng p0 (by simp)).2
   have hp1 := (hrng p1 (by simp)).2

   have F0 := And.intro hcq <| F0
   iterate 30 first
    | refine rnd_k fun zN zM zhN zhM => ?_
    | (refine sr_k fun zK zhK => ?_; simp only [go_sem, F0]; (repeat' (first | apply And.intro | intro _)))
    | refine zhK _ ?_
    | refine block_k fun zB zbn zbx zbr zbi => ?_
    | (refine zhM _ _ ?_; clear zhN zhM)
    | (refine zhN _ ?_; clear zhN zhM)
    | refine exit_k ?_
    | (refine zbx _ ?_; clear zbn zbx zbr zbi)
    | refine rounds_k (x := .seq (.region 17 _ _) _) 3 ?_
    | refine skip_k ?_
    | refine seq_k fun zN zM zhN zhM => ?_
    | (refine condF_k ?_ ?_; focus (first | rfl | (simp [go_sem, F0]; done)))
    | (refine condT_k ?_ ?_; focus (first | rfl | (simp [go_sem, F0]; done)))
   refine loop_k (fun y => [(66, .w (.one (.pl (.i ((y.1.1 : Nat) : Int)))))]) (fun y => [(57, ⟨false, y.1.2.ls⟩)]) (fun y => p0.length - y.1.1) (⟨(0, Jd.nil), Nat.zero_le _, rfl⟩ : {y : Nat × Jd // y.1 ≤ p0.length ∧ preJ y.2 false (p0.drop y.1) = preJ Jd.nil false p0}) ?_ ?_ ?_
   · (simp only [go_sem, leX, List.cons_append, List.nil_append, F0]; try simp)
   · (simp only [go_sem, leX, List.cons_append, List.nil_append]; first | done | trivial | rfl | simp [Jd.ls, Jd.nil])
   intro zz zN zM zhN zhM
   simp only [List.cons_append, List.nil_append]
   have yN1 := zhN
   obtain ⟨⟨j, q0⟩, g1, g4⟩ := zz
   simp only at g1 g4
   have hd : (j < p0.length ∧ 2 < p0.getD j 0) ∨ (j < p0.length ∧ ¬ 2 < p0.getD j 0 ∧ q0.flag false (p0.getD j 0) = true) ∨ (j < p0.length ∧ ¬ 2 < p0.getD j 0 ∧ q0.flag false (p0.getD j 0) = false) ∨ j = p0.length := by
    cases q0.flag false (p0.getD j 0) <;> simp <;> omega
   rcases hd with ⟨glt, hbad⟩ | ⟨glt, hbad, hfl⟩ | ⟨glt, hbad, hfl⟩ | rfl
   · have gcq : ((j : Nat) : Int) < ((p0.length : Nat) : Int) := by omega
     have gj : (0 : Int) ≤ ((j : Nat) : Int) := by omega
     have gg := iRows_get glt
     obtain ⟨x, hx⟩ : ∃ x, p0.getD j 0 = x := ⟨_, rfl⟩
     have hxr := scan1_ok (hrng p0 (by simp)).1 x (hx ▸ getD_mem' glt)
     rw [drop_getD (z := 0) glt, preJ, hx] at g4
     rw [hx] at gg hbad
     rw [if_pos (.inl hbad)] at g4
     have F0 := And.intro gcq <| And.intro gj <| And.intro glt <| And.intro gg <| And.intro hbad <| F0
     have zE := chk_pre0 (lt := true) hlen hz g4
     exact HT.w
   · have gcq : ((j : Nat) : Int) < ((p0.length : Nat) : Int) := by omega
     have gj : (0 : Int) ≤ ((j : Nat) : Int) := by omega
     have gg := iRows_get glt
     obtain ⟨x, hx⟩ : ∃ x, p0.getD j 0 = x := ⟨_, rfl⟩
     have hxr := scan1_ok (hrng p0 (by simp)).1 x (hx ▸ getD_mem' glt)
     rw [drop_getD (z := 0) glt, preJ, hx] at g4
     rw [hx] at gg hbad
     rw [hx] at hfl
     have ht : x = 1 ∨ x = 2 := by omega
     have hC := toldJ_all q0 false true x ht hfl
     rw [if_pos (.inr hfl)] at g4
     have F0 := And.intro gcq <| And.intro gj <| And.intro glt <| And.intro gg <| And.intro hbad <| F0
     have ch0 := CtM.ch [(500000, 57)] (hC)
     have zE := chk_pre0 (lt := true) hlen hz g4
     exact HT.w
   · have gcq : ((j : Nat) : Int) < ((p0.length : Nat) : Int) := by omega
     have gj : (0 : Int) ≤ ((j : Nat) : Int) := by omega
     have gg := iRows_get glt
     obtain ⟨x, hx⟩ : ∃ x, p0.getD j 0 = x := ⟨_, rfl⟩
     have hxr := scan1_ok (hrng p0 (by simp)).1 x (hx ▸ getD_mem' glt)
     rw [drop_getD (z := 0) glt, preJ, hx] at g4
     rw [hx] at gg hbad
     rw [hx] at hfl
     have ht : x = 1 ∨ x = 2 := by omega
     have hC := toldJ_all q0 false false x ht hfl
     rw [if_neg (by simp [hbad, hfl])] at g4
     have gs1 : Go.RowKit.wrap64 (((j : Nat) : Int) + 1) = ((j + 1 : Nat) : Int) := wnat (by omega) (by omega)
     have F0 := And.intro gcq <| And.intro gj <| And.intro glt <| And.intro gg <| And.intro hbad <| And.intro gs1 <| F0
     have ch0 := CtM.ch [(500000, 57)] (hC)
     have zL := fun S2 => yN1 ⟨(j + 1, q0.tell false x), glt, g4⟩ S2 (by (exact Nat.sub_lt_sub_left glt (Nat.lt_succ_self j)))
     exact HT.w
   · rw [List.drop_length, preJ] at g4
     have gcq : ¬ ((p0.length : Nat) : Int) < ((p0.length : Nat) : Int) := by omega
     have hq0 := g4
     have F0 := And.intro gcq <| F0
     iterate 27 first
      | (refine rnd_forget (x := .seq (.region 17 _ _) _) [8, 9, 11, 61, 62, 63, 64, 65, 66, 67, 68, 69, 70, 71, 72, 73, 74, 75, 76, 77, 78, 79, 80] ?_; simp only [go_sem, St.forget, fgt]; refine rnd_k fun zN zM zhN zhM => ?_)
      | refine zhK _ ?_
      | (refine sr_k fun zK zhK => ?_; simp only [go_sem, F0]; (repeat' (first | apply And.intro | intro _)))
      | (refine zhN _ ?_; clear zhN zhM)
      | (refine zhM _ _ ?_; clear zhN zhM)
      | refine block_k fun zB zbn zbx zbr zbi => ?_
      | refine exit_k ?_
      | (refine zbx _ ?_; clear zbn zbx zbr zbi)
      | (refine zbn _ ?_; clear zbn zbx zbr zbi)
      | (refine region_k fun zK zhK => ?_; simp only [go_sem, F0]; (repeat' (first | apply And.intro | intro _)))
      | refine skip_k ?_
      | refine seq_k fun zN zM zhN zhM => ?_
      | (refine condF_k ?_ ?_; focus (first | rfl | (simp [go_sem, F0]; done)))
      | (refine condT_k ?_ ?_; focus (first | rfl | (simp [go_sem, F0]; done)))
     refine loop_k (fun y => [(66, .w (.one (.pl (.i ((y.1.1 : Nat) : Int)))))]) (fun y => [(57, ⟨false, y.1.2.ls⟩)]) (fun y => p1.length - y.1.1) (⟨(0, q0), Nat.zero_le _, rfl⟩ : {y : Nat × Jd // y.1 ≤ p1.length ∧ preJ y.2 true (p1.drop y.1) = preJ q0 true p1}) ?_ ?_ ?_
     · (simp only [go_sem, leX, List.cons_append, List.nil_append, F0]; try simp)
     · (simp only [go_sem, leX, List.cons_append, List.nil_append]; first | done | trivial | rfl | simp [Jd.ls, Jd.nil])
     intro zz zN zM zhN zhM
     simp only [List.cons_append, List.nil_append]
     have yN2 := zhN
     obtain ⟨⟨j, q1⟩, g1, g4⟩ := zz
     simp only at g1 g4
     have hd : (j < p1.length ∧ 2 < p1.getD j 0) ∨ (j < p1.length ∧ ¬ 2 < p1.getD j 0 ∧ q1.flag true (p1.getD j 0) = true) ∨ (j < p1.length ∧ ¬ 2 < p1.getD j 0 ∧ q1.flag true (p1.getD j 0) = false) ∨ j = p1.length := by
      cases q1.flag true (p1.getD j 0) <;> simp <;> omega
     rcases hd with ⟨glt, hbad⟩ | ⟨glt, hbad, hfl⟩ | ⟨glt, hbad, hfl⟩ | rfl
     · have gcq : ((j : Nat) : Int) < ((p1.length : Nat) : Int) := by omega
       have gj : (0 : Int) ≤ ((j : Nat) : Int) := by omega
       have gg := iRows_get glt
       obtain ⟨x, hx⟩ : ∃ x, p1.getD j 0 = x := ⟨_, rfl⟩
       have hxr := scan1_ok (hrng p1 (by simp)).1 x (hx ▸ getD_mem' glt)
       rw [drop_getD (z := 0) glt, preJ, hx] at g4
       rw [hx] at gg hbad
       rw [if_pos (.inl hbad)] at g4
       have F0 := And.intro gcq <| And.intro gj <| And.intro glt <| And.intro gg <| And.intro hbad <| F0
       have zE := chk_pre1 (lt := true) hlen hz hq0 g4
       exact HT.w
     · have gcq : ((j : Nat) : Int) < ((p1.length : Nat) : Int) := by omega
       have gj : (0 : Int) ≤ ((j : Nat) : Int) := by omega
       have gg := iRows_get glt
       obtain ⟨x, hx⟩ : ∃ x, p1.getD j 0 = x := ⟨_, rfl⟩
       have hxr := scan1_ok (hrng p1 (by simp)).1 x (hx ▸ getD_mem' glt)
       rw [drop_getD (z := 0) glt, preJ, hx] at g4
       rw [hx] at gg hbad
       rw [hx] at hfl
       have ht : x = 1 ∨ x = 2 := by omega
       have hC := toldJ_all q1 true true x ht hfl
       rw [if_pos (.inr hfl)] at g4
       have F0 := And.intro gcq <| And.intro gj <| And.intro glt <| And.intro gg <| And.intro hbad <| F0
       have ch0 := CtM.ch [(500000, 57)] (hC)
       have zE := chk_pre1 (lt := true) hlen hz hq0 g4
       exact HT.w
     · have gcq : ((j : Nat) : Int) < ((p1.length : Nat) : Int) := by omega
       have gj : (0 : Int) ≤ ((j : Nat) : Int) := by omega
       have gg := iRows_get glt
       obtain ⟨x, hx⟩ : ∃ x, p1.getD j 0 = x := ⟨_, rfl⟩
       have hxr := scan1_ok (hrng p1 (by simp)).1 x (hx ▸ getD_mem' glt)
       rw [drop_getD (z := 0) glt, preJ, hx] at g4
       rw [hx] at gg hbad
       rw [hx] at hfl
       have ht : x = 1 ∨ x = 2 := by omega
       have hC := toldJ_all q1 true false x ht hfl
       rw [if_neg (by simp [hbad, hfl])] at g4
       have gs1 : Go.RowKit.wrap64 (((j : Nat) : Int) + 1) = ((j + 1 : Nat) : Int) := wnat (by omega) (by omega)
       have F0 := And.intro gcq <| And.intro gj <| And.intro glt <| And.intro gg <| And.intro hbad <| And.intro gs1 <| F0
       have ch0 := CtM.ch [(500000, 57)] (hC)
       have zL := fun S2 => yN2 ⟨(j + 1, q1.tell true x), glt, g4⟩ S2 (by (exact Nat.sub_lt_sub_left glt (Nat.lt_succ_self j)))
       exact HT.w
     · rw [List.drop_length, preJ] at g4
       have gcq : ¬ ((p1.length : Nat) : Int) < ((p1.length : Nat) : Int) := by omega
       have hq1 := g4
       have F0 := And.intro gcq <| F0
       iterate 27 first
        | (refine rnd_forget (x := .seq (.region 17 _ _) _) [8, 9, 11, 61, 62, 63, 64, 65, 66, 67, 68, 69, 70, 71, 72, 73, 74, 75, 76, 77, 78, 79, 80] ?_; simp only [go_sem, St.forget, fgt]; refine rnd_k fun zN zM zhN zhM => ?_)
        | refine zhK _ ?_
        | (refine zhM _ _ ?_; clear zhN zhM)
        | (refine sr_k fun zK zhK => ?_; simp only [go_sem, F0]; (repeat' (first | apply And.intro | intro _)))
        | (refine zhN _ ?_; clear zhN zhM)
        | refine exit_k ?_
        | (refine zbx _ ?_; clear zbn zbx zbr zbi)
        | (refine zbn _ ?_; clear zbn zbx zbr zbi)
        | (refine region_k fun zK zhK => ?_; simp only [go_sem, F0]; (repeat' (first | apply And.intro | intro _)))
        | refine block_k fun zB zbn zbx zbr zbi => ?_
        | refine seq_k fun zN zM zhN zhM => ?_
        | (refine condF_k ?_ ?_; focus (first | rfl | (simp [go_sem, F0]; done)))
       refine loop_k (fun y => [(84, .w (.one (.pl (.i ((y.1.1 : Nat) : Int)))))]) (fun y => [(57, ⟨false, y.1.2.ls⟩)]) (fun y => ts.length - y.1.1) (⟨(0, q1), Nat.zero_le _, rfl⟩ : {y : Nat × Jd // y.1 ≤ ts.length ∧ turnsJ true y.2 y.1 (ts.drop y.1) = turnsJ true q1 0 ts}) ?_ ?_ ?_
       · (simp only [go_sem, leX, List.cons_append, List.nil_append, F0]; try simp)
       · (simp only [go_sem, leX, List.cons_append, List.nil_append, F0]; try simp)
       intro yy zN zM zhN zhM
       simp only [List.cons_append, List.nil_append]
       have yN3 := zhN
       obtain ⟨⟨i, q2⟩, h1, h4⟩ := yy
       simp only at h1 h4
       rcases (by omega : i < ts.length ∨ i = ts.length) with hlt | rfl
       · have hcq : ((i : Nat) : Int) < ((ts.length : Nat) : Int) := by omega
         have hi0 : (0 : Int) ≤ ((i : Nat) : Int) := by omega
         have hg := tRows_get hlt
         obtain ⟨l, hl⟩ : ∃ l, ts.getD i [] = l := ⟨_, rfl⟩
         have hlm : l ∈ ts := hl ▸ getD_mem' hlt
         have hlr := hrng l (by simp [hlm])
         obtain ⟨wb, hwb⟩ : ∃ wb, whoT true i = wb := ⟨_, rfl⟩
         rw [drop_getD (z := []) hlt, turnsJ, hl, hwb] at h4
         rw [hl] at hg
         have hs1 : Go.RowKit.wrap64 (((i : Nat) : Int) + 1) = ((i + 1 : Nat) : Int) := wnat (by omega) (by omega)
         have hw1 := who_t i
         rw [hwb] at hw1
         have hw2 := who_2 wb

         have F0 := And.intro hcq <| And.intro hi0 <| And.intro hlt <| And.intro hg <| And.intro hs1 <| And.intro hw1 <| And.intro hw2 <| F0
         iterate 23 first
          | refine zhK _ ?_
          | (refine sr_k fun zK zhK => ?_; simp only [go_sem, F0]; (repeat' (first | apply And.intro | intro _)))
          | (refine zhN _ ?_; clear zhN zhM)
          | refine block_k fun zB zbn zbx zbr zbi => ?_
          | refine skip_k ?_
          | (refine region_k fun zK zhK => ?_; simp only [go_sem, F0]; (repeat' (first | apply And.intro | intro _)))
          | refine seq_k fun zN zM zhN zhM => ?_
          | (refine condT_k ?_ ?_; focus (first | rfl | (simp [go_sem, F0]; done)))
         refine loop_k (fun y => [(97, .w (.one (.pl (.i ((y.1.1 : Nat) : Int)))))]) (fun y => [(57, ⟨false, y.1.2.ls⟩)]) (fun y => l.length - y.1.1) (⟨(0, q2), Nat.zero_le _, rfl⟩ : {y : Nat × Jd // y.1 ≤ l.length ∧ turnJ y.2 wb (l.drop y.1) = turnJ q2 wb l}) ?_ ?_ ?_
         · (simp only [go_sem, leX, List.cons_append, List.nil_append, F0]; try simp)
         · (simp only [go_sem, leX, List.cons_append, List.nil_append, F0]; try simp)
         intro zz zN zM zhN zhM
         simp only [List.cons_append, List.nil_append]
         have yN4 := zhN
         obtain ⟨⟨j, q3⟩, g1, g4⟩ := zz
         simp only at g1 g4
         have hd : (j < l.length ∧ (q3.token wb (l.getD j 0)).1 = false) ∨ (j < l.length ∧ (q3.token wb (l.getD j 0)).1 = true) ∨ (j = l.length ∧ q3.locks = false) ∨ (j = l.length ∧ q3.locks = true ∧ q3.may wb = true) ∨ (j = l.length ∧ q3.locks = true ∧ q3.may wb = false) := by
          cases (q3.token wb (l.getD j 0)).1 <;> cases q3.locks <;> cases q3.may wb <;> simp <;> omega
         rcases hd with ⟨glt, hfl⟩ | ⟨glt, hfl⟩ | ⟨rfl, hlk⟩ | ⟨rfl, hlk, hmy⟩ | ⟨rfl, hlk, hmy⟩
         · have gcq : ((j : Nat) : Int) < ((l.length : Nat) : Int) := by omega
           have gj : (0 : Int) ≤ ((j : Nat) : Int) := by omega
           have gg := iRows_get glt
           obtain ⟨x, hx⟩ : ∃ x, l.getD j 0 = x := ⟨_, rfl⟩
           have hxr := scan1_ok hlr.1 x (hx ▸ getD_mem' glt)
           rw [drop_getD (z := 0) glt, turnJ, hx] at g4
           rw [hx] at gg hfl
           have hC := tok_all q3 wb x hxr.1 hxr.2
           rw [hfl] at hC
           rw [hfl] at g4
           simp only [reduceIte, Bool.false_eq_true] at g4
           rw [← g4] at h4
           have F0 := And.intro gcq <| And.intro gj <| And.intro glt <| And.intro gg <| And.intro hfl <| F0
           have ch0 := CtM.ch [(500000, 57)] (hC)
           have zE := (chk_turns (lt := true) hlen hz hq0 hq1).trans (h4).symm
           exact HT.w
         · have gcq : ((j : Nat) : Int) < ((l.length : Nat) : Int) := by omega
           have gj : (0 : Int) ≤ ((j : Nat) : Int) := by omega
           have gg := iRows_get glt
           obtain ⟨x, hx⟩ : ∃ x, l.getD j 0 = x := ⟨_, rfl⟩
           have hxr := scan1_ok hlr.1 x (hx ▸ getD_mem' glt)
           rw [drop_getD (z := 0) glt, turnJ, hx] at g4
           rw [hx] at gg hfl
           have hC := tok_all q3 wb x hxr.1 hxr.2
           rw [hfl] at hC
           rw [hfl] at g4
           simp only [reduceIte] at g4
           have gs1 : Go.RowKit.wrap64 (((j : Nat) : Int) + 1) = ((j + 1 : Nat) : Int) := wnat (by omega) (by omega)
           have F0 := And.intro gcq <| And.intro gj <| And.intro glt <| And.intro gg <| And.intro hfl <| And.intro gs1 <| F0
           have ch0 := CtM.ch [(500000, 57)] (hC)
           have zL := fun S2 => yN4 ⟨(j + 1, (q3.token wb x).2), glt, g4⟩ S2 (by (exact Nat.sub_lt_sub_left glt (Nat.lt_succ_self j)))
           exact HT.w
         · rw [List.drop_length, turnJ] at g4
           have gcq : ¬ ((l.length : Nat) : Int) < ((l.length : Nat) : Int) := by omega
           have hL := locks_ q3
           rw [hlk] at hL g4
           simp only [Bool.false_and, reduceIte, Bool.false_eq_true] at g4
           rw [← g4] at h4
           have F0 := And.intro gcq <| F0
           have ch0 := CtM.ch [(500000, 57)] (hL)
           have zL := fun S2 => yN3 ⟨(i + 1, q3), hlt, h4⟩ S2 (by (exact Nat.sub_lt_sub_left hlt (Nat.lt_succ_self i)))
           exact HT.w
         · rw [List.drop_length, turnJ] at g4
           have gcq : ¬ ((l.length : Nat) : Int) < ((l.length : Nat) : Int) := by omega
           have hL := locks_ q3
           rw [hlk] at hL g4
           have hM := may_all q3 wb
           rw [hmy] at hM g4
           simp only [Bool.true_and, Bool.not_true, reduceIte, Bool.false_eq_true] at g4
           rw [← g4] at h4
           have F0 := And.intro gcq <| F0
           have ch0 := CtM.ch [(500000, 57)] (hL)
           have ch1 := CtM.ch [(500000, 57)] (hM)
           have zL := fun S2 => yN3 ⟨(i + 1, q3), hlt, h4⟩ S2 (by (exact Nat.sub_lt_sub_left hlt (Nat.lt_succ_self i)))
           exact HT.w
         · rw [List.drop_length, turnJ] at g4
           have gcq : ¬ ((l.length : Nat) : Int) < ((l.length : Nat) : Int) := by omega
           have hL := locks_ q3
           rw [hlk] at hL g4
           have hM := may_all q3 wb
           rw [hmy] at hM g4
           simp only [Bool.true_and, Bool.not_false, reduceIte] at g4
           rw [← g4] at h4
           have F0 := And.intro gcq <| F0
           have ch0 := CtM.ch [(500000, 57)] (hL)
           have ch1 := CtM.ch [(500000, 57)] (hM)
           have zE := (chk_turns (lt := true) hlen hz hq0 hq1).trans (h4).symm
           exact HT.w
       · rw [List.drop_length, turnsJ] at h4
         have hcq : ¬ ((ts.length : Nat) : Int) < ((ts.length : Nat) : Int) := by omega
         have F0 := And.intro hcq <| F0
         have zE := (chk_turns (lt := true) hlen hz hq0 hq1).trans (h4).symm
         exact HT.w
theorem pcheck_ (bs : List UInt8) (lt : Bool) (ps : List (List PL)) (p0 p1 : List Int) (ts : List (List Int)) : Ct Try.prog 7 [.w (.agg (patC bs lt ps p0 p1 ts))] (fun v m => v = .w (.one (.pl (.i (checkJ lt p0 p1 ts))))) := by
 by_cases h1 : ((ts.length : Nat) : Int) < 1
 · exact pcheck_len0 bs lt ps p0 p1 ts h1
 · by_cases h2 : (5 : Int) < ((ts.length : Nat) : Int)
   · exact pcheck_len1 bs lt ps p0 p1 ts h1 h2
   · cases lt
     · exact pcheck_f bs ps p0 p1 ts h1 h2
     · exact pcheck_t bs ps p0 p1 ts h1 h2
end Go.Sy

