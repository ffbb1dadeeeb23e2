/- Walks: what happened, the lists' faults; the reference's small functions. -/
import Derived.Test.YtbfllkipgfpkkaavtJ6
set_option linter.unusedVariables false
set_option linter.unusedSimpArgs false
namespace Go.Sy
open Go.Proofs
attribute [local irreducible] atCall HT runOps runD onC onE onO onG goV goA goS onSt onGuard
def evRows (l : List (Bool × Int)) : List (List PL) := l.map fun x => [.i (whoI x.1), .i x.2]
theorem evRows_length (l : List (Bool × Int)) : (evRows l).length = l.length := by simp [evRows]
theorem evRows_get {l : List (Bool × Int)} {n : Nat} (h : n < l.length) : (evRows l).getD n [] = [.i (whoI (l.getD n (false, 0)).1), .i (l.getD n (false, 0)).2] := by simp [evRows, List.getD, List.getElem?_map, List.getElem?_eq_getElem h]
def hapI (l : List (Bool × Int)) (who t : Int) : Bool := l.any fun x => decide (x.2 = t) && (decide (who < 0) || decide (whoI x.1 = who))
theorem hapI_who (l : List (Bool × Int)) (w : Bool) (t : Int) : hapI l (whoI w) t = hap l w t := by
 unfold hapI hap
 congr 1; funext x
 cases w <;> cases x.1 <;> simp [whoI]
theorem hapI_any (l : List (Bool × Int)) (t : Int) : hapI l (-1) t = any l t := by
 unfold hapI any
 congr 1; funext x
 simp
theorem hapI_cons (a : Bool × Int) (l : List (Bool × Int)) (who t : Int) : hapI (a :: l) who t = ((decide (a.2 = t) && (decide (who < 0) || decide (whoI a.1 = who))) || hapI l who t) := by simp [hapI]
set_option maxHeartbeats 800000 in
set_option maxRecDepth 100000 in
theorem happened_ (l : List (Bool × Int)) (ex : Bool) (sz : Nat) (hsz : l ≠ [] → sz = 2) (hl : l.length ≤ 9223372036854775807) (who t : Int) :
 Ct Try.prog 21 [.w (.one (.pl (.R ex sz (evRows l)))), .w (.one (.pl (.i who))), .w (.one (.pl (.i t)))] (fun v m => v = .w (.one (.pl (.b (hapI l who t))))) := by
 refine Ct.k Try.func21 rfl Try.ntmps21 (congrArg Array.toList Try.results21) (by simp) fun w0 ro => ?_
 refine top_k fun zZ zhZ => ?_
 iterate 6 first
  | (refine sr_k fun zK zhK => ?_; simp only [go_sem, evRows_length]; (repeat' (first | apply And.intro | intro _)))
  | refine zhK _ ?_
  | refine block_k fun zB zbn zbx zbr zbi => ?_
  | refine seq_k fun zN zM zhN zhM => ?_
 refine loop_k (fun y => [(11, .w (.one (.pl (.i ((y.1 : Nat) : Int)))))]) (fun _ => []) (fun y => l.length - y.1) (⟨0, Nat.zero_le _, rfl⟩ : {y : Nat // y ≤ l.length ∧ hapI (l.drop y) who t = hapI l who t}) ?_ ?_ ?_
 · (simp only [go_sem, leX, List.cons_append, List.nil_append]; try simp)
 · (simp only [go_sem, leX, List.cons_append, List.nil_append]; try simp)
 intro yy zN zM zhN zhM
 simp only [List.cons_append, List.nil_append]
 obtain ⟨j, h1, h4⟩ := yy
 try simp only at h1 h4
 have hd : (j < l.length ∧ ¬ (l.getD j (false, 0)).2 = t) ∨ (j < l.length ∧ (l.getD j (false, 0)).2 = t ∧ who < 0) ∨ (j < l.length ∧ (l.getD j (false, 0)).2 = t ∧ ¬ who < 0 ∧ whoI (l.getD j (false, 0)).1 = who) ∨ (j < l.length ∧ (l.getD j (false, 0)).2 = t ∧ ¬ who < 0 ∧ ¬ whoI (l.getD j (false, 0)).1 = who) ∨ j = l.length := by omega
 rcases hd with ⟨hlt, ha⟩ | ⟨hlt, ha, hb⟩ | ⟨hlt, ha, hb, hc⟩ | ⟨hlt, ha, hb, hc⟩ | rfl
 · have hcq : ((j : Nat) : Int) < ((l.length : Nat) : Int) := by omega
   have hj : (0 : Int) ≤ ((j : Nat) : Int) := by omega
   have hz2 := hsz (by intro e; rw [e] at hlt; exact absurd hlt (Nat.not_lt_zero _))
   subst hz2
   have hg := evRows_get hlt
   obtain ⟨⟨wx, x⟩, hx⟩ : ∃ x, l.getD j (false, 0) = x := ⟨_, rfl⟩
   rw [drop_getD (z := (false, 0)) hlt, hapI_cons, hx] at h4
   rw [hx] at ha hg
   simp only at ha hg
   have hs1 : Go.RowKit.wrap64 (((j : Nat) : Int) + 1) = ((j + 1 : Nat) : Int) := wnat (by omega) (by omega)
   rw [decide_eq_false ha, Bool.false_and, Bool.false_or] at h4
   have F5 := And.intro hcq <| And.intro hj <| And.intro hlt <| And.intro hg <| And.intro hs1 <| ha
   iterate 18 first
    | refine zhK _ ?_
    | (refine sr_k fun zK zhK => ?_; simp only [go_sem, evRows_length, F5]; (repeat' (first | apply And.intro | intro _)))
    | refine skip_k ?_
    | (refine zhN _ ?_; clear zhN zhM)
    | refine block_k fun zB zbn zbx zbr zbi => ?_
    | (refine zbn _ ?_; clear zbn zbx zbr zbi)
    | (refine region_k fun zK zhK => ?_; simp only [go_sem, evRows_length, F5]; (repeat' (first | apply And.intro | intro _)))
    | refine seq_k fun zN zM zhN zhM => ?_
    | (refine condT_k ?_ ?_; focus (first | rfl | (simp [go_sem, evRows_length, F5]; done)))
    | (refine condF_k ?_ ?_; focus (first | rfl | (simp [go_sem, evRows_length, F5]; done)))
   refine zhN ⟨j + 1, hlt, h4⟩ _ ?_ ?_ ?_
   · (exact Nat.sub_lt_sub_left hlt (Nat.lt_succ_self j))
   · (simp only [go_sem, leX, List.cons_append, List.nil_append]; try simp)
   · (simp only [go_sem, leX, List.cons_append, List.nil_append]; try simp)
 · have hcq : ((j : Nat) : Int) < ((l.length : Nat) : Int) := by omega
   have hj : (0 : Int) ≤ ((j : Nat) : Int) := by omega
   have hz2 := hsz (by intro e; rw [e] at hlt; exact absurd hlt (Nat.not_lt_zero _))
   subst hz2
   have hg := evRows_get hlt
   obtain ⟨⟨wx, x⟩, hx⟩ : ∃ x, l.getD j (false, 0) = x := ⟨_, rfl⟩
   rw [drop_getD (z := (false, 0)) hlt, hapI_cons, hx] at h4
   rw [hx] at ha hg
   simp only at ha hg
   have hs1 : Go.RowKit.wrap64 (((j : Nat) : Int) + 1) = ((j + 1 : Nat) : Int) := wnat (by omega) (by omega)
   rw [decide_eq_true ha, decide_eq_true hb] at h4
   simp only [Bool.true_or, Bool.and_true, Bool.true_and] at h4
   subst ha
   have F12 := And.intro hcq <| And.intro hj <| And.intro hlt <| And.intro hg <| And.intro hs1 <| hb
   iterate 22 first
    | (refine sr_k fun zK zhK => ?_; simp only [go_sem, evRows_length, F12]; (repeat' (first | apply And.intro | intro _)))
    | refine zhK _ ?_
    | (refine zhM _ _ ?_; clear zhN zhM)
    | (refine zbr _ ?_; clear zbn zbx zbr zbi)
    | refine skip_k ?_
    | (refine zhN _ ?_; clear zhN zhM)
    | refine block_k fun zB zbn zbx zbr zbi => ?_
    | refine ret_k ?_
    | (refine zhZ _ _ ?_; simp only [go_sem, evRows_length, F12]; (all_goals (rw [← h4])))
    | refine seq_k fun zN zM zhN zhM => ?_
    | (refine condT_k ?_ ?_; focus (first | rfl | (simp [go_sem, evRows_length, F12]; done)))
 · have hcq : ((j : Nat) : Int) < ((l.length : Nat) : Int) := by omega
   have hj : (0 : Int) ≤ ((j : Nat) : Int) := by omega
   have hz2 := hsz (by intro e; rw [e] at hlt; exact absurd hlt (Nat.not_lt_zero _))
   subst hz2
   have hg := evRows_get hlt
   obtain ⟨⟨wx, x⟩, hx⟩ : ∃ x, l.getD j (false, 0) = x := ⟨_, rfl⟩
   rw [drop_getD (z := (false, 0)) hlt, hapI_cons, hx] at h4
   rw [hx] at ha hc hg
   simp only at ha hc hg
   have hs1 : Go.RowKit.wrap64 (((j : Nat) : Int) + 1) = ((j + 1 : Nat) : Int) := wnat (by omega) (by omega)
   rw [decide_eq_true ha, decide_eq_true hc] at h4
   simp only [Bool.or_true, Bool.true_or, Bool.and_true, Bool.true_and] at h4
   subst ha
   have F19 := And.intro hcq <| And.intro hj <| And.intro hlt <| And.intro hg <| And.intro hs1 <| And.intro hb <| hc
   iterate 22 first
    | (refine sr_k fun zK zhK => ?_; simp only [go_sem, evRows_length, F19]; (repeat' (first | apply And.intro | intro _)))
    | refine zhK _ ?_
    | (refine zhM _ _ ?_; clear zhN zhM)
    | (refine zbr _ ?_; clear zbn zbx zbr zbi)
    | refine skip_k ?_
    | (refine zhN _ ?_; clear zhN zhM)
    | refine block_k fun zB zbn zbx zbr zbi => ?_
    | refine ret_k ?_
    | (refine zhZ _ _ ?_; simp only [go_sem, evRows_length, F19]; (all_goals (rw [← h4])))
    | refine seq_k fun zN zM zhN zhM => ?_
    | (refine condT_k ?_ ?_; focus (first | rfl | (simp [go_sem, evRows_length, F19]; done)))
 · have hcq : ((j : Nat) : Int) < ((l.length : Nat) : Int) := by omega
   have hj : (0 : Int) ≤ ((j : Nat) : Int) := by omega
   have hz2 := hsz (by intro e; rw [e] at hlt; exact absurd hlt (Nat.not_lt_zero _))
   subst hz2
   have hg := evRows_get hlt
   obtain ⟨⟨wx, x⟩, hx⟩ : ∃ x, l.getD j (false, 0) = x := ⟨_, rfl⟩
   rw [drop_getD (z := (false, 0)) hlt, hapI_cons, hx] at h4
   rw [hx] at ha hc hg
   simp only at ha hc hg
   have hs1 : Go.RowKit.wrap64 (((j : Nat) : Int) + 1) = ((j + 1 : Nat) : Int) := wnat (by omega) (by omega)
   rw [decide_eq_true ha, decide_eq_false hb, decide_eq_false hc] at h4
   simp only [Bool.or_false, Bool.and_false, Bool.false_or] at h4
   subst ha
   have F26 := And.intro hcq <| And.intro hj <| And.intro hlt <| And.intro hg <| And.intro hs1 <| And.intro hb <| hc
   iterate 18 first
    | refine zhK _ ?_
    | (refine sr_k fun zK zhK => ?_; simp only [go_sem, evRows_length, F26]; (repeat' (first | apply And.intro | intro _)))
    | refine skip_k ?_
    | (refine zhN _ ?_; clear zhN zhM)
    | refine block_k fun zB zbn zbx zbr zbi => ?_
    | (refine zbn _ ?_; clear zbn zbx zbr zbi)
    | (refine region_k fun zK zhK => ?_; simp only [go_sem, evRows_length, F26]; (repeat' (first | apply And.intro | intro _)))
    | refine seq_k fun zN zM zhN zhM => ?_
    | (refine condT_k ?_ ?_; focus (first | rfl | (simp [go_sem, evRows_length, F26]; done)))
    | (refine condF_k ?_ ?_; focus (first | rfl | (simp [go_sem, evRows_length, F26]; done)))
   refine zhN ⟨j + 1, hlt, h4⟩ _ ?_ ?_ ?_
   · (exact Nat.sub_lt_sub_left hlt (Nat.lt_succ_self j))
   · (simp only [go_sem, leX, List.cons_append, List.nil_append]; try simp)
   · (simp only [go_sem, leX, List.cons_append, List.nil_append]; try simp)
 · rw [List.drop_length] at h4
   have hcq : ¬ ((l.length : Nat) : Int) < ((l.length : Nat) : Int) := by omega
   iterate 13 first
    | (refine sr_k fun zK zhK => ?_; simp only [go_sem, evRows_length, hcq]; (repeat' (first | apply And.intro | intro _)))
    | refine zhK _ ?_
    | (refine zhM _ _ ?_; clear zhN zhM)
    | refine exit_k ?_
    | (refine zbx _ ?_; clear zbn zbx zbr zbi)
    | (refine zhN _ ?_; clear zhN zhM)
    | refine ret_k ?_
    | (refine zhZ _ _ ?_; simp only [go_sem, evRows_length, hcq]; (all_goals (rw [← h4]; rfl)))
    | refine seq_k fun zN zM zhN zhM => ?_
    | (refine condF_k ?_ ?_; focus (first | rfl | (simp [go_sem, evRows_length, hcq]; done)))
set_option maxHeartbeats 800000 in
set_option maxRecDepth 100000 in
theorem firstof_ (ls : List (List Int)) (ex : Bool) (hn : ls.length ≤ 7) :
 Ct Try.prog 20 [.w (.one (.pl (.R ex 1 (tRows ls))))] (fun v m => v = .w (.one (.pl (.i (scan ls))))) := by
 refine Ct.k Try.func20 rfl Try.ntmps20 (congrArg Array.toList Try.results20) (by simp) fun w0 ro => ?_
 refine top_k fun zZ zhZ => ?_
 iterate 6 first
  | (refine sr_k fun zK zhK => ?_; simp only [go_sem, tRows_length, iRows_length]; (repeat' (first | apply And.intro | intro _)))
  | refine zhK _ ?_
  | refine block_k fun zB zbn zbx zbr zbi => ?_
  | refine seq_k fun zN zM zhN zhM => ?_
 refine loop_k (fun y => [(9, .w (.one (.pl (.i ((y.1 : Nat) : Int)))))]) (fun _ => []) (fun y => ls.length - y.1) (⟨0, Nat.zero_le _, rfl⟩ : {y : Nat // y ≤ ls.length ∧ scan (ls.drop y) = scan ls}) ?_ ?_ ?_
 · (simp only [go_sem, leX, List.cons_append, List.nil_append]; try simp)
 · (simp only [go_sem, leX, List.cons_append, List.nil_append]; try simp)
 intro yy zN zM zhN zhM
 simp only [List.cons_append, List.nil_append]
 obtain ⟨i, h1, h4⟩ := yy
 have hd : (i < ls.length ∧ 6 < (ls.getD i []).length) ∨ (i < ls.length ∧ ¬ 6 < (ls.getD i []).length) ∨ i = ls.length := by omega
 rcases hd with ⟨hlt, hlg⟩ | ⟨hlt, hlg⟩ | rfl
 · try simp only at h1 h4
   have hcq : ((i : Nat) : Int) < ((ls.length : Nat) : Int) := by omega
   have hi0 : (0 : Int) ≤ ((i : Nat) : Int) := by omega
   have hil : i < ls.length := hlt
   have hg := tRows_get hil
   obtain ⟨l, hl⟩ : ∃ l, ls.getD i [] = l := ⟨_, rfl⟩
   rw [drop_getD (z := []) hil, scan, hl] at h4
   rw [hl] at hg hlg
   rw [if_pos hlg] at h4
   have hlg2 : (6 : Int) < ((l.length : Nat) : Int) := by omega
   have F5 := And.intro hcq <| And.intro hi0 <| And.intro hil <| And.intro hg <| hlg2
   iterate 24 first
    | (refine sr_k fun zK zhK => ?_; simp only [go_sem, tRows_length, iRows_length, F5]; (repeat' (first | apply And.intro | intro _)))
    | refine zhK _ ?_
    | (refine zhM _ _ ?_; clear zhN zhM)
    | (refine zbr _ ?_; clear zbn zbx zbr zbi)
    | refine skip_k ?_
    | (refine zhN _ ?_; clear zhN zhM)
    | refine block_k fun zB zbn zbx zbr zbi => ?_
    | refine ret_k ?_
    | (refine zhZ _ _ ?_; simp only [go_sem, tRows_length, iRows_length, F5]; (all_goals (rw [← h4])))
    | refine seq_k fun zN zM zhN zhM => ?_
    | (refine condT_k ?_ ?_; focus (first | rfl | (simp [go_sem, tRows_length, iRows_length, F5]; done)))
 · try simp only at h1 h4
   have hcq : ((i : Nat) : Int) < ((ls.length : Nat) : Int) := by omega
   have hi0 : (0 : Int) ≤ ((i : Nat) : Int) := by omega
   have hil : i < ls.length := hlt
   have hg := tRows_get hil
   obtain ⟨l, hl⟩ : ∃ l, ls.getD i [] = l := ⟨_, rfl⟩
   rw [drop_getD (z := []) hil, scan, hl] at h4
   rw [hl] at hg hlg
   rw [if_neg hlg] at h4
   have hlg2 : ¬ (6 : Int) < ((l.length : Nat) : Int) := by omega
   have F13 := And.intro hcq <| And.intro hi0 <| And.intro hil <| And.intro hg <| hlg2
   iterate 19 first
    | (refine sr_k fun zK zhK => ?_; simp only [go_sem, tRows_length, iRows_length, F13]; (repeat' (first | apply And.intro | intro _)))
    | refine zhK _ ?_
    | refine skip_k ?_
    | (refine zhN _ ?_; clear zhN zhM)
    | refine block_k fun zB zbn zbx zbr zbi => ?_
    | refine seq_k fun zN zM zhN zhM => ?_
    | (refine condT_k ?_ ?_; focus (first | rfl | (simp [go_sem, tRows_length, iRows_length, F13]; done)))
    | (refine condF_k ?_ ?_; focus (first | rfl | (simp [go_sem, tRows_length, iRows_length, F13]; done)))
   refine loop_k (fun y => [(18, .w (.one (.pl (.i ((y.1 : Nat) : Int)))))]) (fun _ => []) (fun y => l.length - y.1) (⟨0, Nat.zero_le _, rfl⟩ : {y : Nat // y ≤ l.length ∧ scan1 (l.drop y) = scan1 l}) ?_ ?_ ?_
   · (simp only [go_sem, leX, List.cons_append, List.nil_append]; try simp)
   · (simp only [go_sem, leX, List.cons_append, List.nil_append]; try simp)
   intro zz zN zM zhN zhM
   simp only [List.cons_append, List.nil_append]
   obtain ⟨j, g1, g4⟩ := zz
   have hd : (j < l.length ∧ l.getD j 0 < 1) ∨ (j < l.length ∧ ¬ l.getD j 0 < 1 ∧ 7 < l.getD j 0) ∨ (j < l.length ∧ ¬ (l.getD j 0 < 1 ∨ 7 < l.getD j 0)) ∨ j = l.length := by omega
   rcases hd with ⟨glt, hbad⟩ | ⟨glt, hbad, hb2⟩ | ⟨glt, hbad⟩ | rfl
   · try simp only at g1 g4
     have gcq : ((j : Nat) : Int) < ((l.length : Nat) : Int) := by omega
     have gj : (0 : Int) ≤ ((j : Nat) : Int) := by omega
     have gg := iRows_get glt
     obtain ⟨x, hx⟩ : ∃ x, l.getD j 0 = x := ⟨_, rfl⟩
     rw [drop_getD (z := 0) glt, scan1, hx] at g4
     rw [hx] at hbad gg
     rw [if_pos (.inl hbad)] at g4
     rw [if_neg (by rw [← g4]; decide), ← g4] at h4
     have F23 := And.intro gcq <| And.intro gj <| And.intro glt <| And.intro gg <| hbad
     iterate 26 first
      | (refine zhM _ _ ?_; clear zhN zhM)
      | (refine sr_k fun zK zhK => ?_; simp only [go_sem, tRows_length, iRows_length, F13, F23]; (repeat' (first | apply And.intro | intro _)))
      | refine zhK _ ?_
      | (refine zbr _ ?_; clear zbn zbx zbr zbi)
      | refine skip_k ?_
      | (refine zhN _ ?_; clear zhN zhM)
      | refine block_k fun zB zbn zbx zbr zbi => ?_
      | refine ret_k ?_
      | (refine zhZ _ _ ?_; simp only [go_sem, tRows_length, iRows_length, F13, F23]; (all_goals (rw [← h4])))
      | refine seq_k fun zN zM zhN zhM => ?_
      | (refine condT_k ?_ ?_; focus (first | rfl | (simp [go_sem, tRows_length, iRows_length, F13, F23]; done)))
   · try simp only at g1 g4
     have gcq : ((j : Nat) : Int) < ((l.length : Nat) : Int) := by omega
     have gj : (0 : Int) ≤ ((j : Nat) : Int) := by omega
     have gg := iRows_get glt
     obtain ⟨x, hx⟩ : ∃ x, l.getD j 0 = x := ⟨_, rfl⟩
     rw [drop_getD (z := 0) glt, scan1, hx] at g4
     rw [hx] at hbad hb2 gg
     rw [if_pos (.inr hb2)] at g4
     rw [if_neg (by rw [← g4]; decide), ← g4] at h4
     have F30 := And.intro gcq <| And.intro gj <| And.intro glt <| And.intro gg <| And.intro hbad <| hb2
     iterate 26 first
      | (refine zhM _ _ ?_; clear zhN zhM)
      | (refine sr_k fun zK zhK => ?_; simp only [go_sem, tRows_length, iRows_length, F13, F30]; (repeat' (first | apply And.intro | intro _)))
      | refine zhK _ ?_
      | (refine zbr _ ?_; clear zbn zbx zbr zbi)
      | refine skip_k ?_
      | (refine zhN _ ?_; clear zhN zhM)
      | refine block_k fun zB zbn zbx zbr zbi => ?_
      | refine ret_k ?_
      | (refine zhZ _ _ ?_; simp only [go_sem, tRows_length, iRows_length, F13, F30]; (all_goals (rw [← h4])))
      | refine seq_k fun zN zM zhN zhM => ?_
      | (refine condT_k ?_ ?_; focus (first | rfl | (simp [go_sem, tRows_length, iRows_length, F13, F30]; done)))
   · try simp only at g1 g4
     have gcq : ((j : Nat) : Int) < ((l.length : Nat) : Int) := by omega
     have gj : (0 : Int) ≤ ((j : Nat) : Int) := by omega
     have gg := iRows_get glt
     obtain ⟨x, hx⟩ : ∃ x, l.getD j 0 = x := ⟨_, rfl⟩
     rw [drop_getD (z := 0) glt, scan1, hx] at g4
     rw [hx] at hbad gg
     rw [if_neg hbad] at g4
     have hb1 : ¬ x < 1 := by omega
     have hb2 : ¬ 7 < x := by omega
     have gs1 : Go.RowKit.wrap64 (((j : Nat) : Int) + 1) = ((j + 1 : Nat) : Int) := wnat (by omega) (by omega)
     have F37 := And.intro gcq <| And.intro gj <| And.intro glt <| And.intro gg <| And.intro hb1 <| And.intro hb2 <| gs1
     iterate 18 first
      | refine zhK _ ?_
      | (refine sr_k fun zK zhK => ?_; simp only [go_sem, tRows_length, iRows_length, F13, F37]; (repeat' (first | apply And.intro | intro _)))
      | refine skip_k ?_
      | (refine zhN _ ?_; clear zhN zhM)
      | refine block_k fun zB zbn zbx zbr zbi => ?_
      | (refine zbn _ ?_; clear zbn zbx zbr zbi)
      | (refine region_k fun zK zhK => ?_; simp only [go_sem, tRows_length, iRows_length, F13, F37]; (repeat' (first | apply And.intro | intro _)))
      | refine seq_k fun zN zM zhN zhM => ?_
      | (refine condT_k ?_ ?_; focus (first | rfl | (simp [go_sem, tRows_length, iRows_length, F13, F37]; done)))
      | (refine condF_k ?_ ?_; focus (first | rfl | (simp [go_sem, tRows_length, iRows_length, F13, F37]; done)))
     refine zhN ⟨j + 1, glt, g4⟩ _ ?_ ?_ ?_
     · (exact Nat.sub_lt_sub_left glt (Nat.lt_succ_self j))
     · (simp only [go_sem, leX, List.cons_append, List.nil_append]; try simp)
     · (simp only [go_sem, leX, List.cons_append, List.nil_append]; try simp)
   · try simp only at g1 g4
     rw [List.drop_length, scan1] at g4
     have gcq : ¬ ((l.length : Nat) : Int) < ((l.length : Nat) : Int) := by omega
     rw [if_pos g4.symm] at h4
     have hs1 : Go.RowKit.wrap64 (((i : Nat) : Int) + 1) = ((i + 1 : Nat) : Int) := wnat (by omega) (by omega)
     refine sr_k fun zK zhK => ?_
     simp only [go_sem, tRows_length, iRows_length, F13, gcq, hs1]
     repeat' (first | apply And.intro | intro _)
     refine zhK _ ?_
     refine seq_k fun zN zM zhN zhM => ?_
     (refine condF_k ?_ ?_; focus (first | rfl | (simp [go_sem, tRows_length, iRows_length, F13, gcq, hs1]; done)))
     refine exit_k ?_
     refine zhM _ _ ?_; clear zhN zhM
     refine zhM _ _ ?_; clear zhN zhM
     refine zbx _ ?_; clear zbn zbx zbr zbi
     refine zbn _ ?_; clear zbn zbx zbr zbi
     refine zhN _ ?_; clear zhN zhM
     refine region_k fun zK zhK => ?_
     simp only [go_sem, tRows_length, iRows_length, F13, gcq, hs1]
     repeat' (first | apply And.intro | intro _)
     refine zhK _ ?_
     refine zhN ⟨i + 1, hlt, h4⟩ _ ?_ ?_ ?_
     · (exact Nat.sub_lt_sub_left hlt (Nat.lt_succ_self i))
     · (simp only [go_sem, leX, List.cons_append, List.nil_append]; try simp)
     · (simp only [go_sem, leX, List.cons_append, List.nil_append]; try simp)
 · try simp only at h1 h4
   have hcq : ¬ ((ls.length : Nat) : Int) < ((ls.length : Nat) : Int) := by omega
   rw [List.drop_length, scan] at h4
   iterate 13 first
    | (refine sr_k fun zK zhK => ?_; simp only [go_sem, tRows_length, iRows_length, hcq]; (repeat' (first | apply And.intro | intro _)))
    | refine zhK _ ?_
    | (refine zhM _ _ ?_; clear zhN zhM)
    | refine exit_k ?_
    | (refine zbx _ ?_; clear zbn zbx zbr zbi)
    | (refine zhN _ ?_; clear zhN zhM)
    | refine ret_k ?_
    | (refine zhZ _ _ ?_; simp only [go_sem, tRows_length, iRows_length, hcq]; (all_goals (rw [← h4])))
    | refine seq_k fun zN zM zhN zhM => ?_
    | (refine condF_k ?_ ?_; focus (first | rfl | (simp [go_sem, tRows_length, iRows_length, hcq]; done)))
end Go.Sy

