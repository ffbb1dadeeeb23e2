/- Walks: a token of two keys, and a psk. -/
import Derived.Test.YtbfllkipgfpkkaavtJ3
set_option linter.unusedVariables false
set_option linter.unusedSimpArgs false
namespace Go.Sy
open Go.Proofs
attribute [local irreducible] atCall HT runOps runD onC onE onO onG goV goA goS onSt onGuard
set_option maxHeartbeats 800000 in
set_option maxRecDepth 100000 in
theorem tok_07 (e0 s0 e1 s1 d3 d4 d5 d6 k : Bool) :
 CtM Try.prog 17 [.w (.one (.p 500000 [])), .w (.one (.pl (.i 0))), .w (.one (.pl (.i 7)))] (jM ⟨e0, s0, e1, s1, d3, d4, d5, d6, k⟩) (Told (fun v m => v = .w (.one (.pl (.b true))) ∧ m = jM ⟨e0, s0, e1, s1, d3, d4, d5, d6, true⟩)) := by
 refine CtM.k Try.func17 rfl Try.ntmps17 (congrArg Array.toList Try.results17) (by simp) fun w0 ro may fx => ?_
 refine top_k fun zZ zhZ => ?_
 iterate 23 first
  | (refine sr_k fun zK zhK => ?_; simp only [go_sem, jM, Jd.ls, Int.toNat_one]; (repeat' (first | apply And.intro | intro _)))
  | refine zhK _ ?_
  | refine block_k fun zB zbn zbx zbr zbi => ?_
  | refine ret_k ?_
  | (refine zbr _ ?_; clear zbn zbx zbr zbi)
  | (refine zhM _ _ ?_; clear zhN zhM)
  | (refine zhZ _ _ ?_; simp only [go_sem, jM, Jd.ls, Int.toNat_one]; (all_goals (exact told_keep rfl (keep_one (by simp [look, Jd.ls])) ⟨rfl, rfl⟩)))
  | refine seq_k fun zN zM zhN zhM => ?_
  | (refine condF_k ?_ ?_; focus (first | rfl | (simp [go_sem, jM, Jd.ls, Int.toNat_one]; done)))
  | (refine condT_k ?_ ?_; focus (first | rfl | (simp [go_sem, jM, Jd.ls, Int.toNat_one]; done)))
theorem token_07 (j : Jd) : CtM Try.prog 17 [.w (.one (.p 500000 [])), .w (.one (.pl (.i 0))), .w (.one (.pl (.i 7)))] (jM j) (fun v m => v = .w (.one (.pl (.b (j.token false 7).1))) ∧ m = jM (j.token false 7).2) := by
 obtain ⟨e0, s0, e1, s1, d3, d4, d5, d6, k⟩ := j
 exact (tok_07 e0 s0 e1 s1 d3 d4 d5 d6 k).told
set_option maxHeartbeats 800000 in
set_option maxRecDepth 100000 in
theorem tok_03_0 (e0 s0 e1 s1 d4 d5 d6 k : Bool) :
 CtM Try.prog 17 [.w (.one (.p 500000 [])), .w (.one (.pl (.i 0))), .w (.one (.pl (.i 3)))] (jM ⟨e0, s0, e1, s1, true, d4, d5, d6, k⟩) (Told (fun v m => v = .w (.one (.pl (.b false))) ∧ m = jM ⟨e0, s0, e1, s1, true, d4, d5, d6, k⟩)) := by
 refine CtM.k Try.func17 rfl Try.ntmps17 (congrArg Array.toList Try.results17) (by simp) fun w0 ro may fx => ?_
 refine top_k fun zZ zhZ => ?_
 refine sr_k fun zK zhK => ?_
 simp only [go_sem, jM, Jd.ls, Int.toNat_one]
 repeat' (first | apply And.intro | intro _)
 refine zhK _ ?_
 refine seq_k fun zN zM zhN zhM => ?_
 refine sr_k fun zK zhK => ?_
 simp only [go_sem, jM, Jd.ls, Int.toNat_one]
 repeat' (first | apply And.intro | intro _)
 refine zhK _ ?_
 refine block_k fun zB zbn zbx zbr zbi => ?_
 refine sr_k fun zK zhK => ?_
 simp only [go_sem, jM, Jd.ls, Int.toNat_one]
 repeat' (first | apply And.intro | intro _)
 refine zhK _ ?_
 (refine condF_k ?_ ?_; focus (first | rfl | (simp [go_sem, jM, Jd.ls, Int.toNat_one]; done)))
 refine sr_k fun zK zhK => ?_
 simp only [go_sem, jM, Jd.ls, Int.toNat_one]
 repeat' (first | apply And.intro | intro _)
 refine zhK _ ?_
 (refine condF_k ?_ ?_; focus (first | rfl | (simp [go_sem, jM, Jd.ls, Int.toNat_one]; done)))
 refine sr_k fun zK zhK => ?_
 simp only [go_sem, jM, Jd.ls, Int.toNat_one]
 repeat' (first | apply And.intro | intro _)
 refine zhK _ ?_
 (refine condF_k ?_ ?_; focus (first | rfl | (simp [go_sem, jM, Jd.ls, Int.toNat_one]; done)))
 refine skip_k ?_
 refine zbn _ ?_; clear zbn zbx zbr zbi
 refine zhN _ ?_; clear zhN zhM
 refine seq_k fun zN zM zhN zhM => ?_
 refine sr_k fun zK zhK => ?_
 simp only [go_sem, jM, Jd.ls, Int.toNat_one]
 repeat' (first | apply And.intro | intro _)
 all_goals (first | ((refine call_hand false [(500000, 500000)] (fun k => k) (fun _ _ => rfl) ?_ (by decide) ?_ hH ?_; iterate 2 (focus (first | rfl | (simp only [go_sem, jM, Jd.ls, Int.toNat_one] <;> first | done | rfl | simp)))); all_goals (rintro v m ⟨hR, hm⟩; subst hR; subst hm); all_goals (refine And.intro ?_ (And.intro ?_ (And.intro ?_ ?_)); iterate 3 (focus (first | rfl | (simp only [go_sem, jM, Jd.ls, Int.toNat_one]; done) | (simp [go_sem, look, jM, Jd.ls, Int.toNat_one]; done)))); all_goals (try simp only [go_sem, jM, Jd.ls, Int.toNat_one]); all_goals (try simp only [go_sem, jM, Jd.ls, Int.toNat_one]); all_goals repeat' (first | apply And.intro | intro _)) | skip)
 refine zhK _ ?_
 (refine condT_k ?_ ?_; focus (first | rfl | (simp [go_sem, jM, Jd.ls, Int.toNat_one]; done)))
 refine sr_k fun zK zhK => ?_
 simp only [go_sem, jM, Jd.ls, Int.toNat_one]
 repeat' (first | apply And.intro | intro _)
 refine zhK _ ?_
 refine ret_k ?_
 refine zhM _ _ ?_; clear zhN zhM
 refine zhZ _ _ ?_
 simp only [go_sem, jM, Jd.ls, Int.toNat_one]
 all_goals (exact told_keep rfl (keep_one (by simp [look, Jd.ls])) ⟨rfl, rfl⟩)
set_option maxHeartbeats 800000 in
set_option maxRecDepth 100000 in
theorem tok_03_1 (s0 e1 s1 d4 d5 d6 k : Bool) :
 CtM Try.prog 17 [.w (.one (.p 500000 [])), .w (.one (.pl (.i 0))), .w (.one (.pl (.i 3)))] (jM ⟨false, s0, e1, s1, false, d4, d5, d6, k⟩) (Told (fun v m => v = .w (.one (.pl (.b false))) ∧ m = jM ⟨false, s0, e1, s1, false, d4, d5, d6, k⟩)) := by
 have hH := (has_3f s0 e1 s1 false d4 d5 d6 k).told
 refine CtM.k Try.func17 rfl Try.ntmps17 (congrArg Array.toList Try.results17) (by simp) fun w0 ro may fx => ?_
 refine top_k fun zZ zhZ => ?_
 iterate 28 first
  | (refine sr_k fun zK zhK => ?_; simp only [go_sem, jM, Jd.ls, Int.toNat_one]; (repeat' (first | apply And.intro | intro _)))
  | refine zhK _ ?_
  | refine block_k fun zB zbn zbx zbr zbi => ?_
  | refine skip_k ?_
  | (refine zbn _ ?_; clear zbn zbx zbr zbi)
  | (refine zhN _ ?_; clear zhN zhM)
  | refine ret_k ?_
  | (refine zhM _ _ ?_; clear zhN zhM)
  | (refine zhZ _ _ ?_; simp only [go_sem, jM, Jd.ls, Int.toNat_one]; (all_goals (exact told_keep rfl (keep_one (by simp [look, Jd.ls])) ⟨rfl, rfl⟩)))
  | ((all_goals (refine call_hand false [(500000, 500000)] (fun k => k) (fun _ _ => rfl) ?_ (by decide) ?_ hH ?_; iterate 2 (focus (first | rfl | (simp only [go_sem, jM, Jd.ls, Int.toNat_one] <;> first | done | rfl | simp))))); (all_goals (rintro v m ⟨hR, hm⟩; subst hR; subst hm)); (all_goals (refine And.intro ?_ (And.intro ?_ (And.intro ?_ ?_)); iterate 3 (focus (first | rfl | (simp only [go_sem, jM, Jd.ls, Int.toNat_one]; done) | (simp [go_sem, look, jM, Jd.ls, Int.toNat_one]; done))))); (all_goals (try simp only [go_sem, jM, Jd.ls, Int.toNat_one])); (all_goals (try simp only [go_sem, jM, Jd.ls, Int.toNat_one])); (all_goals repeat' (first | apply And.intro | intro _)))
  | refine seq_k fun zN zM zhN zhM => ?_
  | (refine condF_k ?_ ?_; focus (first | rfl | (simp [go_sem, jM, Jd.ls, Int.toNat_one]; done)))
  | (refine condT_k ?_ ?_; focus (first | rfl | (simp [go_sem, jM, Jd.ls, Int.toNat_one]; done)))
set_option maxHeartbeats 800000 in
set_option maxRecDepth 100000 in
theorem tok_03_2 (s0 s1 d4 d5 d6 k : Bool) :
 CtM Try.prog 17 [.w (.one (.p 500000 [])), .w (.one (.pl (.i 0))), .w (.one (.pl (.i 3)))] (jM ⟨true, s0, false, s1, false, d4, d5, d6, k⟩) (Told (fun v m => v = .w (.one (.pl (.b false))) ∧ m = jM ⟨true, s0, false, s1, false, d4, d5, d6, k⟩)) := by
 have hH := (has_3t s0 false s1 false d4 d5 d6 k).told
 refine CtM.k Try.func17 rfl Try.ntmps17 (congrArg Array.toList Try.results17) (by simp) fun w0 ro may fx => ?_
 refine top_k fun zZ zhZ => ?_
 iterate 28 first
  | (refine sr_k fun zK zhK => ?_; simp only [go_sem, jM, Jd.ls, Int.toNat_one]; (repeat' (first | apply And.intro | intro _)))
  | refine zhK _ ?_
  | refine block_k fun zB zbn zbx zbr zbi => ?_
  | refine skip_k ?_
  | (refine zbn _ ?_; clear zbn zbx zbr zbi)
  | (refine zhN _ ?_; clear zhN zhM)
  | refine ret_k ?_
  | (refine zhM _ _ ?_; clear zhN zhM)
  | (refine zhZ _ _ ?_; simp only [go_sem, jM, Jd.ls, Int.toNat_one]; (all_goals (exact told_keep rfl (keep_one (by simp [look, Jd.ls])) ⟨rfl, rfl⟩)))
  | ((all_goals (refine call_hand false [(500000, 500000)] (fun k => k) (fun _ _ => rfl) ?_ (by decide) ?_ hH ?_; iterate 2 (focus (first | rfl | (simp only [go_sem, jM, Jd.ls, Int.toNat_one] <;> first | done | rfl | simp))))); (all_goals (rintro v m ⟨hR, hm⟩; subst hR; subst hm)); (all_goals (refine And.intro ?_ (And.intro ?_ (And.intro ?_ ?_)); iterate 3 (focus (first | rfl | (simp only [go_sem, jM, Jd.ls, Int.toNat_one]; done) | (simp [go_sem, look, jM, Jd.ls, Int.toNat_one]; done))))); (all_goals (try simp only [go_sem, jM, Jd.ls, Int.toNat_one])); (all_goals (try simp only [go_sem, jM, Jd.ls, Int.toNat_one])); (all_goals repeat' (first | apply And.intro | intro _)))
  | refine seq_k fun zN zM zhN zhM => ?_
  | (refine condF_k ?_ ?_; focus (first | rfl | (simp [go_sem, jM, Jd.ls, Int.toNat_one]; done)))
  | (refine condT_k ?_ ?_; focus (first | rfl | (simp [go_sem, jM, Jd.ls, Int.toNat_one]; done)))
set_option maxHeartbeats 800000 in
set_option maxRecDepth 100000 in
theorem tok_03_3 (s0 s1 d4 d5 d6 k : Bool) :
 CtM Try.prog 17 [.w (.one (.p 500000 [])), .w (.one (.pl (.i 0))), .w (.one (.pl (.i 3)))] (jM ⟨true, s0, true, s1, false, d4, d5, d6, k⟩) (Told (fun v m => v = .w (.one (.pl (.b true))) ∧ m = jM ⟨true, s0, true, s1, true, d4, d5, d6, k⟩)) := by
 have hH := (has_3t s0 true s1 false d4 d5 d6 k).told
 refine CtM.k Try.func17 rfl Try.ntmps17 (congrArg Array.toList Try.results17) (by simp) fun w0 ro may fx => ?_
 refine top_k fun zZ zhZ => ?_
 iterate 31 first
  | (refine sr_k fun zK zhK => ?_; simp only [go_sem, jM, Jd.ls, Int.toNat_one]; (repeat' (first | apply And.intro | intro _)))
  | refine zhK _ ?_
  | refine skip_k ?_
  | (refine zhN _ ?_; clear zhN zhM)
  | refine block_k fun zB zbn zbx zbr zbi => ?_
  | (refine zbn _ ?_; clear zbn zbx zbr zbi)
  | refine ret_k ?_
  | (refine zhZ _ _ ?_; simp only [go_sem, jM, Jd.ls, Int.toNat_one]; (all_goals (exact told_keep rfl (keep_one (by simp [look, Jd.ls])) ⟨rfl, rfl⟩)))
  | ((all_goals (refine call_hand false [(500000, 500000)] (fun k => k) (fun _ _ => rfl) ?_ (by decide) ?_ hH ?_; iterate 2 (focus (first | rfl | (simp only [go_sem, jM, Jd.ls, Int.toNat_one] <;> first | done | rfl | simp))))); (all_goals (rintro v m ⟨hR, hm⟩; subst hR; subst hm)); (all_goals (refine And.intro ?_ (And.intro ?_ (And.intro ?_ ?_)); iterate 3 (focus (first | rfl | (simp only [go_sem, jM, Jd.ls, Int.toNat_one]; done) | (simp [go_sem, look, jM, Jd.ls, Int.toNat_one]; done))))); (all_goals (try simp only [go_sem, jM, Jd.ls, Int.toNat_one])); (all_goals (try simp only [go_sem, jM, Jd.ls, Int.toNat_one])); (all_goals repeat' (first | apply And.intro | intro _)))
  | refine seq_k fun zN zM zhN zhM => ?_
  | (refine condF_k ?_ ?_; focus (first | rfl | (simp [go_sem, jM, Jd.ls, Int.toNat_one]; done)))
theorem token_03 (j : Jd) : CtM Try.prog 17 [.w (.one (.p 500000 [])), .w (.one (.pl (.i 0))), .w (.one (.pl (.i 3)))] (jM j) (fun v m => v = .w (.one (.pl (.b (j.token false 3).1))) ∧ m = jM (j.token false 3).2) := by
 obtain ⟨e0, s0, e1, s1, d3, d4, d5, d6, k⟩ := j
 rcases d3 with _ | _
 · rcases e0 with _ | _
   · exact (tok_03_1 s0 e1 s1 d4 d5 d6 k).told
   · rcases e1 with _ | _
     · exact (tok_03_2 s0 s1 d4 d5 d6 k).told
     · exact (tok_03_3 s0 s1 d4 d5 d6 k).told
 · exact (tok_03_0 e0 s0 e1 s1 d4 d5 d6 k).told
set_option maxHeartbeats 800000 in
set_option maxRecDepth 100000 in
theorem tok_04_0 (e0 s0 e1 s1 d3 d5 d6 k : Bool) :
 CtM Try.prog 17 [.w (.one (.p 500000 [])), .w (.one (.pl (.i 0))), .w (.one (.pl (.i 4)))] (jM ⟨e0, s0, e1, s1, d3, true, d5, d6, k⟩) (Told (fun v m => v = .w (.one (.pl (.b false))) ∧ m = jM ⟨e0, s0, e1, s1, d3, true, d5, d6, k⟩)) := by
 refine CtM.k Try.func17 rfl Try.ntmps17 (congrArg Array.toList Try.results17) (by simp) fun w0 ro may fx => ?_
 refine top_k fun zZ zhZ => ?_
 refine sr_k fun zK zhK => ?_
 simp only [go_sem, jM, Jd.ls, Int.toNat_one]
 repeat' (first | apply And.intro | intro _)
 refine zhK _ ?_
 refine seq_k fun zN zM zhN zhM => ?_
 refine sr_k fun zK zhK => ?_
 simp only [go_sem, jM, Jd.ls, Int.toNat_one]
 repeat' (first | apply And.intro | intro _)
 refine zhK _ ?_
 refine block_k fun zB zbn zbx zbr zbi => ?_
 refine sr_k fun zK zhK => ?_
 simp only [go_sem, jM, Jd.ls, Int.toNat_one]
 repeat' (first | apply And.intro | intro _)
 refine zhK _ ?_
 (refine condF_k ?_ ?_; focus (first | rfl | (simp [go_sem, jM, Jd.ls, Int.toNat_one]; done)))
 refine sr_k fun zK zhK => ?_
 simp only [go_sem, jM, Jd.ls, Int.toNat_one]
 repeat' (first | apply And.intro | intro _)
 refine zhK _ ?_
 (refine condF_k ?_ ?_; focus (first | rfl | (simp [go_sem, jM, Jd.ls, Int.toNat_one]; done)))
 refine sr_k fun zK zhK => ?_
 simp only [go_sem, jM, Jd.ls, Int.toNat_one]
 repeat' (first | apply And.intro | intro _)
 refine zhK _ ?_
 (refine condF_k ?_ ?_; focus (first | rfl | (simp [go_sem, jM, Jd.ls, Int.toNat_one]; done)))
 refine skip_k ?_
 refine zbn _ ?_; clear zbn zbx zbr zbi
 refine zhN _ ?_; clear zhN zhM
 refine seq_k fun zN zM zhN zhM => ?_
 refine sr_k fun zK zhK => ?_
 simp only [go_sem, jM, Jd.ls, Int.toNat_one]
 repeat' (first | apply And.intro | intro _)
 all_goals (first | ((refine call_hand false [(500000, 500000)] (fun k => k) (fun _ _ => rfl) ?_ (by decide) ?_ hH ?_; iterate 2 (focus (first | rfl | (simp only [go_sem, jM, Jd.ls, Int.toNat_one] <;> first | done | rfl | simp)))); all_goals (rintro v m ⟨hR, hm⟩; subst hR; subst hm); all_goals (refine And.intro ?_ (And.intro ?_ (And.intro ?_ ?_)); iterate 3 (focus (first | rfl | (simp only [go_sem, jM, Jd.ls, Int.toNat_one]; done) | (simp [go_sem, look, jM, Jd.ls, Int.toNat_one]; done)))); all_goals (try simp only [go_sem, jM, Jd.ls, Int.toNat_one]); all_goals (try simp only [go_sem, jM, Jd.ls, Int.toNat_one]); all_goals repeat' (first | apply And.intro | intro _)) | skip)
 refine zhK _ ?_
 (refine condT_k ?_ ?_; focus (first | rfl | (simp [go_sem, jM, Jd.ls, Int.toNat_one]; done)))
 refine sr_k fun zK zhK => ?_
 simp only [go_sem, jM, Jd.ls, Int.toNat_one]
 repeat' (first | apply And.intro | intro _)
 refine zhK _ ?_
 refine ret_k ?_
 refine zhM _ _ ?_; clear zhN zhM
 refine zhZ _ _ ?_
 simp only [go_sem, jM, Jd.ls, Int.toNat_one]
 all_goals (exact told_keep rfl (keep_one (by simp [look, Jd.ls])) ⟨rfl, rfl⟩)
set_option maxHeartbeats 800000 in
set_option maxRecDepth 100000 in
theorem tok_04_1 (s0 e1 s1 d3 d5 d6 k : Bool) :
 CtM Try.prog 17 [.w (.one (.p 500000 [])), .w (.one (.pl (.i 0))), .w (.one (.pl (.i 4)))] (jM ⟨false, s0, e1, s1, d3, false, d5, d6, k⟩) (Told (fun v m => v = .w (.one (.pl (.b false))) ∧ m = jM ⟨false, s0, e1, s1, d3, false, d5, d6, k⟩)) := by
 have hH := (has_4f s0 e1 s1 d3 false d5 d6 k).told
 refine CtM.k Try.func17 rfl Try.ntmps17 (congrArg Array.toList Try.results17) (by simp) fun w0 ro may fx => ?_
 refine top_k fun zZ zhZ => ?_
 iterate 28 first
  | (refine sr_k fun zK zhK => ?_; simp only [go_sem, jM, Jd.ls, Int.toNat_one]; (repeat' (first | apply And.intro | intro _)))
  | refine zhK _ ?_
  | refine block_k fun zB zbn zbx zbr zbi => ?_
  | refine skip_k ?_
  | (refine zbn _ ?_; clear zbn zbx zbr zbi)
  | (refine zhN _ ?_; clear zhN zhM)
  | refine ret_k ?_
  | (refine zhM _ _ ?_; clear zhN zhM)
  | (refine zhZ _ _ ?_; simp only [go_sem, jM, Jd.ls, Int.toNat_one]; (all_goals (exact told_keep rfl (keep_one (by simp [look, Jd.ls])) ⟨rfl, rfl⟩)))
  | ((all_goals (refine call_hand false [(500000, 500000)] (fun k => k) (fun _ _ => rfl) ?_ (by decide) ?_ hH ?_; iterate 2 (focus (first | rfl | (simp only [go_sem, jM, Jd.ls, Int.toNat_one] <;> first | done | rfl | simp))))); (all_goals (rintro v m ⟨hR, hm⟩; subst hR; subst hm)); (all_goals (refine And.intro ?_ (And.intro ?_ (And.intro ?_ ?_)); iterate 3 (focus (first | rfl | (simp only [go_sem, jM, Jd.ls, Int.toNat_one]; done) | (simp [go_sem, look, jM, Jd.ls, Int.toNat_one]; done))))); (all_goals (try simp only [go_sem, jM, Jd.ls, Int.toNat_one])); (all_goals (try simp only [go_sem, jM, Jd.ls, Int.toNat_one])); (all_goals repeat' (first | apply And.intro | intro _)))
  | refine seq_k fun zN zM zhN zhM => ?_
  | (refine condF_k ?_ ?_; focus (first | rfl | (simp [go_sem, jM, Jd.ls, Int.toNat_one]; done)))
  | (refine condT_k ?_ ?_; focus (first | rfl | (simp [go_sem, jM, Jd.ls, Int.toNat_one]; done)))
set_option maxHeartbeats 800000 in
set_option maxRecDepth 100000 in
theorem tok_04_2 (s0 e1 d3 d5 d6 k : Bool) :
 CtM Try.prog 17 [.w (.one (.p 500000 [])), .w (.one (.pl (.i 0))), .w (.one (.pl (.i 4)))] (jM ⟨true, s0, e1, false, d3, false, d5, d6, k⟩) (Told (fun v m => v = .w (.one (.pl (.b false))) ∧ m = jM ⟨true, s0, e1, false, d3, false, d5, d6, k⟩)) := by
 have hH := (has_4t s0 e1 false d3 false d5 d6 k).told
 refine CtM.k Try.func17 rfl Try.ntmps17 (congrArg Array.toList Try.results17) (by simp) fun w0 ro may fx => ?_
 refine top_k fun zZ zhZ => ?_
 iterate 28 first
  | (refine sr_k fun zK zhK => ?_; simp only [go_sem, jM, Jd.ls, Int.toNat_one]; (repeat' (first | apply And.intro | intro _)))
  | refine zhK _ ?_
  | refine block_k fun zB zbn zbx zbr zbi => ?_
  | refine skip_k ?_
  | (refine zbn _ ?_; clear zbn zbx zbr zbi)
  | (refine zhN _ ?_; clear zhN zhM)
  | refine ret_k ?_
  | (refine zhM _ _ ?_; clear zhN zhM)
  | (refine zhZ _ _ ?_; simp only [go_sem, jM, Jd.ls, Int.toNat_one]; (all_goals (exact told_keep rfl (keep_one (by simp [look, Jd.ls])) ⟨rfl, rfl⟩)))
  | ((all_goals (refine call_hand false [(500000, 500000)] (fun k => k) (fun _ _ => rfl) ?_ (by decide) ?_ hH ?_; iterate 2 (focus (first | rfl | (simp only [go_sem, jM, Jd.ls, Int.toNat_one] <;> first | done | rfl | simp))))); (all_goals (rintro v m ⟨hR, hm⟩; subst hR; subst hm)); (all_goals (refine And.intro ?_ (And.intro ?_ (And.intro ?_ ?_)); iterate 3 (focus (first | rfl | (simp only [go_sem, jM, Jd.ls, Int.toNat_one]; done) | (simp [go_sem, look, jM, Jd.ls, Int.toNat_one]; done))))); (all_goals (try simp only [go_sem, jM, Jd.ls, Int.toNat_one])); (all_goals (try simp only [go_sem, jM, Jd.ls, Int.toNat_one])); (all_goals repeat' (first | apply And.intro | intro _)))
  | refine seq_k fun zN zM zhN zhM => ?_
  | (refine condF_k ?_ ?_; focus (first | rfl | (simp [go_sem, jM, Jd.ls, Int.toNat_one]; done)))
  | (refine condT_k ?_ ?_; focus (first | rfl | (simp [go_sem, jM, Jd.ls, Int.toNat_one]; done)))
set_option maxHeartbeats 800000 in
set_option maxRecDepth 100000 in
theorem tok_04_3 (s0 e1 d3 d5 d6 k : Bool) :
 CtM Try.prog 17 [.w (.one (.p 500000 [])), .w (.one (.pl (.i 0))), .w (.one (.pl (.i 4)))] (jM ⟨true, s0, e1, true, d3, false, d5, d6, k⟩) (Told (fun v m => v = .w (.one (.pl (.b true))) ∧ m = jM ⟨true, s0, e1, true, d3, true, d5, d6, k⟩)) := by
 have hH := (has_4t s0 e1 true d3 false d5 d6 k).told
 refine CtM.k Try.func17 rfl Try.ntmps17 (congrArg Array.toList Try.results17) (by simp) fun w0 ro may fx => ?_
 refine top_k fun zZ zhZ => ?_
 iterate 31 first
  | (refine sr_k fun zK zhK => ?_; simp only [go_sem, jM, Jd.ls, Int.toNat_one]; (repeat' (first | apply And.intro | intro _)))
  | refine zhK _ ?_
  | refine skip_k ?_
  | (refine zhN _ ?_; clear zhN zhM)
  | refine block_k fun zB zbn zbx zbr zbi => ?_
  | (refine zbn _ ?_; clear zbn zbx zbr zbi)
  | refine ret_k ?_
  | (refine zhZ _ _ ?_; simp only [go_sem, jM, Jd.ls, Int.toNat_one]; (all_goals (exact told_keep rfl (keep_one (by simp [look, Jd.ls])) ⟨rfl, rfl⟩)))
  | ((all_goals (refine call_hand false [(500000, 500000)] (fun k => k) (fun _ _ => rfl) ?_ (by decide) ?_ hH ?_; iterate 2 (focus (first | rfl | (simp only [go_sem, jM, Jd.ls, Int.toNat_one] <;> first | done | rfl | simp))))); (all_goals (rintro v m ⟨hR, hm⟩; subst hR; subst hm)); (all_goals (refine And.intro ?_ (And.intro ?_ (And.intro ?_ ?_)); iterate 3 (focus (first | rfl | (simp only [go_sem, jM, Jd.ls, Int.toNat_one]; done) | (simp [go_sem, look, jM, Jd.ls, Int.toNat_one]; done))))); (all_goals (try simp only [go_sem, jM, Jd.ls, Int.toNat_one])); (all_goals (try simp only [go_sem, jM, Jd.ls, Int.toNat_one])); (all_goals repeat' (first | apply And.intro | intro _)))
  | refine seq_k fun zN zM zhN zhM => ?_
  | (refine condF_k ?_ ?_; focus (first | rfl | (simp [go_sem, jM, Jd.ls, Int.toNat_one]; done)))
theorem token_04 (j : Jd) : CtM Try.prog 17 [.w (.one (.p 500000 [])), .w (.one (.pl (.i 0))), .w (.one (.pl (.i 4)))] (jM j) (fun v m => v = .w (.one (.pl (.b (j.token false 4).1))) ∧ m = jM (j.token false 4).2) := by
 obtain ⟨e0, s0, e1, s1, d3, d4, d5, d6, k⟩ := j
 rcases d4 with _ | _
 · rcases e0 with _ | _
   · exact (tok_04_1 s0 e1 s1 d3 d5 d6 k).told
   · rcases s1 with _ | _
     · exact (tok_04_2 s0 e1 d3 d5 d6 k).told
     · exact (tok_04_3 s0 e1 d3 d5 d6 k).told
 · exact (tok_04_0 e0 s0 e1 s1 d3 d5 d6 k).told
set_option maxHeartbeats 800000 in
set_option maxRecDepth 100000 in
theorem tok_05_0 (e0 s0 e1 s1 d3 d4 d6 k : Bool) :
 CtM Try.prog 17 [.w (.one (.p 500000 [])), .w (.one (.pl (.i 0))), .w (.one (.pl (.i 5)))] (jM ⟨e0, s0, e1, s1, d3, d4, true, d6, k⟩) (Told (fun v m => v = .w (.one (.pl (.b false))) ∧ m = jM ⟨e0, s0, e1, s1, d3, d4, true, d6, k⟩)) := by
 refine CtM.k Try.func17 rfl Try.ntmps17 (congrArg Array.toList Try.results17) (by simp) fun w0 ro may fx => ?_
 refine top_k fun zZ zhZ => ?_
 refine sr_k fun zK zhK => ?_
 simp only [go_sem, jM, Jd.ls, Int.toNat_one]
 repeat' (first | apply And.intro | intro _)
 refine zhK _ ?_
 refine seq_k fun zN zM zhN zhM => ?_
 refine sr_k fun zK zhK => ?_
 simp only [go_sem, jM, Jd.ls, Int.toNat_one]
 repeat' (first | apply And.intro | intro _)
 refine zhK _ ?_
 refine block_k fun zB zbn zbx zbr zbi => ?_
 refine sr_k fun zK zhK => ?_
 simp only [go_sem, jM, Jd.ls, Int.toNat_one]
 repeat' (first | apply And.intro | intro _)
 refine zhK _ ?_
 (refine condF_k ?_ ?_; focus (first | rfl | (simp [go_sem, jM, Jd.ls, Int.toNat_one]; done)))
 refine sr_k fun zK zhK => ?_
 simp only [go_sem, jM, Jd.ls, Int.toNat_one]
 repeat' (first | apply And.intro | intro _)
 refine zhK _ ?_
 (refine condF_k ?_ ?_; focus (first | rfl | (simp [go_sem, jM, Jd.ls, Int.toNat_one]; done)))
 refine sr_k fun zK zhK => ?_
 simp only [go_sem, jM, Jd.ls, Int.toNat_one]
 repeat' (first | apply And.intro | intro _)
 refine zhK _ ?_
 (refine condF_k ?_ ?_; focus (first | rfl | (simp [go_sem, jM, Jd.ls, Int.toNat_one]; done)))
 refine skip_k ?_
 refine zbn _ ?_; clear zbn zbx zbr zbi
 refine zhN _ ?_; clear zhN zhM
 refine seq_k fun zN zM zhN zhM => ?_
 refine sr_k fun zK zhK => ?_
 simp only [go_sem, jM, Jd.ls, Int.toNat_one]
 repeat' (first | apply And.intro | intro _)
 all_goals (first | ((refine call_hand false [(500000, 500000)] (fun k => k) (fun _ _ => rfl) ?_ (by decide) ?_ hH ?_; iterate 2 (focus (first | rfl | (simp only [go_sem, jM, Jd.ls, Int.toNat_one] <;> first | done | rfl | simp)))); all_goals (rintro v m ⟨hR, hm⟩; subst hR; subst hm); all_goals (refine And.intro ?_ (And.intro ?_ (And.intro ?_ ?_)); iterate 3 (focus (first | rfl | (simp only [go_sem, jM, Jd.ls, Int.toNat_one]; done) | (simp [go_sem, look, jM, Jd.ls, Int.toNat_one]; done)))); all_goals (try simp only [go_sem, jM, Jd.ls, Int.toNat_one]); all_goals (try simp only [go_sem, jM, Jd.ls, Int.toNat_one]); all_goals repeat' (first | apply And.intro | intro _)) | skip)
 refine zhK _ ?_
 (refine condT_k ?_ ?_; focus (first | rfl | (simp [go_sem, jM, Jd.ls, Int.toNat_one]; done)))
 refine sr_k fun zK zhK => ?_
 simp only [go_sem, jM, Jd.ls, Int.toNat_one]
 repeat' (first | apply And.intro | intro _)
 refine zhK _ ?_
 refine ret_k ?_
 refine zhM _ _ ?_; clear zhN zhM
 refine zhZ _ _ ?_
 simp only [go_sem, jM, Jd.ls, Int.toNat_one]
 all_goals (exact told_keep rfl (keep_one (by simp [look, Jd.ls])) ⟨rfl, rfl⟩)
set_option maxHeartbeats 800000 in
set_option maxRecDepth 100000 in
theorem tok_05_1 (e0 e1 s1 d3 d4 d6 k : Bool) :
 CtM Try.prog 17 [.w (.one (.p 500000 [])), .w (.one (.pl (.i 0))), .w (.one (.pl (.i 5)))] (jM ⟨e0, false, e1, s1, d3, d4, false, d6, k⟩) (Told (fun v m => v = .w (.one (.pl (.b false))) ∧ m = jM ⟨e0, false, e1, s1, d3, d4, false, d6, k⟩)) := by
 have hH := (has_5f e0 e1 s1 d3 d4 false d6 k).told
 refine CtM.k Try.func17 rfl Try.ntmps17 (congrArg Array.toList Try.results17) (by simp) fun w0 ro may fx => ?_
 refine top_k fun zZ zhZ => ?_
 iterate 28 first
  | (refine sr_k fun zK zhK => ?_; simp only [go_sem, jM, Jd.ls, Int.toNat_one]; (repeat' (first | apply And.intro | intro _)))
  | refine zhK _ ?_
  | refine block_k fun zB zbn zbx zbr zbi => ?_
  | refine skip_k ?_
  | (refine zbn _ ?_; clear zbn zbx zbr zbi)
  | (refine zhN _ ?_; clear zhN zhM)
  | refine ret_k ?_
  | (refine zhM _ _ ?_; clear zhN zhM)
  | (refine zhZ _ _ ?_; simp only [go_sem, jM, Jd.ls, Int.toNat_one]; (all_goals (exact told_keep rfl (keep_one (by simp [look, Jd.ls])) ⟨rfl, rfl⟩)))
  | ((all_goals (refine call_hand false [(500000, 500000)] (fun k => k) (fun _ _ => rfl) ?_ (by decide) ?_ hH ?_; iterate 2 (focus (first | rfl | (simp only [go_sem, jM, Jd.ls, Int.toNat_one] <;> first | done | rfl | simp))))); (all_goals (rintro v m ⟨hR, hm⟩; subst hR; subst hm)); (all_goals (refine And.intro ?_ (And.intro ?_ (And.intro ?_ ?_)); iterate 3 (focus (first | rfl | (simp only [go_sem, jM, Jd.ls, Int.toNat_one]; done) | (simp [go_sem, look, jM, Jd.ls, Int.toNat_one]; done))))); (all_goals (try simp only [go_sem, jM, Jd.ls, Int.toNat_one])); (all_goals (try simp only [go_sem, jM, Jd.ls, Int.toNat_one])); (all_goals repeat' (first | apply And.intro | intro _)))
  | refine seq_k fun zN zM zhN zhM => ?_
  | (refine condF_k ?_ ?_; focus (first | rfl | (simp [go_sem, jM, Jd.ls, Int.toNat_one]; done)))
  | (refine condT_k ?_ ?_; focus (first | rfl | (simp [go_sem, jM, Jd.ls, Int.toNat_one]; done)))
set_option maxHeartbeats 800000 in
set_option maxRecDepth 100000 in
theorem tok_05_2 (e0 s1 d3 d4 d6 k : Bool) :
 CtM Try.prog 17 [.w (.one (.p 500000 [])), .w (.one (.pl (.i 0))), .w (.one (.pl (.i 5)))] (jM ⟨e0, true, false, s1, d3, d4, false, d6, k⟩) (Told (fun v m => v = .w (.one (.pl (.b false))) ∧ m = jM ⟨e0, true, false, s1, d3, d4, false, d6, k⟩)) := by
 have hH := (has_5t e0 false s1 d3 d4 false d6 k).told
 refine CtM.k Try.func17 rfl Try.ntmps17 (congrArg Array.toList Try.results17) (by simp) fun w0 ro may fx => ?_
 refine top_k fun zZ zhZ => ?_
 iterate 28 first
  | (refine sr_k fun zK zhK => ?_; simp only [go_sem, jM, Jd.ls, Int.toNat_one]; (repeat' (first | apply And.intro | intro _)))
  | refine zhK _ ?_
  | refine block_k fun zB zbn zbx zbr zbi => ?_
  | refine skip_k ?_
  | (refine zbn _ ?_; clear zbn zbx zbr zbi)
  | (refine zhN _ ?_; clear zhN zhM)
  | refine ret_k ?_
  | (refine zhM _ _ ?_; clear zhN zhM)
  | (refine zhZ _ _ ?_; simp only [go_sem, jM, Jd.ls, Int.toNat_one]; (all_goals (exact told_keep rfl (keep_one (by simp [look, Jd.ls])) ⟨rfl, rfl⟩)))
  | ((all_goals (refine call_hand false [(500000, 500000)] (fun k => k) (fun _ _ => rfl) ?_ (by decide) ?_ hH ?_; iterate 2 (focus (first | rfl | (simp only [go_sem, jM, Jd.ls, Int.toNat_one] <;> first | done | rfl | simp))))); (all_goals (rintro v m ⟨hR, hm⟩; subst hR; subst hm)); (all_goals (refine And.intro ?_ (And.intro ?_ (And.intro ?_ ?_)); iterate 3 (focus (first | rfl | (simp only [go_sem, jM, Jd.ls, Int.toNat_one]; done) | (simp [go_sem, look, jM, Jd.ls, Int.toNat_one]; done))))); (all_goals (try simp only [go_sem, jM, Jd.ls, Int.toNat_one])); (all_goals (try simp only [go_sem, jM, Jd.ls, Int.toNat_one])); (all_goals repeat' (first | apply And.intro | intro _)))
  | refine seq_k fun zN zM zhN zhM => ?_
  | (refine condF_k ?_ ?_; focus (first | rfl | (simp [go_sem, jM, Jd.ls, Int.toNat_one]; done)))
  | (refine condT_k ?_ ?_; focus (first | rfl | (simp [go_sem, jM, Jd.ls, Int.toNat_one]; done)))
set_option maxHeartbeats 800000 in
set_option maxRecDepth 100000 in
theorem tok_05_3 (e0 s1 d3 d4 d6 k : Bool) :
 CtM Try.prog 17 [.w (.one (.p 500000 [])), .w (.one (.pl (.i 0))), .w (.one (.pl (.i 5)))] (jM ⟨e0, true, true, s1, d3, d4, false, d6, k⟩) (Told (fun v m => v = .w (.one (.pl (.b true))) ∧ m = jM ⟨e0, true, true, s1, d3, d4, true, d6, k⟩)) := by
 have hH := (has_5t e0 true s1 d3 d4 false d6 k).told
 refine CtM.k Try.func17 rfl Try.ntmps17 (congrArg Array.toList Try.results17) (by simp) fun w0 ro may fx => ?_
 refine top_k fun zZ zhZ => ?_
 iterate 31 first
  | (refine sr_k fun zK zhK => ?_; simp only [go_sem, jM, Jd.ls, Int.toNat_one]; (repeat' (first | apply And.intro | intro _)))
  | refine zhK _ ?_
  | refine skip_k ?_
  | (refine zhN _ ?_; clear zhN zhM)
  | refine block_k fun zB zbn zbx zbr zbi => ?_
  | (refine zbn _ ?_; clear zbn zbx zbr zbi)
  | refine ret_k ?_
  | (refine zhZ _ _ ?_; simp only [go_sem, jM, Jd.ls, Int.toNat_one]; (all_goals (exact told_keep rfl (keep_one (by simp [look, Jd.ls])) ⟨rfl, rfl⟩)))
  | ((all_goals (refine call_hand false [(500000, 500000)] (fun k => k) (fun _ _ => rfl) ?_ (by decide) ?_ hH ?_; iterate 2 (focus (first | rfl | (simp only [go_sem, jM, Jd.ls, Int.toNat_one] <;> first | done | rfl | simp))))); (all_goals (rintro v m ⟨hR, hm⟩; subst hR; subst hm)); (all_goals (refine And.intro ?_ (And.intro ?_ (And.intro ?_ ?_)); iterate 3 (focus (first | rfl | (simp only [go_sem, jM, Jd.ls, Int.toNat_one]; done) | (simp [go_sem, look, jM, Jd.ls, Int.toNat_one]; done))))); (all_goals (try simp only [go_sem, jM, Jd.ls, Int.toNat_one])); (all_goals (try simp only [go_sem, jM, Jd.ls, Int.toNat_one])); (all_goals repeat' (first | apply And.intro | intro _)))
  | refine seq_k fun zN zM zhN zhM => ?_
  | (refine condF_k ?_ ?_; focus (first | rfl | (simp [go_sem, jM, Jd.ls, Int.toNat_one]; done)))
theorem token_05 (j : Jd) : CtM Try.prog 17 [.w (.one (.p 500000 [])), .w (.one (.pl (.i 0))), .w (.one (.pl (.i 5)))] (jM j) (fun v m => v = .w (.one (.pl (.b (j.token false 5).1))) ∧ m = jM (j.token false 5).2) := by
 obtain ⟨e0, s0, e1, s1, d3, d4, d5, d6, k⟩ := j
 rcases d5 with _ | _
 · rcases s0 with _ | _
   · exact (tok_05_1 e0 e1 s1 d3 d4 d6 k).told
   · rcases e1 with _ | _
     · exact (tok_05_2 e0 s1 d3 d4 d6 k).told
     · exact (tok_05_3 e0 s1 d3 d4 d6 k).told
 · exact (tok_05_0 e0 s0 e1 s1 d3 d4 d6 k).told
set_option maxHeartbeats 800000 in
set_option maxRecDepth 100000 in
theorem tok_06_0 (e0 s0 e1 s1 d3 d4 d5 k : Bool) :
 CtM Try.prog 17 [.w (.one (.p 500000 [])), .w (.one (.pl (.i 0))), .w (.one (.pl (.i 6)))] (jM ⟨e0, s0, e1, s1, d3, d4, d5, true, k⟩) (Told (fun v m => v = .w (.one (.pl (.b false))) ∧ m = jM ⟨e0, s0, e1, s1, d3, d4, d5, true, k⟩)) := by
 refine CtM.k Try.func17 rfl Try.ntmps17 (congrArg Array.toList Try.results17) (by simp) fun w0 ro may fx => ?_
 refine top_k fun zZ zhZ => ?_
 refine sr_k fun zK zhK => ?_
 simp only [go_sem, jM, Jd.ls, Int.toNat_one]
 repeat' (first | apply And.intro | intro _)
 refine zhK _ ?_
 refine seq_k fun zN zM zhN zhM => ?_
 refine sr_k fun zK zhK => ?_
 simp only [go_sem, jM, Jd.ls, Int.toNat_one]
 repeat' (first | apply And.intro | intro _)
 refine zhK _ ?_
 refine block_k fun zB zbn zbx zbr zbi => ?_
 refine sr_k fun zK zhK => ?_
 simp only [go_sem, jM, Jd.ls, Int.toNat_one]
 repeat' (first | apply And.intro | intro _)
 refine zhK _ ?_
 (refine condF_k ?_ ?_; focus (first | rfl | (simp [go_sem, jM, Jd.ls, Int.toNat_one]; done)))
 refine sr_k fun zK zhK => ?_
 simp only [go_sem, jM, Jd.ls, Int.toNat_one]
 repeat' (first | apply And.intro | intro _)
 refine zhK _ ?_
 (refine condF_k ?_ ?_; focus (first | rfl | (simp [go_sem, jM, Jd.ls, Int.toNat_one]; done)))
 refine sr_k fun zK zhK => ?_
 simp only [go_sem, jM, Jd.ls, Int.toNat_one]
 repeat' (first | apply And.intro | intro _)
 refine zhK _ ?_
 (refine condF_k ?_ ?_; focus (first | rfl | (simp [go_sem, jM, Jd.ls, Int.toNat_one]; done)))
 refine skip_k ?_
 refine zbn _ ?_; clear zbn zbx zbr zbi
 refine zhN _ ?_; clear zhN zhM
 refine seq_k fun zN zM zhN zhM => ?_
 refine sr_k fun zK zhK => ?_
 simp only [go_sem, jM, Jd.ls, Int.toNat_one]
 repeat' (first | apply And.intro | intro _)
 all_goals (first | ((refine call_hand false [(500000, 500000)] (fun k => k) (fun _ _ => rfl) ?_ (by decide) ?_ hH ?_; iterate 2 (focus (first | rfl | (simp only [go_sem, jM, Jd.ls, Int.toNat_one] <;> first | done | rfl | simp)))); all_goals (rintro v m ⟨hR, hm⟩; subst hR; subst hm); all_goals (refine And.intro ?_ (And.intro ?_ (And.intro ?_ ?_)); iterate 3 (focus (first | rfl | (simp only [go_sem, jM, Jd.ls, Int.toNat_one]; done) | (simp [go_sem, look, jM, Jd.ls, Int.toNat_one]; done)))); all_goals (try simp only [go_sem, jM, Jd.ls, Int.toNat_one]); all_goals (try simp only [go_sem, jM, Jd.ls, Int.toNat_one]); all_goals repeat' (first | apply And.intro | intro _)) | skip)
 refine zhK _ ?_
 (refine condT_k ?_ ?_; focus (first | rfl | (simp [go_sem, jM, Jd.ls, Int.toNat_one]; done)))
 refine sr_k fun zK zhK => ?_
 simp only [go_sem, jM, Jd.ls, Int.toNat_one]
 repeat' (first | apply And.intro | intro _)
 refine zhK _ ?_
 refine ret_k ?_
 refine zhM _ _ ?_; clear zhN zhM
 refine zhZ _ _ ?_
 simp only [go_sem, jM, Jd.ls, Int.toNat_one]
 all_goals (exact told_keep rfl (keep_one (by simp [look, Jd.ls])) ⟨rfl, rfl⟩)
set_option maxHeartbeats 800000 in
set_option maxRecDepth 100000 in
theorem tok_06_1 (e0 e1 s1 d3 d4 d5 k : Bool) :
 CtM Try.prog 17 [.w (.one (.p 500000 [])), .w (.one (.pl (.i 0))), .w (.one (.pl (.i 6)))] (jM ⟨e0, false, e1, s1, d3, d4, d5, false, k⟩) (Told (fun v m => v = .w (.one (.pl (.b false))) ∧ m = jM ⟨e0, false, e1, s1, d3, d4, d5, false, k⟩)) := by
 have hH := (has_6f e0 e1 s1 d3 d4 d5 false k).told
 refine CtM.k Try.func17 rfl Try.ntmps17 (congrArg Array.toList Try.results17) (by simp) fun w0 ro may fx => ?_
 refine top_k fun zZ zhZ => ?_
 iterate 28 first
  | (refine sr_k fun zK zhK => ?_; simp only [go_sem, jM, Jd.ls, Int.toNat_one]; (repeat' (first | apply And.intro | intro _)))
  | refine zhK _ ?_
  | refine block_k fun zB zbn zbx zbr zbi => ?_
  | refine skip_k ?_
  | (refine zbn _ ?_; clear zbn zbx zbr zbi)
  | (refine zhN _ ?_; clear zhN zhM)
  | refine ret_k ?_
  | (refine zhM _ _ ?_; clear zhN zhM)
  | (refine zhZ _ _ ?_; simp only [go_sem, jM, Jd.ls, Int.toNat_one]; (all_goals (exact told_keep rfl (keep_one (by simp [look, Jd.ls])) ⟨rfl, rfl⟩)))
  | ((all_goals (refine call_hand false [(500000, 500000)] (fun k => k) (fun _ _ => rfl) ?_ (by decide) ?_ hH ?_; iterate 2 (focus (first | rfl | (simp only [go_sem, jM, Jd.ls, Int.toNat_one] <;> first | done | rfl | simp))))); (all_goals (rintro v m ⟨hR, hm⟩; subst hR; subst hm)); (all_goals (refine And.intro ?_ (And.intro ?_ (And.intro ?_ ?_)); iterate 3 (focus (first | rfl | (simp only [go_sem, jM, Jd.ls, Int.toNat_one]; done) | (simp [go_sem, look, jM, Jd.ls, Int.toNat_one]; done))))); (all_goals (try simp only [go_sem, jM, Jd.ls, Int.toNat_one])); (all_goals (try simp only [go_sem, jM, Jd.ls, Int.toNat_one])); (all_goals repeat' (first | apply And.intro | intro _)))
  | refine seq_k fun zN zM zhN zhM => ?_
  | (refine condF_k ?_ ?_; focus (first | rfl | (simp [go_sem, jM, Jd.ls, Int.toNat_one]; done)))
  | (refine condT_k ?_ ?_; focus (first | rfl | (simp [go_sem, jM, Jd.ls, Int.toNat_one]; done)))
set_option maxHeartbeats 800000 in
set_option maxRecDepth 100000 in
theorem tok_06_2 (e0 e1 d3 d4 d5 k : Bool) :
 CtM Try.prog 17 [.w (.one (.p 500000 [])), .w (.one (.pl (.i 0))), .w (.one (.pl (.i 6)))] (jM ⟨e0, true, e1, false, d3, d4, d5, false, k⟩) (Told (fun v m => v = .w (.one (.pl (.b false))) ∧ m = jM ⟨e0, true, e1, false, d3, d4, d5, false, k⟩)) := by
 have hH := (has_6t e0 e1 false d3 d4 d5 false k).told
 refine CtM.k Try.func17 rfl Try.ntmps17 (congrArg Array.toList Try.results17) (by simp) fun w0 ro may fx => ?_
 refine top_k fun zZ zhZ => ?_
 iterate 28 first
  | (refine sr_k fun zK zhK => ?_; simp only [go_sem, jM, Jd.ls, Int.toNat_one]; (repeat' (first | apply And.intro | intro _)))
  | refine zhK _ ?_
  | refine block_k fun zB zbn zbx zbr zbi => ?_
  | refine skip_k ?_
  | (refine zbn _ ?_; clear zbn zbx zbr zbi)
  | (refine zhN _ ?_; clear zhN zhM)
  | refine ret_k ?_
  | (refine zhM _ _ ?_; clear zhN zhM)
  | (refine zhZ _ _ ?_; simp only [go_sem, jM, Jd.ls, Int.toNat_one]; (all_goals (exact told_keep rfl (keep_one (by simp [look, Jd.ls])) ⟨rfl, rfl⟩)))
  | ((all_goals (refine call_hand false [(500000, 500000)] (fun k => k) (fun _ _ => rfl) ?_ (by decide) ?_ hH ?_; iterate 2 (focus (first | rfl | (simp only [go_sem, jM, Jd.ls, Int.toNat_one] <;> first | done | rfl | simp))))); (all_goals (rintro v m ⟨hR, hm⟩; subst hR; subst hm)); (all_goals (refine And.intro ?_ (And.intro ?_ (And.intro ?_ ?_)); iterate 3 (focus (first | rfl | (simp only [go_sem, jM, Jd.ls, Int.toNat_one]; done) | (simp [go_sem, look, jM, Jd.ls, Int.toNat_one]; done))))); (all_goals (try simp only [go_sem, jM, Jd.ls, Int.toNat_one])); (all_goals (try simp only [go_sem, jM, Jd.ls, Int.toNat_one])); (all_goals repeat' (first | apply And.intro | intro _)))
  | refine seq_k fun zN zM zhN zhM => ?_
  | (refine condF_k ?_ ?_; focus (first | rfl | (simp [go_sem, jM, Jd.ls, Int.toNat_one]; done)))
  | (refine condT_k ?_ ?_; focus (first | rfl | (simp [go_sem, jM, Jd.ls, Int.toNat_one]; done)))
set_option maxHeartbeats 800000 in
set_option maxRecDepth 100000 in
theorem tok_06_3 (e0 e1 d3 d4 d5 k : Bool) :
 CtM Try.prog 17 [.w (.one (.p 500000 [])), .w (.one (.pl (.i 0))), .w (.one (.pl (.i 6)))] (jM ⟨e0, true, e1, true, d3, d4, d5, false, k⟩) (Told (fun v m => v = .w (.one (.pl (.b true))) ∧ m = jM ⟨e0, true, e1, true, d3, d4, d5, true, k⟩)) := by
 have hH := (has_6t e0 e1 true d3 d4 d5 false k).told
 refine CtM.k Try.func17 rfl Try.ntmps17 (congrArg Array.toList Try.results17) (by simp) fun w0 ro may fx => ?_
 refine top_k fun zZ zhZ => ?_
 iterate 31 first
  | (refine sr_k fun zK zhK => ?_; simp only [go_sem, jM, Jd.ls, Int.toNat_one]; (repeat' (first | apply And.intro | intro _)))
  | refine zhK _ ?_
  | refine skip_k ?_
  | (refine zhN _ ?_; clear zhN zhM)
  | refine block_k fun zB zbn zbx zbr zbi => ?_
  | (refine zbn _ ?_; clear zbn zbx zbr zbi)
  | refine ret_k ?_
  | (refine zhZ _ _ ?_; simp only [go_sem, jM, Jd.ls, Int.toNat_one]; (all_goals (exact told_keep rfl (keep_one (by simp [look, Jd.ls])) ⟨rfl, rfl⟩)))
  | ((all_goals (refine call_hand false [(500000, 500000)] (fun k => k) (fun _ _ => rfl) ?_ (by decide) ?_ hH ?_; iterate 2 (focus (first | rfl | (simp only [go_sem, jM, Jd.ls, Int.toNat_one] <;> first | done | rfl | simp))))); (all_goals (rintro v m ⟨hR, hm⟩; subst hR; subst hm)); (all_goals (refine And.intro ?_ (And.intro ?_ (And.intro ?_ ?_)); iterate 3 (focus (first | rfl | (simp only [go_sem, jM, Jd.ls, Int.toNat_one]; done) | (simp [go_sem, look, jM, Jd.ls, Int.toNat_one]; done))))); (all_goals (try simp only [go_sem, jM, Jd.ls, Int.toNat_one])); (all_goals (try simp only [go_sem, jM, Jd.ls, Int.toNat_one])); (all_goals repeat' (first | apply And.intro | intro _)))
  | refine seq_k fun zN zM zhN zhM => ?_
  | (refine condF_k ?_ ?_; focus (first | rfl | (simp [go_sem, jM, Jd.ls, Int.toNat_one]; done)))
theorem token_06 (j : Jd) : CtM Try.prog 17 [.w (.one (.p 500000 [])), .w (.one (.pl (.i 0))), .w (.one (.pl (.i 6)))] (jM j) (fun v m => v = .w (.one (.pl (.b (j.token false 6).1))) ∧ m = jM (j.token false 6).2) := by
 obtain ⟨e0, s0, e1, s1, d3, d4, d5, d6, k⟩ := j
 rcases d6 with _ | _
 · rcases s0 with _ | _
   · exact (tok_06_1 e0 e1 s1 d3 d4 d5 k).told
   · rcases s1 with _ | _
     · exact (tok_06_2 e0 e1 d3 d4 d5 k).told
     · exact (tok_06_3 e0 e1 d3 d4 d5 k).told
 · exact (tok_06_0 e0 s0 e1 s1 d3 d4 d5 k).told
set_option maxHeartbeats 800000 in
set_option maxRecDepth 100000 in
theorem tok_17 (e0 s0 e1 s1 d3 d4 d5 d6 k : Bool) :
 CtM Try.prog 17 [.w (.one (.p 500000 [])), .w (.one (.pl (.i 1))), .w (.one (.pl (.i 7)))] (jM ⟨e0, s0, e1, s1, d3, d4, d5, d6, k⟩) (Told (fun v m => v = .w (.one (.pl (.b true))) ∧ m = jM ⟨e0, s0, e1, s1, d3, d4, d5, d6, true⟩)) := by
 refine CtM.k Try.func17 rfl Try.ntmps17 (congrArg Array.toList Try.results17) (by simp) fun w0 ro may fx => ?_
 refine top_k fun zZ zhZ => ?_
 iterate 23 first
  | (refine sr_k fun zK zhK => ?_; simp only [go_sem, jM, Jd.ls, Int.toNat_one]; (repeat' (first | apply And.intro | intro _)))
  | refine zhK _ ?_
  | refine block_k fun zB zbn zbx zbr zbi => ?_
  | refine ret_k ?_
  | (refine zbr _ ?_; clear zbn zbx zbr zbi)
  | (refine zhM _ _ ?_; clear zhN zhM)
  | (refine zhZ _ _ ?_; simp only [go_sem, jM, Jd.ls, Int.toNat_one]; (all_goals (exact told_keep rfl (keep_one (by simp [look, Jd.ls])) ⟨rfl, rfl⟩)))
  | refine seq_k fun zN zM zhN zhM => ?_
  | (refine condF_k ?_ ?_; focus (first | rfl | (simp [go_sem, jM, Jd.ls, Int.toNat_one]; done)))
  | (refine condT_k ?_ ?_; focus (first | rfl | (simp [go_sem, jM, Jd.ls, Int.toNat_one]; done)))
theorem token_17 (j : Jd) : CtM Try.prog 17 [.w (.one (.p 500000 [])), .w (.one (.pl (.i 1))), .w (.one (.pl (.i 7)))] (jM j) (fun v m => v = .w (.one (.pl (.b (j.token true 7).1))) ∧ m = jM (j.token true 7).2) := by
 obtain ⟨e0, s0, e1, s1, d3, d4, d5, d6, k⟩ := j
 exact (tok_17 e0 s0 e1 s1 d3 d4 d5 d6 k).told
set_option maxHeartbeats 800000 in
set_option maxRecDepth 100000 in
theorem tok_13_0 (e0 s0 e1 s1 d4 d5 d6 k : Bool) :
 CtM Try.prog 17 [.w (.one (.p 500000 [])), .w (.one (.pl (.i 1))), .w (.one (.pl (.i 3)))] (jM ⟨e0, s0, e1, s1, true, d4, d5, d6, k⟩) (Told (fun v m => v = .w (.one (.pl (.b false))) ∧ m = jM ⟨e0, s0, e1, s1, true, d4, d5, d6, k⟩)) := by
 refine CtM.k Try.func17 rfl Try.ntmps17 (congrArg Array.toList Try.results17) (by simp) fun w0 ro may fx => ?_
 refine top_k fun zZ zhZ => ?_
 refine sr_k fun zK zhK => ?_
 simp only [go_sem, jM, Jd.ls, Int.toNat_one]
 repeat' (first | apply And.intro | intro _)
 refine zhK _ ?_
 refine seq_k fun zN zM zhN zhM => ?_
 refine sr_k fun zK zhK => ?_
 simp only [go_sem, jM, Jd.ls, Int.toNat_one]
 repeat' (first | apply And.intro | intro _)
 refine zhK _ ?_
 refine block_k fun zB zbn zbx zbr zbi => ?_
 refine sr_k fun zK zhK => ?_
 simp only [go_sem, jM, Jd.ls, Int.toNat_one]
 repeat' (first | apply And.intro | intro _)
 refine zhK _ ?_
 (refine condF_k ?_ ?_; focus (first | rfl | (simp [go_sem, jM, Jd.ls, Int.toNat_one]; done)))
 refine sr_k fun zK zhK => ?_
 simp only [go_sem, jM, Jd.ls, Int.toNat_one]
 repeat' (first | apply And.intro | intro _)
 refine zhK _ ?_
 (refine condF_k ?_ ?_; focus (first | rfl | (simp [go_sem, jM, Jd.ls, Int.toNat_one]; done)))
 refine sr_k fun zK zhK => ?_
 simp only [go_sem, jM, Jd.ls, Int.toNat_one]
 repeat' (first | apply And.intro | intro _)
 refine zhK _ ?_
 (refine condF_k ?_ ?_; focus (first | rfl | (simp [go_sem, jM, Jd.ls, Int.toNat_one]; done)))
 refine skip_k ?_
 refine zbn _ ?_; clear zbn zbx zbr zbi
 refine zhN _ ?_; clear zhN zhM
 refine seq_k fun zN zM zhN zhM => ?_
 refine sr_k fun zK zhK => ?_
 simp only [go_sem, jM, Jd.ls, Int.toNat_one]
 repeat' (first | apply And.intro | intro _)
 all_goals (first | ((refine call_hand false [(500000, 500000)] (fun k => k) (fun _ _ => rfl) ?_ (by decide) ?_ hH ?_; iterate 2 (focus (first | rfl | (simp only [go_sem, jM, Jd.ls, Int.toNat_one] <;> first | done | rfl | simp)))); all_goals (rintro v m ⟨hR, hm⟩; subst hR; subst hm); all_goals (refine And.intro ?_ (And.intro ?_ (And.intro ?_ ?_)); iterate 3 (focus (first | rfl | (simp only [go_sem, jM, Jd.ls, Int.toNat_one]; done) | (simp [go_sem, look, jM, Jd.ls, Int.toNat_one]; done)))); all_goals (try simp only [go_sem, jM, Jd.ls, Int.toNat_one]); all_goals (try simp only [go_sem, jM, Jd.ls, Int.toNat_one]); all_goals repeat' (first | apply And.intro | intro _)) | skip)
 refine zhK _ ?_
 (refine condT_k ?_ ?_; focus (first | rfl | (simp [go_sem, jM, Jd.ls, Int.toNat_one]; done)))
 refine sr_k fun zK zhK => ?_
 simp only [go_sem, jM, Jd.ls, Int.toNat_one]
 repeat' (first | apply And.intro | intro _)
 refine zhK _ ?_
 refine ret_k ?_
 refine zhM _ _ ?_; clear zhN zhM
 refine zhZ _ _ ?_
 simp only [go_sem, jM, Jd.ls, Int.toNat_one]
 all_goals (exact told_keep rfl (keep_one (by simp [look, Jd.ls])) ⟨rfl, rfl⟩)
set_option maxHeartbeats 800000 in
set_option maxRecDepth 100000 in
theorem tok_13_1 (s0 e1 s1 d4 d5 d6 k : Bool) :
 CtM Try.prog 17 [.w (.one (.p 500000 [])), .w (.one (.pl (.i 1))), .w (.one (.pl (.i 3)))] (jM ⟨false, s0, e1, s1, false, d4, d5, d6, k⟩) (Told (fun v m => v = .w (.one (.pl (.b false))) ∧ m = jM ⟨false, s0, e1, s1, false, d4, d5, d6, k⟩)) := by
 have hH := (has_3f s0 e1 s1 false d4 d5 d6 k).told
 refine CtM.k Try.func17 rfl Try.ntmps17 (congrArg Array.toList Try.results17) (by simp) fun w0 ro may fx => ?_
 refine top_k fun zZ zhZ => ?_
 iterate 28 first
  | (refine sr_k fun zK zhK => ?_; simp only [go_sem, jM, Jd.ls, Int.toNat_one]; (repeat' (first | apply And.intro | intro _)))
  | refine zhK _ ?_
  | refine block_k fun zB zbn zbx zbr zbi => ?_
  | refine skip_k ?_
  | (refine zbn _ ?_; clear zbn zbx zbr zbi)
  | (refine zhN _ ?_; clear zhN zhM)
  | refine ret_k ?_
  | (refine zhM _ _ ?_; clear zhN zhM)
  | (refine zhZ _ _ ?_; simp only [go_sem, jM, Jd.ls, Int.toNat_one]; (all_goals (exact told_keep rfl (keep_one (by simp [look, Jd.ls])) ⟨rfl, rfl⟩)))
  | ((all_goals (refine call_hand false [(500000, 500000)] (fun k => k) (fun _ _ => rfl) ?_ (by decide) ?_ hH ?_; iterate 2 (focus (first | rfl | (simp only [go_sem, jM, Jd.ls, Int.toNat_one] <;> first | done | rfl | simp))))); (all_goals (rintro v m ⟨hR, hm⟩; subst hR; subst hm)); (all_goals (refine And.intro ?_ (And.intro ?_ (And.intro ?_ ?_)); iterate 3 (focus (first | rfl | (simp only [go_sem, jM, Jd.ls, Int.toNat_one]; done) | (simp [go_sem, look, jM, Jd.ls, Int.toNat_one]; done))))); (all_goals (try simp only [go_sem, jM, Jd.ls, Int.toNat_one])); (all_goals (try simp only [go_sem, jM, Jd.ls, Int.toNat_one])); (all_goals repeat' (first | apply And.intro | intro _)))
  | refine seq_k fun zN zM zhN zhM => ?_
  | (refine condF_k ?_ ?_; focus (first | rfl | (simp [go_sem, jM, Jd.ls, Int.toNat_one]; done)))
  | (refine condT_k ?_ ?_; focus (first | rfl | (simp [go_sem, jM, Jd.ls, Int.toNat_one]; done)))
set_option maxHeartbeats 800000 in
set_option maxRecDepth 100000 in
theorem tok_13_2 (s0 s1 d4 d5 d6 k : Bool) :
 CtM Try.prog 17 [.w (.one (.p 500000 [])), .w (.one (.pl (.i 1))), .w (.one (.pl (.i 3)))] (jM ⟨true, s0, false, s1, false, d4, d5, d6, k⟩) (Told (fun v m => v = .w (.one (.pl (.b false))) ∧ m = jM ⟨true, s0, false, s1, false, d4, d5, d6, k⟩)) := by
 have hH := (has_3t s0 false s1 false d4 d5 d6 k).told
 refine CtM.k Try.func17 rfl Try.ntmps17 (congrArg Array.toList Try.results17) (by simp) fun w0 ro may fx => ?_
 refine top_k fun zZ zhZ => ?_
 iterate 28 first
  | (refine sr_k fun zK zhK => ?_; simp only [go_sem, jM, Jd.ls, Int.toNat_one]; (repeat' (first | apply And.intro | intro _)))
  | refine zhK _ ?_
  | refine block_k fun zB zbn zbx zbr zbi => ?_
  | refine skip_k ?_
  | (refine zbn _ ?_; clear zbn zbx zbr zbi)
  | (refine zhN _ ?_; clear zhN zhM)
  | refine ret_k ?_
  | (refine zhM _ _ ?_; clear zhN zhM)
  | (refine zhZ _ _ ?_; simp only [go_sem, jM, Jd.ls, Int.toNat_one]; (all_goals (exact told_keep rfl (keep_one (by simp [look, Jd.ls])) ⟨rfl, rfl⟩)))
  | ((all_goals (refine call_hand false [(500000, 500000)] (fun k => k) (fun _ _ => rfl) ?_ (by decide) ?_ hH ?_; iterate 2 (focus (first | rfl | (simp only [go_sem, jM, Jd.ls, Int.toNat_one] <;> first | done | rfl | simp))))); (all_goals (rintro v m ⟨hR, hm⟩; subst hR; subst hm)); (all_goals (refine And.intro ?_ (And.intro ?_ (And.intro ?_ ?_)); iterate 3 (focus (first | rfl | (simp only [go_sem, jM, Jd.ls, Int.toNat_one]; done) | (simp [go_sem, look, jM, Jd.ls, Int.toNat_one]; done))))); (all_goals (try simp only [go_sem, jM, Jd.ls, Int.toNat_one])); (all_goals (try simp only [go_sem, jM, Jd.ls, Int.toNat_one])); (all_goals repeat' (first | apply And.intro | intro _)))
  | refine seq_k fun zN zM zhN zhM => ?_
  | (refine condF_k ?_ ?_; focus (first | rfl | (simp [go_sem, jM, Jd.ls, Int.toNat_one]; done)))
  | (refine condT_k ?_ ?_; focus (first | rfl | (simp [go_sem, jM, Jd.ls, Int.toNat_one]; done)))
set_option maxHeartbeats 800000 in
set_option maxRecDepth 100000 in
theorem tok_13_3 (s0 s1 d4 d5 d6 k : Bool) :
 CtM Try.prog 17 [.w (.one (.p 500000 [])), .w (.one (.pl (.i 1))), .w (.one (.pl (.i 3)))] (jM ⟨true, s0, true, s1, false, d4, d5, d6, k⟩) (Told (fun v m => v = .w (.one (.pl (.b true))) ∧ m = jM ⟨true, s0, true, s1, true, d4, d5, d6, k⟩)) := by
 have hH := (has_3t s0 true s1 false d4 d5 d6 k).told
 refine CtM.k Try.func17 rfl Try.ntmps17 (congrArg Array.toList Try.results17) (by simp) fun w0 ro may fx => ?_
 refine top_k fun zZ zhZ => ?_
 iterate 31 first
  | (refine sr_k fun zK zhK => ?_; simp only [go_sem, jM, Jd.ls, Int.toNat_one]; (repeat' (first | apply And.intro | intro _)))
  | refine zhK _ ?_
  | refine skip_k ?_
  | (refine zhN _ ?_; clear zhN zhM)
  | refine block_k fun zB zbn zbx zbr zbi => ?_
  | (refine zbn _ ?_; clear zbn zbx zbr zbi)
  | refine ret_k ?_
  | (refine zhZ _ _ ?_; simp only [go_sem, jM, Jd.ls, Int.toNat_one]; (all_goals (exact told_keep rfl (keep_one (by simp [look, Jd.ls])) ⟨rfl, rfl⟩)))
  | ((all_goals (refine call_hand false [(500000, 500000)] (fun k => k) (fun _ _ => rfl) ?_ (by decide) ?_ hH ?_; iterate 2 (focus (first | rfl | (simp only [go_sem, jM, Jd.ls, Int.toNat_one] <;> first | done | rfl | simp))))); (all_goals (rintro v m ⟨hR, hm⟩; subst hR; subst hm)); (all_goals (refine And.intro ?_ (And.intro ?_ (And.intro ?_ ?_)); iterate 3 (focus (first | rfl | (simp only [go_sem, jM, Jd.ls, Int.toNat_one]; done) | (simp [go_sem, look, jM, Jd.ls, Int.toNat_one]; done))))); (all_goals (try simp only [go_sem, jM, Jd.ls, Int.toNat_one])); (all_goals (try simp only [go_sem, jM, Jd.ls, Int.toNat_one])); (all_goals repeat' (first | apply And.intro | intro _)))
  | refine seq_k fun zN zM zhN zhM => ?_
  | (refine condF_k ?_ ?_; focus (first | rfl | (simp [go_sem, jM, Jd.ls, Int.toNat_one]; done)))
theorem token_13 (j : Jd) : CtM Try.prog 17 [.w (.one (.p 500000 [])), .w (.one (.pl (.i 1))), .w (.one (.pl (.i 3)))] (jM j) (fun v m => v = .w (.one (.pl (.b (j.token true 3).1))) ∧ m = jM (j.token true 3).2) := by
 obtain ⟨e0, s0, e1, s1, d3, d4, d5, d6, k⟩ := j
 rcases d3 with _ | _
 · rcases e0 with _ | _
   · exact (tok_13_1 s0 e1 s1 d4 d5 d6 k).told
   · rcases e1 with _ | _
     · exact (tok_13_2 s0 s1 d4 d5 d6 k).told
     · exact (tok_13_3 s0 s1 d4 d5 d6 k).told
 · exact (tok_13_0 e0 s0 e1 s1 d4 d5 d6 k).told
set_option maxHeartbeats 800000 in
set_option maxRecDepth 100000 in
theorem tok_14_0 (e0 s0 e1 s1 d3 d5 d6 k : Bool) :
 CtM Try.prog 17 [.w (.one (.p 500000 [])), .w (.one (.pl (.i 1))), .w (.one (.pl (.i 4)))] (jM ⟨e0, s0, e1, s1, d3, true, d5, d6, k⟩) (Told (fun v m => v = .w (.one (.pl (.b false))) ∧ m = jM ⟨e0, s0, e1, s1, d3, true, d5, d6, k⟩)) := by
 refine CtM.k Try.func17 rfl Try.ntmps17 (congrArg Array.toList Try.results17) (by simp) fun w0 ro may fx => ?_
 refine top_k fun zZ zhZ => ?_
 refine sr_k fun zK zhK => ?_
 simp only [go_sem, jM, Jd.ls, Int.toNat_one]
 repeat' (first | apply And.intro | intro _)
 refine zhK _ ?_
 refine seq_k fun zN zM zhN zhM => ?_
 refine sr_k fun zK zhK => ?_
 simp only [go_sem, jM, Jd.ls, Int.toNat_one]
 repeat' (first | apply And.intro | intro _)
 refine zhK _ ?_
 refine block_k fun zB zbn zbx zbr zbi => ?_
 refine sr_k fun zK zhK => ?_
 simp only [go_sem, jM, Jd.ls, Int.toNat_one]
 repeat' (first | apply And.intro | intro _)
 refine zhK _ ?_
 (refine condF_k ?_ ?_; focus (first | rfl | (simp [go_sem, jM, Jd.ls, Int.toNat_one]; done)))
 refine sr_k fun zK zhK => ?_
 simp only [go_sem, jM, Jd.ls, Int.toNat_one]
 repeat' (first | apply And.intro | intro _)
 refine zhK _ ?_
 (refine condF_k ?_ ?_; focus (first | rfl | (simp [go_sem, jM, Jd.ls, Int.toNat_one]; done)))
 refine sr_k fun zK zhK => ?_
 simp only [go_sem, jM, Jd.ls, Int.toNat_one]
 repeat' (first | apply And.intro | intro _)
 refine zhK _ ?_
 (refine condF_k ?_ ?_; focus (first | rfl | (simp [go_sem, jM, Jd.ls, Int.toNat_one]; done)))
 refine skip_k ?_
 refine zbn _ ?_; clear zbn zbx zbr zbi
 refine zhN _ ?_; clear zhN zhM
 refine seq_k fun zN zM zhN zhM => ?_
 refine sr_k fun zK zhK => ?_
 simp only [go_sem, jM, Jd.ls, Int.toNat_one]
 repeat' (first | apply And.intro | intro _)
 all_goals (first | ((refine call_hand false [(500000, 500000)] (fun k => k) (fun _ _ => rfl) ?_ (by decide) ?_ hH ?_; iterate 2 (focus (first | rfl | (simp only [go_sem, jM, Jd.ls, Int.toNat_one] <;> first | done | rfl | simp)))); all_goals (rintro v m ⟨hR, hm⟩; subst hR; subst hm); all_goals (refine And.intro ?_ (And.intro ?_ (And.intro ?_ ?_)); iterate 3 (focus (first | rfl | (simp only [go_sem, jM, Jd.ls, Int.toNat_one]; done) | (simp [go_sem, look, jM, Jd.ls, Int.toNat_one]; done)))); all_goals (try simp only [go_sem, jM, Jd.ls, Int.toNat_one]); all_goals (try simp only [go_sem, jM, Jd.ls, Int.toNat_one]); all_goals repeat' (first | apply And.intro | intro _)) | skip)
 refine zhK _ ?_
 (refine condT_k ?_ ?_; focus (first | rfl | (simp [go_sem, jM, Jd.ls, Int.toNat_one]; done)))
 refine sr_k fun zK zhK => ?_
 simp only [go_sem, jM, Jd.ls, Int.toNat_one]
 repeat' (first | apply And.intro | intro _)
 refine zhK _ ?_
 refine ret_k ?_
 refine zhM _ _ ?_; clear zhN zhM
 refine zhZ _ _ ?_
 simp only [go_sem, jM, Jd.ls, Int.toNat_one]
 all_goals (exact told_keep rfl (keep_one (by simp [look, Jd.ls])) ⟨rfl, rfl⟩)
set_option maxHeartbeats 800000 in
set_option maxRecDepth 100000 in
theorem tok_14_1 (s0 e1 s1 d3 d5 d6 k : Bool) :
 CtM Try.prog 17 [.w (.one (.p 500000 [])), .w (.one (.pl (.i 1))), .w (.one (.pl (.i 4)))] (jM ⟨false, s0, e1, s1, d3, false, d5, d6, k⟩) (Told (fun v m => v = .w (.one (.pl (.b false))) ∧ m = jM ⟨false, s0, e1, s1, d3, false, d5, d6, k⟩)) := by
 have hH := (has_4f s0 e1 s1 d3 false d5 d6 k).told
 refine CtM.k Try.func17 rfl Try.ntmps17 (congrArg Array.toList Try.results17) (by simp) fun w0 ro may fx => ?_
 refine top_k fun zZ zhZ => ?_
 iterate 28 first
  | (refine sr_k fun zK zhK => ?_; simp only [go_sem, jM, Jd.ls, Int.toNat_one]; (repeat' (first | apply And.intro | intro _)))
  | refine zhK _ ?_
  | refine block_k fun zB zbn zbx zbr zbi => ?_
  | refine skip_k ?_
  | (refine zbn _ ?_; clear zbn zbx zbr zbi)
  | (refine zhN _ ?_; clear zhN zhM)
  | refine ret_k ?_
  | (refine zhM _ _ ?_; clear zhN zhM)
  | (refine zhZ _ _ ?_; simp only [go_sem, jM, Jd.ls, Int.toNat_one]; (all_goals (exact told_keep rfl (keep_one (by simp [look, Jd.ls])) ⟨rfl, rfl⟩)))
  | ((all_goals (refine call_hand false [(500000, 500000)] (fun k => k) (fun _ _ => rfl) ?_ (by decide) ?_ hH ?_; iterate 2 (focus (first | rfl | (simp only [go_sem, jM, Jd.ls, Int.toNat_one] <;> first | done | rfl | simp))))); (all_goals (rintro v m ⟨hR, hm⟩; subst hR; subst hm)); (all_goals (refine And.intro ?_ (And.intro ?_ (And.intro ?_ ?_)); iterate 3 (focus (first | rfl | (simp only [go_sem, jM, Jd.ls, Int.toNat_one]; done) | (simp [go_sem, look, jM, Jd.ls, Int.toNat_one]; done))))); (all_goals (try simp only [go_sem, jM, Jd.ls, Int.toNat_one])); (all_goals (try simp only [go_sem, jM, Jd.ls, Int.toNat_one])); (all_goals repeat' (first | apply And.intro | intro _)))
  | refine seq_k fun zN zM zhN zhM => ?_
  | (refine condF_k ?_ ?_; focus (first | rfl | (simp [go_sem, jM, Jd.ls, Int.toNat_one]; done)))
  | (refine condT_k ?_ ?_; focus (first | rfl | (simp [go_sem, jM, Jd.ls, Int.toNat_one]; done)))
set_option maxHeartbeats 800000 in
set_option maxRecDepth 100000 in
theorem tok_14_2 (s0 e1 d3 d5 d6 k : Bool) :
 CtM Try.prog 17 [.w (.one (.p 500000 [])), .w (.one (.pl (.i 1))), .w (.one (.pl (.i 4)))] (jM ⟨true, s0, e1, false, d3, false, d5, d6, k⟩) (Told (fun v m => v = .w (.one (.pl (.b false))) ∧ m = jM ⟨true, s0, e1, false, d3, false, d5, d6, k⟩)) := by
 have hH := (has_4t s0 e1 false d3 false d5 d6 k).told
 refine CtM.k Try.func17 rfl Try.ntmps17 (congrArg Array.toList Try.results17) (by simp) fun w0 ro may fx => ?_
 refine top_k fun zZ zhZ => ?_
 iterate 28 first
  | (refine sr_k fun zK zhK => ?_; simp only [go_sem, jM, Jd.ls, Int.toNat_one]; (repeat' (first | apply And.intro | intro _)))
  | refine zhK _ ?_
  | refine block_k fun zB zbn zbx zbr zbi => ?_
  | refine skip_k ?_
  | (refine zbn _ ?_; clear zbn zbx zbr zbi)
  | (refine zhN _ ?_; clear zhN zhM)
  | refine ret_k ?_
  | (refine zhM _ _ ?_; clear zhN zhM)
  | (refine zhZ _ _ ?_; simp only [go_sem, jM, Jd.ls, Int.toNat_one]; (all_goals (exact told_keep rfl (keep_one (by simp [look, Jd.ls])) ⟨rfl, rfl⟩)))
  | ((all_goals (refine call_hand false [(500000, 500000)] (fun k => k) (fun _ _ => rfl) ?_ (by decide) ?_ hH ?_; iterate 2 (focus (first | rfl | (simp only [go_sem, jM, Jd.ls, Int.toNat_one] <;> first | done | rfl | simp))))); (all_goals (rintro v m ⟨hR, hm⟩; subst hR; subst hm)); (all_goals (refine And.intro ?_ (And.intro ?_ (And.intro ?_ ?_)); iterate 3 (focus (first | rfl | (simp only [go_sem, jM, Jd.ls, Int.toNat_one]; done) | (simp [go_sem, look, jM, Jd.ls, Int.toNat_one]; done))))); (all_goals (try simp only [go_sem, jM, Jd.ls, Int.toNat_one])); (all_goals (try simp only [go_sem, jM, Jd.ls, Int.toNat_one])); (all_goals repeat' (first | apply And.intro | intro _)))
  | refine seq_k fun zN zM zhN zhM => ?_
  | (refine condF_k ?_ ?_; focus (first | rfl | (simp [go_sem, jM, Jd.ls, Int.toNat_one]; done)))
  | (refine condT_k ?_ ?_; focus (first | rfl | (simp [go_sem, jM, Jd.ls, Int.toNat_one]; done)))
set_option maxHeartbeats 800000 in
set_option maxRecDepth 100000 in
theorem tok_14_3 (s0 e1 d3 d5 d6 k : Bool) :
 CtM Try.prog 17 [.w (.one (.p 500000 [])), .w (.one (.pl (.i 1))), .w (.one (.pl (.i 4)))] (jM ⟨true, s0, e1, true, d3, false, d5, d6, k⟩) (Told (fun v m => v = .w (.one (.pl (.b true))) ∧ m = jM ⟨true, s0, e1, true, d3, true, d5, d6, k⟩)) := by
 have hH := (has_4t s0 e1 true d3 false d5 d6 k).told
 refine CtM.k Try.func17 rfl Try.ntmps17 (congrArg Array.toList Try.results17) (by simp) fun w0 ro may fx => ?_
 refine top_k fun zZ zhZ => ?_
 iterate 31 first
  | (refine sr_k fun zK zhK => ?_; simp only [go_sem, jM, Jd.ls, Int.toNat_one]; (repeat' (first | apply And.intro | intro _)))
  | refine zhK _ ?_
  | refine skip_k ?_
  | (refine zhN _ ?_; clear zhN zhM)
  | refine block_k fun zB zbn zbx zbr zbi => ?_
  | (refine zbn _ ?_; clear zbn zbx zbr zbi)
  | refine ret_k ?_
  | (refine zhZ _ _ ?_; simp only [go_sem, jM, Jd.ls, Int.toNat_one]; (all_goals (exact told_keep rfl (keep_one (by simp [look, Jd.ls])) ⟨rfl, rfl⟩)))
  | ((all_goals (refine call_hand false [(500000, 500000)] (fun k => k) (fun _ _ => rfl) ?_ (by decide) ?_ hH ?_; iterate 2 (focus (first | rfl | (simp only [go_sem, jM, Jd.ls, Int.toNat_one] <;> first | done | rfl | simp))))); (all_goals (rintro v m ⟨hR, hm⟩; subst hR; subst hm)); (all_goals (refine And.intro ?_ (And.intro ?_ (And.intro ?_ ?_)); iterate 3 (focus (first | rfl | (simp only [go_sem, jM, Jd.ls, Int.toNat_one]; done) | (simp [go_sem, look, jM, Jd.ls, Int.toNat_one]; done))))); (all_goals (try simp only [go_sem, jM, Jd.ls, Int.toNat_one])); (all_goals (try simp only [go_sem, jM, Jd.ls, Int.toNat_one])); (all_goals repeat' (first | apply And.intro | intro _)))
  | refine seq_k fun zN zM zhN zhM => ?_
  | (refine condF_k ?_ ?_; focus (first | rfl | (simp [go_sem, jM, Jd.ls, Int.toNat_one]; done)))
theorem token_14 (j : Jd) : CtM Try.prog 17 [.w (.one (.p 500000 [])), .w (.one (.pl (.i 1))), .w (.one (.pl (.i 4)))] (jM j) (fun v m => v = .w (.one (.pl (.b (j.token true 4).1))) ∧ m = jM (j.token true 4).2) := by
 obtain ⟨e0, s0, e1, s1, d3, d4, d5, d6, k⟩ := j
 rcases d4 with _ | _
 · rcases e0 with _ | _
   · exact (tok_14_1 s0 e1 s1 d3 d5 d6 k).told
   · rcases s1 with _ | _
     · exact (tok_14_2 s0 e1 d3 d5 d6 k).told
     · exact (tok_14_3 s0 e1 d3 d5 d6 k).told
 · exact (tok_14_0 e0 s0 e1 s1 d3 d5 d6 k).told
set_option maxHeartbeats 800000 in
set_option maxRecDepth 100000 in
theorem tok_15_0 (e0 s0 e1 s1 d3 d4 d6 k : Bool) :
 CtM Try.prog 17 [.w (.one (.p 500000 [])), .w (.one (.pl (.i 1))), .w (.one (.pl (.i 5)))] (jM ⟨e0, s0, e1, s1, d3, d4, true, d6, k⟩) (Told (fun v m => v = .w (.one (.pl (.b false))) ∧ m = jM ⟨e0, s0, e1, s1, d3, d4, true, d6, k⟩)) := by
 refine CtM.k Try.func17 rfl Try.ntmps17 (congrArg Array.toList Try.results17) (by simp) fun w0 ro may fx => ?_
 refine top_k fun zZ zhZ => ?_
 refine sr_k fun zK zhK => ?_
 simp only [go_sem, jM, Jd.ls, Int.toNat_one]
 repeat' (first | apply And.intro | intro _)
 refine zhK _ ?_
 refine seq_k fun zN zM zhN zhM => ?_
 refine sr_k fun zK zhK => ?_
 simp only [go_sem, jM, Jd.ls, Int.toNat_one]
 repeat' (first | apply And.intro | intro _)
 refine zhK _ ?_
 refine block_k fun zB zbn zbx zbr zbi => ?_
 refine sr_k fun zK zhK => ?_
 simp only [go_sem, jM, Jd.ls, Int.toNat_one]
 repeat' (first | apply And.intro | intro _)
 refine zhK _ ?_
 (refine condF_k ?_ ?_; focus (first | rfl | (simp [go_sem, jM, Jd.ls, Int.toNat_one]; done)))
 refine sr_k fun zK zhK => ?_
 simp only [go_sem, jM, Jd.ls, Int.toNat_one]
 repeat' (first | apply And.intro | intro _)
 refine zhK _ ?_
 (refine condF_k ?_ ?_; focus (first | rfl | (simp [go_sem, jM, Jd.ls, Int.toNat_one]; done)))
 refine sr_k fun zK zhK => ?_
 simp only [go_sem, jM, Jd.ls, Int.toNat_one]
 repeat' (first | apply And.intro | intro _)
 refine zhK _ ?_
 (refine condF_k ?_ ?_; focus (first | rfl | (simp [go_sem, jM, Jd.ls, Int.toNat_one]; done)))
 refine skip_k ?_
 refine zbn _ ?_; clear zbn zbx zbr zbi
 refine zhN _ ?_; clear zhN zhM
 refine seq_k fun zN zM zhN zhM => ?_
 refine sr_k fun zK zhK => ?_
 simp only [go_sem, jM, Jd.ls, Int.toNat_one]
 repeat' (first | apply And.intro | intro _)
 all_goals (first | ((refine call_hand false [(500000, 500000)] (fun k => k) (fun _ _ => rfl) ?_ (by decide) ?_ hH ?_; iterate 2 (focus (first | rfl | (simp only [go_sem, jM, Jd.ls, Int.toNat_one] <;> first | done | rfl | simp)))); all_goals (rintro v m ⟨hR, hm⟩; subst hR; subst hm); all_goals (refine And.intro ?_ (And.intro ?_ (And.intro ?_ ?_)); iterate 3 (focus (first | rfl | (simp only [go_sem, jM, Jd.ls, Int.toNat_one]; done) | (simp [go_sem, look, jM, Jd.ls, Int.toNat_one]; done)))); all_goals (try simp only [go_sem, jM, Jd.ls, Int.toNat_one]); all_goals (try simp only [go_sem, jM, Jd.ls, Int.toNat_one]); all_goals repeat' (first | apply And.intro | intro _)) | skip)
 refine zhK _ ?_
 (refine condT_k ?_ ?_; focus (first | rfl | (simp [go_sem, jM, Jd.ls, Int.toNat_one]; done)))
 refine sr_k fun zK zhK => ?_
 simp only [go_sem, jM, Jd.ls, Int.toNat_one]
 repeat' (first | apply And.intro | intro _)
 refine zhK _ ?_
 refine ret_k ?_
 refine zhM _ _ ?_; clear zhN zhM
 refine zhZ _ _ ?_
 simp only [go_sem, jM, Jd.ls, Int.toNat_one]
 all_goals (exact told_keep rfl (keep_one (by simp [look, Jd.ls])) ⟨rfl, rfl⟩)
set_option maxHeartbeats 800000 in
set_option maxRecDepth 100000 in
theorem tok_15_1 (e0 e1 s1 d3 d4 d6 k : Bool) :
 CtM Try.prog 17 [.w (.one (.p 500000 [])), .w (.one (.pl (.i 1))), .w (.one (.pl (.i 5)))] (jM ⟨e0, false, e1, s1, d3, d4, false, d6, k⟩) (Told (fun v m => v = .w (.one (.pl (.b false))) ∧ m = jM ⟨e0, false, e1, s1, d3, d4, false, d6, k⟩)) := by
 have hH := (has_5f e0 e1 s1 d3 d4 false d6 k).told
 refine CtM.k Try.func17 rfl Try.ntmps17 (congrArg Array.toList Try.results17) (by simp) fun w0 ro may fx => ?_
 refine top_k fun zZ zhZ => ?_
 iterate 28 first
  | (refine sr_k fun zK zhK => ?_; simp only [go_sem, jM, Jd.ls, Int.toNat_one]; (repeat' (first | apply And.intro | intro _)))
  | refine zhK _ ?_
  | refine block_k fun zB zbn zbx zbr zbi => ?_
  | refine skip_k ?_
  | (refine zbn _ ?_; clear zbn zbx zbr zbi)
  | (refine zhN _ ?_; clear zhN zhM)
  | refine ret_k ?_
  | (refine zhM _ _ ?_; clear zhN zhM)
  | (refine zhZ _ _ ?_; simp only [go_sem, jM, Jd.ls, Int.toNat_one]; (all_goals (exact told_keep rfl (keep_one (by simp [look, Jd.ls])) ⟨rfl, rfl⟩)))
  | ((all_goals (refine call_hand false [(500000, 500000)] (fun k => k) (fun _ _ => rfl) ?_ (by decide) ?_ hH ?_; iterate 2 (focus (first | rfl | (simp only [go_sem, jM, Jd.ls, Int.toNat_one] <;> first | done | rfl | simp))))); (all_goals (rintro v m ⟨hR, hm⟩; subst hR; subst hm)); (all_goals (refine And.intro ?_ (And.intro ?_ (And.intro ?_ ?_)); iterate 3 (focus (first | rfl | (simp only [go_sem, jM, Jd.ls, Int.toNat_one]; done) | (simp [go_sem, look, jM, Jd.ls, Int.toNat_one]; done))))); (all_goals (try simp only [go_sem, jM, Jd.ls, Int.toNat_one])); (all_goals (try simp only [go_sem, jM, Jd.ls, Int.toNat_one])); (all_goals repeat' (first | apply And.intro | intro _)))
  | refine seq_k fun zN zM zhN zhM => ?_
  | (refine condF_k ?_ ?_; focus (first | rfl | (simp [go_sem, jM, Jd.ls, Int.toNat_one]; done)))
  | (refine condT_k ?_ ?_; focus (first | rfl | (simp [go_sem, jM, Jd.ls, Int.toNat_one]; done)))
set_option maxHeartbeats 800000 in
set_option maxRecDepth 100000 in
theorem tok_15_2 (e0 s1 d3 d4 d6 k : Bool) :
 CtM Try.prog 17 [.w (.one (.p 500000 [])), .w (.one (.pl (.i 1))), .w (.one (.pl (.i 5)))] (jM ⟨e0, true, false, s1, d3, d4, false, d6, k⟩) (Told (fun v m => v = .w (.one (.pl (.b false))) ∧ m = jM ⟨e0, true, false, s1, d3, d4, false, d6, k⟩)) := by
 have hH := (has_5t e0 false s1 d3 d4 false d6 k).told
 refine CtM.k Try.func17 rfl Try.ntmps17 (congrArg Array.toList Try.results17) (by simp) fun w0 ro may fx => ?_
 refine top_k fun zZ zhZ => ?_
 iterate 28 first
  | (refine sr_k fun zK zhK => ?_; simp only [go_sem, jM, Jd.ls, Int.toNat_one]; (repeat' (first | apply And.intro | intro _)))
  | refine zhK _ ?_
  | refine block_k fun zB zbn zbx zbr zbi => ?_
  | refine skip_k ?_
  | (refine zbn _ ?_; clear zbn zbx zbr zbi)
  | (refine zhN _ ?_; clear zhN zhM)
  | refine ret_k ?_
  | (refine zhM _ _ ?_; clear zhN zhM)
  | (refine zhZ _ _ ?_; simp only [go_sem, jM, Jd.ls, Int.toNat_one]; (all_goals (exact told_keep rfl (keep_one (by simp [look, Jd.ls])) ⟨rfl, rfl⟩)))
  | ((all_goals (refine call_hand false [(500000, 500000)] (fun k => k) (fun _ _ => rfl) ?_ (by decide) ?_ hH ?_; iterate 2 (focus (first | rfl | (simp only [go_sem, jM, Jd.ls, Int.toNat_one] <;> first | done | rfl | simp))))); (all_goals (rintro v m ⟨hR, hm⟩; subst hR; subst hm)); (all_goals (refine And.intro ?_ (And.intro ?_ (And.intro ?_ ?_)); iterate 3 (focus (first | rfl | (simp only [go_sem, jM, Jd.ls, Int.toNat_one]; done) | (simp [go_sem, look, jM, Jd.ls, Int.toNat_one]; done))))); (all_goals (try simp only [go_sem, jM, Jd.ls, Int.toNat_one])); (all_goals (try simp only [go_sem, jM, Jd.ls, Int.toNat_one])); (all_goals repeat' (first | apply And.intro | intro _)))
  | refine seq_k fun zN zM zhN zhM => ?_
  | (refine condF_k ?_ ?_; focus (first | rfl | (simp [go_sem, jM, Jd.ls, Int.toNat_one]; done)))
  | (refine condT_k ?_ ?_; focus (first | rfl | (simp [go_sem, jM, Jd.ls, Int.toNat_one]; done)))
set_option maxHeartbeats 800000 in
set_option maxRecDepth 100000 in
theorem tok_15_3 (e0 s1 d3 d4 d6 k : Bool) :
 CtM Try.prog 17 [.w (.one (.p 500000 [])), .w (.one (.pl (.i 1))), .w (.one (.pl (.i 5)))] (jM ⟨e0, true, true, s1, d3, d4, false, d6, k⟩) (Told (fun v m => v = .w (.one (.pl (.b true))) ∧ m = jM ⟨e0, true, true, s1, d3, d4, true, d6, k⟩)) := by
 have hH := (has_5t e0 true s1 d3 d4 false d6 k).told
 refine CtM.k Try.func17 rfl Try.ntmps17 (congrArg Array.toList Try.results17) (by simp) fun w0 ro may fx => ?_
 refine top_k fun zZ zhZ => ?_
 iterate 31 first
  | (refine sr_k fun zK zhK => ?_; simp only [go_sem, jM, Jd.ls, Int.toNat_one]; (repeat' (first | apply And.intro | intro _)))
  | refine zhK _ ?_
  | refine skip_k ?_
  | (refine zhN _ ?_; clear zhN zhM)
  | refine block_k fun zB zbn zbx zbr zbi => ?_
  | (refine zbn _ ?_; clear zbn zbx zbr zbi)
  | refine ret_k ?_
  | (refine zhZ _ _ ?_; simp only [go_sem, jM, Jd.ls, Int.toNat_one]; (all_goals (exact told_keep rfl (keep_one (by simp [look, Jd.ls])) ⟨rfl, rfl⟩)))
  | ((all_goals (refine call_hand false [(500000, 500000)] (fun k => k) (fun _ _ => rfl) ?_ (by decide) ?_ hH ?_; iterate 2 (focus (first | rfl | (simp only [go_sem, jM, Jd.ls, Int.toNat_one] <;> first | done | rfl | simp))))); (all_goals (rintro v m ⟨hR, hm⟩; subst hR; subst hm)); (all_goals (refine And.intro ?_ (And.intro ?_ (And.intro ?_ ?_)); iterate 3 (focus (first | rfl | (simp only [go_sem, jM, Jd.ls, Int.toNat_one]; done) | (simp [go_sem, look, jM, Jd.ls, Int.toNat_one]; done))))); (all_goals (try simp only [go_sem, jM, Jd.ls, Int.toNat_one])); (all_goals (try simp only [go_sem, jM, Jd.ls, Int.toNat_one])); (all_goals repeat' (first | apply And.intro | intro _)))
  | refine seq_k fun zN zM zhN zhM => ?_
  | (refine condF_k ?_ ?_; focus (first | rfl | (simp [go_sem, jM, Jd.ls, Int.toNat_one]; done)))
theorem token_15 (j : Jd) : CtM Try.prog 17 [.w (.one (.p 500000 [])), .w (.one (.pl (.i 1))), .w (.one (.pl (.i 5)))] (jM j) (fun v m => v = .w (.one (.pl (.b (j.token true 5).1))) ∧ m = jM (j.token true 5).2) := by
 obtain ⟨e0, s0, e1, s1, d3, d4, d5, d6, k⟩ := j
 rcases d5 with _ | _
 · rcases s0 with _ | _
   · exact (tok_15_1 e0 e1 s1 d3 d4 d6 k).told
   · rcases e1 with _ | _
     · exact (tok_15_2 e0 s1 d3 d4 d6 k).told
     · exact (tok_15_3 e0 s1 d3 d4 d6 k).told
 · exact (tok_15_0 e0 s0 e1 s1 d3 d4 d6 k).told
set_option maxHeartbeats 800000 in
set_option maxRecDepth 100000 in
theorem tok_16_0 (e0 s0 e1 s1 d3 d4 d5 k : Bool) :
 CtM Try.prog 17 [.w (.one (.p 500000 [])), .w (.one (.pl (.i 1))), .w (.one (.pl (.i 6)))] (jM ⟨e0, s0, e1, s1, d3, d4, d5, true, k⟩) (Told (fun v m => v = .w (.one (.pl (.b false))) ∧ m = jM ⟨e0, s0, e1, s1, d3, d4, d5, true, k⟩)) := by
 refine CtM.k Try.func17 rfl Try.ntmps17 (congrArg Array.toList Try.results17) (by simp) fun w0 ro may fx => ?_
 refine top_k fun zZ zhZ => ?_
 refine sr_k fun zK zhK => ?_
 simp only [go_sem, jM, Jd.ls, Int.toNat_one]
 repeat' (first | apply And.intro | intro _)
 refine zhK _ ?_
 refine seq_k fun zN zM zhN zhM => ?_
 refine sr_k fun zK zhK => ?_
 simp only [go_sem, jM, Jd.ls, Int.toNat_one]
 repeat' (first | apply And.intro | intro _)
 refine zhK _ ?_
 refine block_k fun zB zbn zbx zbr zbi => ?_
 refine sr_k fun zK zhK => ?_
 simp only [go_sem, jM, Jd.ls, Int.toNat_one]
 repeat' (first | apply And.intro | intro _)
 refine zhK _ ?_
 (refine condF_k ?_ ?_; focus (first | rfl | (simp [go_sem, jM, Jd.ls, Int.toNat_one]; done)))
 refine sr_k fun zK zhK => ?_
 simp only [go_sem, jM, Jd.ls, Int.toNat_one]
 repeat' (first | apply And.intro | intro _)
 refine zhK _ ?_
 (refine condF_k ?_ ?_; focus (first | rfl | (simp [go_sem, jM, Jd.ls, Int.toNat_one]; done)))
 refine sr_k fun zK zhK => ?_
 simp only [go_sem, jM, Jd.ls, Int.toNat_one]
 repeat' (first | apply And.intro | intro _)
 refine zhK _ ?_
 (refine condF_k ?_ ?_; focus (first | rfl | (simp [go_sem, jM, Jd.ls, Int.toNat_one]; done)))
 refine skip_k ?_
 refine zbn _ ?_; clear zbn zbx zbr zbi
 refine zhN _ ?_; clear zhN zhM
 refine seq_k fun zN zM zhN zhM => ?_
 refine sr_k fun zK zhK => ?_
 simp only [go_sem, jM, Jd.ls, Int.toNat_one]
 repeat' (first | apply And.intro | intro _)
 all_goals (first | ((refine call_hand false [(500000, 500000)] (fun k => k) (fun _ _ => rfl) ?_ (by decide) ?_ hH ?_; iterate 2 (focus (first | rfl | (simp only [go_sem, jM, Jd.ls, Int.toNat_one] <;> first | done | rfl | simp)))); all_goals (rintro v m ⟨hR, hm⟩; subst hR; subst hm); all_goals (refine And.intro ?_ (And.intro ?_ (And.intro ?_ ?_)); iterate 3 (focus (first | rfl | (simp only [go_sem, jM, Jd.ls, Int.toNat_one]; done) | (simp [go_sem, look, jM, Jd.ls, Int.toNat_one]; done)))); all_goals (try simp only [go_sem, jM, Jd.ls, Int.toNat_one]); all_goals (try simp only [go_sem, jM, Jd.ls, Int.toNat_one]); all_goals repeat' (first | apply And.intro | intro _)) | skip)
 refine zhK _ ?_
 (refine condT_k ?_ ?_; focus (first | rfl | (simp [go_sem, jM, Jd.ls, Int.toNat_one]; done)))
 refine sr_k fun zK zhK => ?_
 simp only [go_sem, jM, Jd.ls, Int.toNat_one]
 repeat' (first | apply And.intro | intro _)
 refine zhK _ ?_
 refine ret_k ?_
 refine zhM _ _ ?_; clear zhN zhM
 refine zhZ _ _ ?_
 simp only [go_sem, jM, Jd.ls, Int.toNat_one]
 all_goals (exact told_keep rfl (keep_one (by simp [look, Jd.ls])) ⟨rfl, rfl⟩)
set_option maxHeartbeats 800000 in
set_option maxRecDepth 100000 in
theorem tok_16_1 (e0 e1 s1 d3 d4 d5 k : Bool) :
 CtM Try.prog 17 [.w (.one (.p 500000 [])), .w (.one (.pl (.i 1))), .w (.one (.pl (.i 6)))] (jM ⟨e0, false, e1, s1, d3, d4, d5, false, k⟩) (Told (fun v m => v = .w (.one (.pl (.b false))) ∧ m = jM ⟨e0, false, e1, s1, d3, d4, d5, false, k⟩)) := by
 have hH := (has_6f e0 e1 s1 d3 d4 d5 false k).told
 refine CtM.k Try.func17 rfl Try.ntmps17 (congrArg Array.toList Try.results17) (by simp) fun w0 ro may fx => ?_
 refine top_k fun zZ zhZ => ?_
 iterate 28 first
  | (refine sr_k fun zK zhK => ?_; simp only [go_sem, jM, Jd.ls, Int.toNat_one]; (repeat' (first | apply And.intro | intro _)))
  | refine zhK _ ?_
  | refine block_k fun zB zbn zbx zbr zbi => ?_
  | refine skip_k ?_
  | (refine zbn _ ?_; clear zbn zbx zbr zbi)
  | (refine zhN _ ?_; clear zhN zhM)
  | refine ret_k ?_
  | (refine zhM _ _ ?_; clear zhN zhM)
  | (refine zhZ _ _ ?_; simp only [go_sem, jM, Jd.ls, Int.toNat_one]; (all_goals (exact told_keep rfl (keep_one (by simp [look, Jd.ls])) ⟨rfl, rfl⟩)))
  | ((all_goals (refine call_hand false [(500000, 500000)] (fun k => k) (fun _ _ => rfl) ?_ (by decide) ?_ hH ?_; iterate 2 (focus (first | rfl | (simp only [go_sem, jM, Jd.ls, Int.toNat_one] <;> first | done | rfl | simp))))); (all_goals (rintro v m ⟨hR, hm⟩; subst hR; subst hm)); (all_goals (refine And.intro ?_ (And.intro ?_ (And.intro ?_ ?_)); iterate 3 (focus (first | rfl | (simp only [go_sem, jM, Jd.ls, Int.toNat_one]; done) | (simp [go_sem, look, jM, Jd.ls, Int.toNat_one]; done))))); (all_goals (try simp only [go_sem, jM, Jd.ls, Int.toNat_one])); (all_goals (try simp only [go_sem, jM, Jd.ls, Int.toNat_one])); (all_goals repeat' (first | apply And.intro | intro _)))
  | refine seq_k fun zN zM zhN zhM => ?_
  | (refine condF_k ?_ ?_; focus (first | rfl | (simp [go_sem, jM, Jd.ls, Int.toNat_one]; done)))
  | (refine condT_k ?_ ?_; focus (first | rfl | (simp [go_sem, jM, Jd.ls, Int.toNat_one]; done)))
set_option maxHeartbeats 800000 in
set_option maxRecDepth 100000 in
theorem tok_16_2 (e0 e1 d3 d4 d5 k : Bool) :
 CtM Try.prog 17 [.w (.one (.p 500000 [])), .w (.one (.pl (.i 1))), .w (.one (.pl (.i 6)))] (jM ⟨e0, true, e1, false, d3, d4, d5, false, k⟩) (Told (fun v m => v = .w (.one (.pl (.b false))) ∧ m = jM ⟨e0, true, e1, false, d3, d4, d5, false, k⟩)) := by
 have hH := (has_6t e0 e1 false d3 d4 d5 false k).told
 refine CtM.k Try.func17 rfl Try.ntmps17 (congrArg Array.toList Try.results17) (by simp) fun w0 ro may fx => ?_
 refine top_k fun zZ zhZ => ?_
 iterate 28 first
  | (refine sr_k fun zK zhK => ?_; simp only [go_sem, jM, Jd.ls, Int.toNat_one]; (repeat' (first | apply And.intro | intro _)))
  | refine zhK _ ?_
  | refine block_k fun zB zbn zbx zbr zbi => ?_
  | refine skip_k ?_
  | (refine zbn _ ?_; clear zbn zbx zbr zbi)
  | (refine zhN _ ?_; clear zhN zhM)
  | refine ret_k ?_
  | (refine zhM _ _ ?_; clear zhN zhM)
  | (refine zhZ _ _ ?_; simp only [go_sem, jM, Jd.ls, Int.toNat_one]; (all_goals (exact told_keep rfl (keep_one (by simp [look, Jd.ls])) ⟨rfl, rfl⟩)))
  | ((all_goals (refine call_hand false [(500000, 500000)] (fun k => k) (fun _ _ => rfl) ?_ (by decide) ?_ hH ?_; iterate 2 (focus (first | rfl | (simp only [go_sem, jM, Jd.ls, Int.toNat_one] <;> first | done | rfl | simp))))); (all_goals (rintro v m ⟨hR, hm⟩; subst hR; subst hm)); (all_goals (refine And.intro ?_ (And.intro ?_ (And.intro ?_ ?_)); iterate 3 (focus (first | rfl | (simp only [go_sem, jM, Jd.ls, Int.toNat_one]; done) | (simp [go_sem, look, jM, Jd.ls, Int.toNat_one]; done))))); (all_goals (try simp only [go_sem, jM, Jd.ls, Int.toNat_one])); (all_goals (try simp only [go_sem, jM, Jd.ls, Int.toNat_one])); (all_goals repeat' (first | apply And.intro | intro _)))
  | refine seq_k fun zN zM zhN zhM => ?_
  | (refine condF_k ?_ ?_; focus (first | rfl | (simp [go_sem, jM, Jd.ls, Int.toNat_one]; done)))
  | (refine condT_k ?_ ?_; focus (first | rfl | (simp [go_sem, jM, Jd.ls, Int.toNat_one]; done)))
set_option maxHeartbeats 800000 in
set_option maxRecDepth 100000 in
theorem tok_16_3 (e0 e1 d3 d4 d5 k : Bool) :
 CtM Try.prog 17 [.w (.one (.p 500000 [])), .w (.one (.pl (.i 1))), .w (.one (.pl (.i 6)))] (jM ⟨e0, true, e1, true, d3, d4, d5, false, k⟩) (Told (fun v m => v = .w (.one (.pl (.b true))) ∧ m = jM ⟨e0, true, e1, true, d3, d4, d5, true, k⟩)) := by
 have hH := (has_6t e0 e1 true d3 d4 d5 false k).told
 refine CtM.k Try.func17 rfl Try.ntmps17 (congrArg Array.toList Try.results17) (by simp) fun w0 ro may fx => ?_
 refine top_k fun zZ zhZ => ?_
 iterate 31 first
  | (refine sr_k fun zK zhK => ?_; simp only [go_sem, jM, Jd.ls, Int.toNat_one]; (repeat' (first | apply And.intro | intro _)))
  | refine zhK _ ?_
  | refine skip_k ?_
  | (refine zhN _ ?_; clear zhN zhM)
  | refine block_k fun zB zbn zbx zbr zbi => ?_
  | (refine zbn _ ?_; clear zbn zbx zbr zbi)
  | refine ret_k ?_
  | (refine zhZ _ _ ?_; simp only [go_sem, jM, Jd.ls, Int.toNat_one]; (all_goals (exact told_keep rfl (keep_one (by simp [look, Jd.ls])) ⟨rfl, rfl⟩)))
  | ((all_goals (refine call_hand false [(500000, 500000)] (fun k => k) (fun _ _ => rfl) ?_ (by decide) ?_ hH ?_; iterate 2 (focus (first | rfl | (simp only [go_sem, jM, Jd.ls, Int.toNat_one] <;> first | done | rfl | simp))))); (all_goals (rintro v m ⟨hR, hm⟩; subst hR; subst hm)); (all_goals (refine And.intro ?_ (And.intro ?_ (And.intro ?_ ?_)); iterate 3 (focus (first | rfl | (simp only [go_sem, jM, Jd.ls, Int.toNat_one]; done) | (simp [go_sem, look, jM, Jd.ls, Int.toNat_one]; done))))); (all_goals (try simp only [go_sem, jM, Jd.ls, Int.toNat_one])); (all_goals (try simp only [go_sem, jM, Jd.ls, Int.toNat_one])); (all_goals repeat' (first | apply And.intro | intro _)))
  | refine seq_k fun zN zM zhN zhM => ?_
  | (refine condF_k ?_ ?_; focus (first | rfl | (simp [go_sem, jM, Jd.ls, Int.toNat_one]; done)))
theorem token_16 (j : Jd) : CtM Try.prog 17 [.w (.one (.p 500000 [])), .w (.one (.pl (.i 1))), .w (.one (.pl (.i 6)))] (jM j) (fun v m => v = .w (.one (.pl (.b (j.token true 6).1))) ∧ m = jM (j.token true 6).2) := by
 obtain ⟨e0, s0, e1, s1, d3, d4, d5, d6, k⟩ := j
 rcases d6 with _ | _
 · rcases s0 with _ | _
   · exact (tok_16_1 e0 e1 s1 d3 d4 d5 k).told
   · rcases s1 with _ | _
     · exact (tok_16_2 e0 e1 d3 d4 d5 k).told
     · exact (tok_16_3 e0 e1 d3 d4 d5 k).told
 · exact (tok_16_0 e0 s0 e1 s1 d3 d4 d5 k).told
end Go.Sy

