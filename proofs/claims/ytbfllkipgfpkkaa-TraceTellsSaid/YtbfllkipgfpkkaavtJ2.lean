/- Walks: the judge's locks, and keys of a token. -/
import Derived.Test.YtbfllkipgfpkkaavtJ1
set_option linter.unusedVariables false
set_option linter.unusedSimpArgs false
namespace Go.Sy
open Go.Proofs
attribute [local irreducible] atCall HT runOps runD onC onE onO onG goV goA goS onSt onGuard
set_option maxHeartbeats 800000 in
theorem locks_0 (e0 s0 e1 s1 d3 d4 d5 d6 : Bool) :
 CtM Try.prog 18 [.w (.one (.p 500000 []))] (jM ⟨e0, s0, e1, s1, d3, d4, d5, d6, true⟩) (Told (fun v m => v = .w (.one (.pl (.b true))) ∧ m = jM ⟨e0, s0, e1, s1, d3, d4, d5, d6, true⟩)) := by
 refine CtM.k Try.func18 rfl Try.ntmps18 (congrArg Array.toList Try.results18) (by simp) fun w0 ro may fx => ?_
 refine top_k fun zZ zhZ => ?_
 iterate 6 first
  | (refine sr_k fun zK zhK => ?_; simp only [go_sem, jM, Jd.ls, Int.toNat_one]; (repeat' (first | apply And.intro | intro _)))
  | refine zhK _ ?_
  | refine ret_k ?_
  | (refine zhZ _ _ ?_; simp only [go_sem, jM, Jd.ls, Int.toNat_one]; (all_goals (exact told_keep rfl (keep_one (by simp [look, Jd.ls])) ⟨rfl, rfl⟩)))
set_option maxHeartbeats 800000 in
theorem locks_1 (e0 s0 e1 s1 d4 d5 d6 : Bool) :
 CtM Try.prog 18 [.w (.one (.p 500000 []))] (jM ⟨e0, s0, e1, s1, true, d4, d5, d6, false⟩) (Told (fun v m => v = .w (.one (.pl (.b true))) ∧ m = jM ⟨e0, s0, e1, s1, true, d4, d5, d6, false⟩)) := by
 refine CtM.k Try.func18 rfl Try.ntmps18 (congrArg Array.toList Try.results18) (by simp) fun w0 ro may fx => ?_
 refine top_k fun zZ zhZ => ?_
 iterate 6 first
  | (refine sr_k fun zK zhK => ?_; simp only [go_sem, jM, Jd.ls, Int.toNat_one]; (repeat' (first | apply And.intro | intro _)))
  | refine zhK _ ?_
  | refine ret_k ?_
  | (refine zhZ _ _ ?_; simp only [go_sem, jM, Jd.ls, Int.toNat_one]; (all_goals (exact told_keep rfl (keep_one (by simp [look, Jd.ls])) ⟨rfl, rfl⟩)))
set_option maxHeartbeats 800000 in
theorem locks_2 (e0 s0 e1 s1 d5 d6 : Bool) :
 CtM Try.prog 18 [.w (.one (.p 500000 []))] (jM ⟨e0, s0, e1, s1, false, true, d5, d6, false⟩) (Told (fun v m => v = .w (.one (.pl (.b true))) ∧ m = jM ⟨e0, s0, e1, s1, false, true, d5, d6, false⟩)) := by
 refine CtM.k Try.func18 rfl Try.ntmps18 (congrArg Array.toList Try.results18) (by simp) fun w0 ro may fx => ?_
 refine top_k fun zZ zhZ => ?_
 iterate 6 first
  | (refine sr_k fun zK zhK => ?_; simp only [go_sem, jM, Jd.ls, Int.toNat_one]; (repeat' (first | apply And.intro | intro _)))
  | refine zhK _ ?_
  | refine ret_k ?_
  | (refine zhZ _ _ ?_; simp only [go_sem, jM, Jd.ls, Int.toNat_one]; (all_goals (exact told_keep rfl (keep_one (by simp [look, Jd.ls])) ⟨rfl, rfl⟩)))
set_option maxHeartbeats 800000 in
theorem locks_3 (e0 s0 e1 s1 d6 : Bool) :
 CtM Try.prog 18 [.w (.one (.p 500000 []))] (jM ⟨e0, s0, e1, s1, false, false, true, d6, false⟩) (Told (fun v m => v = .w (.one (.pl (.b true))) ∧ m = jM ⟨e0, s0, e1, s1, false, false, true, d6, false⟩)) := by
 refine CtM.k Try.func18 rfl Try.ntmps18 (congrArg Array.toList Try.results18) (by simp) fun w0 ro may fx => ?_
 refine top_k fun zZ zhZ => ?_
 iterate 6 first
  | (refine sr_k fun zK zhK => ?_; simp only [go_sem, jM, Jd.ls, Int.toNat_one]; (repeat' (first | apply And.intro | intro _)))
  | refine zhK _ ?_
  | refine ret_k ?_
  | (refine zhZ _ _ ?_; simp only [go_sem, jM, Jd.ls, Int.toNat_one]; (all_goals (exact told_keep rfl (keep_one (by simp [look, Jd.ls])) ⟨rfl, rfl⟩)))
set_option maxHeartbeats 800000 in
theorem locks_4 (e0 s0 e1 s1 : Bool) :
 CtM Try.prog 18 [.w (.one (.p 500000 []))] (jM ⟨e0, s0, e1, s1, false, false, false, true, false⟩) (Told (fun v m => v = .w (.one (.pl (.b true))) ∧ m = jM ⟨e0, s0, e1, s1, false, false, false, true, false⟩)) := by
 refine CtM.k Try.func18 rfl Try.ntmps18 (congrArg Array.toList Try.results18) (by simp) fun w0 ro may fx => ?_
 refine top_k fun zZ zhZ => ?_
 iterate 6 first
  | (refine sr_k fun zK zhK => ?_; simp only [go_sem, jM, Jd.ls, Int.toNat_one]; (repeat' (first | apply And.intro | intro _)))
  | refine zhK _ ?_
  | refine ret_k ?_
  | (refine zhZ _ _ ?_; simp only [go_sem, jM, Jd.ls, Int.toNat_one]; (all_goals (exact told_keep rfl (keep_one (by simp [look, Jd.ls])) ⟨rfl, rfl⟩)))
set_option maxHeartbeats 800000 in
theorem locks_5 (e0 s0 e1 s1 : Bool) :
 CtM Try.prog 18 [.w (.one (.p 500000 []))] (jM ⟨e0, s0, e1, s1, false, false, false, false, false⟩) (Told (fun v m => v = .w (.one (.pl (.b false))) ∧ m = jM ⟨e0, s0, e1, s1, false, false, false, false, false⟩)) := by
 refine CtM.k Try.func18 rfl Try.ntmps18 (congrArg Array.toList Try.results18) (by simp) fun w0 ro may fx => ?_
 refine top_k fun zZ zhZ => ?_
 iterate 6 first
  | (refine sr_k fun zK zhK => ?_; simp only [go_sem, jM, Jd.ls, Int.toNat_one]; (repeat' (first | apply And.intro | intro _)))
  | refine zhK _ ?_
  | refine ret_k ?_
  | (refine zhZ _ _ ?_; simp only [go_sem, jM, Jd.ls, Int.toNat_one]; (all_goals (exact told_keep rfl (keep_one (by simp [look, Jd.ls])) ⟨rfl, rfl⟩)))
theorem locks_ (j : Jd) : CtM Try.prog 18 [.w (.one (.p 500000 []))] (jM j) (fun v m => v = .w (.one (.pl (.b j.locks))) ∧ m = jM j) := by
 obtain ⟨e0, s0, e1, s1, d3, d4, d5, d6, k⟩ := j
 cases k <;> cases d3 <;> cases d4 <;> cases d5 <;> cases d6 <;> first
  | exact (locks_0 _ _ _ _ _ _ _ _).told | exact (locks_1 _ _ _ _ _ _ _).told | exact (locks_2 _ _ _ _ _ _).told | exact (locks_3 _ _ _ _ _).told | exact (locks_4 _ _ _ _).told | exact (locks_5 _ _ _ _).told
set_option maxHeartbeats 800000 in
theorem has_3t (s0 e1 s1 d3 d4 d5 d6 k : Bool) :
 CtM Try.prog 45 [.w (.one (.p 500000 [])), .w (.one (.pl (.i 3)))] (jM ⟨true, s0, e1, s1, d3, d4, d5, d6, k⟩) (Told (fun v m => v = .w (.one (.pl (.b e1))) ∧ m = jM ⟨true, s0, e1, s1, d3, d4, d5, d6, k⟩)) := by
 refine CtM.k Try.func45 rfl Try.ntmps45 (congrArg Array.toList Try.results45) (by simp) fun w0 ro may fx => ?_
 refine top_k fun zZ zhZ => ?_
 iterate 17 first
  | (refine sr_k fun zK zhK => ?_; simp only [go_sem, jM, Jd.ls, Int.toNat_one]; (repeat' (first | apply And.intro | intro _)))
  | refine zhK _ ?_
  | (refine sd_k (id := 1) [7, 8, 9, 10, 11, 12, 13, 14, 15, 16, 5, 6] [0, 1, 3, 7, 15, 0, 32, 96, 224, 480, 0, 0, 3103, 8191] [(5, 12), (6, 12), (7, 12), (8, 12), (9, 12)] mixed (by kernel_rfl) (by simp only [go_sem]) fun zK zhK => ?_; simp only [go_sem, jM, Jd.ls, Int.toNat_one]; (repeat' (first | apply And.intro | intro _)))
  | (refine zhK _ _ ?_ ?_; (focus (first | trivial | (simp only [go_sem]; done) | (simp only [go_sem]; simp; done) | (simp only [go_sem]; simp; simp only [go_sem]))))
  | refine block_k fun zB zbn zbx zbr zbi => ?_
  | refine ret_k ?_
  | (refine zbr _ ?_; clear zbn zbx zbr zbi)
  | (refine zhM _ _ ?_; clear zhN zhM)
  | (refine zhZ _ _ ?_; simp only [go_sem, jM, Jd.ls, Int.toNat_one]; (all_goals (exact told_keep rfl (keep_one (by simp [look, Jd.ls])) ⟨rfl, rfl⟩)))
  | refine seq_k fun zN zM zhN zhM => ?_
  | (refine condT_k ?_ ?_; focus (first | rfl | (simp [go_sem, jM, Jd.ls, Int.toNat_one]; done)))
set_option maxHeartbeats 800000 in
theorem has_3f (s0 e1 s1 d3 d4 d5 d6 k : Bool) :
 CtM Try.prog 45 [.w (.one (.p 500000 [])), .w (.one (.pl (.i 3)))] (jM ⟨false, s0, e1, s1, d3, d4, d5, d6, k⟩) (Told (fun v m => v = .w (.one (.pl (.b false))) ∧ m = jM ⟨false, s0, e1, s1, d3, d4, d5, d6, k⟩)) := by
 refine CtM.k Try.func45 rfl Try.ntmps45 (congrArg Array.toList Try.results45) (by simp) fun w0 ro may fx => ?_
 refine top_k fun zZ zhZ => ?_
 iterate 17 first
  | (refine sr_k fun zK zhK => ?_; simp only [go_sem, jM, Jd.ls, Int.toNat_one]; (repeat' (first | apply And.intro | intro _)))
  | refine zhK _ ?_
  | (refine sd_k (id := 1) [7, 8, 9, 10, 11, 12, 13, 14, 15, 16, 5, 6] [0, 1, 3, 7, 15, 0, 32, 96, 224, 480, 0, 0, 3103, 8191] [(5, 12), (6, 12), (7, 12), (8, 12), (9, 12)] mixed (by kernel_rfl) (by simp only [go_sem]) fun zK zhK => ?_; simp only [go_sem, jM, Jd.ls, Int.toNat_one]; (repeat' (first | apply And.intro | intro _)))
  | (refine zhK _ _ ?_ ?_; (focus (first | trivial | (simp only [go_sem]; done) | (simp only [go_sem]; simp; done) | (simp only [go_sem]; simp; simp only [go_sem]))))
  | refine block_k fun zB zbn zbx zbr zbi => ?_
  | refine ret_k ?_
  | (refine zbr _ ?_; clear zbn zbx zbr zbi)
  | (refine zhM _ _ ?_; clear zhN zhM)
  | (refine zhZ _ _ ?_; simp only [go_sem, jM, Jd.ls, Int.toNat_one]; (all_goals (exact told_keep rfl (keep_one (by simp [look, Jd.ls])) ⟨rfl, rfl⟩)))
  | refine seq_k fun zN zM zhN zhM => ?_
  | (refine condT_k ?_ ?_; focus (first | rfl | (simp [go_sem, jM, Jd.ls, Int.toNat_one]; done)))
set_option maxHeartbeats 800000 in
theorem has_4t (s0 e1 s1 d3 d4 d5 d6 k : Bool) :
 CtM Try.prog 45 [.w (.one (.p 500000 [])), .w (.one (.pl (.i 4)))] (jM ⟨true, s0, e1, s1, d3, d4, d5, d6, k⟩) (Told (fun v m => v = .w (.one (.pl (.b s1))) ∧ m = jM ⟨true, s0, e1, s1, d3, d4, d5, d6, k⟩)) := by
 refine CtM.k Try.func45 rfl Try.ntmps45 (congrArg Array.toList Try.results45) (by simp) fun w0 ro may fx => ?_
 refine top_k fun zZ zhZ => ?_
 iterate 20 first
  | (refine sr_k fun zK zhK => ?_; simp only [go_sem, jM, Jd.ls, Int.toNat_one]; (repeat' (first | apply And.intro | intro _)))
  | refine zhK _ ?_
  | (refine sd_k (id := 1) [7, 8, 9, 10, 11, 12, 13, 14, 15, 16, 5, 6] [0, 1, 3, 7, 15, 0, 32, 96, 224, 480, 0, 0, 3103, 8191] [(5, 12), (6, 12), (7, 12), (8, 12), (9, 12)] mixed (by kernel_rfl) (by simp only [go_sem]) fun zK zhK => ?_; simp only [go_sem, jM, Jd.ls, Int.toNat_one]; (repeat' (first | apply And.intro | intro _)))
  | (refine zhK _ _ ?_ ?_; (focus (first | trivial | (simp only [go_sem]; done) | (simp only [go_sem]; simp; done) | (simp only [go_sem]; simp; simp only [go_sem]))))
  | refine block_k fun zB zbn zbx zbr zbi => ?_
  | refine ret_k ?_
  | (refine zbr _ ?_; clear zbn zbx zbr zbi)
  | (refine zhM _ _ ?_; clear zhN zhM)
  | (refine zhZ _ _ ?_; simp only [go_sem, jM, Jd.ls, Int.toNat_one]; (all_goals (exact told_keep rfl (keep_one (by simp [look, Jd.ls])) ⟨rfl, rfl⟩)))
  | refine seq_k fun zN zM zhN zhM => ?_
  | (refine condF_k ?_ ?_; focus (first | rfl | (simp [go_sem, jM, Jd.ls, Int.toNat_one]; done)))
  | (refine condT_k ?_ ?_; focus (first | rfl | (simp [go_sem, jM, Jd.ls, Int.toNat_one]; done)))
set_option maxHeartbeats 800000 in
theorem has_4f (s0 e1 s1 d3 d4 d5 d6 k : Bool) :
 CtM Try.prog 45 [.w (.one (.p 500000 [])), .w (.one (.pl (.i 4)))] (jM ⟨false, s0, e1, s1, d3, d4, d5, d6, k⟩) (Told (fun v m => v = .w (.one (.pl (.b false))) ∧ m = jM ⟨false, s0, e1, s1, d3, d4, d5, d6, k⟩)) := by
 refine CtM.k Try.func45 rfl Try.ntmps45 (congrArg Array.toList Try.results45) (by simp) fun w0 ro may fx => ?_
 refine top_k fun zZ zhZ => ?_
 iterate 20 first
  | (refine sr_k fun zK zhK => ?_; simp only [go_sem, jM, Jd.ls, Int.toNat_one]; (repeat' (first | apply And.intro | intro _)))
  | refine zhK _ ?_
  | (refine sd_k (id := 1) [7, 8, 9, 10, 11, 12, 13, 14, 15, 16, 5, 6] [0, 1, 3, 7, 15, 0, 32, 96, 224, 480, 0, 0, 3103, 8191] [(5, 12), (6, 12), (7, 12), (8, 12), (9, 12)] mixed (by kernel_rfl) (by simp only [go_sem]) fun zK zhK => ?_; simp only [go_sem, jM, Jd.ls, Int.toNat_one]; (repeat' (first | apply And.intro | intro _)))
  | (refine zhK _ _ ?_ ?_; (focus (first | trivial | (simp only [go_sem]; done) | (simp only [go_sem]; simp; done) | (simp only [go_sem]; simp; simp only [go_sem]))))
  | refine block_k fun zB zbn zbx zbr zbi => ?_
  | refine ret_k ?_
  | (refine zbr _ ?_; clear zbn zbx zbr zbi)
  | (refine zhM _ _ ?_; clear zhN zhM)
  | (refine zhZ _ _ ?_; simp only [go_sem, jM, Jd.ls, Int.toNat_one]; (all_goals (exact told_keep rfl (keep_one (by simp [look, Jd.ls])) ⟨rfl, rfl⟩)))
  | refine seq_k fun zN zM zhN zhM => ?_
  | (refine condF_k ?_ ?_; focus (first | rfl | (simp [go_sem, jM, Jd.ls, Int.toNat_one]; done)))
  | (refine condT_k ?_ ?_; focus (first | rfl | (simp [go_sem, jM, Jd.ls, Int.toNat_one]; done)))
set_option maxHeartbeats 800000 in
theorem has_5t (e0 e1 s1 d3 d4 d5 d6 k : Bool) :
 CtM Try.prog 45 [.w (.one (.p 500000 [])), .w (.one (.pl (.i 5)))] (jM ⟨e0, true, e1, s1, d3, d4, d5, d6, k⟩) (Told (fun v m => v = .w (.one (.pl (.b e1))) ∧ m = jM ⟨e0, true, e1, s1, d3, d4, d5, d6, k⟩)) := by
 refine CtM.k Try.func45 rfl Try.ntmps45 (congrArg Array.toList Try.results45) (by simp) fun w0 ro may fx => ?_
 refine top_k fun zZ zhZ => ?_
 iterate 23 first
  | (refine sr_k fun zK zhK => ?_; simp only [go_sem, jM, Jd.ls, Int.toNat_one]; (repeat' (first | apply And.intro | intro _)))
  | refine zhK _ ?_
  | (refine sd_k (id := 1) [7, 8, 9, 10, 11, 12, 13, 14, 15, 16, 5, 6] [0, 1, 3, 7, 15, 0, 32, 96, 224, 480, 0, 0, 3103, 8191] [(5, 12), (6, 12), (7, 12), (8, 12), (9, 12)] mixed (by kernel_rfl) (by simp only [go_sem]) fun zK zhK => ?_; simp only [go_sem, jM, Jd.ls, Int.toNat_one]; (repeat' (first | apply And.intro | intro _)))
  | (refine zhK _ _ ?_ ?_; (focus (first | trivial | (simp only [go_sem]; done) | (simp only [go_sem]; simp; done) | (simp only [go_sem]; simp; simp only [go_sem]))))
  | refine block_k fun zB zbn zbx zbr zbi => ?_
  | refine ret_k ?_
  | (refine zbr _ ?_; clear zbn zbx zbr zbi)
  | (refine zhM _ _ ?_; clear zhN zhM)
  | (refine zhZ _ _ ?_; simp only [go_sem, jM, Jd.ls, Int.toNat_one]; (all_goals (exact told_keep rfl (keep_one (by simp [look, Jd.ls])) ⟨rfl, rfl⟩)))
  | refine seq_k fun zN zM zhN zhM => ?_
  | (refine condF_k ?_ ?_; focus (first | rfl | (simp [go_sem, jM, Jd.ls, Int.toNat_one]; done)))
  | (refine condT_k ?_ ?_; focus (first | rfl | (simp [go_sem, jM, Jd.ls, Int.toNat_one]; done)))
set_option maxHeartbeats 800000 in
theorem has_5f (e0 e1 s1 d3 d4 d5 d6 k : Bool) :
 CtM Try.prog 45 [.w (.one (.p 500000 [])), .w (.one (.pl (.i 5)))] (jM ⟨e0, false, e1, s1, d3, d4, d5, d6, k⟩) (Told (fun v m => v = .w (.one (.pl (.b false))) ∧ m = jM ⟨e0, false, e1, s1, d3, d4, d5, d6, k⟩)) := by
 refine CtM.k Try.func45 rfl Try.ntmps45 (congrArg Array.toList Try.results45) (by simp) fun w0 ro may fx => ?_
 refine top_k fun zZ zhZ => ?_
 iterate 23 first
  | (refine sr_k fun zK zhK => ?_; simp only [go_sem, jM, Jd.ls, Int.toNat_one]; (repeat' (first | apply And.intro | intro _)))
  | refine zhK _ ?_
  | (refine sd_k (id := 1) [7, 8, 9, 10, 11, 12, 13, 14, 15, 16, 5, 6] [0, 1, 3, 7, 15, 0, 32, 96, 224, 480, 0, 0, 3103, 8191] [(5, 12), (6, 12), (7, 12), (8, 12), (9, 12)] mixed (by kernel_rfl) (by simp only [go_sem]) fun zK zhK => ?_; simp only [go_sem, jM, Jd.ls, Int.toNat_one]; (repeat' (first | apply And.intro | intro _)))
  | (refine zhK _ _ ?_ ?_; (focus (first | trivial | (simp only [go_sem]; done) | (simp only [go_sem]; simp; done) | (simp only [go_sem]; simp; simp only [go_sem]))))
  | refine block_k fun zB zbn zbx zbr zbi => ?_
  | refine ret_k ?_
  | (refine zbr _ ?_; clear zbn zbx zbr zbi)
  | (refine zhM _ _ ?_; clear zhN zhM)
  | (refine zhZ _ _ ?_; simp only [go_sem, jM, Jd.ls, Int.toNat_one]; (all_goals (exact told_keep rfl (keep_one (by simp [look, Jd.ls])) ⟨rfl, rfl⟩)))
  | refine seq_k fun zN zM zhN zhM => ?_
  | (refine condF_k ?_ ?_; focus (first | rfl | (simp [go_sem, jM, Jd.ls, Int.toNat_one]; done)))
  | (refine condT_k ?_ ?_; focus (first | rfl | (simp [go_sem, jM, Jd.ls, Int.toNat_one]; done)))
set_option maxHeartbeats 800000 in
theorem has_6t (e0 e1 s1 d3 d4 d5 d6 k : Bool) :
 CtM Try.prog 45 [.w (.one (.p 500000 [])), .w (.one (.pl (.i 6)))] (jM ⟨e0, true, e1, s1, d3, d4, d5, d6, k⟩) (Told (fun v m => v = .w (.one (.pl (.b s1))) ∧ m = jM ⟨e0, true, e1, s1, d3, d4, d5, d6, k⟩)) := by
 refine CtM.k Try.func45 rfl Try.ntmps45 (congrArg Array.toList Try.results45) (by simp) fun w0 ro may fx => ?_
 refine top_k fun zZ zhZ => ?_
 iterate 24 first
  | (refine sr_k fun zK zhK => ?_; simp only [go_sem, jM, Jd.ls, Int.toNat_one]; (repeat' (first | apply And.intro | intro _)))
  | refine zhK _ ?_
  | (refine sd_k (id := 1) [7, 8, 9, 10, 11, 12, 13, 14, 15, 16, 5, 6] [0, 1, 3, 7, 15, 0, 32, 96, 224, 480, 0, 0, 3103, 8191] [(5, 12), (6, 12), (7, 12), (8, 12), (9, 12)] mixed (by kernel_rfl) (by simp only [go_sem]) fun zK zhK => ?_; simp only [go_sem, jM, Jd.ls, Int.toNat_one]; (repeat' (first | apply And.intro | intro _)))
  | (refine zhK _ _ ?_ ?_; (focus (first | trivial | (simp only [go_sem]; done) | (simp only [go_sem]; simp; done) | (simp only [go_sem]; simp; simp only [go_sem]))))
  | refine block_k fun zB zbn zbx zbr zbi => ?_
  | refine skip_k ?_
  | (refine zbn _ ?_; clear zbn zbx zbr zbi)
  | (refine zhN _ ?_; clear zhN zhM)
  | refine ret_k ?_
  | (refine zhZ _ _ ?_; simp only [go_sem, jM, Jd.ls, Int.toNat_one]; (all_goals (exact told_keep rfl (keep_one (by simp [look, Jd.ls])) ⟨rfl, rfl⟩)))
  | refine seq_k fun zN zM zhN zhM => ?_
  | (refine condF_k ?_ ?_; focus (first | rfl | (simp [go_sem, jM, Jd.ls, Int.toNat_one]; done)))
set_option maxHeartbeats 800000 in
theorem has_6f (e0 e1 s1 d3 d4 d5 d6 k : Bool) :
 CtM Try.prog 45 [.w (.one (.p 500000 [])), .w (.one (.pl (.i 6)))] (jM ⟨e0, false, e1, s1, d3, d4, d5, d6, k⟩) (Told (fun v m => v = .w (.one (.pl (.b false))) ∧ m = jM ⟨e0, false, e1, s1, d3, d4, d5, d6, k⟩)) := by
 refine CtM.k Try.func45 rfl Try.ntmps45 (congrArg Array.toList Try.results45) (by simp) fun w0 ro may fx => ?_
 refine top_k fun zZ zhZ => ?_
 iterate 24 first
  | (refine sr_k fun zK zhK => ?_; simp only [go_sem, jM, Jd.ls, Int.toNat_one]; (repeat' (first | apply And.intro | intro _)))
  | refine zhK _ ?_
  | (refine sd_k (id := 1) [7, 8, 9, 10, 11, 12, 13, 14, 15, 16, 5, 6] [0, 1, 3, 7, 15, 0, 32, 96, 224, 480, 0, 0, 3103, 8191] [(5, 12), (6, 12), (7, 12), (8, 12), (9, 12)] mixed (by kernel_rfl) (by simp only [go_sem]) fun zK zhK => ?_; simp only [go_sem, jM, Jd.ls, Int.toNat_one]; (repeat' (first | apply And.intro | intro _)))
  | (refine zhK _ _ ?_ ?_; (focus (first | trivial | (simp only [go_sem]; done) | (simp only [go_sem]; simp; done) | (simp only [go_sem]; simp; simp only [go_sem]))))
  | refine block_k fun zB zbn zbx zbr zbi => ?_
  | refine skip_k ?_
  | (refine zbn _ ?_; clear zbn zbx zbr zbi)
  | (refine zhN _ ?_; clear zhN zhM)
  | refine ret_k ?_
  | (refine zhZ _ _ ?_; simp only [go_sem, jM, Jd.ls, Int.toNat_one]; (all_goals (exact told_keep rfl (keep_one (by simp [look, Jd.ls])) ⟨rfl, rfl⟩)))
  | refine seq_k fun zN zM zhN zhM => ?_
  | (refine condF_k ?_ ?_; focus (first | rfl | (simp [go_sem, jM, Jd.ls, Int.toNat_one]; done)))
end Go.Sy

