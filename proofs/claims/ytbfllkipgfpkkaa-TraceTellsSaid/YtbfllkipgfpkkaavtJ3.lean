/- Walks: may a side lock? -/
import Derived.Test.YtbfllkipgfpkkaavtJ2
set_option linter.unusedVariables false
set_option linter.unusedSimpArgs false
namespace Go.Sy
open Go.Proofs
attribute [local irreducible] atCall HT runOps runD onC onE onO onG goV goA goS onSt onGuard
set_option maxHeartbeats 800000 in
set_option maxRecDepth 100000 in
theorem may_0_0 (s0 e1 s1 d3 d4 : Bool) :
 CtM Try.prog 19 [.w (.one (.p 500000 [])), .w (.one (.pl (.i 0)))] (jM ⟨false, s0, e1, s1, d3, d4, true, true, true⟩) (Told (fun v m => v = .w (.one (.pl (.b false))) ∧ m = jM ⟨false, s0, e1, s1, d3, d4, true, true, true⟩)) := by
 refine CtM.k Try.func19 rfl Try.ntmps19 (congrArg Array.toList Try.results19) (by simp) fun w0 ro may fx => ?_
 refine top_k fun zZ zhZ => ?_
 iterate 15 first
  | (refine sr_k fun zK zhK => ?_; simp only [go_sem, jM, Jd.ls, Int.toNat_one]; (repeat' (first | apply And.intro | intro _)))
  | refine zhK _ ?_
  | refine ret_k ?_
  | (refine zhM _ _ ?_; clear zhN zhM)
  | (refine zhZ _ _ ?_; simp only [go_sem, jM, Jd.ls, Int.toNat_one]; (all_goals (exact told_keep rfl (keep_one (by simp [look, Jd.ls])) ⟨rfl, rfl⟩)))
  | refine seq_k fun zN zM zhN zhM => ?_
  | (refine condT_k ?_ ?_; focus (first | rfl | (simp [go_sem, jM, Jd.ls, Int.toNat_one]; done)))
set_option maxHeartbeats 800000 in
set_option maxRecDepth 100000 in
theorem may_0_1 (e0 s0 e1 s1 d4 : Bool) :
 CtM Try.prog 19 [.w (.one (.p 500000 [])), .w (.one (.pl (.i 0)))] (jM ⟨e0, s0, e1, s1, false, d4, true, true, false⟩) (Told (fun v m => v = .w (.one (.pl (.b false))) ∧ m = jM ⟨e0, s0, e1, s1, false, d4, true, true, false⟩)) := by
 refine CtM.k Try.func19 rfl Try.ntmps19 (congrArg Array.toList Try.results19) (by simp) fun w0 ro may fx => ?_
 refine top_k fun zZ zhZ => ?_
 iterate 29 first
  | (refine sr_k fun zK zhK => ?_; simp only [go_sem, jM, Jd.ls, Int.toNat_one]; (repeat' (first | apply And.intro | intro _)))
  | refine zhK _ ?_
  | refine skip_k ?_
  | (refine zhN _ ?_; clear zhN zhM)
  | (refine sd_k (id := 8) [57, 58, 59, 60, 61, 62, 63, 64, 65, 66, 67, 68, 69, 70, 71, 72, 73, 74, 75, 76, 77, 78, 79, 80, 81, 82, 83, 84, 85, 86] [0, 1, 3, 7, 15, 31, 63, 127, 255, 511, 1023, 2047, 4095, 8191, 16383, 32767, 65535, 131071, 262143, 524287, 1048575, 2097151, 2097151, 6291455, 4194303, 20971519, 67108863, 134217727, 268435455, 536870911] [] mixed (by kernel_rfl) (by simp only [go_sem]) fun zK zhK => ?_; simp only [go_sem, jM, Jd.ls, Int.toNat_one]; (repeat' (first | apply And.intro | intro _)))
  | refine zhK _ _ trivial ?_
  | refine ret_k ?_
  | (refine zhM _ _ ?_; clear zhN zhM)
  | (refine zhZ _ _ ?_; simp only [go_sem, jM, Jd.ls, Int.toNat_one]; (all_goals (exact told_keep rfl (keep_one (by simp [look, Jd.ls])) ⟨rfl, rfl⟩)))
  | refine seq_k fun zN zM zhN zhM => ?_
  | (refine condF_k ?_ ?_; focus (first | rfl | (simp [go_sem, jM, Jd.ls, Int.toNat_one]; done)))
  | (refine condT_k ?_ ?_; focus (first | rfl | (simp [go_sem, jM, Jd.ls, Int.toNat_one]; done)))
set_option maxHeartbeats 800000 in
set_option maxRecDepth 100000 in
theorem may_0_2 (e0 s0 e1 s1 d4 : Bool) :
 CtM Try.prog 19 [.w (.one (.p 500000 [])), .w (.one (.pl (.i 0)))] (jM ⟨e0, s0, e1, s1, true, d4, true, true, false⟩) (Told (fun v m => v = .w (.one (.pl (.b d4))) ∧ m = jM ⟨e0, s0, e1, s1, true, d4, true, true, false⟩)) := by
 refine CtM.k Try.func19 rfl Try.ntmps19 (congrArg Array.toList Try.results19) (by simp) fun w0 ro may fx => ?_
 refine top_k fun zZ zhZ => ?_
 iterate 30 first
  | (refine sr_k fun zK zhK => ?_; simp only [go_sem, jM, Jd.ls, Int.toNat_one]; (repeat' (first | apply And.intro | intro _)))
  | refine zhK _ ?_
  | refine skip_k ?_
  | (refine zhN _ ?_; clear zhN zhM)
  | refine zhK _ _ trivial ?_
  | (refine sd_k (id := 8) [57, 58, 59, 60, 61, 62, 63, 64, 65, 66, 67, 68, 69, 70, 71, 72, 73, 74, 75, 76, 77, 78, 79, 80, 81, 82, 83, 84, 85, 86] [0, 1, 3, 7, 15, 31, 63, 127, 255, 511, 1023, 2047, 4095, 8191, 16383, 32767, 65535, 131071, 262143, 524287, 1048575, 2097151, 2097151, 6291455, 4194303, 20971519, 67108863, 134217727, 268435455, 536870911] [] mixed (by kernel_rfl) (by simp only [go_sem]) fun zK zhK => ?_; simp only [go_sem, jM, Jd.ls, Int.toNat_one]; (repeat' (first | apply And.intro | intro _)))
  | (refine sd_k (id := 10) [87, 88, 89, 90, 91, 92, 93, 94, 95, 96, 97, 98, 99, 100, 101, 4] [0, 1, 3, 7, 15, 31, 63, 127, 127, 383, 255, 1279, 4095, 8191, 16383, 32767] [] mixed (by kernel_rfl) (by simp only [go_sem]) fun zK zhK => ?_; simp only [go_sem, jM, Jd.ls, Int.toNat_one]; (repeat' (first | apply And.intro | intro _)))
  | refine ret_k ?_
  | (refine zhZ _ _ ?_; simp only [go_sem, jM, Jd.ls, Int.toNat_one]; (all_goals (exact told_keep rfl (keep_one (by simp [look, Jd.ls])) ⟨rfl, rfl⟩)))
  | refine seq_k fun zN zM zhN zhM => ?_
  | (refine condF_k ?_ ?_; focus (first | rfl | (simp [go_sem, jM, Jd.ls, Int.toNat_one]; done)))
set_option maxHeartbeats 800000 in
set_option maxRecDepth 100000 in
theorem may_0_3 (s0 e1 s1 d4 : Bool) :
 CtM Try.prog 19 [.w (.one (.p 500000 [])), .w (.one (.pl (.i 0)))] (jM ⟨true, s0, e1, s1, false, d4, true, true, true⟩) (Told (fun v m => v = .w (.one (.pl (.b false))) ∧ m = jM ⟨true, s0, e1, s1, false, d4, true, true, true⟩)) := by
 refine CtM.k Try.func19 rfl Try.ntmps19 (congrArg Array.toList Try.results19) (by simp) fun w0 ro may fx => ?_
 refine top_k fun zZ zhZ => ?_
 iterate 29 first
  | (refine sr_k fun zK zhK => ?_; simp only [go_sem, jM, Jd.ls, Int.toNat_one]; (repeat' (first | apply And.intro | intro _)))
  | refine zhK _ ?_
  | refine skip_k ?_
  | (refine zhN _ ?_; clear zhN zhM)
  | (refine sd_k (id := 8) [57, 58, 59, 60, 61, 62, 63, 64, 65, 66, 67, 68, 69, 70, 71, 72, 73, 74, 75, 76, 77, 78, 79, 80, 81, 82, 83, 84, 85, 86] [0, 1, 3, 7, 15, 31, 63, 127, 255, 511, 1023, 2047, 4095, 8191, 16383, 32767, 65535, 131071, 262143, 524287, 1048575, 2097151, 2097151, 6291455, 4194303, 20971519, 67108863, 134217727, 268435455, 536870911] [] mixed (by kernel_rfl) (by simp only [go_sem]) fun zK zhK => ?_; simp only [go_sem, jM, Jd.ls, Int.toNat_one]; (repeat' (first | apply And.intro | intro _)))
  | refine zhK _ _ trivial ?_
  | refine ret_k ?_
  | (refine zhM _ _ ?_; clear zhN zhM)
  | (refine zhZ _ _ ?_; simp only [go_sem, jM, Jd.ls, Int.toNat_one]; (all_goals (exact told_keep rfl (keep_one (by simp [look, Jd.ls])) ⟨rfl, rfl⟩)))
  | refine seq_k fun zN zM zhN zhM => ?_
  | (refine condF_k ?_ ?_; focus (first | rfl | (simp [go_sem, jM, Jd.ls, Int.toNat_one]; done)))
  | (refine condT_k ?_ ?_; focus (first | rfl | (simp [go_sem, jM, Jd.ls, Int.toNat_one]; done)))
set_option maxHeartbeats 800000 in
set_option maxRecDepth 100000 in
theorem may_0_4 (s0 e1 s1 d4 : Bool) :
 CtM Try.prog 19 [.w (.one (.p 500000 [])), .w (.one (.pl (.i 0)))] (jM ⟨true, s0, e1, s1, true, d4, true, true, true⟩) (Told (fun v m => v = .w (.one (.pl (.b d4))) ∧ m = jM ⟨true, s0, e1, s1, true, d4, true, true, true⟩)) := by
 refine CtM.k Try.func19 rfl Try.ntmps19 (congrArg Array.toList Try.results19) (by simp) fun w0 ro may fx => ?_
 refine top_k fun zZ zhZ => ?_
 iterate 30 first
  | (refine sr_k fun zK zhK => ?_; simp only [go_sem, jM, Jd.ls, Int.toNat_one]; (repeat' (first | apply And.intro | intro _)))
  | refine zhK _ ?_
  | refine skip_k ?_
  | (refine zhN _ ?_; clear zhN zhM)
  | refine zhK _ _ trivial ?_
  | (refine sd_k (id := 8) [57, 58, 59, 60, 61, 62, 63, 64, 65, 66, 67, 68, 69, 70, 71, 72, 73, 74, 75, 76, 77, 78, 79, 80, 81, 82, 83, 84, 85, 86] [0, 1, 3, 7, 15, 31, 63, 127, 255, 511, 1023, 2047, 4095, 8191, 16383, 32767, 65535, 131071, 262143, 524287, 1048575, 2097151, 2097151, 6291455, 4194303, 20971519, 67108863, 134217727, 268435455, 536870911] [] mixed (by kernel_rfl) (by simp only [go_sem]) fun zK zhK => ?_; simp only [go_sem, jM, Jd.ls, Int.toNat_one]; (repeat' (first | apply And.intro | intro _)))
  | (refine sd_k (id := 10) [87, 88, 89, 90, 91, 92, 93, 94, 95, 96, 97, 98, 99, 100, 101, 4] [0, 1, 3, 7, 15, 31, 63, 127, 127, 383, 255, 1279, 4095, 8191, 16383, 32767] [] mixed (by kernel_rfl) (by simp only [go_sem]) fun zK zhK => ?_; simp only [go_sem, jM, Jd.ls, Int.toNat_one]; (repeat' (first | apply And.intro | intro _)))
  | refine ret_k ?_
  | (refine zhZ _ _ ?_; simp only [go_sem, jM, Jd.ls, Int.toNat_one]; (all_goals (exact told_keep rfl (keep_one (by simp [look, Jd.ls])) ⟨rfl, rfl⟩)))
  | refine seq_k fun zN zM zhN zhM => ?_
  | (refine condF_k ?_ ?_; focus (first | rfl | (simp [go_sem, jM, Jd.ls, Int.toNat_one]; done)))
set_option maxHeartbeats 800000 in
set_option maxRecDepth 100000 in
theorem may_0_5 (s0 e1 s1 d3 d4 : Bool) :
 CtM Try.prog 19 [.w (.one (.p 500000 [])), .w (.one (.pl (.i 0)))] (jM ⟨false, s0, e1, s1, d3, d4, false, true, true⟩) (Told (fun v m => v = .w (.one (.pl (.b false))) ∧ m = jM ⟨false, s0, e1, s1, d3, d4, false, true, true⟩)) := by
 refine CtM.k Try.func19 rfl Try.ntmps19 (congrArg Array.toList Try.results19) (by simp) fun w0 ro may fx => ?_
 refine top_k fun zZ zhZ => ?_
 iterate 15 first
  | (refine sr_k fun zK zhK => ?_; simp only [go_sem, jM, Jd.ls, Int.toNat_one]; (repeat' (first | apply And.intro | intro _)))
  | refine zhK _ ?_
  | refine ret_k ?_
  | (refine zhM _ _ ?_; clear zhN zhM)
  | (refine zhZ _ _ ?_; simp only [go_sem, jM, Jd.ls, Int.toNat_one]; (all_goals (exact told_keep rfl (keep_one (by simp [look, Jd.ls])) ⟨rfl, rfl⟩)))
  | refine seq_k fun zN zM zhN zhM => ?_
  | (refine condT_k ?_ ?_; focus (first | rfl | (simp [go_sem, jM, Jd.ls, Int.toNat_one]; done)))
set_option maxHeartbeats 800000 in
set_option maxRecDepth 100000 in
theorem may_0_6 (e0 s0 e1 s1 d3 d4 : Bool) :
 CtM Try.prog 19 [.w (.one (.p 500000 [])), .w (.one (.pl (.i 0)))] (jM ⟨e0, s0, e1, s1, d3, d4, false, true, false⟩) (Told (fun v m => v = .w (.one (.pl (.b d4))) ∧ m = jM ⟨e0, s0, e1, s1, d3, d4, false, true, false⟩)) := by
 refine CtM.k Try.func19 rfl Try.ntmps19 (congrArg Array.toList Try.results19) (by simp) fun w0 ro may fx => ?_
 refine top_k fun zZ zhZ => ?_
 iterate 30 first
  | (refine sr_k fun zK zhK => ?_; simp only [go_sem, jM, Jd.ls, Int.toNat_one]; (repeat' (first | apply And.intro | intro _)))
  | refine zhK _ ?_
  | refine skip_k ?_
  | (refine zhN _ ?_; clear zhN zhM)
  | refine zhK _ _ trivial ?_
  | (refine sd_k (id := 8) [57, 58, 59, 60, 61, 62, 63, 64, 65, 66, 67, 68, 69, 70, 71, 72, 73, 74, 75, 76, 77, 78, 79, 80, 81, 82, 83, 84, 85, 86] [0, 1, 3, 7, 15, 31, 63, 127, 255, 511, 1023, 2047, 4095, 8191, 16383, 32767, 65535, 131071, 262143, 524287, 1048575, 2097151, 2097151, 6291455, 4194303, 20971519, 67108863, 134217727, 268435455, 536870911] [] mixed (by kernel_rfl) (by simp only [go_sem]) fun zK zhK => ?_; simp only [go_sem, jM, Jd.ls, Int.toNat_one]; (repeat' (first | apply And.intro | intro _)))
  | (refine sd_k (id := 10) [87, 88, 89, 90, 91, 92, 93, 94, 95, 96, 97, 98, 99, 100, 101, 4] [0, 1, 3, 7, 15, 31, 63, 127, 127, 383, 255, 1279, 4095, 8191, 16383, 32767] [] mixed (by kernel_rfl) (by simp only [go_sem]) fun zK zhK => ?_; simp only [go_sem, jM, Jd.ls, Int.toNat_one]; (repeat' (first | apply And.intro | intro _)))
  | refine ret_k ?_
  | (refine zhZ _ _ ?_; simp only [go_sem, jM, Jd.ls, Int.toNat_one]; (all_goals (exact told_keep rfl (keep_one (by simp [look, Jd.ls])) ⟨rfl, rfl⟩)))
  | refine seq_k fun zN zM zhN zhM => ?_
  | (refine condF_k ?_ ?_; focus (first | rfl | (simp [go_sem, jM, Jd.ls, Int.toNat_one]; done)))
set_option maxHeartbeats 800000 in
set_option maxRecDepth 100000 in
theorem may_0_7 (s0 e1 s1 d3 d4 : Bool) :
 CtM Try.prog 19 [.w (.one (.p 500000 [])), .w (.one (.pl (.i 0)))] (jM ⟨true, s0, e1, s1, d3, d4, false, true, true⟩) (Told (fun v m => v = .w (.one (.pl (.b d4))) ∧ m = jM ⟨true, s0, e1, s1, d3, d4, false, true, true⟩)) := by
 refine CtM.k Try.func19 rfl Try.ntmps19 (congrArg Array.toList Try.results19) (by simp) fun w0 ro may fx => ?_
 refine top_k fun zZ zhZ => ?_
 iterate 30 first
  | (refine sr_k fun zK zhK => ?_; simp only [go_sem, jM, Jd.ls, Int.toNat_one]; (repeat' (first | apply And.intro | intro _)))
  | refine zhK _ ?_
  | refine skip_k ?_
  | (refine zhN _ ?_; clear zhN zhM)
  | refine zhK _ _ trivial ?_
  | (refine sd_k (id := 8) [57, 58, 59, 60, 61, 62, 63, 64, 65, 66, 67, 68, 69, 70, 71, 72, 73, 74, 75, 76, 77, 78, 79, 80, 81, 82, 83, 84, 85, 86] [0, 1, 3, 7, 15, 31, 63, 127, 255, 511, 1023, 2047, 4095, 8191, 16383, 32767, 65535, 131071, 262143, 524287, 1048575, 2097151, 2097151, 6291455, 4194303, 20971519, 67108863, 134217727, 268435455, 536870911] [] mixed (by kernel_rfl) (by simp only [go_sem]) fun zK zhK => ?_; simp only [go_sem, jM, Jd.ls, Int.toNat_one]; (repeat' (first | apply And.intro | intro _)))
  | (refine sd_k (id := 10) [87, 88, 89, 90, 91, 92, 93, 94, 95, 96, 97, 98, 99, 100, 101, 4] [0, 1, 3, 7, 15, 31, 63, 127, 127, 383, 255, 1279, 4095, 8191, 16383, 32767] [] mixed (by kernel_rfl) (by simp only [go_sem]) fun zK zhK => ?_; simp only [go_sem, jM, Jd.ls, Int.toNat_one]; (repeat' (first | apply And.intro | intro _)))
  | refine ret_k ?_
  | (refine zhZ _ _ ?_; simp only [go_sem, jM, Jd.ls, Int.toNat_one]; (all_goals (exact told_keep rfl (keep_one (by simp [look, Jd.ls])) ⟨rfl, rfl⟩)))
  | refine seq_k fun zN zM zhN zhM => ?_
  | (refine condF_k ?_ ?_; focus (first | rfl | (simp [go_sem, jM, Jd.ls, Int.toNat_one]; done)))
set_option maxHeartbeats 800000 in
set_option maxRecDepth 100000 in
theorem may_0_8 (s0 e1 s1 d3 d4 : Bool) :
 CtM Try.prog 19 [.w (.one (.p 500000 [])), .w (.one (.pl (.i 0)))] (jM ⟨false, s0, e1, s1, d3, d4, true, false, true⟩) (Told (fun v m => v = .w (.one (.pl (.b false))) ∧ m = jM ⟨false, s0, e1, s1, d3, d4, true, false, true⟩)) := by
 refine CtM.k Try.func19 rfl Try.ntmps19 (congrArg Array.toList Try.results19) (by simp) fun w0 ro may fx => ?_
 refine top_k fun zZ zhZ => ?_
 iterate 15 first
  | (refine sr_k fun zK zhK => ?_; simp only [go_sem, jM, Jd.ls, Int.toNat_one]; (repeat' (first | apply And.intro | intro _)))
  | refine zhK _ ?_
  | refine ret_k ?_
  | (refine zhM _ _ ?_; clear zhN zhM)
  | (refine zhZ _ _ ?_; simp only [go_sem, jM, Jd.ls, Int.toNat_one]; (all_goals (exact told_keep rfl (keep_one (by simp [look, Jd.ls])) ⟨rfl, rfl⟩)))
  | refine seq_k fun zN zM zhN zhM => ?_
  | (refine condT_k ?_ ?_; focus (first | rfl | (simp [go_sem, jM, Jd.ls, Int.toNat_one]; done)))
set_option maxHeartbeats 800000 in
set_option maxRecDepth 100000 in
theorem may_0_9 (e0 s0 e1 s1 d4 : Bool) :
 CtM Try.prog 19 [.w (.one (.p 500000 [])), .w (.one (.pl (.i 0)))] (jM ⟨e0, s0, e1, s1, false, d4, true, false, false⟩) (Told (fun v m => v = .w (.one (.pl (.b false))) ∧ m = jM ⟨e0, s0, e1, s1, false, d4, true, false, false⟩)) := by
 refine CtM.k Try.func19 rfl Try.ntmps19 (congrArg Array.toList Try.results19) (by simp) fun w0 ro may fx => ?_
 refine top_k fun zZ zhZ => ?_
 iterate 29 first
  | (refine sr_k fun zK zhK => ?_; simp only [go_sem, jM, Jd.ls, Int.toNat_one]; (repeat' (first | apply And.intro | intro _)))
  | refine zhK _ ?_
  | refine skip_k ?_
  | (refine zhN _ ?_; clear zhN zhM)
  | (refine sd_k (id := 8) [57, 58, 59, 60, 61, 62, 63, 64, 65, 66, 67, 68, 69, 70, 71, 72, 73, 74, 75, 76, 77, 78, 79, 80, 81, 82, 83, 84, 85, 86] [0, 1, 3, 7, 15, 31, 63, 127, 255, 511, 1023, 2047, 4095, 8191, 16383, 32767, 65535, 131071, 262143, 524287, 1048575, 2097151, 2097151, 6291455, 4194303, 20971519, 67108863, 134217727, 268435455, 536870911] [] mixed (by kernel_rfl) (by simp only [go_sem]) fun zK zhK => ?_; simp only [go_sem, jM, Jd.ls, Int.toNat_one]; (repeat' (first | apply And.intro | intro _)))
  | refine zhK _ _ trivial ?_
  | refine ret_k ?_
  | (refine zhM _ _ ?_; clear zhN zhM)
  | (refine zhZ _ _ ?_; simp only [go_sem, jM, Jd.ls, Int.toNat_one]; (all_goals (exact told_keep rfl (keep_one (by simp [look, Jd.ls])) ⟨rfl, rfl⟩)))
  | refine seq_k fun zN zM zhN zhM => ?_
  | (refine condF_k ?_ ?_; focus (first | rfl | (simp [go_sem, jM, Jd.ls, Int.toNat_one]; done)))
  | (refine condT_k ?_ ?_; focus (first | rfl | (simp [go_sem, jM, Jd.ls, Int.toNat_one]; done)))
set_option maxHeartbeats 800000 in
set_option maxRecDepth 100000 in
theorem may_0_10 (e0 s0 e1 s1 d4 : Bool) :
 CtM Try.prog 19 [.w (.one (.p 500000 [])), .w (.one (.pl (.i 0)))] (jM ⟨e0, s0, e1, s1, true, d4, true, false, false⟩) (Told (fun v m => v = .w (.one (.pl (.b true))) ∧ m = jM ⟨e0, s0, e1, s1, true, d4, true, false, false⟩)) := by
 refine CtM.k Try.func19 rfl Try.ntmps19 (congrArg Array.toList Try.results19) (by simp) fun w0 ro may fx => ?_
 refine top_k fun zZ zhZ => ?_
 iterate 30 first
  | (refine sr_k fun zK zhK => ?_; simp only [go_sem, jM, Jd.ls, Int.toNat_one]; (repeat' (first | apply And.intro | intro _)))
  | refine zhK _ ?_
  | refine skip_k ?_
  | (refine zhN _ ?_; clear zhN zhM)
  | refine zhK _ _ trivial ?_
  | (refine sd_k (id := 8) [57, 58, 59, 60, 61, 62, 63, 64, 65, 66, 67, 68, 69, 70, 71, 72, 73, 74, 75, 76, 77, 78, 79, 80, 81, 82, 83, 84, 85, 86] [0, 1, 3, 7, 15, 31, 63, 127, 255, 511, 1023, 2047, 4095, 8191, 16383, 32767, 65535, 131071, 262143, 524287, 1048575, 2097151, 2097151, 6291455, 4194303, 20971519, 67108863, 134217727, 268435455, 536870911] [] mixed (by kernel_rfl) (by simp only [go_sem]) fun zK zhK => ?_; simp only [go_sem, jM, Jd.ls, Int.toNat_one]; (repeat' (first | apply And.intro | intro _)))
  | (refine sd_k (id := 10) [87, 88, 89, 90, 91, 92, 93, 94, 95, 96, 97, 98, 99, 100, 101, 4] [0, 1, 3, 7, 15, 31, 63, 127, 127, 383, 255, 1279, 4095, 8191, 16383, 32767] [] mixed (by kernel_rfl) (by simp only [go_sem]) fun zK zhK => ?_; simp only [go_sem, jM, Jd.ls, Int.toNat_one]; (repeat' (first | apply And.intro | intro _)))
  | refine ret_k ?_
  | (refine zhZ _ _ ?_; simp only [go_sem, jM, Jd.ls, Int.toNat_one]; (all_goals (exact told_keep rfl (keep_one (by simp [look, Jd.ls])) ⟨rfl, rfl⟩)))
  | refine seq_k fun zN zM zhN zhM => ?_
  | (refine condF_k ?_ ?_; focus (first | rfl | (simp [go_sem, jM, Jd.ls, Int.toNat_one]; done)))
set_option maxHeartbeats 800000 in
set_option maxRecDepth 100000 in
theorem may_0_11 (s0 e1 s1 d4 : Bool) :
 CtM Try.prog 19 [.w (.one (.p 500000 [])), .w (.one (.pl (.i 0)))] (jM ⟨true, s0, e1, s1, false, d4, true, false, true⟩) (Told (fun v m => v = .w (.one (.pl (.b false))) ∧ m = jM ⟨true, s0, e1, s1, false, d4, true, false, true⟩)) := by
 refine CtM.k Try.func19 rfl Try.ntmps19 (congrArg Array.toList Try.results19) (by simp) fun w0 ro may fx => ?_
 refine top_k fun zZ zhZ => ?_
 iterate 29 first
  | (refine sr_k fun zK zhK => ?_; simp only [go_sem, jM, Jd.ls, Int.toNat_one]; (repeat' (first | apply And.intro | intro _)))
  | refine zhK _ ?_
  | refine skip_k ?_
  | (refine zhN _ ?_; clear zhN zhM)
  | (refine sd_k (id := 8) [57, 58, 59, 60, 61, 62, 63, 64, 65, 66, 67, 68, 69, 70, 71, 72, 73, 74, 75, 76, 77, 78, 79, 80, 81, 82, 83, 84, 85, 86] [0, 1, 3, 7, 15, 31, 63, 127, 255, 511, 1023, 2047, 4095, 8191, 16383, 32767, 65535, 131071, 262143, 524287, 1048575, 2097151, 2097151, 6291455, 4194303, 20971519, 67108863, 134217727, 268435455, 536870911] [] mixed (by kernel_rfl) (by simp only [go_sem]) fun zK zhK => ?_; simp only [go_sem, jM, Jd.ls, Int.toNat_one]; (repeat' (first | apply And.intro | intro _)))
  | refine zhK _ _ trivial ?_
  | refine ret_k ?_
  | (refine zhM _ _ ?_; clear zhN zhM)
  | (refine zhZ _ _ ?_; simp only [go_sem, jM, Jd.ls, Int.toNat_one]; (all_goals (exact told_keep rfl (keep_one (by simp [look, Jd.ls])) ⟨rfl, rfl⟩)))
  | refine seq_k fun zN zM zhN zhM => ?_
  | (refine condF_k ?_ ?_; focus (first | rfl | (simp [go_sem, jM, Jd.ls, Int.toNat_one]; done)))
  | (refine condT_k ?_ ?_; focus (first | rfl | (simp [go_sem, jM, Jd.ls, Int.toNat_one]; done)))
set_option maxHeartbeats 800000 in
set_option maxRecDepth 100000 in
theorem may_0_12 (s0 e1 s1 d4 : Bool) :
 CtM Try.prog 19 [.w (.one (.p 500000 [])), .w (.one (.pl (.i 0)))] (jM ⟨true, s0, e1, s1, true, d4, true, false, true⟩) (Told (fun v m => v = .w (.one (.pl (.b true))) ∧ m = jM ⟨true, s0, e1, s1, true, d4, true, false, true⟩)) := by
 refine CtM.k Try.func19 rfl Try.ntmps19 (congrArg Array.toList Try.results19) (by simp) fun w0 ro may fx => ?_
 refine top_k fun zZ zhZ => ?_
 iterate 30 first
  | (refine sr_k fun zK zhK => ?_; simp only [go_sem, jM, Jd.ls, Int.toNat_one]; (repeat' (first | apply And.intro | intro _)))
  | refine zhK _ ?_
  | refine skip_k ?_
  | (refine zhN _ ?_; clear zhN zhM)
  | refine zhK _ _ trivial ?_
  | (refine sd_k (id := 8) [57, 58, 59, 60, 61, 62, 63, 64, 65, 66, 67, 68, 69, 70, 71, 72, 73, 74, 75, 76, 77, 78, 79, 80, 81, 82, 83, 84, 85, 86] [0, 1, 3, 7, 15, 31, 63, 127, 255, 511, 1023, 2047, 4095, 8191, 16383, 32767, 65535, 131071, 262143, 524287, 1048575, 2097151, 2097151, 6291455, 4194303, 20971519, 67108863, 134217727, 268435455, 536870911] [] mixed (by kernel_rfl) (by simp only [go_sem]) fun zK zhK => ?_; simp only [go_sem, jM, Jd.ls, Int.toNat_one]; (repeat' (first | apply And.intro | intro _)))
  | (refine sd_k (id := 10) [87, 88, 89, 90, 91, 92, 93, 94, 95, 96, 97, 98, 99, 100, 101, 4] [0, 1, 3, 7, 15, 31, 63, 127, 127, 383, 255, 1279, 4095, 8191, 16383, 32767] [] mixed (by kernel_rfl) (by simp only [go_sem]) fun zK zhK => ?_; simp only [go_sem, jM, Jd.ls, Int.toNat_one]; (repeat' (first | apply And.intro | intro _)))
  | refine ret_k ?_
  | (refine zhZ _ _ ?_; simp only [go_sem, jM, Jd.ls, Int.toNat_one]; (all_goals (exact told_keep rfl (keep_one (by simp [look, Jd.ls])) ⟨rfl, rfl⟩)))
  | refine seq_k fun zN zM zhN zhM => ?_
  | (refine condF_k ?_ ?_; focus (first | rfl | (simp [go_sem, jM, Jd.ls, Int.toNat_one]; done)))
set_option maxHeartbeats 800000 in
set_option maxRecDepth 100000 in
theorem may_0_13 (s0 e1 s1 d3 d4 : Bool) :
 CtM Try.prog 19 [.w (.one (.p 500000 [])), .w (.one (.pl (.i 0)))] (jM ⟨false, s0, e1, s1, d3, d4, false, false, true⟩) (Told (fun v m => v = .w (.one (.pl (.b false))) ∧ m = jM ⟨false, s0, e1, s1, d3, d4, false, false, true⟩)) := by
 refine CtM.k Try.func19 rfl Try.ntmps19 (congrArg Array.toList Try.results19) (by simp) fun w0 ro may fx => ?_
 refine top_k fun zZ zhZ => ?_
 iterate 15 first
  | (refine sr_k fun zK zhK => ?_; simp only [go_sem, jM, Jd.ls, Int.toNat_one]; (repeat' (first | apply And.intro | intro _)))
  | refine zhK _ ?_
  | refine ret_k ?_
  | (refine zhM _ _ ?_; clear zhN zhM)
  | (refine zhZ _ _ ?_; simp only [go_sem, jM, Jd.ls, Int.toNat_one]; (all_goals (exact told_keep rfl (keep_one (by simp [look, Jd.ls])) ⟨rfl, rfl⟩)))
  | refine seq_k fun zN zM zhN zhM => ?_
  | (refine condT_k ?_ ?_; focus (first | rfl | (simp [go_sem, jM, Jd.ls, Int.toNat_one]; done)))
set_option maxHeartbeats 800000 in
set_option maxRecDepth 100000 in
theorem may_0_14 (e0 s0 e1 s1 d3 d4 : Bool) :
 CtM Try.prog 19 [.w (.one (.p 500000 [])), .w (.one (.pl (.i 0)))] (jM ⟨e0, s0, e1, s1, d3, d4, false, false, false⟩) (Told (fun v m => v = .w (.one (.pl (.b true))) ∧ m = jM ⟨e0, s0, e1, s1, d3, d4, false, false, false⟩)) := by
 refine CtM.k Try.func19 rfl Try.ntmps19 (congrArg Array.toList Try.results19) (by simp) fun w0 ro may fx => ?_
 refine top_k fun zZ zhZ => ?_
 iterate 21 first
  | (refine sr_k fun zK zhK => ?_; simp only [go_sem, jM, Jd.ls, Int.toNat_one]; (repeat' (first | apply And.intro | intro _)))
  | refine zhK _ ?_
  | refine skip_k ?_
  | (refine zhN _ ?_; clear zhN zhM)
  | refine ret_k ?_
  | (refine zhM _ _ ?_; clear zhN zhM)
  | (refine zhZ _ _ ?_; simp only [go_sem, jM, Jd.ls, Int.toNat_one]; (all_goals (exact told_keep rfl (keep_one (by simp [look, Jd.ls])) ⟨rfl, rfl⟩)))
  | refine seq_k fun zN zM zhN zhM => ?_
  | (refine condF_k ?_ ?_; focus (first | rfl | (simp [go_sem, jM, Jd.ls, Int.toNat_one]; done)))
  | (refine condT_k ?_ ?_; focus (first | rfl | (simp [go_sem, jM, Jd.ls, Int.toNat_one]; done)))
set_option maxHeartbeats 800000 in
set_option maxRecDepth 100000 in
theorem may_0_15 (s0 e1 s1 d3 d4 : Bool) :
 CtM Try.prog 19 [.w (.one (.p 500000 [])), .w (.one (.pl (.i 0)))] (jM ⟨true, s0, e1, s1, d3, d4, false, false, true⟩) (Told (fun v m => v = .w (.one (.pl (.b true))) ∧ m = jM ⟨true, s0, e1, s1, d3, d4, false, false, true⟩)) := by
 refine CtM.k Try.func19 rfl Try.ntmps19 (congrArg Array.toList Try.results19) (by simp) fun w0 ro may fx => ?_
 refine top_k fun zZ zhZ => ?_
 iterate 21 first
  | (refine sr_k fun zK zhK => ?_; simp only [go_sem, jM, Jd.ls, Int.toNat_one]; (repeat' (first | apply And.intro | intro _)))
  | refine zhK _ ?_
  | refine skip_k ?_
  | (refine zhN _ ?_; clear zhN zhM)
  | refine ret_k ?_
  | (refine zhM _ _ ?_; clear zhN zhM)
  | (refine zhZ _ _ ?_; simp only [go_sem, jM, Jd.ls, Int.toNat_one]; (all_goals (exact told_keep rfl (keep_one (by simp [look, Jd.ls])) ⟨rfl, rfl⟩)))
  | refine seq_k fun zN zM zhN zhM => ?_
  | (refine condF_k ?_ ?_; focus (first | rfl | (simp [go_sem, jM, Jd.ls, Int.toNat_one]; done)))
  | (refine condT_k ?_ ?_; focus (first | rfl | (simp [go_sem, jM, Jd.ls, Int.toNat_one]; done)))
theorem may_0 (j : Jd) : CtM Try.prog 19 [.w (.one (.p 500000 [])), .w (.one (.pl (.i 0)))] (jM j) (fun v m => v = .w (.one (.pl (.b (j.may false)))) ∧ m = jM j) := by
 obtain ⟨e0, s0, e1, s1, d3, d4, d5, d6, k⟩ := j
 cases k <;> cases e0 <;> cases d6 <;> cases d5 <;> cases d3
 · exact (may_0_14 _ _ _ _ _ _).told
 · exact (may_0_14 _ _ _ _ _ _).told
 · exact (may_0_9 _ _ _ _ _).told
 · exact (may_0_10 _ _ _ _ _).told
 · exact (may_0_6 _ _ _ _ _ _).told
 · exact (may_0_6 _ _ _ _ _ _).told
 · exact (may_0_1 _ _ _ _ _).told
 · exact (may_0_2 _ _ _ _ _).told
 · exact (may_0_14 _ _ _ _ _ _).told
 · exact (may_0_14 _ _ _ _ _ _).told
 · exact (may_0_9 _ _ _ _ _).told
 · exact (may_0_10 _ _ _ _ _).told
 · exact (may_0_6 _ _ _ _ _ _).told
 · exact (may_0_6 _ _ _ _ _ _).told
 · exact (may_0_1 _ _ _ _ _).told
 · exact (may_0_2 _ _ _ _ _).told
 · exact (may_0_13 _ _ _ _ _).told
 · exact (may_0_13 _ _ _ _ _).told
 · exact (may_0_8 _ _ _ _ _).told
 · exact (may_0_8 _ _ _ _ _).told
 · exact (may_0_5 _ _ _ _ _).told
 · exact (may_0_5 _ _ _ _ _).told
 · exact (may_0_0 _ _ _ _ _).told
 · exact (may_0_0 _ _ _ _ _).told
 · exact (may_0_15 _ _ _ _ _).told
 · exact (may_0_15 _ _ _ _ _).told
 · exact (may_0_11 _ _ _ _).told
 · exact (may_0_12 _ _ _ _).told
 · exact (may_0_7 _ _ _ _ _).told
 · exact (may_0_7 _ _ _ _ _).told
 · exact (may_0_3 _ _ _ _).told
 · exact (may_0_4 _ _ _ _).told
set_option maxHeartbeats 800000 in
set_option maxRecDepth 100000 in
theorem may_1_0 (e0 s0 s1 d3 d5 : Bool) :
 CtM Try.prog 19 [.w (.one (.p 500000 [])), .w (.one (.pl (.i 1)))] (jM ⟨e0, s0, false, s1, d3, true, d5, true, true⟩) (Told (fun v m => v = .w (.one (.pl (.b false))) ∧ m = jM ⟨e0, s0, false, s1, d3, true, d5, true, true⟩)) := by
 refine CtM.k Try.func19 rfl Try.ntmps19 (congrArg Array.toList Try.results19) (by simp) fun w0 ro may fx => ?_
 refine top_k fun zZ zhZ => ?_
 iterate 15 first
  | (refine sr_k fun zK zhK => ?_; simp only [go_sem, jM, Jd.ls, Int.toNat_one]; (repeat' (first | apply And.intro | intro _)))
  | refine zhK _ ?_
  | refine ret_k ?_
  | (refine zhM _ _ ?_; clear zhN zhM)
  | (refine zhZ _ _ ?_; simp only [go_sem, jM, Jd.ls, Int.toNat_one]; (all_goals (exact told_keep rfl (keep_one (by simp [look, Jd.ls])) ⟨rfl, rfl⟩)))
  | refine seq_k fun zN zM zhN zhM => ?_
  | (refine condT_k ?_ ?_; focus (first | rfl | (simp [go_sem, jM, Jd.ls, Int.toNat_one]; done)))
set_option maxHeartbeats 800000 in
set_option maxRecDepth 100000 in
theorem may_1_1 (e0 s0 e1 s1 d5 : Bool) :
 CtM Try.prog 19 [.w (.one (.p 500000 [])), .w (.one (.pl (.i 1)))] (jM ⟨e0, s0, e1, s1, false, true, d5, true, false⟩) (Told (fun v m => v = .w (.one (.pl (.b false))) ∧ m = jM ⟨e0, s0, e1, s1, false, true, d5, true, false⟩)) := by
 refine CtM.k Try.func19 rfl Try.ntmps19 (congrArg Array.toList Try.results19) (by simp) fun w0 ro may fx => ?_
 refine top_k fun zZ zhZ => ?_
 iterate 29 first
  | (refine sr_k fun zK zhK => ?_; simp only [go_sem, jM, Jd.ls, Int.toNat_one]; (repeat' (first | apply And.intro | intro _)))
  | refine zhK _ ?_
  | refine skip_k ?_
  | (refine zhN _ ?_; clear zhN zhM)
  | (refine sd_k (id := 8) [57, 58, 59, 60, 61, 62, 63, 64, 65, 66, 67, 68, 69, 70, 71, 72, 73, 74, 75, 76, 77, 78, 79, 80, 81, 82, 83, 84, 85, 86] [0, 1, 3, 7, 15, 31, 63, 127, 255, 511, 1023, 2047, 4095, 8191, 16383, 32767, 65535, 131071, 262143, 524287, 1048575, 2097151, 2097151, 6291455, 4194303, 20971519, 67108863, 134217727, 268435455, 536870911] [] mixed (by kernel_rfl) (by simp only [go_sem]) fun zK zhK => ?_; simp only [go_sem, jM, Jd.ls, Int.toNat_one]; (repeat' (first | apply And.intro | intro _)))
  | refine zhK _ _ trivial ?_
  | refine ret_k ?_
  | (refine zhM _ _ ?_; clear zhN zhM)
  | (refine zhZ _ _ ?_; simp only [go_sem, jM, Jd.ls, Int.toNat_one]; (all_goals (exact told_keep rfl (keep_one (by simp [look, Jd.ls])) ⟨rfl, rfl⟩)))
  | refine seq_k fun zN zM zhN zhM => ?_
  | (refine condF_k ?_ ?_; focus (first | rfl | (simp [go_sem, jM, Jd.ls, Int.toNat_one]; done)))
  | (refine condT_k ?_ ?_; focus (first | rfl | (simp [go_sem, jM, Jd.ls, Int.toNat_one]; done)))
set_option maxHeartbeats 800000 in
set_option maxRecDepth 100000 in
theorem may_1_2 (e0 s0 e1 s1 d5 : Bool) :
 CtM Try.prog 19 [.w (.one (.p 500000 [])), .w (.one (.pl (.i 1)))] (jM ⟨e0, s0, e1, s1, true, true, d5, true, false⟩) (Told (fun v m => v = .w (.one (.pl (.b d5))) ∧ m = jM ⟨e0, s0, e1, s1, true, true, d5, true, false⟩)) := by
 refine CtM.k Try.func19 rfl Try.ntmps19 (congrArg Array.toList Try.results19) (by simp) fun w0 ro may fx => ?_
 refine top_k fun zZ zhZ => ?_
 iterate 30 first
  | (refine sr_k fun zK zhK => ?_; simp only [go_sem, jM, Jd.ls, Int.toNat_one]; (repeat' (first | apply And.intro | intro _)))
  | refine zhK _ ?_
  | refine skip_k ?_
  | (refine zhN _ ?_; clear zhN zhM)
  | refine zhK _ _ trivial ?_
  | (refine sd_k (id := 8) [57, 58, 59, 60, 61, 62, 63, 64, 65, 66, 67, 68, 69, 70, 71, 72, 73, 74, 75, 76, 77, 78, 79, 80, 81, 82, 83, 84, 85, 86] [0, 1, 3, 7, 15, 31, 63, 127, 255, 511, 1023, 2047, 4095, 8191, 16383, 32767, 65535, 131071, 262143, 524287, 1048575, 2097151, 2097151, 6291455, 4194303, 20971519, 67108863, 134217727, 268435455, 536870911] [] mixed (by kernel_rfl) (by simp only [go_sem]) fun zK zhK => ?_; simp only [go_sem, jM, Jd.ls, Int.toNat_one]; (repeat' (first | apply And.intro | intro _)))
  | (refine sd_k (id := 10) [87, 88, 89, 90, 91, 92, 93, 94, 95, 96, 97, 98, 99, 100, 101, 4] [0, 1, 3, 7, 15, 31, 63, 127, 127, 383, 255, 1279, 4095, 8191, 16383, 32767] [] mixed (by kernel_rfl) (by simp only [go_sem]) fun zK zhK => ?_; simp only [go_sem, jM, Jd.ls, Int.toNat_one]; (repeat' (first | apply And.intro | intro _)))
  | refine ret_k ?_
  | (refine zhZ _ _ ?_; simp only [go_sem, jM, Jd.ls, Int.toNat_one]; (all_goals (exact told_keep rfl (keep_one (by simp [look, Jd.ls])) ⟨rfl, rfl⟩)))
  | refine seq_k fun zN zM zhN zhM => ?_
  | (refine condF_k ?_ ?_; focus (first | rfl | (simp [go_sem, jM, Jd.ls, Int.toNat_one]; done)))
set_option maxHeartbeats 800000 in
set_option maxRecDepth 100000 in
theorem may_1_3 (e0 s0 s1 d5 : Bool) :
 CtM Try.prog 19 [.w (.one (.p 500000 [])), .w (.one (.pl (.i 1)))] (jM ⟨e0, s0, true, s1, false, true, d5, true, true⟩) (Told (fun v m => v = .w (.one (.pl (.b false))) ∧ m = jM ⟨e0, s0, true, s1, false, true, d5, true, true⟩)) := by
 refine CtM.k Try.func19 rfl Try.ntmps19 (congrArg Array.toList Try.results19) (by simp) fun w0 ro may fx => ?_
 refine top_k fun zZ zhZ => ?_
 iterate 29 first
  | (refine sr_k fun zK zhK => ?_; simp only [go_sem, jM, Jd.ls, Int.toNat_one]; (repeat' (first | apply And.intro | intro _)))
  | refine zhK _ ?_
  | refine skip_k ?_
  | (refine zhN _ ?_; clear zhN zhM)
  | (refine sd_k (id := 8) [57, 58, 59, 60, 61, 62, 63, 64, 65, 66, 67, 68, 69, 70, 71, 72, 73, 74, 75, 76, 77, 78, 79, 80, 81, 82, 83, 84, 85, 86] [0, 1, 3, 7, 15, 31, 63, 127, 255, 511, 1023, 2047, 4095, 8191, 16383, 32767, 65535, 131071, 262143, 524287, 1048575, 2097151, 2097151, 6291455, 4194303, 20971519, 67108863, 134217727, 268435455, 536870911] [] mixed (by kernel_rfl) (by simp only [go_sem]) fun zK zhK => ?_; simp only [go_sem, jM, Jd.ls, Int.toNat_one]; (repeat' (first | apply And.intro | intro _)))
  | refine zhK _ _ trivial ?_
  | refine ret_k ?_
  | (refine zhM _ _ ?_; clear zhN zhM)
  | (refine zhZ _ _ ?_; simp only [go_sem, jM, Jd.ls, Int.toNat_one]; (all_goals (exact told_keep rfl (keep_one (by simp [look, Jd.ls])) ⟨rfl, rfl⟩)))
  | refine seq_k fun zN zM zhN zhM => ?_
  | (refine condF_k ?_ ?_; focus (first | rfl | (simp [go_sem, jM, Jd.ls, Int.toNat_one]; done)))
  | (refine condT_k ?_ ?_; focus (first | rfl | (simp [go_sem, jM, Jd.ls, Int.toNat_one]; done)))
set_option maxHeartbeats 800000 in
set_option maxRecDepth 100000 in
theorem may_1_4 (e0 s0 s1 d5 : Bool) :
 CtM Try.prog 19 [.w (.one (.p 500000 [])), .w (.one (.pl (.i 1)))] (jM ⟨e0, s0, true, s1, true, true, d5, true, true⟩) (Told (fun v m => v = .w (.one (.pl (.b d5))) ∧ m = jM ⟨e0, s0, true, s1, true, true, d5, true, true⟩)) := by
 refine CtM.k Try.func19 rfl Try.ntmps19 (congrArg Array.toList Try.results19) (by simp) fun w0 ro may fx => ?_
 refine top_k fun zZ zhZ => ?_
 iterate 30 first
  | (refine sr_k fun zK zhK => ?_; simp only [go_sem, jM, Jd.ls, Int.toNat_one]; (repeat' (first | apply And.intro | intro _)))
  | refine zhK _ ?_
  | refine skip_k ?_
  | (refine zhN _ ?_; clear zhN zhM)
  | refine zhK _ _ trivial ?_
  | (refine sd_k (id := 8) [57, 58, 59, 60, 61, 62, 63, 64, 65, 66, 67, 68, 69, 70, 71, 72, 73, 74, 75, 76, 77, 78, 79, 80, 81, 82, 83, 84, 85, 86] [0, 1, 3, 7, 15, 31, 63, 127, 255, 511, 1023, 2047, 4095, 8191, 16383, 32767, 65535, 131071, 262143, 524287, 1048575, 2097151, 2097151, 6291455, 4194303, 20971519, 67108863, 134217727, 268435455, 536870911] [] mixed (by kernel_rfl) (by simp only [go_sem]) fun zK zhK => ?_; simp only [go_sem, jM, Jd.ls, Int.toNat_one]; (repeat' (first | apply And.intro | intro _)))
  | (refine sd_k (id := 10) [87, 88, 89, 90, 91, 92, 93, 94, 95, 96, 97, 98, 99, 100, 101, 4] [0, 1, 3, 7, 15, 31, 63, 127, 127, 383, 255, 1279, 4095, 8191, 16383, 32767] [] mixed (by kernel_rfl) (by simp only [go_sem]) fun zK zhK => ?_; simp only [go_sem, jM, Jd.ls, Int.toNat_one]; (repeat' (first | apply And.intro | intro _)))
  | refine ret_k ?_
  | (refine zhZ _ _ ?_; simp only [go_sem, jM, Jd.ls, Int.toNat_one]; (all_goals (exact told_keep rfl (keep_one (by simp [look, Jd.ls])) ⟨rfl, rfl⟩)))
  | refine seq_k fun zN zM zhN zhM => ?_
  | (refine condF_k ?_ ?_; focus (first | rfl | (simp [go_sem, jM, Jd.ls, Int.toNat_one]; done)))
set_option maxHeartbeats 800000 in
set_option maxRecDepth 100000 in
theorem may_1_5 (e0 s0 s1 d3 d5 : Bool) :
 CtM Try.prog 19 [.w (.one (.p 500000 [])), .w (.one (.pl (.i 1)))] (jM ⟨e0, s0, false, s1, d3, false, d5, true, true⟩) (Told (fun v m => v = .w (.one (.pl (.b false))) ∧ m = jM ⟨e0, s0, false, s1, d3, false, d5, true, true⟩)) := by
 refine CtM.k Try.func19 rfl Try.ntmps19 (congrArg Array.toList Try.results19) (by simp) fun w0 ro may fx => ?_
 refine top_k fun zZ zhZ => ?_
 iterate 15 first
  | (refine sr_k fun zK zhK => ?_; simp only [go_sem, jM, Jd.ls, Int.toNat_one]; (repeat' (first | apply And.intro | intro _)))
  | refine zhK _ ?_
  | refine ret_k ?_
  | (refine zhM _ _ ?_; clear zhN zhM)
  | (refine zhZ _ _ ?_; simp only [go_sem, jM, Jd.ls, Int.toNat_one]; (all_goals (exact told_keep rfl (keep_one (by simp [look, Jd.ls])) ⟨rfl, rfl⟩)))
  | refine seq_k fun zN zM zhN zhM => ?_
  | (refine condT_k ?_ ?_; focus (first | rfl | (simp [go_sem, jM, Jd.ls, Int.toNat_one]; done)))
set_option maxHeartbeats 800000 in
set_option maxRecDepth 100000 in
theorem may_1_6 (e0 s0 e1 s1 d3 d5 : Bool) :
 CtM Try.prog 19 [.w (.one (.p 500000 [])), .w (.one (.pl (.i 1)))] (jM ⟨e0, s0, e1, s1, d3, false, d5, true, false⟩) (Told (fun v m => v = .w (.one (.pl (.b d5))) ∧ m = jM ⟨e0, s0, e1, s1, d3, false, d5, true, false⟩)) := by
 refine CtM.k Try.func19 rfl Try.ntmps19 (congrArg Array.toList Try.results19) (by simp) fun w0 ro may fx => ?_
 refine top_k fun zZ zhZ => ?_
 iterate 30 first
  | (refine sr_k fun zK zhK => ?_; simp only [go_sem, jM, Jd.ls, Int.toNat_one]; (repeat' (first | apply And.intro | intro _)))
  | refine zhK _ ?_
  | refine skip_k ?_
  | (refine zhN _ ?_; clear zhN zhM)
  | refine zhK _ _ trivial ?_
  | (refine sd_k (id := 8) [57, 58, 59, 60, 61, 62, 63, 64, 65, 66, 67, 68, 69, 70, 71, 72, 73, 74, 75, 76, 77, 78, 79, 80, 81, 82, 83, 84, 85, 86] [0, 1, 3, 7, 15, 31, 63, 127, 255, 511, 1023, 2047, 4095, 8191, 16383, 32767, 65535, 131071, 262143, 524287, 1048575, 2097151, 2097151, 6291455, 4194303, 20971519, 67108863, 134217727, 268435455, 536870911] [] mixed (by kernel_rfl) (by simp only [go_sem]) fun zK zhK => ?_; simp only [go_sem, jM, Jd.ls, Int.toNat_one]; (repeat' (first | apply And.intro | intro _)))
  | (refine sd_k (id := 10) [87, 88, 89, 90, 91, 92, 93, 94, 95, 96, 97, 98, 99, 100, 101, 4] [0, 1, 3, 7, 15, 31, 63, 127, 127, 383, 255, 1279, 4095, 8191, 16383, 32767] [] mixed (by kernel_rfl) (by simp only [go_sem]) fun zK zhK => ?_; simp only [go_sem, jM, Jd.ls, Int.toNat_one]; (repeat' (first | apply And.intro | intro _)))
  | refine ret_k ?_
  | (refine zhZ _ _ ?_; simp only [go_sem, jM, Jd.ls, Int.toNat_one]; (all_goals (exact told_keep rfl (keep_one (by simp [look, Jd.ls])) ⟨rfl, rfl⟩)))
  | refine seq_k fun zN zM zhN zhM => ?_
  | (refine condF_k ?_ ?_; focus (first | rfl | (simp [go_sem, jM, Jd.ls, Int.toNat_one]; done)))
set_option maxHeartbeats 800000 in
set_option maxRecDepth 100000 in
theorem may_1_7 (e0 s0 s1 d3 d5 : Bool) :
 CtM Try.prog 19 [.w (.one (.p 500000 [])), .w (.one (.pl (.i 1)))] (jM ⟨e0, s0, true, s1, d3, false, d5, true, true⟩) (Told (fun v m => v = .w (.one (.pl (.b d5))) ∧ m = jM ⟨e0, s0, true, s1, d3, false, d5, true, true⟩)) := by
 refine CtM.k Try.func19 rfl Try.ntmps19 (congrArg Array.toList Try.results19) (by simp) fun w0 ro may fx => ?_
 refine top_k fun zZ zhZ => ?_
 iterate 30 first
  | (refine sr_k fun zK zhK => ?_; simp only [go_sem, jM, Jd.ls, Int.toNat_one]; (repeat' (first | apply And.intro | intro _)))
  | refine zhK _ ?_
  | refine skip_k ?_
  | (refine zhN _ ?_; clear zhN zhM)
  | refine zhK _ _ trivial ?_
  | (refine sd_k (id := 8) [57, 58, 59, 60, 61, 62, 63, 64, 65, 66, 67, 68, 69, 70, 71, 72, 73, 74, 75, 76, 77, 78, 79, 80, 81, 82, 83, 84, 85, 86] [0, 1, 3, 7, 15, 31, 63, 127, 255, 511, 1023, 2047, 4095, 8191, 16383, 32767, 65535, 131071, 262143, 524287, 1048575, 2097151, 2097151, 6291455, 4194303, 20971519, 67108863, 134217727, 268435455, 536870911] [] mixed (by kernel_rfl) (by simp only [go_sem]) fun zK zhK => ?_; simp only [go_sem, jM, Jd.ls, Int.toNat_one]; (repeat' (first | apply And.intro | intro _)))
  | (refine sd_k (id := 10) [87, 88, 89, 90, 91, 92, 93, 94, 95, 96, 97, 98, 99, 100, 101, 4] [0, 1, 3, 7, 15, 31, 63, 127, 127, 383, 255, 1279, 4095, 8191, 16383, 32767] [] mixed (by kernel_rfl) (by simp only [go_sem]) fun zK zhK => ?_; simp only [go_sem, jM, Jd.ls, Int.toNat_one]; (repeat' (first | apply And.intro | intro _)))
  | refine ret_k ?_
  | (refine zhZ _ _ ?_; simp only [go_sem, jM, Jd.ls, Int.toNat_one]; (all_goals (exact told_keep rfl (keep_one (by simp [look, Jd.ls])) ⟨rfl, rfl⟩)))
  | refine seq_k fun zN zM zhN zhM => ?_
  | (refine condF_k ?_ ?_; focus (first | rfl | (simp [go_sem, jM, Jd.ls, Int.toNat_one]; done)))
set_option maxHeartbeats 800000 in
set_option maxRecDepth 100000 in
theorem may_1_8 (e0 s0 s1 d3 d5 : Bool) :
 CtM Try.prog 19 [.w (.one (.p 500000 [])), .w (.one (.pl (.i 1)))] (jM ⟨e0, s0, false, s1, d3, true, d5, false, true⟩) (Told (fun v m => v = .w (.one (.pl (.b false))) ∧ m = jM ⟨e0, s0, false, s1, d3, true, d5, false, true⟩)) := by
 refine CtM.k Try.func19 rfl Try.ntmps19 (congrArg Array.toList Try.results19) (by simp) fun w0 ro may fx => ?_
 refine top_k fun zZ zhZ => ?_
 iterate 15 first
  | (refine sr_k fun zK zhK => ?_; simp only [go_sem, jM, Jd.ls, Int.toNat_one]; (repeat' (first | apply And.intro | intro _)))
  | refine zhK _ ?_
  | refine ret_k ?_
  | (refine zhM _ _ ?_; clear zhN zhM)
  | (refine zhZ _ _ ?_; simp only [go_sem, jM, Jd.ls, Int.toNat_one]; (all_goals (exact told_keep rfl (keep_one (by simp [look, Jd.ls])) ⟨rfl, rfl⟩)))
  | refine seq_k fun zN zM zhN zhM => ?_
  | (refine condT_k ?_ ?_; focus (first | rfl | (simp [go_sem, jM, Jd.ls, Int.toNat_one]; done)))
set_option maxHeartbeats 800000 in
set_option maxRecDepth 100000 in
theorem may_1_9 (e0 s0 e1 s1 d5 : Bool) :
 CtM Try.prog 19 [.w (.one (.p 500000 [])), .w (.one (.pl (.i 1)))] (jM ⟨e0, s0, e1, s1, false, true, d5, false, false⟩) (Told (fun v m => v = .w (.one (.pl (.b false))) ∧ m = jM ⟨e0, s0, e1, s1, false, true, d5, false, false⟩)) := by
 refine CtM.k Try.func19 rfl Try.ntmps19 (congrArg Array.toList Try.results19) (by simp) fun w0 ro may fx => ?_
 refine top_k fun zZ zhZ => ?_
 iterate 29 first
  | (refine sr_k fun zK zhK => ?_; simp only [go_sem, jM, Jd.ls, Int.toNat_one]; (repeat' (first | apply And.intro | intro _)))
  | refine zhK _ ?_
  | refine skip_k ?_
  | (refine zhN _ ?_; clear zhN zhM)
  | (refine sd_k (id := 8) [57, 58, 59, 60, 61, 62, 63, 64, 65, 66, 67, 68, 69, 70, 71, 72, 73, 74, 75, 76, 77, 78, 79, 80, 81, 82, 83, 84, 85, 86] [0, 1, 3, 7, 15, 31, 63, 127, 255, 511, 1023, 2047, 4095, 8191, 16383, 32767, 65535, 131071, 262143, 524287, 1048575, 2097151, 2097151, 6291455, 4194303, 20971519, 67108863, 134217727, 268435455, 536870911] [] mixed (by kernel_rfl) (by simp only [go_sem]) fun zK zhK => ?_; simp only [go_sem, jM, Jd.ls, Int.toNat_one]; (repeat' (first | apply And.intro | intro _)))
  | refine zhK _ _ trivial ?_
  | refine ret_k ?_
  | (refine zhM _ _ ?_; clear zhN zhM)
  | (refine zhZ _ _ ?_; simp only [go_sem, jM, Jd.ls, Int.toNat_one]; (all_goals (exact told_keep rfl (keep_one (by simp [look, Jd.ls])) ⟨rfl, rfl⟩)))
  | refine seq_k fun zN zM zhN zhM => ?_
  | (refine condF_k ?_ ?_; focus (first | rfl | (simp [go_sem, jM, Jd.ls, Int.toNat_one]; done)))
  | (refine condT_k ?_ ?_; focus (first | rfl | (simp [go_sem, jM, Jd.ls, Int.toNat_one]; done)))
set_option maxHeartbeats 800000 in
set_option maxRecDepth 100000 in
theorem may_1_10 (e0 s0 e1 s1 d5 : Bool) :
 CtM Try.prog 19 [.w (.one (.p 500000 [])), .w (.one (.pl (.i 1)))] (jM ⟨e0, s0, e1, s1, true, true, d5, false, false⟩) (Told (fun v m => v = .w (.one (.pl (.b true))) ∧ m = jM ⟨e0, s0, e1, s1, true, true, d5, false, false⟩)) := by
 refine CtM.k Try.func19 rfl Try.ntmps19 (congrArg Array.toList Try.results19) (by simp) fun w0 ro may fx => ?_
 refine top_k fun zZ zhZ => ?_
 iterate 30 first
  | (refine sr_k fun zK zhK => ?_; simp only [go_sem, jM, Jd.ls, Int.toNat_one]; (repeat' (first | apply And.intro | intro _)))
  | refine zhK _ ?_
  | refine skip_k ?_
  | (refine zhN _ ?_; clear zhN zhM)
  | refine zhK _ _ trivial ?_
  | (refine sd_k (id := 8) [57, 58, 59, 60, 61, 62, 63, 64, 65, 66, 67, 68, 69, 70, 71, 72, 73, 74, 75, 76, 77, 78, 79, 80, 81, 82, 83, 84, 85, 86] [0, 1, 3, 7, 15, 31, 63, 127, 255, 511, 1023, 2047, 4095, 8191, 16383, 32767, 65535, 131071, 262143, 524287, 1048575, 2097151, 2097151, 6291455, 4194303, 20971519, 67108863, 134217727, 268435455, 536870911] [] mixed (by kernel_rfl) (by simp only [go_sem]) fun zK zhK => ?_; simp only [go_sem, jM, Jd.ls, Int.toNat_one]; (repeat' (first | apply And.intro | intro _)))
  | (refine sd_k (id := 10) [87, 88, 89, 90, 91, 92, 93, 94, 95, 96, 97, 98, 99, 100, 101, 4] [0, 1, 3, 7, 15, 31, 63, 127, 127, 383, 255, 1279, 4095, 8191, 16383, 32767] [] mixed (by kernel_rfl) (by simp only [go_sem]) fun zK zhK => ?_; simp only [go_sem, jM, Jd.ls, Int.toNat_one]; (repeat' (first | apply And.intro | intro _)))
  | refine ret_k ?_
  | (refine zhZ _ _ ?_; simp only [go_sem, jM, Jd.ls, Int.toNat_one]; (all_goals (exact told_keep rfl (keep_one (by simp [look, Jd.ls])) ⟨rfl, rfl⟩)))
  | refine seq_k fun zN zM zhN zhM => ?_
  | (refine condF_k ?_ ?_; focus (first | rfl | (simp [go_sem, jM, Jd.ls, Int.toNat_one]; done)))
set_option maxHeartbeats 800000 in
set_option maxRecDepth 100000 in
theorem may_1_11 (e0 s0 s1 d5 : Bool) :
 CtM Try.prog 19 [.w (.one (.p 500000 [])), .w (.one (.pl (.i 1)))] (jM ⟨e0, s0, true, s1, false, true, d5, false, true⟩) (Told (fun v m => v = .w (.one (.pl (.b false))) ∧ m = jM ⟨e0, s0, true, s1, false, true, d5, false, true⟩)) := by
 refine CtM.k Try.func19 rfl Try.ntmps19 (congrArg Array.toList Try.results19) (by simp) fun w0 ro may fx => ?_
 refine top_k fun zZ zhZ => ?_
 iterate 29 first
  | (refine sr_k fun zK zhK => ?_; simp only [go_sem, jM, Jd.ls, Int.toNat_one]; (repeat' (first | apply And.intro | intro _)))
  | refine zhK _ ?_
  | refine skip_k ?_
  | (refine zhN _ ?_; clear zhN zhM)
  | (refine sd_k (id := 8) [57, 58, 59, 60, 61, 62, 63, 64, 65, 66, 67, 68, 69, 70, 71, 72, 73, 74, 75, 76, 77, 78, 79, 80, 81, 82, 83, 84, 85, 86] [0, 1, 3, 7, 15, 31, 63, 127, 255, 511, 1023, 2047, 4095, 8191, 16383, 32767, 65535, 131071, 262143, 524287, 1048575, 2097151, 2097151, 6291455, 4194303, 20971519, 67108863, 134217727, 268435455, 536870911] [] mixed (by kernel_rfl) (by simp only [go_sem]) fun zK zhK => ?_; simp only [go_sem, jM, Jd.ls, Int.toNat_one]; (repeat' (first | apply And.intro | intro _)))
  | refine zhK _ _ trivial ?_
  | refine ret_k ?_
  | (refine zhM _ _ ?_; clear zhN zhM)
  | (refine zhZ _ _ ?_; simp only [go_sem, jM, Jd.ls, Int.toNat_one]; (all_goals (exact told_keep rfl (keep_one (by simp [look, Jd.ls])) ⟨rfl, rfl⟩)))
  | refine seq_k fun zN zM zhN zhM => ?_
  | (refine condF_k ?_ ?_; focus (first | rfl | (simp [go_sem, jM, Jd.ls, Int.toNat_one]; done)))
  | (refine condT_k ?_ ?_; focus (first | rfl | (simp [go_sem, jM, Jd.ls, Int.toNat_one]; done)))
set_option maxHeartbeats 800000 in
set_option maxRecDepth 100000 in
theorem may_1_12 (e0 s0 s1 d5 : Bool) :
 CtM Try.prog 19 [.w (.one (.p 500000 [])), .w (.one (.pl (.i 1)))] (jM ⟨e0, s0, true, s1, true, true, d5, false, true⟩) (Told (fun v m => v = .w (.one (.pl (.b true))) ∧ m = jM ⟨e0, s0, true, s1, true, true, d5, false, true⟩)) := by
 refine CtM.k Try.func19 rfl Try.ntmps19 (congrArg Array.toList Try.results19) (by simp) fun w0 ro may fx => ?_
 refine top_k fun zZ zhZ => ?_
 iterate 30 first
  | (refine sr_k fun zK zhK => ?_; simp only [go_sem, jM, Jd.ls, Int.toNat_one]; (repeat' (first | apply And.intro | intro _)))
  | refine zhK _ ?_
  | refine skip_k ?_
  | (refine zhN _ ?_; clear zhN zhM)
  | refine zhK _ _ trivial ?_
  | (refine sd_k (id := 8) [57, 58, 59, 60, 61, 62, 63, 64, 65, 66, 67, 68, 69, 70, 71, 72, 73, 74, 75, 76, 77, 78, 79, 80, 81, 82, 83, 84, 85, 86] [0, 1, 3, 7, 15, 31, 63, 127, 255, 511, 1023, 2047, 4095, 8191, 16383, 32767, 65535, 131071, 262143, 524287, 1048575, 2097151, 2097151, 6291455, 4194303, 20971519, 67108863, 134217727, 268435455, 536870911] [] mixed (by kernel_rfl) (by simp only [go_sem]) fun zK zhK => ?_; simp only [go_sem, jM, Jd.ls, Int.toNat_one]; (repeat' (first | apply And.intro | intro _)))
  | (refine sd_k (id := 10) [87, 88, 89, 90, 91, 92, 93, 94, 95, 96, 97, 98, 99, 100, 101, 4] [0, 1, 3, 7, 15, 31, 63, 127, 127, 383, 255, 1279, 4095, 8191, 16383, 32767] [] mixed (by kernel_rfl) (by simp only [go_sem]) fun zK zhK => ?_; simp only [go_sem, jM, Jd.ls, Int.toNat_one]; (repeat' (first | apply And.intro | intro _)))
  | refine ret_k ?_
  | (refine zhZ _ _ ?_; simp only [go_sem, jM, Jd.ls, Int.toNat_one]; (all_goals (exact told_keep rfl (keep_one (by simp [look, Jd.ls])) ⟨rfl, rfl⟩)))
  | refine seq_k fun zN zM zhN zhM => ?_
  | (refine condF_k ?_ ?_; focus (first | rfl | (simp [go_sem, jM, Jd.ls, Int.toNat_one]; done)))
set_option maxHeartbeats 800000 in
set_option maxRecDepth 100000 in
theorem may_1_13 (e0 s0 s1 d3 d5 : Bool) :
 CtM Try.prog 19 [.w (.one (.p 500000 [])), .w (.one (.pl (.i 1)))] (jM ⟨e0, s0, false, s1, d3, false, d5, false, true⟩) (Told (fun v m => v = .w (.one (.pl (.b false))) ∧ m = jM ⟨e0, s0, false, s1, d3, false, d5, false, true⟩)) := by
 refine CtM.k Try.func19 rfl Try.ntmps19 (congrArg Array.toList Try.results19) (by simp) fun w0 ro may fx => ?_
 refine top_k fun zZ zhZ => ?_
 iterate 15 first
  | (refine sr_k fun zK zhK => ?_; simp only [go_sem, jM, Jd.ls, Int.toNat_one]; (repeat' (first | apply And.intro | intro _)))
  | refine zhK _ ?_
  | refine ret_k ?_
  | (refine zhM _ _ ?_; clear zhN zhM)
  | (refine zhZ _ _ ?_; simp only [go_sem, jM, Jd.ls, Int.toNat_one]; (all_goals (exact told_keep rfl (keep_one (by simp [look, Jd.ls])) ⟨rfl, rfl⟩)))
  | refine seq_k fun zN zM zhN zhM => ?_
  | (refine condT_k ?_ ?_; focus (first | rfl | (simp [go_sem, jM, Jd.ls, Int.toNat_one]; done)))
set_option maxHeartbeats 800000 in
set_option maxRecDepth 100000 in
theorem may_1_14 (e0 s0 e1 s1 d3 d5 : Bool) :
 CtM Try.prog 19 [.w (.one (.p 500000 [])), .w (.one (.pl (.i 1)))] (jM ⟨e0, s0, e1, s1, d3, false, d5, false, false⟩) (Told (fun v m => v = .w (.one (.pl (.b true))) ∧ m = jM ⟨e0, s0, e1, s1, d3, false, d5, false, false⟩)) := by
 refine CtM.k Try.func19 rfl Try.ntmps19 (congrArg Array.toList Try.results19) (by simp) fun w0 ro may fx => ?_
 refine top_k fun zZ zhZ => ?_
 iterate 21 first
  | (refine sr_k fun zK zhK => ?_; simp only [go_sem, jM, Jd.ls, Int.toNat_one]; (repeat' (first | apply And.intro | intro _)))
  | refine zhK _ ?_
  | refine skip_k ?_
  | (refine zhN _ ?_; clear zhN zhM)
  | refine ret_k ?_
  | (refine zhM _ _ ?_; clear zhN zhM)
  | (refine zhZ _ _ ?_; simp only [go_sem, jM, Jd.ls, Int.toNat_one]; (all_goals (exact told_keep rfl (keep_one (by simp [look, Jd.ls])) ⟨rfl, rfl⟩)))
  | refine seq_k fun zN zM zhN zhM => ?_
  | (refine condF_k ?_ ?_; focus (first | rfl | (simp [go_sem, jM, Jd.ls, Int.toNat_one]; done)))
  | (refine condT_k ?_ ?_; focus (first | rfl | (simp [go_sem, jM, Jd.ls, Int.toNat_one]; done)))
set_option maxHeartbeats 800000 in
set_option maxRecDepth 100000 in
theorem may_1_15 (e0 s0 s1 d3 d5 : Bool) :
 CtM Try.prog 19 [.w (.one (.p 500000 [])), .w (.one (.pl (.i 1)))] (jM ⟨e0, s0, true, s1, d3, false, d5, false, true⟩) (Told (fun v m => v = .w (.one (.pl (.b true))) ∧ m = jM ⟨e0, s0, true, s1, d3, false, d5, false, true⟩)) := by
 refine CtM.k Try.func19 rfl Try.ntmps19 (congrArg Array.toList Try.results19) (by simp) fun w0 ro may fx => ?_
 refine top_k fun zZ zhZ => ?_
 iterate 21 first
  | (refine sr_k fun zK zhK => ?_; simp only [go_sem, jM, Jd.ls, Int.toNat_one]; (repeat' (first | apply And.intro | intro _)))
  | refine zhK _ ?_
  | refine skip_k ?_
  | (refine zhN _ ?_; clear zhN zhM)
  | refine ret_k ?_
  | (refine zhM _ _ ?_; clear zhN zhM)
  | (refine zhZ _ _ ?_; simp only [go_sem, jM, Jd.ls, Int.toNat_one]; (all_goals (exact told_keep rfl (keep_one (by simp [look, Jd.ls])) ⟨rfl, rfl⟩)))
  | refine seq_k fun zN zM zhN zhM => ?_
  | (refine condF_k ?_ ?_; focus (first | rfl | (simp [go_sem, jM, Jd.ls, Int.toNat_one]; done)))
  | (refine condT_k ?_ ?_; focus (first | rfl | (simp [go_sem, jM, Jd.ls, Int.toNat_one]; done)))
theorem may_1 (j : Jd) : CtM Try.prog 19 [.w (.one (.p 500000 [])), .w (.one (.pl (.i 1)))] (jM j) (fun v m => v = .w (.one (.pl (.b (j.may true)))) ∧ m = jM j) := by
 obtain ⟨e0, s0, e1, s1, d3, d4, d5, d6, k⟩ := j
 cases k <;> cases e1 <;> cases d6 <;> cases d4 <;> cases d3
 · exact (may_1_14 _ _ _ _ _ _).told
 · exact (may_1_14 _ _ _ _ _ _).told
 · exact (may_1_9 _ _ _ _ _).told
 · exact (may_1_10 _ _ _ _ _).told
 · exact (may_1_6 _ _ _ _ _ _).told
 · exact (may_1_6 _ _ _ _ _ _).told
 · exact (may_1_1 _ _ _ _ _).told
 · exact (may_1_2 _ _ _ _ _).told
 · exact (may_1_14 _ _ _ _ _ _).told
 · exact (may_1_14 _ _ _ _ _ _).told
 · exact (may_1_9 _ _ _ _ _).told
 · exact (may_1_10 _ _ _ _ _).told
 · exact (may_1_6 _ _ _ _ _ _).told
 · exact (may_1_6 _ _ _ _ _ _).told
 · exact (may_1_1 _ _ _ _ _).told
 · exact (may_1_2 _ _ _ _ _).told
 · exact (may_1_13 _ _ _ _ _).told
 · exact (may_1_13 _ _ _ _ _).told
 · exact (may_1_8 _ _ _ _ _).told
 · exact (may_1_8 _ _ _ _ _).told
 · exact (may_1_5 _ _ _ _ _).told
 · exact (may_1_5 _ _ _ _ _).told
 · exact (may_1_0 _ _ _ _ _).told
 · exact (may_1_0 _ _ _ _ _).told
 · exact (may_1_15 _ _ _ _ _).told
 · exact (may_1_15 _ _ _ _ _).told
 · exact (may_1_11 _ _ _ _).told
 · exact (may_1_12 _ _ _ _).told
 · exact (may_1_7 _ _ _ _ _).told
 · exact (may_1_7 _ _ _ _ _).told
 · exact (may_1_3 _ _ _ _).told
 · exact (may_1_4 _ _ _ _).told
end Go.Sy

