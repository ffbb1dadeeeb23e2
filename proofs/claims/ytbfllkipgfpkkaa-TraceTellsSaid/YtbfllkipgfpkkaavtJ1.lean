/- Walks: the judge's small functions. -/
import Derived.Test.YtbfllkipgfpkkaavtT
import Derived.Test.YtbfllkipgfpkkaavE3
import Derived.Test.YtbfllkipgfpkkaavU2
set_option linter.unusedVariables false
set_option linter.unusedSimpArgs false
namespace Go.Sy
open Go.Proofs
attribute [local irreducible] atCall HT runOps runD onC onE onO onG goV goA goS onSt onGuard
def Jd.ls (j : Jd) : List L := [.pl (.b j.e0), .pl (.b j.s0), .pl (.b false), .pl (.b j.e1), .pl (.b j.s1), .pl (.b false), .pl (.b false), .pl (.b false), .pl (.b false), .pl (.b j.d3), .pl (.b j.d4), .pl (.b j.d5), .pl (.b j.d6), .pl (.b false), .pl (.b j.k)]
abbrev jM (j : Jd) : List (Nat × Ob) := [(500000, ⟨false, j.ls⟩)]
set_option maxHeartbeats 800000 in
theorem told_01t (s0 e1 s1 d3 d4 d5 d6 k : Bool) :
 CtM Try.prog 16 [.w (.one (.p 500000 [])), .w (.one (.pl (.i 0))), .w (.one (.pl (.i 1)))] (jM ⟨true, s0, e1, s1, d3, d4, d5, d6, k⟩) (Told (fun v m => v = .w (.one (.pl (.b false))) ∧ m = jM ⟨true, s0, e1, s1, d3, d4, d5, d6, k⟩)) := by
 refine CtM.k Try.func16 rfl Try.ntmps16 (congrArg Array.toList Try.results16) (by simp) fun w0 ro may fx => ?_
 refine top_k fun zZ zhZ => ?_
 iterate 19 first
  | (refine sr_k fun zK zhK => ?_; simp only [go_sem, jM, Jd.ls, Int.toNat_one]; (repeat' (first | apply And.intro | intro _)))
  | refine zhK _ ?_
  | refine skip_k ?_
  | (refine zhN _ ?_; clear zhN zhM)
  | refine ret_k ?_
  | (refine zhM _ _ ?_; clear zhN zhM)
  | (refine zhZ _ _ ?_; simp only [go_sem, jM, Jd.ls, Int.toNat_one]; (all_goals (exact told_keep rfl (keep_one (by simp [look, Jd.ls])) ⟨rfl, rfl⟩)))
  | refine seq_k fun zN zM zhN zhM => ?_
  | (refine condF_k ?_ ?_; focus (first | rfl | (simp [go_sem, jM, Jd.ls, Int.toNat_one]; done)))
  | (refine condT_k ?_ ?_; focus (first | rfl | (simp [go_sem, jM, Jd.ls, Int.toNat_one]; done)))
set_option maxHeartbeats 800000 in
theorem told_01f (s0 e1 s1 d3 d4 d5 d6 k : Bool) :
 CtM Try.prog 16 [.w (.one (.p 500000 [])), .w (.one (.pl (.i 0))), .w (.one (.pl (.i 1)))] (jM ⟨false, s0, e1, s1, d3, d4, d5, d6, k⟩) (Told (fun v m => v = .w (.one (.pl (.b true))) ∧ m = jM ⟨true, s0, e1, s1, d3, d4, d5, d6, k⟩)) := by
 refine CtM.k Try.func16 rfl Try.ntmps16 (congrArg Array.toList Try.results16) (by simp) fun w0 ro may fx => ?_
 refine top_k fun zZ zhZ => ?_
 iterate 22 first
  | (refine sr_k fun zK zhK => ?_; simp only [go_sem, jM, Jd.ls, Int.toNat_one]; (repeat' (first | apply And.intro | intro _)))
  | refine zhK _ ?_
  | refine skip_k ?_
  | (refine zhN _ ?_; clear zhN zhM)
  | refine ret_k ?_
  | (refine zhZ _ _ ?_; simp only [go_sem, jM, Jd.ls, Int.toNat_one]; (all_goals (exact told_keep rfl (keep_one (by simp [look, Jd.ls])) ⟨rfl, rfl⟩)))
  | refine seq_k fun zN zM zhN zhM => ?_
  | (refine condF_k ?_ ?_; focus (first | rfl | (simp [go_sem, jM, Jd.ls, Int.toNat_one]; done)))
set_option maxHeartbeats 800000 in
theorem told_02t (e0 e1 s1 d3 d4 d5 d6 k : Bool) :
 CtM Try.prog 16 [.w (.one (.p 500000 [])), .w (.one (.pl (.i 0))), .w (.one (.pl (.i 2)))] (jM ⟨e0, true, e1, s1, d3, d4, d5, d6, k⟩) (Told (fun v m => v = .w (.one (.pl (.b false))) ∧ m = jM ⟨e0, true, e1, s1, d3, d4, d5, d6, k⟩)) := by
 refine CtM.k Try.func16 rfl Try.ntmps16 (congrArg Array.toList Try.results16) (by simp) fun w0 ro may fx => ?_
 refine top_k fun zZ zhZ => ?_
 iterate 20 first
  | refine zhK _ ?_
  | (refine sr_k fun zK zhK => ?_; simp only [go_sem, jM, Jd.ls, Int.toNat_one]; (repeat' (first | apply And.intro | intro _)))
  | (refine region_k fun zK zhK => ?_; simp only [go_sem, jM, Jd.ls, Int.toNat_one]; (repeat' (first | apply And.intro | intro _)))
  | (refine zhN _ ?_; clear zhN zhM)
  | refine ret_k ?_
  | (refine zhM _ _ ?_; clear zhN zhM)
  | (refine zhZ _ _ ?_; simp only [go_sem, jM, Jd.ls, Int.toNat_one]; (all_goals (exact told_keep rfl (keep_one (by simp [look, Jd.ls])) ⟨rfl, rfl⟩)))
  | refine seq_k fun zN zM zhN zhM => ?_
  | (refine condT_k ?_ ?_; focus (first | rfl | (simp [go_sem, jM, Jd.ls, Int.toNat_one]; done)))
set_option maxHeartbeats 800000 in
theorem told_02f (e0 e1 s1 d3 d4 d5 d6 k : Bool) :
 CtM Try.prog 16 [.w (.one (.p 500000 [])), .w (.one (.pl (.i 0))), .w (.one (.pl (.i 2)))] (jM ⟨e0, false, e1, s1, d3, d4, d5, d6, k⟩) (Told (fun v m => v = .w (.one (.pl (.b true))) ∧ m = jM ⟨e0, true, e1, s1, d3, d4, d5, d6, k⟩)) := by
 refine CtM.k Try.func16 rfl Try.ntmps16 (congrArg Array.toList Try.results16) (by simp) fun w0 ro may fx => ?_
 refine top_k fun zZ zhZ => ?_
 iterate 23 first
  | refine zhK _ ?_
  | (refine sr_k fun zK zhK => ?_; simp only [go_sem, jM, Jd.ls, Int.toNat_one]; (repeat' (first | apply And.intro | intro _)))
  | (refine zhN _ ?_; clear zhN zhM)
  | (refine region_k fun zK zhK => ?_; simp only [go_sem, jM, Jd.ls, Int.toNat_one]; (repeat' (first | apply And.intro | intro _)))
  | refine skip_k ?_
  | refine ret_k ?_
  | (refine zhZ _ _ ?_; simp only [go_sem, jM, Jd.ls, Int.toNat_one]; (all_goals (exact told_keep rfl (keep_one (by simp [look, Jd.ls])) ⟨rfl, rfl⟩)))
  | refine seq_k fun zN zM zhN zhM => ?_
  | (refine condT_k ?_ ?_; focus (first | rfl | (simp [go_sem, jM, Jd.ls, Int.toNat_one]; done)))
  | (refine condF_k ?_ ?_; focus (first | rfl | (simp [go_sem, jM, Jd.ls, Int.toNat_one]; done)))
set_option maxHeartbeats 800000 in
theorem told_11t (e0 s0 s1 d3 d4 d5 d6 k : Bool) :
 CtM Try.prog 16 [.w (.one (.p 500000 [])), .w (.one (.pl (.i 1))), .w (.one (.pl (.i 1)))] (jM ⟨e0, s0, true, s1, d3, d4, d5, d6, k⟩) (Told (fun v m => v = .w (.one (.pl (.b false))) ∧ m = jM ⟨e0, s0, true, s1, d3, d4, d5, d6, k⟩)) := by
 refine CtM.k Try.func16 rfl Try.ntmps16 (congrArg Array.toList Try.results16) (by simp) fun w0 ro may fx => ?_
 refine top_k fun zZ zhZ => ?_
 iterate 19 first
  | (refine sr_k fun zK zhK => ?_; simp only [go_sem, jM, Jd.ls, Int.toNat_one]; (repeat' (first | apply And.intro | intro _)))
  | refine zhK _ ?_
  | refine skip_k ?_
  | (refine zhN _ ?_; clear zhN zhM)
  | refine ret_k ?_
  | (refine zhM _ _ ?_; clear zhN zhM)
  | (refine zhZ _ _ ?_; simp only [go_sem, jM, Jd.ls, Int.toNat_one]; (all_goals (exact told_keep rfl (keep_one (by simp [look, Jd.ls])) ⟨rfl, rfl⟩)))
  | refine seq_k fun zN zM zhN zhM => ?_
  | (refine condF_k ?_ ?_; focus (first | rfl | (simp [go_sem, jM, Jd.ls, Int.toNat_one]; done)))
  | (refine condT_k ?_ ?_; focus (first | rfl | (simp [go_sem, jM, Jd.ls, Int.toNat_one]; done)))
set_option maxHeartbeats 800000 in
theorem told_11f (e0 s0 s1 d3 d4 d5 d6 k : Bool) :
 CtM Try.prog 16 [.w (.one (.p 500000 [])), .w (.one (.pl (.i 1))), .w (.one (.pl (.i 1)))] (jM ⟨e0, s0, false, s1, d3, d4, d5, d6, k⟩) (Told (fun v m => v = .w (.one (.pl (.b true))) ∧ m = jM ⟨e0, s0, true, s1, d3, d4, d5, d6, k⟩)) := by
 refine CtM.k Try.func16 rfl Try.ntmps16 (congrArg Array.toList Try.results16) (by simp) fun w0 ro may fx => ?_
 refine top_k fun zZ zhZ => ?_
 iterate 22 first
  | (refine sr_k fun zK zhK => ?_; simp only [go_sem, jM, Jd.ls, Int.toNat_one]; (repeat' (first | apply And.intro | intro _)))
  | refine zhK _ ?_
  | refine skip_k ?_
  | (refine zhN _ ?_; clear zhN zhM)
  | refine ret_k ?_
  | (refine zhZ _ _ ?_; simp only [go_sem, jM, Jd.ls, Int.toNat_one]; (all_goals (exact told_keep rfl (keep_one (by simp [look, Jd.ls])) ⟨rfl, rfl⟩)))
  | refine seq_k fun zN zM zhN zhM => ?_
  | (refine condF_k ?_ ?_; focus (first | rfl | (simp [go_sem, jM, Jd.ls, Int.toNat_one]; done)))
set_option maxHeartbeats 800000 in
theorem told_12t (e0 s0 e1 d3 d4 d5 d6 k : Bool) :
 CtM Try.prog 16 [.w (.one (.p 500000 [])), .w (.one (.pl (.i 1))), .w (.one (.pl (.i 2)))] (jM ⟨e0, s0, e1, true, d3, d4, d5, d6, k⟩) (Told (fun v m => v = .w (.one (.pl (.b false))) ∧ m = jM ⟨e0, s0, e1, true, d3, d4, d5, d6, k⟩)) := by
 refine CtM.k Try.func16 rfl Try.ntmps16 (congrArg Array.toList Try.results16) (by simp) fun w0 ro may fx => ?_
 refine top_k fun zZ zhZ => ?_
 iterate 20 first
  | refine zhK _ ?_
  | (refine sr_k fun zK zhK => ?_; simp only [go_sem, jM, Jd.ls, Int.toNat_one]; (repeat' (first | apply And.intro | intro _)))
  | (refine region_k fun zK zhK => ?_; simp only [go_sem, jM, Jd.ls, Int.toNat_one]; (repeat' (first | apply And.intro | intro _)))
  | (refine zhN _ ?_; clear zhN zhM)
  | refine ret_k ?_
  | (refine zhM _ _ ?_; clear zhN zhM)
  | (refine zhZ _ _ ?_; simp only [go_sem, jM, Jd.ls, Int.toNat_one]; (all_goals (exact told_keep rfl (keep_one (by simp [look, Jd.ls])) ⟨rfl, rfl⟩)))
  | refine seq_k fun zN zM zhN zhM => ?_
  | (refine condT_k ?_ ?_; focus (first | rfl | (simp [go_sem, jM, Jd.ls, Int.toNat_one]; done)))
set_option maxHeartbeats 800000 in
theorem told_12f (e0 s0 e1 d3 d4 d5 d6 k : Bool) :
 CtM Try.prog 16 [.w (.one (.p 500000 [])), .w (.one (.pl (.i 1))), .w (.one (.pl (.i 2)))] (jM ⟨e0, s0, e1, false, d3, d4, d5, d6, k⟩) (Told (fun v m => v = .w (.one (.pl (.b true))) ∧ m = jM ⟨e0, s0, e1, true, d3, d4, d5, d6, k⟩)) := by
 refine CtM.k Try.func16 rfl Try.ntmps16 (congrArg Array.toList Try.results16) (by simp) fun w0 ro may fx => ?_
 refine top_k fun zZ zhZ => ?_
 iterate 23 first
  | refine zhK _ ?_
  | (refine sr_k fun zK zhK => ?_; simp only [go_sem, jM, Jd.ls, Int.toNat_one]; (repeat' (first | apply And.intro | intro _)))
  | (refine zhN _ ?_; clear zhN zhM)
  | (refine region_k fun zK zhK => ?_; simp only [go_sem, jM, Jd.ls, Int.toNat_one]; (repeat' (first | apply And.intro | intro _)))
  | refine skip_k ?_
  | refine ret_k ?_
  | (refine zhZ _ _ ?_; simp only [go_sem, jM, Jd.ls, Int.toNat_one]; (all_goals (exact told_keep rfl (keep_one (by simp [look, Jd.ls])) ⟨rfl, rfl⟩)))
  | refine seq_k fun zN zM zhN zhM => ?_
  | (refine condT_k ?_ ?_; focus (first | rfl | (simp [go_sem, jM, Jd.ls, Int.toNat_one]; done)))
  | (refine condF_k ?_ ?_; focus (first | rfl | (simp [go_sem, jM, Jd.ls, Int.toNat_one]; done)))
end Go.Sy

