/- Walks: the form of a term. -/
import Derived.Test.YtgnmcmopcmnamaavtA1
set_option linter.unusedVariables false
set_option linter.unusedSimpArgs false
namespace Go.Sy
open Go.Proofs
attribute [local irreducible] atCall HT runOps runD onC onE onO onG goV goA goS onSt onGuard
theorem wrap_zero {i o : Int} (hi : 0 ≤ i ∧ i ≤ 9223372036854775807) (ho : 0 ≤ o ∧ o ≤ 9223372036854775807) (h : ¬ (i = 0 ∧ o = 0)) : (Go.RowKit.wrap64 (i + o) = 0) = False := by
 refine eq_false fun e => ?_
 unfold Go.RowKit.wrap64 at e
 omega
theorem form_bad {k i o : Int} {l : List TermD} (h : k < 1 ∨ 7 < k) : formE (.mk k i o l) = 2 := by rw [formE, if_pos h]
theorem form_no {k i o : Int} {l : List TermD} (h : ¬ (k < 1 ∨ 7 < k)) (h2 : ¬ okT k i o l.length = true) : formE (.mk k i o l) = 3 := by rw [formE, if_neg h, if_neg h2]
theorem form_yes {k i o : Int} {l : List TermD} (h : ¬ (k < 1 ∨ 7 < k)) (h2 : okT k i o l.length = true) : formE (.mk k i o l) = formL l := by rw [formE, if_neg h, if_pos h2]
theorem okT_1 (i o n : Int) : okT 1 i o n = true ↔ n = 0 ∧ 0 ≤ i ∧ 0 ≤ o ∧ (o = 0) := by simp [okT, argsN, and_assoc]
theorem okT_2 (i o n : Int) : okT 2 i o n = true ↔ n = 0 ∧ 0 ≤ i ∧ 0 ≤ o ∧ (o = 0) := by simp [okT, argsN, and_assoc]
theorem okT_3 (i o n : Int) : okT 3 i o n = true ↔ n = 0 ∧ 0 ≤ i ∧ 0 ≤ o ∧ (i ≤ o) := by simp [okT, argsN, and_assoc]
theorem okT_4 (i o n : Int) : okT 4 i o n = true ↔ n = 2 ∧ 0 ≤ i ∧ 0 ≤ o ∧ (i = 0 ∧ o = 0) := by simp [okT, argsN, and_assoc]
theorem okT_5 (i o n : Int) : okT 5 i o n = true ↔ n = 1 ∧ 0 ≤ i ∧ 0 ≤ o ∧ (i = 0 ∧ o = 0) := by simp [okT, argsN, and_assoc]
theorem okT_6 (i o n : Int) : okT 6 i o n = true ↔ n = 2 ∧ 0 ≤ i ∧ 0 ≤ o ∧ (o = 0) := by simp [okT, argsN, and_assoc]
theorem okT_7 (i o n : Int) : okT 7 i o n = true ↔ n = 3 ∧ 0 ≤ i ∧ 0 ≤ o ∧ (i = 0 ∧ o = 0) := by simp [okT, argsN, and_assoc]
set_option maxHeartbeats 400000 in
theorem args_1  :
 Ct Try.prog 22 [.w (.one (.pl (.i 1)))] (fun v m => v = .w (.one (.pl (.i 0)))) := by
 refine Ct.k Try.func22 rfl Try.ntmps22 (congrArg Array.toList Try.results22) (by simp) fun w0 ro => ?_
 refine top_k fun zZ zhZ => ?_
 iterate 6 first
  | (refine sr_k fun zK zhK => ?_; simp only [go_sem]; (repeat' (first | apply And.intro | intro _)))
  | refine zhK _ ?_
  | refine ret_k ?_
  | (refine zhZ _ _ ?_; simp only [go_sem]; (all_goals (rfl)))
set_option maxHeartbeats 400000 in
theorem args_2  :
 Ct Try.prog 22 [.w (.one (.pl (.i 2)))] (fun v m => v = .w (.one (.pl (.i 0)))) := by
 refine Ct.k Try.func22 rfl Try.ntmps22 (congrArg Array.toList Try.results22) (by simp) fun w0 ro => ?_
 refine top_k fun zZ zhZ => ?_
 iterate 6 first
  | (refine sr_k fun zK zhK => ?_; simp only [go_sem]; (repeat' (first | apply And.intro | intro _)))
  | refine zhK _ ?_
  | refine ret_k ?_
  | (refine zhZ _ _ ?_; simp only [go_sem]; (all_goals (rfl)))
set_option maxHeartbeats 400000 in
theorem args_3  :
 Ct Try.prog 22 [.w (.one (.pl (.i 3)))] (fun v m => v = .w (.one (.pl (.i 0)))) := by
 refine Ct.k Try.func22 rfl Try.ntmps22 (congrArg Array.toList Try.results22) (by simp) fun w0 ro => ?_
 refine top_k fun zZ zhZ => ?_
 iterate 6 first
  | (refine sr_k fun zK zhK => ?_; simp only [go_sem]; (repeat' (first | apply And.intro | intro _)))
  | refine zhK _ ?_
  | refine ret_k ?_
  | (refine zhZ _ _ ?_; simp only [go_sem]; (all_goals (rfl)))
set_option maxHeartbeats 400000 in
theorem args_4  :
 Ct Try.prog 22 [.w (.one (.pl (.i 4)))] (fun v m => v = .w (.one (.pl (.i 2)))) := by
 refine Ct.k Try.func22 rfl Try.ntmps22 (congrArg Array.toList Try.results22) (by simp) fun w0 ro => ?_
 refine top_k fun zZ zhZ => ?_
 iterate 6 first
  | (refine sr_k fun zK zhK => ?_; simp only [go_sem]; (repeat' (first | apply And.intro | intro _)))
  | refine zhK _ ?_
  | refine ret_k ?_
  | (refine zhZ _ _ ?_; simp only [go_sem]; (all_goals (rfl)))
set_option maxHeartbeats 400000 in
theorem args_5  :
 Ct Try.prog 22 [.w (.one (.pl (.i 5)))] (fun v m => v = .w (.one (.pl (.i 1)))) := by
 refine Ct.k Try.func22 rfl Try.ntmps22 (congrArg Array.toList Try.results22) (by simp) fun w0 ro => ?_
 refine top_k fun zZ zhZ => ?_
 iterate 6 first
  | (refine sr_k fun zK zhK => ?_; simp only [go_sem]; (repeat' (first | apply And.intro | intro _)))
  | refine zhK _ ?_
  | refine ret_k ?_
  | (refine zhZ _ _ ?_; simp only [go_sem]; (all_goals (rfl)))
set_option maxHeartbeats 400000 in
theorem args_6  :
 Ct Try.prog 22 [.w (.one (.pl (.i 6)))] (fun v m => v = .w (.one (.pl (.i 2)))) := by
 refine Ct.k Try.func22 rfl Try.ntmps22 (congrArg Array.toList Try.results22) (by simp) fun w0 ro => ?_
 refine top_k fun zZ zhZ => ?_
 iterate 6 first
  | (refine sr_k fun zK zhK => ?_; simp only [go_sem]; (repeat' (first | apply And.intro | intro _)))
  | refine zhK _ ?_
  | refine ret_k ?_
  | (refine zhZ _ _ ?_; simp only [go_sem]; (all_goals (rfl)))
set_option maxHeartbeats 400000 in
theorem args_7  :
 Ct Try.prog 22 [.w (.one (.pl (.i 7)))] (fun v m => v = .w (.one (.pl (.i 3)))) := by
 refine Ct.k Try.func22 rfl Try.ntmps22 (congrArg Array.toList Try.results22) (by simp) fun w0 ro => ?_
 refine top_k fun zZ zhZ => ?_
 iterate 6 first
  | (refine sr_k fun zK zhK => ?_; simp only [go_sem]; (repeat' (first | apply And.intro | intro _)))
  | refine zhK _ ?_
  | refine ret_k ?_
  | (refine zhZ _ _ ?_; simp only [go_sem]; (all_goals (rfl)))
end Go.Sy

