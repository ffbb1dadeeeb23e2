/- What the document reckons: sums, differences. -/
import Derived.Test.YtdbiepgoepbaoaaDoorvkK8
import Derived.Test.YtdbiepgoepbaoaaDoorvE3
set_option linter.unusedVariables false
set_option linter.unusedSimpArgs false
namespace Go.Sy
open Go.Proofs
attribute [local irreducible] atCall HT runOps runD onC onE onO onG goV goA goS onSt onGuard
set_option maxHeartbeats 800000 in
theorem reck_a (k : Int) (a b c d e f g h : UInt64) (h1 : ¬ vQ a b c d < p25) :
 CtM Tryd.prog 13 [.w (.one (.pl (.i k))), .w (.agg [.pl (.u64 a), .pl (.u64 b), .pl (.u64 c), .pl (.u64 d)]), .w (.agg [.pl (.u64 e), .pl (.u64 f), .pl (.u64 g), .pl (.u64 h)])] [(1000001, ⟨false, u64C prdL⟩)] (Told (fun v m => v = .tup [.agg [.pl (.u64 0), .pl (.u64 0), .pl (.u64 0), .pl (.u64 0)], .one (.pl (.i 6))] ∧ m = [])) := by
 have hA := in_ a b c d
 have hB := in_ e f g h
 rw [decide_eq_false h1] at hA
 refine CtM.k Tryd.func13 rfl Tryd.ntmps13 (congrArg Array.toList Tryd.results13) (by simp) fun w0 ro may fx => ?_
 refine sr_k fun K1 hK1 => ?_
 simp only [go_sem]
 repeat' (first | apply And.intro | intro _)
 refine hK1 _ ?_
 refine seq_k fun N2 M2 hN2 hM2 => ?_
 refine sr_k fun K3 hK3 => ?_
 simp only [go_sem]
 repeat' (first | apply And.intro | intro _)
 all_goals (refine call_hand false [] (fun k => k) (fun _ _ => rfl) ?_ (by decide) ?_ hA.told ?_; iterate 2 (focus (first | rfl | (simp only [go_sem] <;> first | done | rfl | simp))))
 all_goals (rintro v m ⟨hR, hm⟩; subst hR; subst hm)
 all_goals (refine And.intro ?_ (And.intro ?_ (And.intro ?_ ?_)); iterate 3 (focus (first | rfl | (simp only [go_sem]; done) | (simp [go_sem, look]; done))))
 all_goals (try simp only [go_sem])
 all_goals (try simp only [go_sem])
 all_goals repeat' (first | apply And.intro | intro _)
 all_goals (first | ((refine call_hand false [] (fun k => k) (fun _ _ => rfl) ?_ (by decide) ?_ hB.told ?_; iterate 2 (focus (first | rfl | (simp only [go_sem] <;> first | done | rfl | simp)))); all_goals (rintro v m ⟨hR, hm⟩; subst hR; subst hm); all_goals (refine And.intro ?_ (And.intro ?_ (And.intro ?_ ?_)); iterate 3 (focus (first | rfl | (simp only [go_sem]; done) | (simp [go_sem, look]; done)))); all_goals (try simp only [go_sem]); all_goals (try simp only [go_sem]); all_goals repeat' (first | apply And.intro | intro _)) | skip)
 refine hK3 _ ?_
 refine condT_k (by first | rfl | (simp [go_sem]; done)) ?_
 refine sr_k fun K4 hK4 => ?_
 simp only [go_sem]
 repeat' (first | apply And.intro | intro _)
 refine hK4 _ ?_
 refine ret_k ?_
 refine hM2 _ _ ?_
 simp only [go_sem]
 all_goals (exact told_plain (by simp [plainV, plainW, w4C, w4, dgL, u64C]) ⟨rfl, rfl⟩)
set_option maxHeartbeats 800000 in
theorem reck_b (k : Int) (a b c d e f g h : UInt64) (h1 : vQ a b c d < p25) (h2 : ¬ vQ e f g h < p25) :
 CtM Tryd.prog 13 [.w (.one (.pl (.i k))), .w (.agg [.pl (.u64 a), .pl (.u64 b), .pl (.u64 c), .pl (.u64 d)]), .w (.agg [.pl (.u64 e), .pl (.u64 f), .pl (.u64 g), .pl (.u64 h)])] [(1000001, ⟨false, u64C prdL⟩)] (Told (fun v m => v = .tup [.agg [.pl (.u64 0), .pl (.u64 0), .pl (.u64 0), .pl (.u64 0)], .one (.pl (.i 6))] ∧ m = [])) := by
 have hA := in_ a b c d
 have hB := in_ e f g h
 rw [decide_eq_true h1] at hA
 rw [decide_eq_false h2] at hB
 refine CtM.k Tryd.func13 rfl Tryd.ntmps13 (congrArg Array.toList Tryd.results13) (by simp) fun w0 ro may fx => ?_
 refine sr_k fun K1 hK1 => ?_
 simp only [go_sem]
 repeat' (first | apply And.intro | intro _)
 refine hK1 _ ?_
 refine seq_k fun N2 M2 hN2 hM2 => ?_
 refine sr_k fun K3 hK3 => ?_
 simp only [go_sem]
 repeat' (first | apply And.intro | intro _)
 all_goals (refine call_hand false [] (fun k => k) (fun _ _ => rfl) ?_ (by decide) ?_ hA.told ?_; iterate 2 (focus (first | rfl | (simp only [go_sem] <;> first | done | rfl | simp))))
 all_goals (rintro v m ⟨hR, hm⟩; subst hR; subst hm)
 all_goals (refine And.intro ?_ (And.intro ?_ (And.intro ?_ ?_)); iterate 3 (focus (first | rfl | (simp only [go_sem]; done) | (simp [go_sem, look]; done))))
 all_goals (try simp only [go_sem])
 all_goals (try simp only [go_sem])
 all_goals repeat' (first | apply And.intro | intro _)
 all_goals (refine call_hand false [] (fun k => k) (fun _ _ => rfl) ?_ (by decide) ?_ hB.told ?_; iterate 2 (focus (first | rfl | (simp only [go_sem] <;> first | done | rfl | simp))))
 all_goals (rintro v m ⟨hR, hm⟩; subst hR; subst hm)
 all_goals (refine And.intro ?_ (And.intro ?_ (And.intro ?_ ?_)); iterate 3 (focus (first | rfl | (simp only [go_sem]; done) | (simp [go_sem, look]; done))))
 all_goals (try simp only [go_sem])
 all_goals (try simp only [go_sem])
 all_goals repeat' (first | apply And.intro | intro _)
 refine hK3 _ ?_
 refine condT_k (by first | rfl | (simp [go_sem]; done)) ?_
 refine sr_k fun K4 hK4 => ?_
 simp only [go_sem]
 repeat' (first | apply And.intro | intro _)
 refine hK4 _ ?_
 refine ret_k ?_
 refine hM2 _ _ ?_
 simp only [go_sem]
 all_goals (exact told_plain (by simp [plainV, plainW, w4C, w4, dgL, u64C]) ⟨rfl, rfl⟩)
end Go.Sy

