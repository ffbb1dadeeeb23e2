/- Products of the field: the row's own walk. -/
import Derived.Test.YtdbiepgoepbaoaaDoorvkK12
import Derived.Test.YtdbiepgoepbaoaaDoorvkK11
import Derived.Test.YtdbiepgoepbaoaaDoorvkK10
set_option linter.unusedVariables false
set_option linter.unusedSimpArgs false
namespace Go.Sy
open Go.Proofs
attribute [local irreducible] atCall HT runOps runD onC onE onO onG goV goA goS onSt onGuard
set_option maxHeartbeats 800000 in
theorem Mul_a (a b c d e f g h : UInt64) (h1 : ¬ vQ a b c d < p25) :
 CtM Tryd.prog 14 [.w (.agg [.pl (.u64 a), .pl (.u64 b), .pl (.u64 c), .pl (.u64 d)]), .w (.agg [.pl (.u64 e), .pl (.u64 f), .pl (.u64 g), .pl (.u64 h)])] [(1000000, ⟨false, [.pl (.u64 18446744073709551597), .pl (.u64 18446744073709551615), .pl (.u64 18446744073709551615), .pl (.u64 9223372036854775807)]⟩)] (Told (fun v m => v = .tup [.agg [.pl (.u64 0), .pl (.u64 0), .pl (.u64 0), .pl (.u64 0)], .one (.pl (.i 6))] ∧ m = [])) := by
 have hb := by_a 29 a b c d e f g h h1
 refine CtM.k Tryd.func14 rfl Tryd.ntmps14 (congrArg Array.toList Tryd.results14) (by simp) fun w0 ro may fx => ?_
 refine sr_k fun K1 hK1 => ?_
 simp only [go_sem]
 repeat' (first | apply And.intro | intro _)
 refine hK1 _ ?_
 refine sr_k fun K2 hK2 => ?_
 simp only [go_sem]
 repeat' (first | apply And.intro | intro _)
 all_goals (refine call_hand false [] (fun k => k) (fun _ _ => rfl) ?_ (by decide) ?_ hb.told ?_; iterate 2 (focus (first | rfl | (simp only [go_sem] <;> first | done | rfl | simp))))
 all_goals (rintro v m ⟨hR, hm⟩; subst hR; subst hm)
 all_goals (refine And.intro ?_ (And.intro ?_ (And.intro ?_ ?_)); iterate 3 (focus (first | rfl | (simp only [go_sem]; done) | (simp [go_sem, look]; done))))
 all_goals (try simp only [go_sem])
 all_goals (try simp only [go_sem])
 all_goals repeat' (first | apply And.intro | intro _)
 refine hK2 _ ?_
 refine ret_k ?_
 simp only [go_sem]
 all_goals (exact told_plain (by simp [plainV, plainW, w4C, w4, dgL, u64C]) ⟨rfl, rfl⟩)
set_option maxHeartbeats 800000 in
theorem Mul_b (a b c d e f g h : UInt64) (h1 : vQ a b c d < p25) (h2 : ¬ vQ e f g h < p25) :
 CtM Tryd.prog 14 [.w (.agg [.pl (.u64 a), .pl (.u64 b), .pl (.u64 c), .pl (.u64 d)]), .w (.agg [.pl (.u64 e), .pl (.u64 f), .pl (.u64 g), .pl (.u64 h)])] [(1000000, ⟨false, [.pl (.u64 18446744073709551597), .pl (.u64 18446744073709551615), .pl (.u64 18446744073709551615), .pl (.u64 9223372036854775807)]⟩)] (Told (fun v m => v = .tup [.agg [.pl (.u64 0), .pl (.u64 0), .pl (.u64 0), .pl (.u64 0)], .one (.pl (.i 6))] ∧ m = [])) := by
 have hb := by_b 29 a b c d e f g h h1 h2
 refine CtM.k Tryd.func14 rfl Tryd.ntmps14 (congrArg Array.toList Tryd.results14) (by simp) fun w0 ro may fx => ?_
 refine sr_k fun K1 hK1 => ?_
 simp only [go_sem]
 repeat' (first | apply And.intro | intro _)
 refine hK1 _ ?_
 refine sr_k fun K2 hK2 => ?_
 simp only [go_sem]
 repeat' (first | apply And.intro | intro _)
 all_goals (refine call_hand false [] (fun k => k) (fun _ _ => rfl) ?_ (by decide) ?_ hb.told ?_; iterate 2 (focus (first | rfl | (simp only [go_sem] <;> first | done | rfl | simp))))
 all_goals (rintro v m ⟨hR, hm⟩; subst hR; subst hm)
 all_goals (refine And.intro ?_ (And.intro ?_ (And.intro ?_ ?_)); iterate 3 (focus (first | rfl | (simp only [go_sem]; done) | (simp [go_sem, look]; done))))
 all_goals (try simp only [go_sem])
 all_goals (try simp only [go_sem])
 all_goals repeat' (first | apply And.intro | intro _)
 refine hK2 _ ?_
 refine ret_k ?_
 simp only [go_sem]
 all_goals (exact told_plain (by simp [plainV, plainW, w4C, w4, dgL, u64C]) ⟨rfl, rfl⟩)
set_option maxHeartbeats 800000 in
theorem Mul_ok (a b c d e f g h : UInt64) (h1 : vQ a b c d < p25) (h2 : vQ e f g h < p25) :
 CtM Tryd.prog 14 [.w (.agg [.pl (.u64 a), .pl (.u64 b), .pl (.u64 c), .pl (.u64 d)]), .w (.agg [.pl (.u64 e), .pl (.u64 f), .pl (.u64 g), .pl (.u64 h)])] [(1000000, ⟨false, [.pl (.u64 18446744073709551597), .pl (.u64 18446744073709551615), .pl (.u64 18446744073709551615), .pl (.u64 9223372036854775807)]⟩)] (Told (fun v m => v = .tup [.agg (w4C ((vQ a b c d * vQ e f g h) % p25)), .one (.pl (.i 0))] ∧ m = [])) := by
 have hb := by_mul a b c d e f g h h1 h2 ((vQ a b c d * vQ e f g h) % p25) (Nat.mod_lt _ (by decide)) (mul_ a b c d e f g h)
 obtain ⟨q0, q1, q2, q3, hq, hvq⟩ := w4_get ((vQ a b c d * vQ e f g h) % p25) (mod_m4 _)
 simp only [w4C, hq] at hb ⊢
 refine CtM.k Tryd.func14 rfl Tryd.ntmps14 (congrArg Array.toList Tryd.results14) (by simp) fun w0 ro may fx => ?_
 refine sr_k fun K1 hK1 => ?_
 simp only [go_sem, u64C]
 repeat' (first | apply And.intro | intro _)
 refine hK1 _ ?_
 refine sr_k fun K2 hK2 => ?_
 simp only [go_sem, u64C]
 repeat' (first | apply And.intro | intro _)
 all_goals (refine call_hand false [] (fun k => k) (fun _ _ => rfl) ?_ (by decide) ?_ hb.told ?_; iterate 2 (focus (first | rfl | (simp only [go_sem, u64C] <;> first | done | rfl | simp))))
 all_goals (rintro v m ⟨hR, hm⟩; subst hR; subst hm)
 all_goals (refine And.intro ?_ (And.intro ?_ (And.intro ?_ ?_)); iterate 3 (focus (first | rfl | (simp only [go_sem, u64C]; done) | (simp [go_sem, look, u64C]; done))))
 all_goals (try simp only [go_sem, u64C])
 all_goals (try simp only [go_sem, u64C])
 all_goals repeat' (first | apply And.intro | intro _)
 refine hK2 _ ?_
 refine ret_k ?_
 simp only [go_sem, u64C]
 all_goals (exact told_plain (by simp [plainV, plainW]) ⟨rfl, rfl⟩)
set_option maxHeartbeats 1600000 in
theorem fieldprods_a (a b c d e f g h : UInt64) (h1 : ¬ vQ a b c d < p25) :
 CtM Tryd.prog 5 [.w (.agg [.pl (.u64 a), .pl (.u64 b), .pl (.u64 c), .pl (.u64 d)]), .w (.agg [.pl (.u64 e), .pl (.u64 f), .pl (.u64 g), .pl (.u64 h)])] [(1000000, ⟨false, [.pl (.u64 18446744073709551597), .pl (.u64 18446744073709551615), .pl (.u64 18446744073709551615), .pl (.u64 9223372036854775807)]⟩), (1000001, ⟨false, u64C prdL⟩)] (Told (fun v m => v = .w (.one (.pl (.b true))) ∧ m = [])) := by
 refine CtM.k Tryd.func5 rfl Tryd.ntmps5 (congrArg Array.toList Tryd.results5) (by simp) fun w0 ro may fx => ?_
 refine sr_k fun K1 hK1 => ?_
 simp only [go_sem]
 repeat' (first | apply And.intro | intro _)
 refine hK1 _ ?_
 refine sr_k fun K2 hK2 => ?_
 simp only [go_sem]
 repeat' (first | apply And.intro | intro _)
 all_goals (refine call_hand false [] (fun k => k) (fun _ _ => rfl) ?_ (by decide) ?_ (Mul_a a b c d e f g h h1).told ?_; iterate 2 (focus (first | rfl | (simp only [go_sem] <;> first | done | rfl | simp))))
 all_goals (rintro v m ⟨hR, hm⟩; subst hR; subst hm)
 all_goals (refine And.intro ?_ (And.intro ?_ (And.intro ?_ ?_)); iterate 3 (focus (first | rfl | (simp only [go_sem]; done) | (simp [go_sem, look]; done))))
 all_goals (try simp only [go_sem])
 all_goals (try simp only [go_sem])
 all_goals repeat' (first | apply And.intro | intro _)
 refine hK2 _ ?_
 refine sr_k fun K3 hK3 => ?_
 simp only [go_sem]
 repeat' (first | apply And.intro | intro _)
 all_goals (refine call_hand false [] (fun k => k) (fun _ _ => rfl) ?_ (by decide) ?_ (reck_a 3 a b c d e f g h h1).told ?_; iterate 2 (focus (first | rfl | (simp only [go_sem] <;> first | done | rfl | simp))))
 all_goals (rintro v m ⟨hR, hm⟩; subst hR; subst hm)
 all_goals (refine And.intro ?_ (And.intro ?_ (And.intro ?_ ?_)); iterate 3 (focus (first | rfl | (simp only [go_sem]; done) | (simp [go_sem, look]; done))))
 all_goals (try simp only [go_sem])
 all_goals (try simp only [go_sem])
 all_goals repeat' (first | apply And.intro | intro _)
 refine hK3 _ ?_
 refine sr_k fun K4 hK4 => ?_
 simp only [go_sem]
 repeat' (first | apply And.intro | intro _)
 refine hK4 _ ?_
 refine ret_k ?_
 simp only [go_sem]
 all_goals (exact told_plain rfl ⟨rfl, rfl⟩)
set_option maxHeartbeats 1600000 in
theorem fieldprods_b (a b c d e f g h : UInt64) (h1 : vQ a b c d < p25) (h2 : ¬ vQ e f g h < p25) :
 CtM Tryd.prog 5 [.w (.agg [.pl (.u64 a), .pl (.u64 b), .pl (.u64 c), .pl (.u64 d)]), .w (.agg [.pl (.u64 e), .pl (.u64 f), .pl (.u64 g), .pl (.u64 h)])] [(1000000, ⟨false, [.pl (.u64 18446744073709551597), .pl (.u64 18446744073709551615), .pl (.u64 18446744073709551615), .pl (.u64 9223372036854775807)]⟩), (1000001, ⟨false, u64C prdL⟩)] (Told (fun v m => v = .w (.one (.pl (.b true))) ∧ m = [])) := by
 refine CtM.k Tryd.func5 rfl Tryd.ntmps5 (congrArg Array.toList Tryd.results5) (by simp) fun w0 ro may fx => ?_
 refine sr_k fun K1 hK1 => ?_
 simp only [go_sem]
 repeat' (first | apply And.intro | intro _)
 refine hK1 _ ?_
 refine sr_k fun K2 hK2 => ?_
 simp only [go_sem]
 repeat' (first | apply And.intro | intro _)
 all_goals (refine call_hand false [] (fun k => k) (fun _ _ => rfl) ?_ (by decide) ?_ (Mul_b a b c d e f g h h1 h2).told ?_; iterate 2 (focus (first | rfl | (simp only [go_sem] <;> first | done | rfl | simp))))
 all_goals (rintro v m ⟨hR, hm⟩; subst hR; subst hm)
 all_goals (refine And.intro ?_ (And.intro ?_ (And.intro ?_ ?_)); iterate 3 (focus (first | rfl | (simp only [go_sem]; done) | (simp [go_sem, look]; done))))
 all_goals (try simp only [go_sem])
 all_goals (try simp only [go_sem])
 all_goals repeat' (first | apply And.intro | intro _)
 refine hK2 _ ?_
 refine sr_k fun K3 hK3 => ?_
 simp only [go_sem]
 repeat' (first | apply And.intro | intro _)
 all_goals (refine call_hand false [] (fun k => k) (fun _ _ => rfl) ?_ (by decide) ?_ (reck_b 3 a b c d e f g h h1 h2).told ?_; iterate 2 (focus (first | rfl | (simp only [go_sem] <;> first | done | rfl | simp))))
 all_goals (rintro v m ⟨hR, hm⟩; subst hR; subst hm)
 all_goals (refine And.intro ?_ (And.intro ?_ (And.intro ?_ ?_)); iterate 3 (focus (first | rfl | (simp only [go_sem]; done) | (simp [go_sem, look]; done))))
 all_goals (try simp only [go_sem])
 all_goals (try simp only [go_sem])
 all_goals repeat' (first | apply And.intro | intro _)
 refine hK3 _ ?_
 refine sr_k fun K4 hK4 => ?_
 simp only [go_sem]
 repeat' (first | apply And.intro | intro _)
 refine hK4 _ ?_
 refine ret_k ?_
 simp only [go_sem]
 all_goals (exact told_plain rfl ⟨rfl, rfl⟩)
set_option maxHeartbeats 1600000 in
theorem fieldprods_ok (a b c d e f g h : UInt64) (h1 : vQ a b c d < p25) (h2 : vQ e f g h < p25) :
 CtM Tryd.prog 5 [.w (.agg [.pl (.u64 a), .pl (.u64 b), .pl (.u64 c), .pl (.u64 d)]), .w (.agg [.pl (.u64 e), .pl (.u64 f), .pl (.u64 g), .pl (.u64 h)])] [(1000000, ⟨false, [.pl (.u64 18446744073709551597), .pl (.u64 18446744073709551615), .pl (.u64 18446744073709551615), .pl (.u64 9223372036854775807)]⟩), (1000001, ⟨false, u64C prdL⟩)] (Told (fun v m => v = .w (.one (.pl (.b true))) ∧ m = [])) := by
 have hA := Mul_ok a b c d e f g h h1 h2
 have hR := reck_mul a b c d e f g h h1 h2
 obtain ⟨s0, s1, s2, s3, hs, hvs⟩ := w4_get ((vQ a b c d * vQ e f g h) % p25) (mod_m4 _)
 have hus : u64C [s0, s1, s2, s3] = [.pl (.u64 s0), .pl (.u64 s1), .pl (.u64 s2), .pl (.u64 s3)] := rfl
 simp only [w4C, hs, hus] at hA hR
 refine CtM.k Tryd.func5 rfl Tryd.ntmps5 (congrArg Array.toList Tryd.results5) (by simp) fun w0 ro may fx => ?_
 refine sr_k fun K1 hK1 => ?_
 simp only [go_sem]
 repeat' (first | apply And.intro | intro _)
 refine hK1 _ ?_
 refine sr_k fun K2 hK2 => ?_
 simp only [go_sem]
 repeat' (first | apply And.intro | intro _)
 all_goals (refine call_hand false [] (fun k => k) (fun _ _ => rfl) ?_ (by decide) ?_ hA.told ?_; iterate 2 (focus (first | rfl | (simp only [go_sem] <;> first | done | rfl | simp))))
 all_goals (rintro v m ⟨hR, hm⟩; subst hR; subst hm)
 all_goals (refine And.intro ?_ (And.intro ?_ (And.intro ?_ ?_)); iterate 3 (focus (first | rfl | (simp only [go_sem]; done) | (simp [go_sem, look]; done))))
 all_goals (try simp only [go_sem])
 all_goals (try simp only [go_sem])
 all_goals repeat' (first | apply And.intro | intro _)
 refine hK2 _ ?_
 refine sr_k fun K3 hK3 => ?_
 simp only [go_sem]
 repeat' (first | apply And.intro | intro _)
 all_goals (refine call_hand false [] (fun k => k) (fun _ _ => rfl) ?_ (by decide) ?_ hR.told ?_; iterate 2 (focus (first | rfl | (simp only [go_sem] <;> first | done | rfl | simp))))
 all_goals (rintro v m ⟨hR, hm⟩; subst hR; subst hm)
 all_goals (refine And.intro ?_ (And.intro ?_ (And.intro ?_ ?_)); iterate 3 (focus (first | rfl | (simp only [go_sem]; done) | (simp [go_sem, look]; done))))
 all_goals (try simp only [go_sem])
 all_goals (try simp only [go_sem])
 all_goals repeat' (first | apply And.intro | intro _)
 refine hK3 _ ?_
 refine sr_k fun K4 hK4 => ?_
 simp only [go_sem]
 repeat' (first | apply And.intro | intro _)
 refine hK4 _ ?_
 refine ret_k ?_
 simp only [go_sem]
 all_goals (exact told_plain rfl ⟨rfl, rfl⟩)
theorem fieldprods (a b c d e f g h : UInt64) : CtM Tryd.prog 5 [.w (.agg [.pl (.u64 a), .pl (.u64 b), .pl (.u64 c), .pl (.u64 d)]), .w (.agg [.pl (.u64 e), .pl (.u64 f), .pl (.u64 g), .pl (.u64 h)])] (globM [(1000000, primeU.map PL.u64), (1000001, prdL.map PL.u64)]) (Told (fun v m => v = .w (.one (.pl (.b true))) ∧ m = [])) := by
 by_cases h1 : vQ a b c d < p25
 · by_cases h2 : vQ e f g h < p25
   · exact fieldprods_ok a b c d e f g h h1 h2
   · exact fieldprods_b a b c d e f g h h1 h2
 · exact fieldprods_a a b c d e f g h h1
end Go.Sy

