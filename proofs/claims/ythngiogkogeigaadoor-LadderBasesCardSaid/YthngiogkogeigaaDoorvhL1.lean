/- The ladder: sums, differences, products, squares of its own. -/
import Derived.Test.YthngiogkogeigaaDoorvhK13
import Derived.Test.YthngiogkogeigaaDoorvR1
set_option linter.unusedVariables false
set_option linter.unusedSimpArgs false
namespace Go.Sy
open Go.Proofs
attribute [local irreducible] atCall HT runOps runD onC onE onO onG goV goA goS onSt onGuard
theorem p_m4 {n : Nat} (h : n < p25) : n < 115792089237316195423570985008687907853269984665640564039457584007913129639936 := by
 have := p25_is
 omega
set_option maxHeartbeats 800000 in
theorem ladd (a b c d e f g h : UInt64) (h1 : vQ a b c d < p25) (h2 : vQ e f g h < p25) :
 CtM Tryd.prog 25 [.w (.agg [.pl (.u64 a), .pl (.u64 b), .pl (.u64 c), .pl (.u64 d)]), .w (.agg [.pl (.u64 e), .pl (.u64 f), .pl (.u64 g), .pl (.u64 h)])] [(1000001, ⟨false, [.pl (.u64 18446744073709551597), .pl (.u64 18446744073709551615), .pl (.u64 18446744073709551615), .pl (.u64 9223372036854775807)]⟩)] (Told (fun v m => v = .w (.agg (w4C (fA (vQ a b c d) (vQ e f g h)))) ∧ m = [])) := by
 have hb := Add_ok a b c d e f g h h1 h2
 change CtM _ _ _ _ (Told fun v m => v = V.tup [W.agg (w4C (fA (vQ a b c d) (vQ e f g h))), _] ∧ m = []) at hb
 obtain ⟨q0, q1, q2, q3, hq, hvq⟩ := w4_get (fA (vQ a b c d) (vQ e f g h)) (p_m4 (fA_lt _ _))
 have huq : u64C [q0, q1, q2, q3] = [.pl (.u64 q0), .pl (.u64 q1), .pl (.u64 q2), .pl (.u64 q3)] := rfl
 simp only [w4C, hq, huq] at hb ⊢
 refine CtM.k Tryd.func25 rfl Tryd.ntmps25 (congrArg Array.toList Tryd.results25) (by simp) fun w0 ro may fx => ?_
 refine sr_k fun K1 hK1 => ?_
 simp only [go_sem]
 repeat' (first | apply And.intro | intro _)
 refine hK1 _ ?_
 refine sr_k fun K2 hK2 => ?_
 simp only [go_sem]
 repeat' (first | apply And.intro | intro _)
 all_goals (refine call_hand false [] (fun k => k) (fun _ _ => rfl) ?_ (by decide) ?_ hb.told ?_; iterate 2 (focus (first | rfl | (simp only [go_sem] <;> first | done | rfl | simp))))
 all_goals (rintro v m ⟨hR, hm⟩; subst hR; subst hm)
 all_goals (refine And.intro ?_ (And.intro ?_ (And.intro ?_ ?_)); iterate 3 (focus (first | rfl | (simp only [go_sem]; done) | (simp [go_sem, look]; done))))
 all_goals (try simp only [go_sem])
 all_goals (try simp only [go_sem])
 all_goals repeat' (first | apply And.intro | intro _)
 refine hK2 _ ?_
 refine sr_k fun K3 hK3 => ?_
 simp only [go_sem]
 repeat' (first | apply And.intro | intro _)
 refine hK3 _ ?_
 refine ret_k ?_
 simp only [go_sem]
 all_goals (exact told_plain (by simp [plainV, plainW]) ⟨rfl, rfl⟩)
set_option maxHeartbeats 800000 in
theorem lsub (a b c d e f g h : UInt64) (h1 : vQ a b c d < p25) (h2 : vQ e f g h < p25) :
 CtM Tryd.prog 26 [.w (.agg [.pl (.u64 a), .pl (.u64 b), .pl (.u64 c), .pl (.u64 d)]), .w (.agg [.pl (.u64 e), .pl (.u64 f), .pl (.u64 g), .pl (.u64 h)])] [(1000001, ⟨false, [.pl (.u64 18446744073709551597), .pl (.u64 18446744073709551615), .pl (.u64 18446744073709551615), .pl (.u64 9223372036854775807)]⟩)] (Told (fun v m => v = .w (.agg (w4C (fS (vQ a b c d) (vQ e f g h)))) ∧ m = [])) := by
 have hb := Sub_ok a b c d e f g h h1 h2
 change CtM _ _ _ _ (Told fun v m => v = V.tup [W.agg (w4C (fS (vQ a b c d) (vQ e f g h))), _] ∧ m = []) at hb
 obtain ⟨q0, q1, q2, q3, hq, hvq⟩ := w4_get (fS (vQ a b c d) (vQ e f g h)) (p_m4 (fS_lt _ _))
 have huq : u64C [q0, q1, q2, q3] = [.pl (.u64 q0), .pl (.u64 q1), .pl (.u64 q2), .pl (.u64 q3)] := rfl
 simp only [w4C, hq, huq] at hb ⊢
 refine CtM.k Tryd.func26 rfl Tryd.ntmps26 (congrArg Array.toList Tryd.results26) (by simp) fun w0 ro may fx => ?_
 refine sr_k fun K1 hK1 => ?_
 simp only [go_sem]
 repeat' (first | apply And.intro | intro _)
 refine hK1 _ ?_
 refine sr_k fun K2 hK2 => ?_
 simp only [go_sem]
 repeat' (first | apply And.intro | intro _)
 all_goals (refine call_hand false [] (fun k => k) (fun _ _ => rfl) ?_ (by decide) ?_ hb.told ?_; iterate 2 (focus (first | rfl | (simp only [go_sem] <;> first | done | rfl | simp))))
 all_goals (rintro v m ⟨hR, hm⟩; subst hR; subst hm)
 all_goals (refine And.intro ?_ (And.intro ?_ (And.intro ?_ ?_)); iterate 3 (focus (first | rfl | (simp only [go_sem]; done) | (simp [go_sem, look]; done))))
 all_goals (try simp only [go_sem])
 all_goals (try simp only [go_sem])
 all_goals repeat' (first | apply And.intro | intro _)
 refine hK2 _ ?_
 refine sr_k fun K3 hK3 => ?_
 simp only [go_sem]
 repeat' (first | apply And.intro | intro _)
 refine hK3 _ ?_
 refine ret_k ?_
 simp only [go_sem]
 all_goals (exact told_plain (by simp [plainV, plainW]) ⟨rfl, rfl⟩)
set_option maxHeartbeats 800000 in
theorem lmul (a b c d e f g h : UInt64) (h1 : vQ a b c d < p25) (h2 : vQ e f g h < p25) :
 CtM Tryd.prog 16 [.w (.agg [.pl (.u64 a), .pl (.u64 b), .pl (.u64 c), .pl (.u64 d)]), .w (.agg [.pl (.u64 e), .pl (.u64 f), .pl (.u64 g), .pl (.u64 h)])] [(1000001, ⟨false, [.pl (.u64 18446744073709551597), .pl (.u64 18446744073709551615), .pl (.u64 18446744073709551615), .pl (.u64 9223372036854775807)]⟩)] (Told (fun v m => v = .w (.agg (w4C (fM (vQ a b c d) (vQ e f g h)))) ∧ m = [])) := by
 have hb := Mul_ok a b c d e f g h h1 h2
 change CtM _ _ _ _ (Told fun v m => v = V.tup [W.agg (w4C (fM (vQ a b c d) (vQ e f g h))), _] ∧ m = []) at hb
 obtain ⟨q0, q1, q2, q3, hq, hvq⟩ := w4_get (fM (vQ a b c d) (vQ e f g h)) (p_m4 (fM_lt _ _))
 have huq : u64C [q0, q1, q2, q3] = [.pl (.u64 q0), .pl (.u64 q1), .pl (.u64 q2), .pl (.u64 q3)] := rfl
 simp only [w4C, hq, huq] at hb ⊢
 refine CtM.k Tryd.func16 rfl Tryd.ntmps16 (congrArg Array.toList Tryd.results16) (by simp) fun w0 ro may fx => ?_
 refine sr_k fun K1 hK1 => ?_
 simp only [go_sem]
 repeat' (first | apply And.intro | intro _)
 refine hK1 _ ?_
 refine sr_k fun K2 hK2 => ?_
 simp only [go_sem]
 repeat' (first | apply And.intro | intro _)
 all_goals (refine call_hand false [] (fun k => k) (fun _ _ => rfl) ?_ (by decide) ?_ hb.told ?_; iterate 2 (focus (first | rfl | (simp only [go_sem] <;> first | done | rfl | simp))))
 all_goals (rintro v m ⟨hR, hm⟩; subst hR; subst hm)
 all_goals (refine And.intro ?_ (And.intro ?_ (And.intro ?_ ?_)); iterate 3 (focus (first | rfl | (simp only [go_sem]; done) | (simp [go_sem, look]; done))))
 all_goals (try simp only [go_sem])
 all_goals (try simp only [go_sem])
 all_goals repeat' (first | apply And.intro | intro _)
 refine hK2 _ ?_
 refine sr_k fun K3 hK3 => ?_
 simp only [go_sem]
 repeat' (first | apply And.intro | intro _)
 refine hK3 _ ?_
 refine ret_k ?_
 simp only [go_sem]
 all_goals (exact told_plain (by simp [plainV, plainW]) ⟨rfl, rfl⟩)
set_option maxHeartbeats 800000 in
theorem lsquare (a b c d : UInt64) (h1 : vQ a b c d < p25) :
 CtM Tryd.prog 27 [.w (.agg [.pl (.u64 a), .pl (.u64 b), .pl (.u64 c), .pl (.u64 d)])] [(1000001, ⟨false, [.pl (.u64 18446744073709551597), .pl (.u64 18446744073709551615), .pl (.u64 18446744073709551615), .pl (.u64 9223372036854775807)]⟩)] (Told (fun v m => v = .w (.agg (w4C (fM (vQ a b c d) (vQ a b c d)))) ∧ m = [])) := by
 have hb := lmul a b c d a b c d h1 h1
 obtain ⟨q0, q1, q2, q3, hq, hvq⟩ := w4_get (fM (vQ a b c d) (vQ a b c d)) (p_m4 (fM_lt _ _))
 have huq : u64C [q0, q1, q2, q3] = [.pl (.u64 q0), .pl (.u64 q1), .pl (.u64 q2), .pl (.u64 q3)] := rfl
 simp only [w4C, hq, huq] at hb ⊢
 refine CtM.k Tryd.func27 rfl Tryd.ntmps27 (congrArg Array.toList Tryd.results27) (by simp) fun w0 ro may fx => ?_
 refine sr_k fun K1 hK1 => ?_
 simp only [go_sem]
 repeat' (first | apply And.intro | intro _)
 refine hK1 _ ?_
 refine sr_k fun K2 hK2 => ?_
 simp only [go_sem]
 repeat' (first | apply And.intro | intro _)
 all_goals (refine call_hand false [] (fun k => k) (fun _ _ => rfl) ?_ (by decide) ?_ hb.told ?_; iterate 2 (focus (first | rfl | (simp only [go_sem] <;> first | done | rfl | simp))))
 all_goals (rintro v m ⟨hR, hm⟩; subst hR; subst hm)
 all_goals (refine And.intro ?_ (And.intro ?_ (And.intro ?_ ?_)); iterate 3 (focus (first | rfl | (simp only [go_sem]; done) | (simp [go_sem, look]; done))))
 all_goals (try simp only [go_sem])
 all_goals (try simp only [go_sem])
 all_goals repeat' (first | apply And.intro | intro _)
 refine hK2 _ ?_
 refine ret_k ?_
 simp only [go_sem]
 all_goals (exact told_plain (by simp [plainV, plainW]) ⟨rfl, rfl⟩)
end Go.Sy

