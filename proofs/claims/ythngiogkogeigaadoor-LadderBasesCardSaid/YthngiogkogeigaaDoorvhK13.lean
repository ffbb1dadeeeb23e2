/- Products of the field. -/
import Derived.Test.YthngiogkogeigaaDoorvhK11
import Derived.Test.YthngiogkogeigaaDoorvhK3
set_option linter.unusedVariables false
set_option linter.unusedSimpArgs false
namespace Go.Sy
open Go.Proofs
attribute [local irreducible] atCall HT runOps runD onC onE onO onG goV goA goS onSt onGuard
set_option maxHeartbeats 800000 in
theorem Mul_ok (a b c d e f g h : UInt64) (h1 : vQ a b c d < p25) (h2 : vQ e f g h < p25) :
 CtM Tryd.prog 30 [.w (.agg [.pl (.u64 a), .pl (.u64 b), .pl (.u64 c), .pl (.u64 d)]), .w (.agg [.pl (.u64 e), .pl (.u64 f), .pl (.u64 g), .pl (.u64 h)])] [(1000001, ⟨false, [.pl (.u64 18446744073709551597), .pl (.u64 18446744073709551615), .pl (.u64 18446744073709551615), .pl (.u64 9223372036854775807)]⟩)] (Told (fun v m => v = .tup [.agg (w4C ((vQ a b c d * vQ e f g h) % p25)), .one (.pl (.i 0))] ∧ m = [])) := by
 have hb := by_mul a b c d e f g h h1 h2 ((vQ a b c d * vQ e f g h) % p25) (Nat.mod_lt _ (by decide)) (mul_ a b c d e f g h)
 obtain ⟨q0, q1, q2, q3, hq, hvq⟩ := w4_get ((vQ a b c d * vQ e f g h) % p25) (mod_m4 _)
 simp only [w4C, hq] at hb ⊢
 refine CtM.k Tryd.func30 rfl Tryd.ntmps30 (congrArg Array.toList Tryd.results30) (by simp) fun w0 ro may fx => ?_
 refine sr_k fun K1 hK1 => ?_
 simp only [go_sem, u64C]
 repeat' (first | apply And.intro | intro _)
 refine hK1 _ ?_
 refine sr_k fun K2 hK2 => ?_
 simp only [go_sem, u64C]
 repeat' (first | apply And.intro | intro _)
 all_goals (refine call_hand false [] (fun k => k) (fun _ _ => rfl) ?_ (by decide) ?_ hb.told ?_; iterate 2 (focus (first | rfl | (simp only [go_sem, u64C] <;> first | done | rfl | simp))))
 all_goals (rintro v m ⟨hR, hm⟩; subst hR; subst hm)
 all_goals (refine And.intro ?_ (And.intro ?_ (And.intro ?_ ?_)); iterate 3 (focus (first | rfl | (simp only [go_sem, u64C]; done) | (simp [go_sem, look, u64C]; done))))
 all_goals (try simp only [go_sem, u64C])
 all_goals (try simp only [go_sem, u64C])
 all_goals repeat' (first | apply And.intro | intro _)
 refine hK2 _ ?_
 refine ret_k ?_
 simp only [go_sem, u64C]
 all_goals (exact told_plain (by simp [plainV, plainW]) ⟨rfl, rfl⟩)
end Go.Sy

