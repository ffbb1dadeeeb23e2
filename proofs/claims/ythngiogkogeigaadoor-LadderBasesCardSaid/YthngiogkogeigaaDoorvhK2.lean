/- Four words less four words; below the prime. -/
import Derived.Test.YthngiogkogeigaaDoorvhK1
set_option linter.unusedVariables false
set_option linter.unusedSimpArgs false
namespace Go.Sy
open Go.Proofs
attribute [local irreducible] atCall HT runOps runD onC onE onO onG goV goA goS onSt onGuard
theorem sb_le (x y c : UInt64) : (sbB x y c).toNat ≤ 1 := by
 unfold sbB; split <;> decide
theorem ad_le {x y c : UInt64} (h : c.toNat ≤ 1) : (adC x y c).toNat ≤ 1 := (ad_val x y h).2
theorem less_end (a b c d e f g h : UInt64) : V.tup [.agg [.pl (.u64 (sbS a e 0)), .pl (.u64 (sbS b f (sk1 a e))), .pl (.u64 (sbS c g (sk2 a b e f))), .pl (.u64 (sbS d h (sk3 a b c e f g)))], .one (.pl (.b (decide (sk4 a b c d e f g h = 1))))] = .tup [.agg (w4C ((vQ a b c d + 115792089237316195423570985008687907853269984665640564039457584007913129639936 - vQ e f g h) % 115792089237316195423570985008687907853269984665640564039457584007913129639936)), .one (.pl (.b (decide (vQ a b c d < vQ e f g h))))] := by
 rw [w4C, ← sub4_of]
 have := sub4_lt a b c d e f g h
 rw [decide_eq_decide.mpr this]; rfl
set_option maxHeartbeats 1600000 in
theorem less_ (a b c d e f g h : UInt64) :
 Ct Tryd.prog 36 [.w (.agg [.pl (.u64 a), .pl (.u64 b), .pl (.u64 c), .pl (.u64 d)]), .w (.agg [.pl (.u64 e), .pl (.u64 f), .pl (.u64 g), .pl (.u64 h)])] (fun v m => v = .tup [.agg (w4C ((vQ a b c d + 115792089237316195423570985008687907853269984665640564039457584007913129639936 - vQ e f g h) % 115792089237316195423570985008687907853269984665640564039457584007913129639936)), .one (.pl (.b (decide (vQ a b c d < vQ e f g h))))]) := by
 refine Ct.k Tryd.func36 rfl Tryd.ntmps36 (congrArg Array.toList Tryd.results36) (by simp) fun w0 ro => ?_
 refine sr_k fun K1 hK1 => ?_
 simp only [go_sem]
 repeat' (first | apply And.intro | intro _)
 refine hK1 _ ?_
 refine sr_k fun K2 hK2 => ?_
 simp only [go_sem]
 repeat' (first | apply And.intro | intro _)
 refine hK2 _ ?_
 refine seq_k fun N3 M3 hN3 hM3 => ?_
 refine sr_k fun K4 hK4 => ?_
 simp only [go_sem]
 repeat' (first | apply And.intro | intro _)
 refine hK4 _ ?_
 refine block_k fun B5 bn5 bx5 br5 bi5 => ?_
 refine rounds_k 5 ?_
 refine rnd_k fun N7 M7 hN7 hM7 => ?_
 refine sr_k fun K8 hK8 => ?_
 simp only [go_sem]
 repeat' (first | apply And.intro | intro _)
 refine hK8 _ ?_
 refine seq_k fun N9 M9 hN9 hM9 => ?_
 refine condT_k (by first | rfl | (simp [go_sem]; done)) ?_
 refine skip_k ?_
 refine hN9 _ ?_
 refine seq_k fun N10 M10 hN10 hM10 => ?_
 refine block_k fun B11 bn11 bx11 br11 bi11 => ?_
 refine sr_k fun K12 hK12 => ?_
 simp only [go_sem]
 repeat' (first | apply And.intro | intro _)
 refine hK12 _ ?_
 refine draw_k [12, 13, 14, 15, 16, 17, 18, 19, 20, 11, 21, 22, 23, 6] [0, 0, 2, 6, 0, 16, 48, 0, 254, 510, 1022, 1022, 2047, 6143, 16383] [(11, 13)] mixed (by kernel_rfl) (by simp only [go_sem]) fun K13 hK13 => ?_
 simp only [go_sem]
 repeat' (first | apply And.intro | intro _)
 all_goals refine call_drawnow (by first | rfl | (simp only [go_sem] <;> rfl)) (now_sub64 _ _ _ (by first | decide | exact sb_le _ _ _)) ?_
 all_goals simp only [go_sem]
 all_goals repeat' (first | apply And.intro | intro _)
 refine hK13 _ _ ?_ ?_
 · first | trivial | (simp only [go_sem]; done) | (simp only [go_sem]; simp; done) | (simp only [go_sem]; simp; simp only [go_sem])
 refine bn11 _ ?_
 refine hN10 _ ?_
 refine region_k fun K14 hK14 => ?_
 simp only [go_sem]
 repeat' (first | apply And.intro | intro _)
 refine hK14 _ ?_
 refine hN7 _ ?_
 refine rnd_forget [7, 9, 10, 11, 12, 13, 14, 15, 16, 17, 18, 19, 20, 21, 22, 23, 24] ?_
 simp only [go_sem, St.forget, fgt]
 refine rnd_k fun N15 M15 hN15 hM15 => ?_
 refine sr_k fun K16 hK16 => ?_
 simp only [go_sem]
 repeat' (first | apply And.intro | intro _)
 refine hK16 _ ?_
 refine seq_k fun N17 M17 hN17 hM17 => ?_
 refine condT_k (by first | rfl | (simp [go_sem]; done)) ?_
 refine skip_k ?_
 refine hN17 _ ?_
 refine seq_k fun N18 M18 hN18 hM18 => ?_
 refine block_k fun B19 bn19 bx19 br19 bi19 => ?_
 refine sr_k fun K20 hK20 => ?_
 simp only [go_sem]
 repeat' (first | apply And.intro | intro _)
 refine hK20 _ ?_
 refine draw_k [12, 13, 14, 15, 16, 17, 18, 19, 20, 11, 21, 22, 23, 6] [0, 0, 2, 6, 0, 16, 48, 0, 254, 510, 1022, 1022, 2047, 6143, 16383] [(11, 13)] mixed (by kernel_rfl) (by simp only [go_sem]) fun K21 hK21 => ?_
 simp only [go_sem]
 repeat' (first | apply And.intro | intro _)
 all_goals refine call_drawnow (by first | rfl | (simp only [go_sem] <;> rfl)) (now_sub64 _ _ _ (by first | decide | exact sb_le _ _ _)) ?_
 all_goals simp only [go_sem]
 all_goals repeat' (first | apply And.intro | intro _)
 refine hK21 _ _ ?_ ?_
 · first | trivial | (simp only [go_sem]; done) | (simp only [go_sem]; simp; done) | (simp only [go_sem]; simp; simp only [go_sem])
 refine bn19 _ ?_
 refine hN18 _ ?_
 refine region_k fun K22 hK22 => ?_
 simp only [go_sem]
 repeat' (first | apply And.intro | intro _)
 refine hK22 _ ?_
 refine hN15 _ ?_
 refine rnd_forget [7, 9, 10, 11, 12, 13, 14, 15, 16, 17, 18, 19, 20, 21, 22, 23, 24] ?_
 simp only [go_sem, St.forget, fgt]
 refine rnd_k fun N23 M23 hN23 hM23 => ?_
 refine sr_k fun K24 hK24 => ?_
 simp only [go_sem]
 repeat' (first | apply And.intro | intro _)
 refine hK24 _ ?_
 refine seq_k fun N25 M25 hN25 hM25 => ?_
 refine condT_k (by first | rfl | (simp [go_sem]; done)) ?_
 refine skip_k ?_
 refine hN25 _ ?_
 refine seq_k fun N26 M26 hN26 hM26 => ?_
 refine block_k fun B27 bn27 bx27 br27 bi27 => ?_
 refine sr_k fun K28 hK28 => ?_
 simp only [go_sem]
 repeat' (first | apply And.intro | intro _)
 refine hK28 _ ?_
 refine draw_k [12, 13, 14, 15, 16, 17, 18, 19, 20, 11, 21, 22, 23, 6] [0, 0, 2, 6, 0, 16, 48, 0, 254, 510, 1022, 1022, 2047, 6143, 16383] [(11, 13)] mixed (by kernel_rfl) (by simp only [go_sem]) fun K29 hK29 => ?_
 simp only [go_sem]
 repeat' (first | apply And.intro | intro _)
 all_goals refine call_drawnow (by first | rfl | (simp only [go_sem] <;> rfl)) (now_sub64 _ _ _ (by first | decide | exact sb_le _ _ _)) ?_
 all_goals simp only [go_sem]
 all_goals repeat' (first | apply And.intro | intro _)
 refine hK29 _ _ ?_ ?_
 · first | trivial | (simp only [go_sem]; done) | (simp only [go_sem]; simp; done) | (simp only [go_sem]; simp; simp only [go_sem])
 refine bn27 _ ?_
 refine hN26 _ ?_
 refine region_k fun K30 hK30 => ?_
 simp only [go_sem]
 repeat' (first | apply And.intro | intro _)
 refine hK30 _ ?_
 refine hN23 _ ?_
 refine rnd_forget [7, 9, 10, 11, 12, 13, 14, 15, 16, 17, 18, 19, 20, 21, 22, 23, 24] ?_
 simp only [go_sem, St.forget, fgt]
 refine rnd_k fun N31 M31 hN31 hM31 => ?_
 refine sr_k fun K32 hK32 => ?_
 simp only [go_sem]
 repeat' (first | apply And.intro | intro _)
 refine hK32 _ ?_
 refine seq_k fun N33 M33 hN33 hM33 => ?_
 refine condT_k (by first | rfl | (simp [go_sem]; done)) ?_
 refine skip_k ?_
 refine hN33 _ ?_
 refine seq_k fun N34 M34 hN34 hM34 => ?_
 refine block_k fun B35 bn35 bx35 br35 bi35 => ?_
 refine sr_k fun K36 hK36 => ?_
 simp only [go_sem]
 repeat' (first | apply And.intro | intro _)
 refine hK36 _ ?_
 refine draw_k [12, 13, 14, 15, 16, 17, 18, 19, 20, 11, 21, 22, 23, 6] [0, 0, 2, 6, 0, 16, 48, 0, 254, 510, 1022, 1022, 2047, 6143, 16383] [(11, 13)] mixed (by kernel_rfl) (by simp only [go_sem]) fun K37 hK37 => ?_
 simp only [go_sem]
 repeat' (first | apply And.intro | intro _)
 all_goals refine call_drawnow (by first | rfl | (simp only [go_sem] <;> rfl)) (now_sub64 _ _ _ (by first | decide | exact sb_le _ _ _)) ?_
 all_goals simp only [go_sem]
 all_goals repeat' (first | apply And.intro | intro _)
 refine hK37 _ _ ?_ ?_
 · first | trivial | (simp only [go_sem]; done) | (simp only [go_sem]; simp; done) | (simp only [go_sem]; simp; simp only [go_sem])
 refine bn35 _ ?_
 refine hN34 _ ?_
 refine region_k fun K38 hK38 => ?_
 simp only [go_sem]
 repeat' (first | apply And.intro | intro _)
 refine hK38 _ ?_
 refine hN31 _ ?_
 refine rnd_forget [7, 9, 10, 11, 12, 13, 14, 15, 16, 17, 18, 19, 20, 21, 22, 23, 24] ?_
 simp only [go_sem, St.forget, fgt]
 refine rnd_k fun N39 M39 hN39 hM39 => ?_
 refine sr_k fun K40 hK40 => ?_
 simp only [go_sem]
 repeat' (first | apply And.intro | intro _)
 refine hK40 _ ?_
 refine seq_k fun N41 M41 hN41 hM41 => ?_
 refine condF_k (by first | rfl | (simp [go_sem]; done)) ?_
 refine exit_k ?_
 refine hM41 _ _ ?_
 refine hM39 _ _ ?_
 refine bx5 _ ?_
 refine hN3 _ ?_
 refine sr_k fun K42 hK42 => ?_
 simp only [go_sem]
 repeat' (first | apply And.intro | intro _)
 refine hK42 _ ?_
 refine ret_k ?_
 simp only [go_sem]
 all_goals (exact less_end a b c d e f g h)
theorem vQ_prime : vQ 18446744073709551597 18446744073709551615 18446744073709551615 9223372036854775807 = p25 := by decide +kernel
set_option maxHeartbeats 800000 in
theorem below_ (a b c d : UInt64) :
 CtM Tryd.prog 28 [.w (.agg [.pl (.u64 a), .pl (.u64 b), .pl (.u64 c), .pl (.u64 d)])] [(1000001, ⟨false, [.pl (.u64 18446744073709551597), .pl (.u64 18446744073709551615), .pl (.u64 18446744073709551615), .pl (.u64 9223372036854775807)]⟩)] (Told (fun v m => v = .w (.one (.pl (.b (decide (vQ a b c d < p25))))) ∧ m = [])) := by
 have hL := less_ a b c d 18446744073709551597 18446744073709551615 18446744073709551615 9223372036854775807
 rw [vQ_prime] at hL
 obtain ⟨k0, k1, k2, k3, hk, _⟩ := w4_get ((vQ a b c d + 115792089237316195423570985008687907853269984665640564039457584007913129639936 - p25) % 115792089237316195423570985008687907853269984665640564039457584007913129639936) (Nat.mod_lt _ (by decide))
 rw [w4C, hk] at hL
 refine CtM.k Tryd.func28 rfl Tryd.ntmps28 (congrArg Array.toList Tryd.results28) (by simp) fun w0 ro may fx => ?_
 refine sr_k fun K1 hK1 => ?_
 simp only [go_sem, u64C]
 repeat' (first | apply And.intro | intro _)
 refine hK1 _ ?_
 refine sr_k fun K2 hK2 => ?_
 simp only [go_sem, u64C]
 repeat' (first | apply And.intro | intro _)
 all_goals refine call_view (fun k => k) (fun _ _ => rfl) (by first | rfl | (simp only [go_sem, u64C] <;> rfl)) ((hL).plain fun _ _ h => h) ?_
 all_goals (rintro v m ⟨hR, hm⟩; subst hR; subst hm)
 all_goals refine And.intro (by first | rfl | simp only [go_sem, u64C]) (And.intro (by first | rfl | simp only [go_sem, u64C]) ?_)
 all_goals simp only [go_sem, u64C]
 all_goals repeat' (first | apply And.intro | intro _)
 refine hK2 _ ?_
 refine sr_k fun K3 hK3 => ?_
 simp only [go_sem, u64C]
 repeat' (first | apply And.intro | intro _)
 refine hK3 _ ?_
 refine ret_k ?_
 simp only [go_sem, u64C]
 all_goals (exact told_plain rfl ⟨rfl, rfl⟩)
end Go.Sy

