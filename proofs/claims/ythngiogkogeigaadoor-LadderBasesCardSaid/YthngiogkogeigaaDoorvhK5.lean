/- Sums and differences below the prime. -/
import Derived.Test.YthngiogkogeigaaDoorvhK4
set_option linter.unusedVariables false
set_option linter.unusedSimpArgs false
namespace Go.Sy
open Go.Proofs
attribute [local irreducible] atCall HT runOps runD onC onE onO onG goV goA goS onSt onGuard
theorem mod_m4 (x : Nat) : x % p25 < 115792089237316195423570985008687907853269984665640564039457584007913129639936 := by
 have := Nat.mod_lt x (show 0 < p25 by decide)
 have := p25_is
 omega
set_option maxHeartbeats 1600000 in
theorem add_ (a b c d e f g h : UInt64) :
 CtM Tryd.prog 47 [.w (.agg [.pl (.u64 a), .pl (.u64 b), .pl (.u64 c), .pl (.u64 d)]), .w (.agg [.pl (.u64 e), .pl (.u64 f), .pl (.u64 g), .pl (.u64 h)])] [(1000001, ⟨false, [.pl (.u64 18446744073709551597), .pl (.u64 18446744073709551615), .pl (.u64 18446744073709551615), .pl (.u64 9223372036854775807)]⟩)] (Told (fun v m => v = .w (.agg (w4C ((vQ a b c d + vQ e f g h) % p25))) ∧ m = [])) := by
 obtain ⟨s0, hs0⟩ : ∃ z, adS a e 0 = z := ⟨_, rfl⟩
 obtain ⟨c0, hc0⟩ : ∃ z, adC a e 0 = z := ⟨_, rfl⟩
 have lc0 : c0.toNat ≤ 1 := by rw [← hc0]; exact ad_le (by first | assumption | decide)
 obtain ⟨s1, hs1⟩ : ∃ z, adS b f c0 = z := ⟨_, rfl⟩
 obtain ⟨c1, hc1⟩ : ∃ z, adC b f c0 = z := ⟨_, rfl⟩
 have lc1 : c1.toNat ≤ 1 := by rw [← hc1]; exact ad_le (by first | assumption | decide)
 obtain ⟨s2, hs2⟩ : ∃ z, adS c g c1 = z := ⟨_, rfl⟩
 obtain ⟨c2, hc2⟩ : ∃ z, adC c g c1 = z := ⟨_, rfl⟩
 have lc2 : c2.toNat ≤ 1 := by rw [← hc2]; exact ad_le (by first | assumption | decide)
 obtain ⟨s3, hs3⟩ : ∃ z, adS d h c2 = z := ⟨_, rfl⟩
 obtain ⟨c3, hc3⟩ : ∃ z, adC d h c2 = z := ⟨_, rfl⟩
 have lc3 : c3.toNat ≤ 1 := by rw [← hc3]; exact ad_le (by first | assumption | decide)
 have hv : vQ s0 s1 s2 s3 + m4 * c3.toNat = vQ a b c d + vQ e f g h ∧ c3.toNat ≤ 1 := by
  have h := add4_val a b c d e f g h
  simp only [ak1, ak2, ak3, ak4, hs0, hc0, hs1, hc1, hs2, hc2, hs3, hc3] at h
  exact h
 have hP := plus_ s0 s1 s2 s3 (38 * c3)
 rw [tn38 (by have := hv.2; omega)] at hP
 obtain ⟨p0, p1, p2, p3, hp, hvp⟩ := w4_get (plusN (vQ s0 s1 s2 s3) (38 * c3.toNat)) (plusN_lt (vQ_lt _ _ _ _) (by have := hv.2; omega))
 simp only [w4C, hp] at hP
 have hS := settled_ p0 p1 p2 p3
 rw [hvp, fold_mod _ _ _ hv.1] at hS
 obtain ⟨q0, q1, q2, q3, hq, hvq⟩ := w4_get ((vQ a b c d + vQ e f g h) % p25) (mod_m4 _)
 simp only [w4C, hq] at hS ⊢
 have F0 := And.intro hs0 <| And.intro hc0 <| And.intro hs1 <| And.intro hc1 <| And.intro hs2 <| And.intro hc2 <| And.intro hs3 <| hc3
 refine CtM.k Tryd.func47 rfl Tryd.ntmps47 (congrArg Array.toList Tryd.results47) (by simp) fun w0 ro may fx => ?_
 refine sr_k fun K1 hK1 => ?_
 simp only [go_sem, u64C, F0]
 repeat' (first | apply And.intro | intro _)
 refine hK1 _ ?_
 refine sr_k fun K2 hK2 => ?_
 simp only [go_sem, u64C, F0]
 repeat' (first | apply And.intro | intro _)
 refine hK2 _ ?_
 refine seq_k fun N3 M3 hN3 hM3 => ?_
 refine sr_k fun K4 hK4 => ?_
 simp only [go_sem, u64C, F0]
 repeat' (first | apply And.intro | intro _)
 refine hK4 _ ?_
 refine block_k fun B5 bn5 bx5 br5 bi5 => ?_
 refine rounds_k 5 ?_
 refine rnd_k fun N7 M7 hN7 hM7 => ?_
 refine sr_k fun K8 hK8 => ?_
 simp only [go_sem, u64C, F0]
 repeat' (first | apply And.intro | intro _)
 refine hK8 _ ?_
 refine seq_k fun N9 M9 hN9 hM9 => ?_
 refine condT_k (by first | rfl | (simp [go_sem, u64C, F0]; done)) ?_
 refine skip_k ?_
 refine hN9 _ ?_
 refine seq_k fun N10 M10 hN10 hM10 => ?_
 refine block_k fun B11 bn11 bx11 br11 bi11 => ?_
 refine sr_k fun K12 hK12 => ?_
 simp only [go_sem, u64C, F0]
 repeat' (first | apply And.intro | intro _)
 refine hK12 _ ?_
 refine draw_k [11, 12, 13, 14, 15, 16, 17, 18, 19, 10, 20, 21, 22, 5] [0, 0, 2, 6, 0, 16, 48, 0, 254, 510, 1022, 1022, 2047, 6143, 16383] [(11, 13)] mixed (by kernel_rfl) (by simp only [go_sem]) fun K13 hK13 => ?_
 simp only [go_sem, u64C, F0]
 repeat' (first | apply And.intro | intro _)
 all_goals refine call_drawnow (by first | rfl | (simp only [go_sem, u64C, F0] <;> rfl)) (now_add64 _ _ _ (by repeat' (first | assumption | decide | apply ad_le))) ?_
 all_goals simp only [go_sem, u64C, F0]
 all_goals repeat' (first | apply And.intro | intro _)
 refine hK13 _ _ ?_ ?_
 · first | trivial | (simp only [go_sem]; done) | (simp only [go_sem]; simp; done) | (simp only [go_sem]; simp; simp only [go_sem])
 refine bn11 _ ?_
 refine hN10 _ ?_
 refine region_k fun K14 hK14 => ?_
 simp only [go_sem, u64C, F0]
 repeat' (first | apply And.intro | intro _)
 refine hK14 _ ?_
 refine hN7 _ ?_
 refine rnd_forget [6, 8, 9, 10, 11, 12, 13, 14, 15, 16, 17, 18, 19, 20, 21, 22, 23] ?_
 simp only [go_sem, St.forget, fgt]
 refine rnd_k fun N15 M15 hN15 hM15 => ?_
 refine sr_k fun K16 hK16 => ?_
 simp only [go_sem, u64C, F0]
 repeat' (first | apply And.intro | intro _)
 refine hK16 _ ?_
 refine seq_k fun N17 M17 hN17 hM17 => ?_
 refine condT_k (by first | rfl | (simp [go_sem, u64C, F0]; done)) ?_
 refine skip_k ?_
 refine hN17 _ ?_
 refine seq_k fun N18 M18 hN18 hM18 => ?_
 refine block_k fun B19 bn19 bx19 br19 bi19 => ?_
 refine sr_k fun K20 hK20 => ?_
 simp only [go_sem, u64C, F0]
 repeat' (first | apply And.intro | intro _)
 refine hK20 _ ?_
 refine draw_k [11, 12, 13, 14, 15, 16, 17, 18, 19, 10, 20, 21, 22, 5] [0, 0, 2, 6, 0, 16, 48, 0, 254, 510, 1022, 1022, 2047, 6143, 16383] [(11, 13)] mixed (by kernel_rfl) (by simp only [go_sem]) fun K21 hK21 => ?_
 simp only [go_sem, u64C, F0]
 repeat' (first | apply And.intro | intro _)
 all_goals refine call_drawnow (by first | rfl | (simp only [go_sem, u64C, F0] <;> rfl)) (now_add64 _ _ _ (by repeat' (first | assumption | decide | apply ad_le))) ?_
 all_goals simp only [go_sem, u64C, F0]
 all_goals repeat' (first | apply And.intro | intro _)
 refine hK21 _ _ ?_ ?_
 · first | trivial | (simp only [go_sem]; done) | (simp only [go_sem]; simp; done) | (simp only [go_sem]; simp; simp only [go_sem])
 refine bn19 _ ?_
 refine hN18 _ ?_
 refine region_k fun K22 hK22 => ?_
 simp only [go_sem, u64C, F0]
 repeat' (first | apply And.intro | intro _)
 refine hK22 _ ?_
 refine hN15 _ ?_
 refine rnd_forget [6, 8, 9, 10, 11, 12, 13, 14, 15, 16, 17, 18, 19, 20, 21, 22, 23] ?_
 simp only [go_sem, St.forget, fgt]
 refine rnd_k fun N23 M23 hN23 hM23 => ?_
 refine sr_k fun K24 hK24 => ?_
 simp only [go_sem, u64C, F0]
 repeat' (first | apply And.intro | intro _)
 refine hK24 _ ?_
 refine seq_k fun N25 M25 hN25 hM25 => ?_
 refine condT_k (by first | rfl | (simp [go_sem, u64C, F0]; done)) ?_
 refine skip_k ?_
 refine hN25 _ ?_
 refine seq_k fun N26 M26 hN26 hM26 => ?_
 refine block_k fun B27 bn27 bx27 br27 bi27 => ?_
 refine sr_k fun K28 hK28 => ?_
 simp only [go_sem, u64C, F0]
 repeat' (first | apply And.intro | intro _)
 refine hK28 _ ?_
 refine draw_k [11, 12, 13, 14, 15, 16, 17, 18, 19, 10, 20, 21, 22, 5] [0, 0, 2, 6, 0, 16, 48, 0, 254, 510, 1022, 1022, 2047, 6143, 16383] [(11, 13)] mixed (by kernel_rfl) (by simp only [go_sem]) fun K29 hK29 => ?_
 simp only [go_sem, u64C, F0]
 repeat' (first | apply And.intro | intro _)
 all_goals refine call_drawnow (by first | rfl | (simp only [go_sem, u64C, F0] <;> rfl)) (now_add64 _ _ _ (by repeat' (first | assumption | decide | apply ad_le))) ?_
 all_goals simp only [go_sem, u64C, F0]
 all_goals repeat' (first | apply And.intro | intro _)
 refine hK29 _ _ ?_ ?_
 · first | trivial | (simp only [go_sem]; done) | (simp only [go_sem]; simp; done) | (simp only [go_sem]; simp; simp only [go_sem])
 refine bn27 _ ?_
 refine hN26 _ ?_
 refine region_k fun K30 hK30 => ?_
 simp only [go_sem, u64C, F0]
 repeat' (first | apply And.intro | intro _)
 refine hK30 _ ?_
 refine hN23 _ ?_
 refine rnd_forget [6, 8, 9, 10, 11, 12, 13, 14, 15, 16, 17, 18, 19, 20, 21, 22, 23] ?_
 simp only [go_sem, St.forget, fgt]
 refine rnd_k fun N31 M31 hN31 hM31 => ?_
 refine sr_k fun K32 hK32 => ?_
 simp only [go_sem, u64C, F0]
 repeat' (first | apply And.intro | intro _)
 refine hK32 _ ?_
 refine seq_k fun N33 M33 hN33 hM33 => ?_
 refine condT_k (by first | rfl | (simp [go_sem, u64C, F0]; done)) ?_
 refine skip_k ?_
 refine hN33 _ ?_
 refine seq_k fun N34 M34 hN34 hM34 => ?_
 refine block_k fun B35 bn35 bx35 br35 bi35 => ?_
 refine sr_k fun K36 hK36 => ?_
 simp only [go_sem, u64C, F0]
 repeat' (first | apply And.intro | intro _)
 refine hK36 _ ?_
 refine draw_k [11, 12, 13, 14, 15, 16, 17, 18, 19, 10, 20, 21, 22, 5] [0, 0, 2, 6, 0, 16, 48, 0, 254, 510, 1022, 1022, 2047, 6143, 16383] [(11, 13)] mixed (by kernel_rfl) (by simp only [go_sem]) fun K37 hK37 => ?_
 simp only [go_sem, u64C, F0]
 repeat' (first | apply And.intro | intro _)
 all_goals refine call_drawnow (by first | rfl | (simp only [go_sem, u64C, F0] <;> rfl)) (now_add64 _ _ _ (by repeat' (first | assumption | decide | apply ad_le))) ?_
 all_goals simp only [go_sem, u64C, F0]
 all_goals repeat' (first | apply And.intro | intro _)
 refine hK37 _ _ ?_ ?_
 · first | trivial | (simp only [go_sem]; done) | (simp only [go_sem]; simp; done) | (simp only [go_sem]; simp; simp only [go_sem])
 refine bn35 _ ?_
 refine hN34 _ ?_
 refine region_k fun K38 hK38 => ?_
 simp only [go_sem, u64C, F0]
 repeat' (first | apply And.intro | intro _)
 refine hK38 _ ?_
 refine hN31 _ ?_
 refine rnd_forget [6, 8, 9, 10, 11, 12, 13, 14, 15, 16, 17, 18, 19, 20, 21, 22, 23] ?_
 simp only [go_sem, St.forget, fgt]
 refine rnd_k fun N39 M39 hN39 hM39 => ?_
 refine sr_k fun K40 hK40 => ?_
 simp only [go_sem, u64C, F0]
 repeat' (first | apply And.intro | intro _)
 refine hK40 _ ?_
 refine seq_k fun N41 M41 hN41 hM41 => ?_
 refine condF_k (by first | rfl | (simp [go_sem, u64C, F0]; done)) ?_
 refine exit_k ?_
 refine hM41 _ _ ?_
 refine hM39 _ _ ?_
 refine bx5 _ ?_
 refine hN3 _ ?_
 refine sr_k fun K42 hK42 => ?_
 simp only [go_sem, u64C, F0]
 repeat' (first | apply And.intro | intro _)
 all_goals refine call_view (fun k => k) (fun _ _ => rfl) (by first | rfl | (simp only [go_sem, u64C, F0] <;> rfl)) ((hP).plain fun _ _ h => h) ?_
 all_goals (rintro v m ⟨hR, hm⟩; subst hR; subst hm)
 all_goals refine And.intro (by first | rfl | simp only [go_sem, u64C, F0]) (And.intro (by first | rfl | simp only [go_sem, u64C, F0]) ?_)
 all_goals simp only [go_sem, u64C, F0]
 all_goals repeat' (first | apply And.intro | intro _)
 all_goals (refine call_hand false [] (fun k => k) (fun _ _ => rfl) ?_ (by decide) ?_ hS.told ?_; iterate 2 (focus (first | rfl | (simp only [go_sem, u64C, F0] <;> first | done | rfl | simp))))
 all_goals (rintro v m ⟨hR, hm⟩; subst hR; subst hm)
 all_goals (refine And.intro ?_ (And.intro ?_ (And.intro ?_ ?_)); iterate 3 (focus (first | rfl | (simp only [go_sem, u64C, F0]; done) | (simp [go_sem, look, u64C, F0]; done))))
 all_goals (try simp only [go_sem, u64C, F0])
 all_goals (try simp only [go_sem, u64C, F0])
 all_goals repeat' (first | apply And.intro | intro _)
 refine hK42 _ ?_
 refine ret_k ?_
 simp only [go_sem, u64C, F0]
 all_goals (exact told_plain (by simp [plainV, plainW]) ⟨rfl, rfl⟩)
set_option maxHeartbeats 1600000 in
theorem sub_lt (a b c d e f g h : UInt64) (h1 : vQ a b c d < p25) (h2 : vQ e f g h < p25) (h3 : vQ a b c d < vQ e f g h) :
 CtM Tryd.prog 48 [.w (.agg [.pl (.u64 a), .pl (.u64 b), .pl (.u64 c), .pl (.u64 d)]), .w (.agg [.pl (.u64 e), .pl (.u64 f), .pl (.u64 g), .pl (.u64 h)])] [(1000001, ⟨false, [.pl (.u64 18446744073709551597), .pl (.u64 18446744073709551615), .pl (.u64 18446744073709551615), .pl (.u64 9223372036854775807)]⟩)] (Told (fun v m => v = .w (.agg (w4C ((vQ a b c d + p25 - vQ e f g h) % p25))) ∧ m = [])) := by
 have hL := less_ a b c d e f g h
 have hm := m4_is
 have hp := p25_is
 have ha := vQ_lt a b c d
 have hb := vQ_lt e f g h
 rw [decide_eq_true h3] at hL
 obtain ⟨z, hz⟩ : ∃ z, (vQ a b c d + 115792089237316195423570985008687907853269984665640564039457584007913129639936 - vQ e f g h) % 115792089237316195423570985008687907853269984665640564039457584007913129639936 = z := ⟨_, rfl⟩
 have hzl : z < 115792089237316195423570985008687907853269984665640564039457584007913129639936 := by rw [← hz]; exact Nat.mod_lt _ (by decide)
 have hze : z + vQ e f g h = vQ a b c d + 115792089237316195423570985008687907853269984665640564039457584007913129639936 := by omega
 rw [hz] at hL
 obtain ⟨s0, s1, s2, s3, hs, hvs⟩ := w4_get (z) (hzl)
 simp only [w4C, hs] at hL
 obtain ⟨r0, hr0⟩ : ∃ z, adS s0 18446744073709551597 0 = z := ⟨_, rfl⟩
 obtain ⟨d0, hd0⟩ : ∃ z, adC s0 18446744073709551597 0 = z := ⟨_, rfl⟩
 have ld0 : d0.toNat ≤ 1 := by rw [← hd0]; exact ad_le (by first | assumption | decide)
 obtain ⟨r1, hr1⟩ : ∃ z, adS s1 18446744073709551615 d0 = z := ⟨_, rfl⟩
 obtain ⟨d1, hd1⟩ : ∃ z, adC s1 18446744073709551615 d0 = z := ⟨_, rfl⟩
 have ld1 : d1.toNat ≤ 1 := by rw [← hd1]; exact ad_le (by first | assumption | decide)
 obtain ⟨r2, hr2⟩ : ∃ z, adS s2 18446744073709551615 d1 = z := ⟨_, rfl⟩
 obtain ⟨d2, hd2⟩ : ∃ z, adC s2 18446744073709551615 d1 = z := ⟨_, rfl⟩
 have ld2 : d2.toNat ≤ 1 := by rw [← hd2]; exact ad_le (by first | assumption | decide)
 obtain ⟨r3, hr3⟩ : ∃ z, adS s3 9223372036854775807 d2 = z := ⟨_, rfl⟩
 obtain ⟨d3, hd3⟩ : ∃ z, adC s3 9223372036854775807 d2 = z := ⟨_, rfl⟩
 have ld3 : d3.toNat ≤ 1 := by rw [← hd3]; exact ad_le (by first | assumption | decide)
 have hw : vQ r0 r1 r2 r3 + m4 * d3.toNat = vQ s0 s1 s2 s3 + vQ 18446744073709551597 18446744073709551615 18446744073709551615 9223372036854775807 ∧ d3.toNat ≤ 1 := by
  have h := add4_val s0 s1 s2 s3 18446744073709551597 18446744073709551615 18446744073709551615 9223372036854775807
  simp only [ak1, ak2, ak3, ak4, hr0, hd0, hr1, hd1, hr2, hd2, hr3, hd3] at h
  exact h
 rw [vQ_prime, hvs] at hw
 have hrl := vQ_lt r0 r1 r2 r3
 have he : vQ r0 r1 r2 r3 = (vQ a b c d + p25 - vQ e f g h) % p25 := by
  obtain ⟨e1, e2⟩ := hw
  rw [Nat.mod_eq_of_lt (by omega)]
  rw [hm] at e1
  omega
 have hE : u64C [r0, r1, r2, r3] = w4C ((vQ a b c d + p25 - vQ e f g h) % p25) := by rw [w4C, ← he, w4_of]
 have F0 := And.intro hr0 <| And.intro hd0 <| And.intro hr1 <| And.intro hd1 <| And.intro hr2 <| And.intro hd2 <| And.intro hr3 <| hd3
 refine CtM.k Tryd.func48 rfl Tryd.ntmps48 (congrArg Array.toList Tryd.results48) (by simp) fun w0 ro may fx => ?_
 refine sr_k fun K1 hK1 => ?_
 simp only [go_sem, u64C, F0]
 repeat' (first | apply And.intro | intro _)
 refine hK1 _ ?_
 refine sr_k fun K2 hK2 => ?_
 simp only [go_sem, u64C, F0]
 repeat' (first | apply And.intro | intro _)
 all_goals refine call_view (fun k => k) (fun _ _ => rfl) (by first | rfl | (simp only [go_sem, u64C, F0] <;> rfl)) ((hL).plain fun _ _ h => h) ?_
 all_goals (rintro v m ⟨hR, hm⟩; subst hR; subst hm)
 all_goals refine And.intro (by first | rfl | simp only [go_sem, u64C, F0]) (And.intro (by first | rfl | simp only [go_sem, u64C, F0]) ?_)
 all_goals simp only [go_sem, u64C, F0]
 all_goals repeat' (first | apply And.intro | intro _)
 refine hK2 _ ?_
 refine seq_k fun N3 M3 hN3 hM3 => ?_
 refine sr_k fun K4 hK4 => ?_
 simp only [go_sem, u64C, F0]
 repeat' (first | apply And.intro | intro _)
 refine hK4 _ ?_
 refine condT_k (by first | rfl | (simp [go_sem, u64C, F0]; done)) ?_
 refine sr_k fun K5 hK5 => ?_
 simp only [go_sem, u64C, F0]
 repeat' (first | apply And.intro | intro _)
 refine hK5 _ ?_
 refine sr_k fun K6 hK6 => ?_
 simp only [go_sem, u64C, F0]
 repeat' (first | apply And.intro | intro _)
 refine hK6 _ ?_
 refine block_k fun B7 bn7 bx7 br7 bi7 => ?_
 refine rounds_k 5 ?_
 refine rnd_k fun N9 M9 hN9 hM9 => ?_
 refine sr_k fun K10 hK10 => ?_
 simp only [go_sem, u64C, F0]
 repeat' (first | apply And.intro | intro _)
 refine hK10 _ ?_
 refine seq_k fun N11 M11 hN11 hM11 => ?_
 refine condT_k (by first | rfl | (simp [go_sem, u64C, F0]; done)) ?_
 refine skip_k ?_
 refine hN11 _ ?_
 refine seq_k fun N12 M12 hN12 hM12 => ?_
 refine block_k fun B13 bn13 bx13 br13 bi13 => ?_
 refine sr_k fun K14 hK14 => ?_
 simp only [go_sem, u64C, F0]
 repeat' (first | apply And.intro | intro _)
 refine hK14 _ ?_
 refine draw_k [20, 21, 22, 23, 24, 25, 26, 27, 28, 19, 29, 30, 31, 7] [0, 0, 2, 6, 0, 16, 48, 0, 254, 510, 1022, 1022, 2047, 6143, 16383] [(11, 13)] mixed (by kernel_rfl) (by simp only [go_sem]) fun K15 hK15 => ?_
 simp only [go_sem, u64C, F0]
 repeat' (first | apply And.intro | intro _)
 all_goals refine call_drawnow (by first | rfl | (simp only [go_sem, u64C, F0] <;> rfl)) (now_add64 _ _ _ (by repeat' (first | assumption | decide | apply ad_le))) ?_
 all_goals simp only [go_sem, u64C, F0]
 all_goals repeat' (first | apply And.intro | intro _)
 refine hK15 _ _ ?_ ?_
 · first | trivial | (simp only [go_sem]; done) | (simp only [go_sem]; simp; done) | (simp only [go_sem]; simp; simp only [go_sem])
 refine bn13 _ ?_
 refine hN12 _ ?_
 refine region_k fun K16 hK16 => ?_
 simp only [go_sem, u64C, F0]
 repeat' (first | apply And.intro | intro _)
 refine hK16 _ ?_
 refine hN9 _ ?_
 refine rnd_forget [8, 17, 18, 19, 20, 21, 22, 23, 24, 25, 26, 27, 28, 29, 30, 31, 32] ?_
 simp only [go_sem, St.forget, fgt]
 refine rnd_k fun N17 M17 hN17 hM17 => ?_
 refine sr_k fun K18 hK18 => ?_
 simp only [go_sem, u64C, F0]
 repeat' (first | apply And.intro | intro _)
 refine hK18 _ ?_
 refine seq_k fun N19 M19 hN19 hM19 => ?_
 refine condT_k (by first | rfl | (simp [go_sem, u64C, F0]; done)) ?_
 refine skip_k ?_
 refine hN19 _ ?_
 refine seq_k fun N20 M20 hN20 hM20 => ?_
 refine block_k fun B21 bn21 bx21 br21 bi21 => ?_
 refine sr_k fun K22 hK22 => ?_
 simp only [go_sem, u64C, F0]
 repeat' (first | apply And.intro | intro _)
 refine hK22 _ ?_
 refine draw_k [20, 21, 22, 23, 24, 25, 26, 27, 28, 19, 29, 30, 31, 7] [0, 0, 2, 6, 0, 16, 48, 0, 254, 510, 1022, 1022, 2047, 6143, 16383] [(11, 13)] mixed (by kernel_rfl) (by simp only [go_sem]) fun K23 hK23 => ?_
 simp only [go_sem, u64C, F0]
 repeat' (first | apply And.intro | intro _)
 all_goals refine call_drawnow (by first | rfl | (simp only [go_sem, u64C, F0] <;> rfl)) (now_add64 _ _ _ (by repeat' (first | assumption | decide | apply ad_le))) ?_
 all_goals simp only [go_sem, u64C, F0]
 all_goals repeat' (first | apply And.intro | intro _)
 refine hK23 _ _ ?_ ?_
 · first | trivial | (simp only [go_sem]; done) | (simp only [go_sem]; simp; done) | (simp only [go_sem]; simp; simp only [go_sem])
 refine bn21 _ ?_
 refine hN20 _ ?_
 refine region_k fun K24 hK24 => ?_
 simp only [go_sem, u64C, F0]
 repeat' (first | apply And.intro | intro _)
 refine hK24 _ ?_
 refine hN17 _ ?_
 refine rnd_forget [8, 17, 18, 19, 20, 21, 22, 23, 24, 25, 26, 27, 28, 29, 30, 31, 32] ?_
 simp only [go_sem, St.forget, fgt]
 refine rnd_k fun N25 M25 hN25 hM25 => ?_
 refine sr_k fun K26 hK26 => ?_
 simp only [go_sem, u64C, F0]
 repeat' (first | apply And.intro | intro _)
 refine hK26 _ ?_
 refine seq_k fun N27 M27 hN27 hM27 => ?_
 refine condT_k (by first | rfl | (simp [go_sem, u64C, F0]; done)) ?_
 refine skip_k ?_
 refine hN27 _ ?_
 refine seq_k fun N28 M28 hN28 hM28 => ?_
 refine block_k fun B29 bn29 bx29 br29 bi29 => ?_
 refine sr_k fun K30 hK30 => ?_
 simp only [go_sem, u64C, F0]
 repeat' (first | apply And.intro | intro _)
 refine hK30 _ ?_
 refine draw_k [20, 21, 22, 23, 24, 25, 26, 27, 28, 19, 29, 30, 31, 7] [0, 0, 2, 6, 0, 16, 48, 0, 254, 510, 1022, 1022, 2047, 6143, 16383] [(11, 13)] mixed (by kernel_rfl) (by simp only [go_sem]) fun K31 hK31 => ?_
 simp only [go_sem, u64C, F0]
 repeat' (first | apply And.intro | intro _)
 all_goals refine call_drawnow (by first | rfl | (simp only [go_sem, u64C, F0] <;> rfl)) (now_add64 _ _ _ (by repeat' (first | assumption | decide | apply ad_le))) ?_
 all_goals simp only [go_sem, u64C, F0]
 all_goals repeat' (first | apply And.intro | intro _)
 refine hK31 _ _ ?_ ?_
 · first | trivial | (simp only [go_sem]; done) | (simp only [go_sem]; simp; done) | (simp only [go_sem]; simp; simp only [go_sem])
 refine bn29 _ ?_
 refine hN28 _ ?_
 refine region_k fun K32 hK32 => ?_
 simp only [go_sem, u64C, F0]
 repeat' (first | apply And.intro | intro _)
 refine hK32 _ ?_
 refine hN25 _ ?_
 refine rnd_forget [8, 17, 18, 19, 20, 21, 22, 23, 24, 25, 26, 27, 28, 29, 30, 31, 32] ?_
 simp only [go_sem, St.forget, fgt]
 refine rnd_k fun N33 M33 hN33 hM33 => ?_
 refine sr_k fun K34 hK34 => ?_
 simp only [go_sem, u64C, F0]
 repeat' (first | apply And.intro | intro _)
 refine hK34 _ ?_
 refine seq_k fun N35 M35 hN35 hM35 => ?_
 refine condT_k (by first | rfl | (simp [go_sem, u64C, F0]; done)) ?_
 refine skip_k ?_
 refine hN35 _ ?_
 refine seq_k fun N36 M36 hN36 hM36 => ?_
 refine block_k fun B37 bn37 bx37 br37 bi37 => ?_
 refine sr_k fun K38 hK38 => ?_
 simp only [go_sem, u64C, F0]
 repeat' (first | apply And.intro | intro _)
 refine hK38 _ ?_
 refine draw_k [20, 21, 22, 23, 24, 25, 26, 27, 28, 19, 29, 30, 31, 7] [0, 0, 2, 6, 0, 16, 48, 0, 254, 510, 1022, 1022, 2047, 6143, 16383] [(11, 13)] mixed (by kernel_rfl) (by simp only [go_sem]) fun K39 hK39 => ?_
 simp only [go_sem, u64C, F0]
 repeat' (first | apply And.intro | intro _)
 all_goals refine call_drawnow (by first | rfl | (simp only [go_sem, u64C, F0] <;> rfl)) (now_add64 _ _ _ (by repeat' (first | assumption | decide | apply ad_le))) ?_
 all_goals simp only [go_sem, u64C, F0]
 all_goals repeat' (first | apply And.intro | intro _)
 refine hK39 _ _ ?_ ?_
 · first | trivial | (simp only [go_sem]; done) | (simp only [go_sem]; simp; done) | (simp only [go_sem]; simp; simp only [go_sem])
 refine bn37 _ ?_
 refine hN36 _ ?_
 refine region_k fun K40 hK40 => ?_
 simp only [go_sem, u64C, F0]
 repeat' (first | apply And.intro | intro _)
 refine hK40 _ ?_
 refine hN33 _ ?_
 refine rnd_forget [8, 17, 18, 19, 20, 21, 22, 23, 24, 25, 26, 27, 28, 29, 30, 31, 32] ?_
 simp only [go_sem, St.forget, fgt]
 refine rnd_k fun N41 M41 hN41 hM41 => ?_
 refine sr_k fun K42 hK42 => ?_
 simp only [go_sem, u64C, F0]
 repeat' (first | apply And.intro | intro _)
 refine hK42 _ ?_
 refine seq_k fun N43 M43 hN43 hM43 => ?_
 refine condF_k (by first | rfl | (simp [go_sem, u64C, F0]; done)) ?_
 refine exit_k ?_
 refine hM43 _ _ ?_
 refine hM41 _ _ ?_
 refine bx7 _ ?_
 refine hN3 _ ?_
 refine sr_k fun K44 hK44 => ?_
 simp only [go_sem, u64C, F0]
 repeat' (first | apply And.intro | intro _)
 refine hK44 _ ?_
 refine ret_k ?_
 simp only [go_sem, u64C, F0]
 all_goals (exact told_plain (by simp [plainV, plainW]) ⟨by rw [← hE]; rfl, rfl⟩)
set_option maxHeartbeats 1600000 in
theorem sub_ge (a b c d e f g h : UInt64) (h1 : vQ a b c d < p25) (h2 : vQ e f g h < p25) (h3 : ¬ vQ a b c d < vQ e f g h) :
 CtM Tryd.prog 48 [.w (.agg [.pl (.u64 a), .pl (.u64 b), .pl (.u64 c), .pl (.u64 d)]), .w (.agg [.pl (.u64 e), .pl (.u64 f), .pl (.u64 g), .pl (.u64 h)])] [(1000001, ⟨false, [.pl (.u64 18446744073709551597), .pl (.u64 18446744073709551615), .pl (.u64 18446744073709551615), .pl (.u64 9223372036854775807)]⟩)] (Told (fun v m => v = .w (.agg (w4C ((vQ a b c d + p25 - vQ e f g h) % p25))) ∧ m = [])) := by
 have hL := less_ a b c d e f g h
 have hm := m4_is
 have hp := p25_is
 have ha := vQ_lt a b c d
 have hb := vQ_lt e f g h
 rw [decide_eq_false h3] at hL
 have hd : (vQ a b c d + p25 - vQ e f g h) % p25 = vQ a b c d - vQ e f g h := by rw [show vQ a b c d + p25 - vQ e f g h = (vQ a b c d - vQ e f g h) + p25 from by omega, Nat.add_mod_right, Nat.mod_eq_of_lt (by omega)]
 have he : (vQ a b c d + 115792089237316195423570985008687907853269984665640564039457584007913129639936 - vQ e f g h) % 115792089237316195423570985008687907853269984665640564039457584007913129639936 = (vQ a b c d + p25 - vQ e f g h) % p25 := by rw [hd]; omega
 rw [he] at hL
 obtain ⟨q0, q1, q2, q3, hq, hvq⟩ := w4_get ((vQ a b c d + p25 - vQ e f g h) % p25) (mod_m4 _)
 simp only [w4C, hq] at hL ⊢
 refine CtM.k Tryd.func48 rfl Tryd.ntmps48 (congrArg Array.toList Tryd.results48) (by simp) fun w0 ro may fx => ?_
 refine sr_k fun K1 hK1 => ?_
 simp only [go_sem, u64C]
 repeat' (first | apply And.intro | intro _)
 refine hK1 _ ?_
 refine sr_k fun K2 hK2 => ?_
 simp only [go_sem, u64C]
 repeat' (first | apply And.intro | intro _)
 all_goals refine call_view (fun k => k) (fun _ _ => rfl) (by first | rfl | (simp only [go_sem, u64C] <;> rfl)) ((hL).plain fun _ _ h => h) ?_
 all_goals (rintro v m ⟨hR, hm⟩; subst hR; subst hm)
 all_goals refine And.intro (by first | rfl | simp only [go_sem, u64C]) (And.intro (by first | rfl | simp only [go_sem, u64C]) ?_)
 all_goals simp only [go_sem, u64C]
 all_goals repeat' (first | apply And.intro | intro _)
 refine hK2 _ ?_
 refine seq_k fun N3 M3 hN3 hM3 => ?_
 refine sr_k fun K4 hK4 => ?_
 simp only [go_sem, u64C]
 repeat' (first | apply And.intro | intro _)
 refine hK4 _ ?_
 refine condF_k (by first | rfl | (simp [go_sem, u64C]; done)) ?_
 refine skip_k ?_
 refine hN3 _ ?_
 refine sr_k fun K5 hK5 => ?_
 simp only [go_sem, u64C]
 repeat' (first | apply And.intro | intro _)
 refine hK5 _ ?_
 refine ret_k ?_
 simp only [go_sem, u64C]
 all_goals (exact told_plain (by simp [plainV, plainW]) ⟨rfl, rfl⟩)
theorem sub_ (a b c d e f g h : UInt64) (h1 : vQ a b c d < p25) (h2 : vQ e f g h < p25) : CtM Tryd.prog 48 [.w (.agg [.pl (.u64 a), .pl (.u64 b), .pl (.u64 c), .pl (.u64 d)]), .w (.agg [.pl (.u64 e), .pl (.u64 f), .pl (.u64 g), .pl (.u64 h)])] [(1000001, ⟨false, [.pl (.u64 18446744073709551597), .pl (.u64 18446744073709551615), .pl (.u64 18446744073709551615), .pl (.u64 9223372036854775807)]⟩)] (Told (fun v m => v = .w (.agg (w4C ((vQ a b c d + p25 - vQ e f g h) % p25))) ∧ m = [])) := by
 by_cases h3 : vQ a b c d < vQ e f g h
 · exact sub_lt a b c d e f g h h1 h2 h3
 · exact sub_ge a b c d e f g h h1 h2 h3
set_option maxHeartbeats 800000 in
theorem Add_ok (a b c d e f g h : UInt64) (h1 : vQ a b c d < p25) (h2 : vQ e f g h < p25) :
 CtM Tryd.prog 37 [.w (.agg [.pl (.u64 a), .pl (.u64 b), .pl (.u64 c), .pl (.u64 d)]), .w (.agg [.pl (.u64 e), .pl (.u64 f), .pl (.u64 g), .pl (.u64 h)])] [(1000001, ⟨false, [.pl (.u64 18446744073709551597), .pl (.u64 18446744073709551615), .pl (.u64 18446744073709551615), .pl (.u64 9223372036854775807)]⟩)] (Told (fun v m => v = .tup [.agg (w4C ((vQ a b c d + vQ e f g h) % p25)), .one (.pl (.i 0))] ∧ m = [])) := by
 have hb := by_add a b c d e f g h h1 h2 ((vQ a b c d + vQ e f g h) % p25) (Nat.mod_lt _ (by decide)) (add_ a b c d e f g h)
 obtain ⟨q0, q1, q2, q3, hq, hvq⟩ := w4_get ((vQ a b c d + vQ e f g h) % p25) (mod_m4 _)
 simp only [w4C, hq] at hb ⊢
 refine CtM.k Tryd.func37 rfl Tryd.ntmps37 (congrArg Array.toList Tryd.results37) (by simp) fun w0 ro may fx => ?_
 refine sr_k fun K1 hK1 => ?_
 simp only [go_sem, u64C]
 repeat' (first | apply And.intro | intro _)
 refine hK1 _ ?_
 refine sr_k fun K2 hK2 => ?_
 simp only [go_sem, u64C]
 repeat' (first | apply And.intro | intro _)
 all_goals (refine call_hand false [] (fun k => k) (fun _ _ => rfl) ?_ (by decide) ?_ hb.told ?_; iterate 2 (focus (first | rfl | (simp only [go_sem, u64C] <;> first | done | rfl | simp))))
 all_goals (rintro v m ⟨hR, hm⟩; subst hR; subst hm)
 all_goals (refine And.intro ?_ (And.intro ?_ (And.intro ?_ ?_)); iterate 3 (focus (first | rfl | (simp only [go_sem, u64C]; done) | (simp [go_sem, look, u64C]; done))))
 all_goals (try simp only [go_sem, u64C])
 all_goals (try simp only [go_sem, u64C])
 all_goals repeat' (first | apply And.intro | intro _)
 refine hK2 _ ?_
 refine ret_k ?_
 simp only [go_sem, u64C]
 all_goals (exact told_plain (by simp [plainV, plainW]) ⟨rfl, rfl⟩)
set_option maxHeartbeats 800000 in
theorem Sub_ok (a b c d e f g h : UInt64) (h1 : vQ a b c d < p25) (h2 : vQ e f g h < p25) :
 CtM Tryd.prog 38 [.w (.agg [.pl (.u64 a), .pl (.u64 b), .pl (.u64 c), .pl (.u64 d)]), .w (.agg [.pl (.u64 e), .pl (.u64 f), .pl (.u64 g), .pl (.u64 h)])] [(1000001, ⟨false, [.pl (.u64 18446744073709551597), .pl (.u64 18446744073709551615), .pl (.u64 18446744073709551615), .pl (.u64 9223372036854775807)]⟩)] (Told (fun v m => v = .tup [.agg (w4C ((vQ a b c d + p25 - vQ e f g h) % p25)), .one (.pl (.i 0))] ∧ m = [])) := by
 have hb := by_sub a b c d e f g h h1 h2 ((vQ a b c d + p25 - vQ e f g h) % p25) (Nat.mod_lt _ (by decide)) (sub_ a b c d e f g h h1 h2)
 obtain ⟨q0, q1, q2, q3, hq, hvq⟩ := w4_get ((vQ a b c d + p25 - vQ e f g h) % p25) (mod_m4 _)
 simp only [w4C, hq] at hb ⊢
 refine CtM.k Tryd.func38 rfl Tryd.ntmps38 (congrArg Array.toList Tryd.results38) (by simp) fun w0 ro may fx => ?_
 refine sr_k fun K1 hK1 => ?_
 simp only [go_sem, u64C]
 repeat' (first | apply And.intro | intro _)
 refine hK1 _ ?_
 refine sr_k fun K2 hK2 => ?_
 simp only [go_sem, u64C]
 repeat' (first | apply And.intro | intro _)
 all_goals (refine call_hand false [] (fun k => k) (fun _ _ => rfl) ?_ (by decide) ?_ hb.told ?_; iterate 2 (focus (first | rfl | (simp only [go_sem, u64C] <;> first | done | rfl | simp))))
 all_goals (rintro v m ⟨hR, hm⟩; subst hR; subst hm)
 all_goals (refine And.intro ?_ (And.intro ?_ (And.intro ?_ ?_)); iterate 3 (focus (first | rfl | (simp only [go_sem, u64C]; done) | (simp [go_sem, look, u64C]; done))))
 all_goals (try simp only [go_sem, u64C])
 all_goals (try simp only [go_sem, u64C])
 all_goals repeat' (first | apply And.intro | intro _)
 refine hK2 _ ?_
 refine ret_k ?_
 simp only [go_sem, u64C]
 all_goals (exact told_plain (by simp [plainV, plainW]) ⟨rfl, rfl⟩)
end Go.Sy

