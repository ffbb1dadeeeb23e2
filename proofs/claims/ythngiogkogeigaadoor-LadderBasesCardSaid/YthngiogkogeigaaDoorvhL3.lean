/- The ladder: two points changed about. -/
import Derived.Test.YthngiogkogeigaaDoorvhT
import Derived.Test.YthngiogkogeigaaDoorvE3
import Derived.Test.YthngiogkogeigaaDoorvQ1
set_option linter.unusedVariables false
set_option linter.unusedSimpArgs false
namespace Go.Sy
open Go.Proofs
attribute [local irreducible] atCall HT runOps runD onC onE onO onG goV goA goS onSt onGuard
theorem neg0 : (0 : UInt64) - 0 = 0 := rfl
theorem neg1 : (0 : UInt64) - 1 = 18446744073709551615 := rfl
theorem ones_and (x : UInt64) : 18446744073709551615 &&& x = x := by
 refine UInt64.toNat_inj.mp ?_
 rw [UInt64.toNat_and, Nat.and_comm]
 show x.toNat &&& (2 ^ 64 - 1) = x.toNat
 rw [Nat.and_two_pow_sub_one_eq_mod]; exact Nat.mod_eq_of_lt x.toNat_lt
theorem xor_l (x y : UInt64) : x ^^^ (x ^^^ y) = y := by rw [← UInt64.xor_assoc, UInt64.xor_self, UInt64.zero_xor]
theorem xor_r (x y : UInt64) : y ^^^ (x ^^^ y) = x := by rw [UInt64.xor_comm x y, ← UInt64.xor_assoc, UInt64.xor_self, UInt64.zero_xor]
set_option maxHeartbeats 3200000 in
set_option maxRecDepth 100000 in
theorem swap0 (x0 x1 x2 x3 y0 y1 y2 y3 z0 z1 z2 z3 v0 v1 v2 v3 : UInt64) :
 Ct Tryd.prog 12 [.w (.agg [.pl (.u64 x0), .pl (.u64 x1), .pl (.u64 x2), .pl (.u64 x3), .pl (.u64 y0), .pl (.u64 y1), .pl (.u64 y2), .pl (.u64 y3), .pl (.u64 z0), .pl (.u64 z1), .pl (.u64 z2), .pl (.u64 z3), .pl (.u64 v0), .pl (.u64 v1), .pl (.u64 v2), .pl (.u64 v3)]), .w (.one (.pl (.u64 0)))] (fun v m => v = .w (.agg [.pl (.u64 x0), .pl (.u64 x1), .pl (.u64 x2), .pl (.u64 x3), .pl (.u64 y0), .pl (.u64 y1), .pl (.u64 y2), .pl (.u64 y3), .pl (.u64 z0), .pl (.u64 z1), .pl (.u64 z2), .pl (.u64 z3), .pl (.u64 v0), .pl (.u64 v1), .pl (.u64 v2), .pl (.u64 v3)])) := by
 refine Ct.k Tryd.func12 rfl Tryd.ntmps12 (congrArg Array.toList Tryd.results12) (by simp) fun w0 ro => ?_
 refine sr_k fun K1 hK1 => ?_
 simp only [go_sem, neg0, UInt64.zero_and, UInt64.xor_zero]
 repeat' (first | apply And.intro | intro _)
 refine hK1 _ ?_
 refine sr_k fun K2 hK2 => ?_
 simp only [go_sem, neg0, UInt64.zero_and, UInt64.xor_zero]
 repeat' (first | apply And.intro | intro _)
 refine hK2 _ ?_
 refine seq_k fun N3 M3 hN3 hM3 => ?_
 refine sr_k fun K4 hK4 => ?_
 simp only [go_sem, neg0, UInt64.zero_and, UInt64.xor_zero]
 repeat' (first | apply And.intro | intro _)
 refine hK4 _ ?_
 refine block_k fun B5 bn5 bx5 br5 bi5 => ?_
 refine rounds_k 5 ?_
 refine rnd_k fun N7 M7 hN7 hM7 => ?_
 refine sr_k fun K8 hK8 => ?_
 simp only [go_sem, neg0, UInt64.zero_and, UInt64.xor_zero]
 repeat' (first | apply And.intro | intro _)
 refine hK8 _ ?_
 refine seq_k fun N9 M9 hN9 hM9 => ?_
 refine condT_k (by first | rfl | (simp [go_sem, neg0, UInt64.zero_and, UInt64.xor_zero]; done)) ?_
 refine skip_k ?_
 refine hN9 _ ?_
 refine seq_k fun N10 M10 hN10 hM10 => ?_
 refine block_k fun B11 bn11 bx11 br11 bi11 => ?_
 refine sr_k fun K12 hK12 => ?_
 simp only [go_sem, neg0, UInt64.zero_and, UInt64.xor_zero]
 repeat' (first | apply And.intro | intro _)
 refine hK12 _ ?_
 refine sd_k [14, 15, 16, 17, 18, 19, 20, 21, 22, 23, 24, 25, 26, 27, 28, 29, 30, 31, 32, 33, 34, 35, 36, 37, 38, 39, 7, 8] [0, 0, 0, 4, 14, 30, 0, 0, 128, 448, 960, 2046, 4095, 0, 0, 0, 32768, 114688, 245760, 0, 0, 1048576, 3670016, 7864320, 16760832, 33546240, 8191, 134217727] [] mixed (by kernel_rfl) (by simp only [go_sem]) fun K13 hK13 => ?_
 simp only [go_sem, neg0, UInt64.zero_and, UInt64.xor_zero]
 repeat' (first | apply And.intro | intro _)
 refine hK13 _ _ trivial ?_
 refine sr_k fun K14 hK14 => ?_
 simp only [go_sem, neg0, UInt64.zero_and, UInt64.xor_zero]
 repeat' (first | apply And.intro | intro _)
 refine hK14 _ ?_
 refine sr_k fun K15 hK15 => ?_
 simp only [go_sem, neg0, UInt64.zero_and, UInt64.xor_zero]
 repeat' (first | apply And.intro | intro _)
 refine hK15 _ ?_
 refine sr_k fun K16 hK16 => ?_
 simp only [go_sem, neg0, UInt64.zero_and, UInt64.xor_zero]
 repeat' (first | apply And.intro | intro _)
 refine hK16 _ ?_
 refine region_k fun K17 hK17 => ?_
 simp only [go_sem, neg0, UInt64.zero_and, UInt64.xor_zero]
 repeat' (first | apply And.intro | intro _)
 refine hK17 _ ?_
 refine bn11 _ ?_
 refine hN10 _ ?_
 refine region_k fun K18 hK18 => ?_
 simp only [go_sem, neg0, UInt64.zero_and, UInt64.xor_zero]
 repeat' (first | apply And.intro | intro _)
 refine hK18 _ ?_
 refine hN7 _ ?_
 refine rnd_forget [6, 7, 8, 12, 13, 14, 15, 16, 17, 18, 19, 20, 21, 22, 23, 24, 25, 26, 27, 28, 29, 30, 31, 32, 33, 34, 35, 36, 37, 38, 39, 40, 41, 42, 43, 44, 45, 46, 47, 48, 49, 50, 51, 52, 53, 54, 55, 56, 57, 58, 59, 60, 61, 62, 63, 64, 65, 66, 67, 68, 69, 70, 71, 72, 73, 74, 75, 76, 77, 78, 79, 80] ?_
 simp only [go_sem, St.forget, fgt]
 refine rnd_k fun N19 M19 hN19 hM19 => ?_
 refine sr_k fun K20 hK20 => ?_
 simp only [go_sem, neg0, UInt64.zero_and, UInt64.xor_zero]
 repeat' (first | apply And.intro | intro _)
 refine hK20 _ ?_
 refine seq_k fun N21 M21 hN21 hM21 => ?_
 refine condT_k (by first | rfl | (simp [go_sem, neg0, UInt64.zero_and, UInt64.xor_zero]; done)) ?_
 refine skip_k ?_
 refine hN21 _ ?_
 refine seq_k fun N22 M22 hN22 hM22 => ?_
 refine block_k fun B23 bn23 bx23 br23 bi23 => ?_
 refine sr_k fun K24 hK24 => ?_
 simp only [go_sem, neg0, UInt64.zero_and, UInt64.xor_zero]
 repeat' (first | apply And.intro | intro _)
 refine hK24 _ ?_
 refine sd_k [14, 15, 16, 17, 18, 19, 20, 21, 22, 23, 24, 25, 26, 27, 28, 29, 30, 31, 32, 33, 34, 35, 36, 37, 38, 39, 7, 8] [0, 0, 0, 4, 14, 30, 0, 0, 128, 448, 960, 2046, 4095, 0, 0, 0, 32768, 114688, 245760, 0, 0, 1048576, 3670016, 7864320, 16760832, 33546240, 8191, 134217727] [] mixed (by kernel_rfl) (by simp only [go_sem]) fun K25 hK25 => ?_
 simp only [go_sem, neg0, UInt64.zero_and, UInt64.xor_zero]
 repeat' (first | apply And.intro | intro _)
 refine hK25 _ _ trivial ?_
 refine sr_k fun K26 hK26 => ?_
 simp only [go_sem, neg0, UInt64.zero_and, UInt64.xor_zero]
 repeat' (first | apply And.intro | intro _)
 refine hK26 _ ?_
 refine sr_k fun K27 hK27 => ?_
 simp only [go_sem, neg0, UInt64.zero_and, UInt64.xor_zero]
 repeat' (first | apply And.intro | intro _)
 refine hK27 _ ?_
 refine sr_k fun K28 hK28 => ?_
 simp only [go_sem, neg0, UInt64.zero_and, UInt64.xor_zero]
 repeat' (first | apply And.intro | intro _)
 refine hK28 _ ?_
 refine region_k fun K29 hK29 => ?_
 simp only [go_sem, neg0, UInt64.zero_and, UInt64.xor_zero]
 repeat' (first | apply And.intro | intro _)
 refine hK29 _ ?_
 refine bn23 _ ?_
 refine hN22 _ ?_
 refine region_k fun K30 hK30 => ?_
 simp only [go_sem, neg0, UInt64.zero_and, UInt64.xor_zero]
 repeat' (first | apply And.intro | intro _)
 refine hK30 _ ?_
 refine hN19 _ ?_
 refine rnd_forget [6, 7, 8, 12, 13, 14, 15, 16, 17, 18, 19, 20, 21, 22, 23, 24, 25, 26, 27, 28, 29, 30, 31, 32, 33, 34, 35, 36, 37, 38, 39, 40, 41, 42, 43, 44, 45, 46, 47, 48, 49, 50, 51, 52, 53, 54, 55, 56, 57, 58, 59, 60, 61, 62, 63, 64, 65, 66, 67, 68, 69, 70, 71, 72, 73, 74, 75, 76, 77, 78, 79, 80] ?_
 simp only [go_sem, St.forget, fgt]
 refine rnd_k fun N31 M31 hN31 hM31 => ?_
 refine sr_k fun K32 hK32 => ?_
 simp only [go_sem, neg0, UInt64.zero_and, UInt64.xor_zero]
 repeat' (first | apply And.intro | intro _)
 refine hK32 _ ?_
 refine seq_k fun N33 M33 hN33 hM33 => ?_
 refine condT_k (by first | rfl | (simp [go_sem, neg0, UInt64.zero_and, UInt64.xor_zero]; done)) ?_
 refine skip_k ?_
 refine hN33 _ ?_
 refine seq_k fun N34 M34 hN34 hM34 => ?_
 refine block_k fun B35 bn35 bx35 br35 bi35 => ?_
 refine sr_k fun K36 hK36 => ?_
 simp only [go_sem, neg0, UInt64.zero_and, UInt64.xor_zero]
 repeat' (first | apply And.intro | intro _)
 refine hK36 _ ?_
 refine sd_k [14, 15, 16, 17, 18, 19, 20, 21, 22, 23, 24, 25, 26, 27, 28, 29, 30, 31, 32, 33, 34, 35, 36, 37, 38, 39, 7, 8] [0, 0, 0, 4, 14, 30, 0, 0, 128, 448, 960, 2046, 4095, 0, 0, 0, 32768, 114688, 245760, 0, 0, 1048576, 3670016, 7864320, 16760832, 33546240, 8191, 134217727] [] mixed (by kernel_rfl) (by simp only [go_sem]) fun K37 hK37 => ?_
 simp only [go_sem, neg0, UInt64.zero_and, UInt64.xor_zero]
 repeat' (first | apply And.intro | intro _)
 refine hK37 _ _ trivial ?_
 refine sr_k fun K38 hK38 => ?_
 simp only [go_sem, neg0, UInt64.zero_and, UInt64.xor_zero]
 repeat' (first | apply And.intro | intro _)
 refine hK38 _ ?_
 refine sr_k fun K39 hK39 => ?_
 simp only [go_sem, neg0, UInt64.zero_and, UInt64.xor_zero]
 repeat' (first | apply And.intro | intro _)
 refine hK39 _ ?_
 refine sr_k fun K40 hK40 => ?_
 simp only [go_sem, neg0, UInt64.zero_and, UInt64.xor_zero]
 repeat' (first | apply And.intro | intro _)
 refine hK40 _ ?_
 refine region_k fun K41 hK41 => ?_
 simp only [go_sem, neg0, UInt64.zero_and, UInt64.xor_zero]
 repeat' (first | apply And.intro | intro _)
 refine hK41 _ ?_
 refine bn35 _ ?_
 refine hN34 _ ?_
 refine region_k fun K42 hK42 => ?_
 simp only [go_sem, neg0, UInt64.zero_and, UInt64.xor_zero]
 repeat' (first | apply And.intro | intro _)
 refine hK42 _ ?_
 refine hN31 _ ?_
 refine rnd_forget [6, 7, 8, 12, 13, 14, 15, 16, 17, 18, 19, 20, 21, 22, 23, 24, 25, 26, 27, 28, 29, 30, 31, 32, 33, 34, 35, 36, 37, 38, 39, 40, 41, 42, 43, 44, 45, 46, 47, 48, 49, 50, 51, 52, 53, 54, 55, 56, 57, 58, 59, 60, 61, 62, 63, 64, 65, 66, 67, 68, 69, 70, 71, 72, 73, 74, 75, 76, 77, 78, 79, 80] ?_
 simp only [go_sem, St.forget, fgt]
 refine rnd_k fun N43 M43 hN43 hM43 => ?_
 refine sr_k fun K44 hK44 => ?_
 simp only [go_sem, neg0, UInt64.zero_and, UInt64.xor_zero]
 repeat' (first | apply And.intro | intro _)
 refine hK44 _ ?_
 refine seq_k fun N45 M45 hN45 hM45 => ?_
 refine condT_k (by first | rfl | (simp [go_sem, neg0, UInt64.zero_and, UInt64.xor_zero]; done)) ?_
 refine skip_k ?_
 refine hN45 _ ?_
 refine seq_k fun N46 M46 hN46 hM46 => ?_
 refine block_k fun B47 bn47 bx47 br47 bi47 => ?_
 refine sr_k fun K48 hK48 => ?_
 simp only [go_sem, neg0, UInt64.zero_and, UInt64.xor_zero]
 repeat' (first | apply And.intro | intro _)
 refine hK48 _ ?_
 refine sd_k [14, 15, 16, 17, 18, 19, 20, 21, 22, 23, 24, 25, 26, 27, 28, 29, 30, 31, 32, 33, 34, 35, 36, 37, 38, 39, 7, 8] [0, 0, 0, 4, 14, 30, 0, 0, 128, 448, 960, 2046, 4095, 0, 0, 0, 32768, 114688, 245760, 0, 0, 1048576, 3670016, 7864320, 16760832, 33546240, 8191, 134217727] [] mixed (by kernel_rfl) (by simp only [go_sem]) fun K49 hK49 => ?_
 simp only [go_sem, neg0, UInt64.zero_and, UInt64.xor_zero]
 repeat' (first | apply And.intro | intro _)
 refine hK49 _ _ trivial ?_
 refine sr_k fun K50 hK50 => ?_
 simp only [go_sem, neg0, UInt64.zero_and, UInt64.xor_zero]
 repeat' (first | apply And.intro | intro _)
 refine hK50 _ ?_
 refine sr_k fun K51 hK51 => ?_
 simp only [go_sem, neg0, UInt64.zero_and, UInt64.xor_zero]
 repeat' (first | apply And.intro | intro _)
 refine hK51 _ ?_
 refine sr_k fun K52 hK52 => ?_
 simp only [go_sem, neg0, UInt64.zero_and, UInt64.xor_zero]
 repeat' (first | apply And.intro | intro _)
 refine hK52 _ ?_
 refine region_k fun K53 hK53 => ?_
 simp only [go_sem, neg0, UInt64.zero_and, UInt64.xor_zero]
 repeat' (first | apply And.intro | intro _)
 refine hK53 _ ?_
 refine bn47 _ ?_
 refine hN46 _ ?_
 refine region_k fun K54 hK54 => ?_
 simp only [go_sem, neg0, UInt64.zero_and, UInt64.xor_zero]
 repeat' (first | apply And.intro | intro _)
 refine hK54 _ ?_
 refine hN43 _ ?_
 refine rnd_forget [6, 7, 8, 12, 13, 14, 15, 16, 17, 18, 19, 20, 21, 22, 23, 24, 25, 26, 27, 28, 29, 30, 31, 32, 33, 34, 35, 36, 37, 38, 39, 40, 41, 42, 43, 44, 45, 46, 47, 48, 49, 50, 51, 52, 53, 54, 55, 56, 57, 58, 59, 60, 61, 62, 63, 64, 65, 66, 67, 68, 69, 70, 71, 72, 73, 74, 75, 76, 77, 78, 79, 80] ?_
 simp only [go_sem, St.forget, fgt]
 refine rnd_k fun N55 M55 hN55 hM55 => ?_
 refine sr_k fun K56 hK56 => ?_
 simp only [go_sem, neg0, UInt64.zero_and, UInt64.xor_zero]
 repeat' (first | apply And.intro | intro _)
 refine hK56 _ ?_
 refine seq_k fun N57 M57 hN57 hM57 => ?_
 refine condF_k (by first | rfl | (simp [go_sem, neg0, UInt64.zero_and, UInt64.xor_zero]; done)) ?_
 refine exit_k ?_
 refine hM57 _ _ ?_
 refine hM55 _ _ ?_
 refine bx5 _ ?_
 refine hN3 _ ?_
 refine sr_k fun K58 hK58 => ?_
 simp only [go_sem, neg0, UInt64.zero_and, UInt64.xor_zero]
 repeat' (first | apply And.intro | intro _)
 refine hK58 _ ?_
 refine ret_k ?_
 simp only [go_sem, neg0, UInt64.zero_and, UInt64.xor_zero]
 all_goals (rfl)
set_option maxHeartbeats 3200000 in
set_option maxRecDepth 100000 in
theorem swap1 (x0 x1 x2 x3 y0 y1 y2 y3 z0 z1 z2 z3 v0 v1 v2 v3 : UInt64) :
 Ct Tryd.prog 12 [.w (.agg [.pl (.u64 x0), .pl (.u64 x1), .pl (.u64 x2), .pl (.u64 x3), .pl (.u64 y0), .pl (.u64 y1), .pl (.u64 y2), .pl (.u64 y3), .pl (.u64 z0), .pl (.u64 z1), .pl (.u64 z2), .pl (.u64 z3), .pl (.u64 v0), .pl (.u64 v1), .pl (.u64 v2), .pl (.u64 v3)]), .w (.one (.pl (.u64 1)))] (fun v m => v = .w (.agg [.pl (.u64 y0), .pl (.u64 y1), .pl (.u64 y2), .pl (.u64 y3), .pl (.u64 x0), .pl (.u64 x1), .pl (.u64 x2), .pl (.u64 x3), .pl (.u64 v0), .pl (.u64 v1), .pl (.u64 v2), .pl (.u64 v3), .pl (.u64 z0), .pl (.u64 z1), .pl (.u64 z2), .pl (.u64 z3)])) := by
 refine Ct.k Tryd.func12 rfl Tryd.ntmps12 (congrArg Array.toList Tryd.results12) (by simp) fun w0 ro => ?_
 refine sr_k fun K1 hK1 => ?_
 simp only [go_sem, neg1, ones_and, xor_l, xor_r]
 repeat' (first | apply And.intro | intro _)
 refine hK1 _ ?_
 refine sr_k fun K2 hK2 => ?_
 simp only [go_sem, neg1, ones_and, xor_l, xor_r]
 repeat' (first | apply And.intro | intro _)
 refine hK2 _ ?_
 refine seq_k fun N3 M3 hN3 hM3 => ?_
 refine sr_k fun K4 hK4 => ?_
 simp only [go_sem, neg1, ones_and, xor_l, xor_r]
 repeat' (first | apply And.intro | intro _)
 refine hK4 _ ?_
 refine block_k fun B5 bn5 bx5 br5 bi5 => ?_
 refine rounds_k 5 ?_
 refine rnd_k fun N7 M7 hN7 hM7 => ?_
 refine sr_k fun K8 hK8 => ?_
 simp only [go_sem, neg1, ones_and, xor_l, xor_r]
 repeat' (first | apply And.intro | intro _)
 refine hK8 _ ?_
 refine seq_k fun N9 M9 hN9 hM9 => ?_
 refine condT_k (by first | rfl | (simp [go_sem, neg1, ones_and, xor_l, xor_r]; done)) ?_
 refine skip_k ?_
 refine hN9 _ ?_
 refine seq_k fun N10 M10 hN10 hM10 => ?_
 refine block_k fun B11 bn11 bx11 br11 bi11 => ?_
 refine sr_k fun K12 hK12 => ?_
 simp only [go_sem, neg1, ones_and, xor_l, xor_r]
 repeat' (first | apply And.intro | intro _)
 refine hK12 _ ?_
 refine sd_k [14, 15, 16, 17, 18, 19, 20, 21, 22, 23, 24, 25, 26, 27, 28, 29, 30, 31, 32, 33, 34, 35, 36, 37, 38, 39, 7, 8] [0, 0, 0, 4, 14, 30, 0, 0, 128, 448, 960, 2046, 4095, 0, 0, 0, 32768, 114688, 245760, 0, 0, 1048576, 3670016, 7864320, 16760832, 33546240, 8191, 134217727] [] mixed (by kernel_rfl) (by simp only [go_sem]) fun K13 hK13 => ?_
 simp only [go_sem, neg1, ones_and, xor_l, xor_r]
 repeat' (first | apply And.intro | intro _)
 refine hK13 _ _ trivial ?_
 refine sr_k fun K14 hK14 => ?_
 simp only [go_sem, neg1, ones_and, xor_l, xor_r]
 repeat' (first | apply And.intro | intro _)
 refine hK14 _ ?_
 refine sr_k fun K15 hK15 => ?_
 simp only [go_sem, neg1, ones_and, xor_l, xor_r]
 repeat' (first | apply And.intro | intro _)
 refine hK15 _ ?_
 refine sr_k fun K16 hK16 => ?_
 simp only [go_sem, neg1, ones_and, xor_l, xor_r]
 repeat' (first | apply And.intro | intro _)
 refine hK16 _ ?_
 refine region_k fun K17 hK17 => ?_
 simp only [go_sem, neg1, ones_and, xor_l, xor_r]
 repeat' (first | apply And.intro | intro _)
 refine hK17 _ ?_
 refine bn11 _ ?_
 refine hN10 _ ?_
 refine region_k fun K18 hK18 => ?_
 simp only [go_sem, neg1, ones_and, xor_l, xor_r]
 repeat' (first | apply And.intro | intro _)
 refine hK18 _ ?_
 refine hN7 _ ?_
 refine rnd_forget [6, 7, 8, 12, 13, 14, 15, 16, 17, 18, 19, 20, 21, 22, 23, 24, 25, 26, 27, 28, 29, 30, 31, 32, 33, 34, 35, 36, 37, 38, 39, 40, 41, 42, 43, 44, 45, 46, 47, 48, 49, 50, 51, 52, 53, 54, 55, 56, 57, 58, 59, 60, 61, 62, 63, 64, 65, 66, 67, 68, 69, 70, 71, 72, 73, 74, 75, 76, 77, 78, 79, 80] ?_
 simp only [go_sem, St.forget, fgt]
 refine rnd_k fun N19 M19 hN19 hM19 => ?_
 refine sr_k fun K20 hK20 => ?_
 simp only [go_sem, neg1, ones_and, xor_l, xor_r]
 repeat' (first | apply And.intro | intro _)
 refine hK20 _ ?_
 refine seq_k fun N21 M21 hN21 hM21 => ?_
 refine condT_k (by first | rfl | (simp [go_sem, neg1, ones_and, xor_l, xor_r]; done)) ?_
 refine skip_k ?_
 refine hN21 _ ?_
 refine seq_k fun N22 M22 hN22 hM22 => ?_
 refine block_k fun B23 bn23 bx23 br23 bi23 => ?_
 refine sr_k fun K24 hK24 => ?_
 simp only [go_sem, neg1, ones_and, xor_l, xor_r]
 repeat' (first | apply And.intro | intro _)
 refine hK24 _ ?_
 refine sd_k [14, 15, 16, 17, 18, 19, 20, 21, 22, 23, 24, 25, 26, 27, 28, 29, 30, 31, 32, 33, 34, 35, 36, 37, 38, 39, 7, 8] [0, 0, 0, 4, 14, 30, 0, 0, 128, 448, 960, 2046, 4095, 0, 0, 0, 32768, 114688, 245760, 0, 0, 1048576, 3670016, 7864320, 16760832, 33546240, 8191, 134217727] [] mixed (by kernel_rfl) (by simp only [go_sem]) fun K25 hK25 => ?_
 simp only [go_sem, neg1, ones_and, xor_l, xor_r]
 repeat' (first | apply And.intro | intro _)
 refine hK25 _ _ trivial ?_
 refine sr_k fun K26 hK26 => ?_
 simp only [go_sem, neg1, ones_and, xor_l, xor_r]
 repeat' (first | apply And.intro | intro _)
 refine hK26 _ ?_
 refine sr_k fun K27 hK27 => ?_
 simp only [go_sem, neg1, ones_and, xor_l, xor_r]
 repeat' (first | apply And.intro | intro _)
 refine hK27 _ ?_
 refine sr_k fun K28 hK28 => ?_
 simp only [go_sem, neg1, ones_and, xor_l, xor_r]
 repeat' (first | apply And.intro | intro _)
 refine hK28 _ ?_
 refine region_k fun K29 hK29 => ?_
 simp only [go_sem, neg1, ones_and, xor_l, xor_r]
 repeat' (first | apply And.intro | intro _)
 refine hK29 _ ?_
 refine bn23 _ ?_
 refine hN22 _ ?_
 refine region_k fun K30 hK30 => ?_
 simp only [go_sem, neg1, ones_and, xor_l, xor_r]
 repeat' (first | apply And.intro | intro _)
 refine hK30 _ ?_
 refine hN19 _ ?_
 refine rnd_forget [6, 7, 8, 12, 13, 14, 15, 16, 17, 18, 19, 20, 21, 22, 23, 24, 25, 26, 27, 28, 29, 30, 31, 32, 33, 34, 35, 36, 37, 38, 39, 40, 41, 42, 43, 44, 45, 46, 47, 48, 49, 50, 51, 52, 53, 54, 55, 56, 57, 58, 59, 60, 61, 62, 63, 64, 65, 66, 67, 68, 69, 70, 71, 72, 73, 74, 75, 76, 77, 78, 79, 80] ?_
 simp only [go_sem, St.forget, fgt]
 refine rnd_k fun N31 M31 hN31 hM31 => ?_
 refine sr_k fun K32 hK32 => ?_
 simp only [go_sem, neg1, ones_and, xor_l, xor_r]
 repeat' (first | apply And.intro | intro _)
 refine hK32 _ ?_
 refine seq_k fun N33 M33 hN33 hM33 => ?_
 refine condT_k (by first | rfl | (simp [go_sem, neg1, ones_and, xor_l, xor_r]; done)) ?_
 refine skip_k ?_
 refine hN33 _ ?_
 refine seq_k fun N34 M34 hN34 hM34 => ?_
 refine block_k fun B35 bn35 bx35 br35 bi35 => ?_
 refine sr_k fun K36 hK36 => ?_
 simp only [go_sem, neg1, ones_and, xor_l, xor_r]
 repeat' (first | apply And.intro | intro _)
 refine hK36 _ ?_
 refine sd_k [14, 15, 16, 17, 18, 19, 20, 21, 22, 23, 24, 25, 26, 27, 28, 29, 30, 31, 32, 33, 34, 35, 36, 37, 38, 39, 7, 8] [0, 0, 0, 4, 14, 30, 0, 0, 128, 448, 960, 2046, 4095, 0, 0, 0, 32768, 114688, 245760, 0, 0, 1048576, 3670016, 7864320, 16760832, 33546240, 8191, 134217727] [] mixed (by kernel_rfl) (by simp only [go_sem]) fun K37 hK37 => ?_
 simp only [go_sem, neg1, ones_and, xor_l, xor_r]
 repeat' (first | apply And.intro | intro _)
 refine hK37 _ _ trivial ?_
 refine sr_k fun K38 hK38 => ?_
 simp only [go_sem, neg1, ones_and, xor_l, xor_r]
 repeat' (first | apply And.intro | intro _)
 refine hK38 _ ?_
 refine sr_k fun K39 hK39 => ?_
 simp only [go_sem, neg1, ones_and, xor_l, xor_r]
 repeat' (first | apply And.intro | intro _)
 refine hK39 _ ?_
 refine sr_k fun K40 hK40 => ?_
 simp only [go_sem, neg1, ones_and, xor_l, xor_r]
 repeat' (first | apply And.intro | intro _)
 refine hK40 _ ?_
 refine region_k fun K41 hK41 => ?_
 simp only [go_sem, neg1, ones_and, xor_l, xor_r]
 repeat' (first | apply And.intro | intro _)
 refine hK41 _ ?_
 refine bn35 _ ?_
 refine hN34 _ ?_
 refine region_k fun K42 hK42 => ?_
 simp only [go_sem, neg1, ones_and, xor_l, xor_r]
 repeat' (first | apply And.intro | intro _)
 refine hK42 _ ?_
 refine hN31 _ ?_
 refine rnd_forget [6, 7, 8, 12, 13, 14, 15, 16, 17, 18, 19, 20, 21, 22, 23, 24, 25, 26, 27, 28, 29, 30, 31, 32, 33, 34, 35, 36, 37, 38, 39, 40, 41, 42, 43, 44, 45, 46, 47, 48, 49, 50, 51, 52, 53, 54, 55, 56, 57, 58, 59, 60, 61, 62, 63, 64, 65, 66, 67, 68, 69, 70, 71, 72, 73, 74, 75, 76, 77, 78, 79, 80] ?_
 simp only [go_sem, St.forget, fgt]
 refine rnd_k fun N43 M43 hN43 hM43 => ?_
 refine sr_k fun K44 hK44 => ?_
 simp only [go_sem, neg1, ones_and, xor_l, xor_r]
 repeat' (first | apply And.intro | intro _)
 refine hK44 _ ?_
 refine seq_k fun N45 M45 hN45 hM45 => ?_
 refine condT_k (by first | rfl | (simp [go_sem, neg1, ones_and, xor_l, xor_r]; done)) ?_
 refine skip_k ?_
 refine hN45 _ ?_
 refine seq_k fun N46 M46 hN46 hM46 => ?_
 refine block_k fun B47 bn47 bx47 br47 bi47 => ?_
 refine sr_k fun K48 hK48 => ?_
 simp only [go_sem, neg1, ones_and, xor_l, xor_r]
 repeat' (first | apply And.intro | intro _)
 refine hK48 _ ?_
 refine sd_k [14, 15, 16, 17, 18, 19, 20, 21, 22, 23, 24, 25, 26, 27, 28, 29, 30, 31, 32, 33, 34, 35, 36, 37, 38, 39, 7, 8] [0, 0, 0, 4, 14, 30, 0, 0, 128, 448, 960, 2046, 4095, 0, 0, 0, 32768, 114688, 245760, 0, 0, 1048576, 3670016, 7864320, 16760832, 33546240, 8191, 134217727] [] mixed (by kernel_rfl) (by simp only [go_sem]) fun K49 hK49 => ?_
 simp only [go_sem, neg1, ones_and, xor_l, xor_r]
 repeat' (first | apply And.intro | intro _)
 refine hK49 _ _ trivial ?_
 refine sr_k fun K50 hK50 => ?_
 simp only [go_sem, neg1, ones_and, xor_l, xor_r]
 repeat' (first | apply And.intro | intro _)
 refine hK50 _ ?_
 refine sr_k fun K51 hK51 => ?_
 simp only [go_sem, neg1, ones_and, xor_l, xor_r]
 repeat' (first | apply And.intro | intro _)
 refine hK51 _ ?_
 refine sr_k fun K52 hK52 => ?_
 simp only [go_sem, neg1, ones_and, xor_l, xor_r]
 repeat' (first | apply And.intro | intro _)
 refine hK52 _ ?_
 refine region_k fun K53 hK53 => ?_
 simp only [go_sem, neg1, ones_and, xor_l, xor_r]
 repeat' (first | apply And.intro | intro _)
 refine hK53 _ ?_
 refine bn47 _ ?_
 refine hN46 _ ?_
 refine region_k fun K54 hK54 => ?_
 simp only [go_sem, neg1, ones_and, xor_l, xor_r]
 repeat' (first | apply And.intro | intro _)
 refine hK54 _ ?_
 refine hN43 _ ?_
 refine rnd_forget [6, 7, 8, 12, 13, 14, 15, 16, 17, 18, 19, 20, 21, 22, 23, 24, 25, 26, 27, 28, 29, 30, 31, 32, 33, 34, 35, 36, 37, 38, 39, 40, 41, 42, 43, 44, 45, 46, 47, 48, 49, 50, 51, 52, 53, 54, 55, 56, 57, 58, 59, 60, 61, 62, 63, 64, 65, 66, 67, 68, 69, 70, 71, 72, 73, 74, 75, 76, 77, 78, 79, 80] ?_
 simp only [go_sem, St.forget, fgt]
 refine rnd_k fun N55 M55 hN55 hM55 => ?_
 refine sr_k fun K56 hK56 => ?_
 simp only [go_sem, neg1, ones_and, xor_l, xor_r]
 repeat' (first | apply And.intro | intro _)
 refine hK56 _ ?_
 refine seq_k fun N57 M57 hN57 hM57 => ?_
 refine condF_k (by first | rfl | (simp [go_sem, neg1, ones_and, xor_l, xor_r]; done)) ?_
 refine exit_k ?_
 refine hM57 _ _ ?_
 refine hM55 _ _ ?_
 refine bx5 _ ?_
 refine hN3 _ ?_
 refine sr_k fun K58 hK58 => ?_
 simp only [go_sem, neg1, ones_and, xor_l, xor_r]
 repeat' (first | apply And.intro | intro _)
 refine hK58 _ ?_
 refine ret_k ?_
 simp only [go_sem, neg1, ones_and, xor_l, xor_r]
 all_goals (rfl)
end Go.Sy

