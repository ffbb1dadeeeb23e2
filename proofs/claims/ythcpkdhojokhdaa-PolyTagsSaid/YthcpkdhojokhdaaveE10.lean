/- Walks: three words by two, below the prime. -/
import Derived.Test.YthcpkdhojokhdaaveE9
set_option linter.unusedVariables false
set_option linter.unusedSimpArgs false
namespace Go.Sy
open Go.Proofs
attribute [local irreducible] atCall HT runOps runD onC onE onO onG goV goA goS onSt onGuard
theorem st_L (x y w k : UInt64) : adS (adS (x * y) w 0) k 0 = stL x y w k := rfl
theorem st_K (x y w k : UInt64) : mulH x y + adC (x * y) w 0 + adC (adS (x * y) w 0) k 0 = stK x y w k := rfl
def lowN (a : T3) (r0 r1 : UInt64) : Nat → T3
 | 0 => lowT a r0 r1
 | k + 1 => (lowN a r0 r1 k).plus (highT a r0 r1)
theorem lowN5 (a : T3) (r0 r1 : UInt64) : lowN a r0 r1 5 = low5 a r0 r1 := rfl
def cutN (t : T3) : Nat → T3
 | 0 => t
 | _ + 1 => cut3 t
set_option maxHeartbeats 3200000 in
set_option maxRecDepth 100000 in
theorem times_ (a : T3) (r0 r1 : UInt64) (ha : a.val < 2722258935367507707706996859454145691648) (hr : r1.toNat < 1152921504606846976) :
 Ct Try.prog 61 [.w (.agg (W3 a.a a.b a.c)), .w (.agg [.pl (.u64 r0), .pl (.u64 r1)])] (fun v m => v = .w (.agg (W3 (timesT a r0 r1).a (timesT a r0 r1).b (timesT a r0 r1).c))) := by
 have f0 : stK a.a r0 0 0 = k00 a r0 r1 := rfl
 have f1 : stL a.a r0 0 0 = q0 a r0 r1 := rfl
 have f2 : stK a.a r1 0 (k00 a r0 r1) = k01 a r0 r1 := rfl
 have f3 : stL a.a r1 0 (k00 a r0 r1) = w01 a r0 r1 := rfl
 have f4 : stL a.b r0 (w01 a r0 r1) 0 = q1 a r0 r1 := rfl
 have f5 : stK a.b r0 (w01 a r0 r1) 0 = k10 a r0 r1 := rfl
 have f6 : stL a.b r1 (k01 a r0 r1) (k10 a r0 r1) = w12 a r0 r1 := rfl
 have f7 : stK a.b r1 (k01 a r0 r1) (k10 a r0 r1) = k11 a r0 r1 := rfl
 have f8 : stL a.c r0 (w12 a r0 r1) 0 = q2 a r0 r1 := rfl
 have f9 : stK a.c r0 (w12 a r0 r1) 0 = k20 a r0 r1 := rfl
 have f10 : stL a.c r1 (k11 a r0 r1) (k20 a r0 r1) = q3 a r0 r1 := rfl
 have f11 : stK a.c r1 (k11 a r0 r1) (k20 a r0 r1) = q4 a r0 r1 := rfl
 have F0 := And.intro f0 <| And.intro f1 <| And.intro f2 <| And.intro f3 <| And.intro f4 <| And.intro f5 <| And.intro f6 <| And.intro f7 <| And.intro f8 <| And.intro f9 <| And.intro f10 <| f11
 refine Ct.k Try.func61 rfl Try.ntmps61 (congrArg Array.toList Try.results61) (by simp) fun w0 ro => ?_
 refine sr_k fun K1 hK1 => ?_
 simp only [go_sem, st_L, st_K, W3, Int.toNat_one, F0]
 all_goals repeat' (first | apply And.intro | intro _)
 refine hK1 _ ?_
 refine sr_k fun K2 hK2 => ?_
 simp only [go_sem, st_L, st_K, W3, Int.toNat_one, F0]
 all_goals repeat' (first | apply And.intro | intro _)
 refine hK2 _ ?_
 refine seq_k fun N3 M3 hN3 hM3 => ?_
 refine sr_k fun K4 hK4 => ?_
 simp only [go_sem, st_L, st_K, W3, Int.toNat_one, F0]
 all_goals repeat' (first | apply And.intro | intro _)
 refine hK4 _ ?_
 refine block_k fun B5 bn5 bx5 br5 bi5 => ?_
 refine rounds_k 4 ?_
 refine rnd_k fun N7 M7 hN7 hM7 => ?_
 refine sr_k fun K8 hK8 => ?_
 simp only [go_sem, st_L, st_K, W3, Int.toNat_one, F0]
 all_goals repeat' (first | apply And.intro | intro _)
 refine hK8 _ ?_
 refine seq_k fun N9 M9 hN9 hM9 => ?_
 refine condT_k (by first | rfl | (simp [go_sem, st_L, st_K, W3, Int.toNat_one, F0]; done)) ?_
 refine skip_k ?_
 refine hN9 _ ?_
 refine seq_k fun N10 M10 hN10 hM10 => ?_
 refine block_k fun B11 bn11 bx11 br11 bi11 => ?_
 refine sr_k fun K12 hK12 => ?_
 simp only [go_sem, st_L, st_K, W3, Int.toNat_one, F0]
 all_goals repeat' (first | apply And.intro | intro _)
 refine hK12 _ ?_
 refine sr_k fun K13 hK13 => ?_
 simp only [go_sem, st_L, st_K, W3, Int.toNat_one, F0]
 all_goals repeat' (first | apply And.intro | intro _)
 refine hK13 _ ?_
 refine seq_k fun N14 M14 hN14 hM14 => ?_
 refine sr_k fun K15 hK15 => ?_
 simp only [go_sem, st_L, st_K, W3, Int.toNat_one, F0]
 all_goals repeat' (first | apply And.intro | intro _)
 refine hK15 _ ?_
 refine block_k fun B16 bn16 bx16 br16 bi16 => ?_
 refine rounds_k 3 ?_
 refine rnd_k fun N18 M18 hN18 hM18 => ?_
 refine sr_k fun K19 hK19 => ?_
 simp only [go_sem, st_L, st_K, W3, Int.toNat_one, F0]
 all_goals repeat' (first | apply And.intro | intro _)
 refine hK19 _ ?_
 refine seq_k fun N20 M20 hN20 hM20 => ?_
 refine condT_k (by first | rfl | (simp [go_sem, st_L, st_K, W3, Int.toNat_one, F0]; done)) ?_
 refine skip_k ?_
 refine hN20 _ ?_
 refine seq_k fun N21 M21 hN21 hM21 => ?_
 refine block_k fun B22 bn22 bx22 br22 bi22 => ?_
 refine sr_k fun K23 hK23 => ?_
 simp only [go_sem, st_L, st_K, W3, Int.toNat_one, F0]
 all_goals repeat' (first | apply And.intro | intro _)
 refine hK23 _ ?_
 refine sr_k fun K24 hK24 => ?_
 simp only [go_sem, st_L, st_K, W3, Int.toNat_one, F0]
 all_goals repeat' (first | apply And.intro | intro _)
 all_goals refine call_view (fun k => k) (fun _ _ => rfl) (by first | rfl | (simp only [go_sem, st_L, st_K, W3, Int.toNat_one, F0]; rfl) | simp only [go_sem, st_L, st_K, W3, Int.toNat_one, F0]) ((mul64 _ _).plain fun _ _ h => h) ?_
 all_goals (rintro v m ⟨hR, hm⟩; subst hR; subst hm)
 all_goals refine And.intro (by first | rfl | simp only [go_sem, st_L, st_K, W3, Int.toNat_one, F0]) (And.intro (by first | rfl | simp only [go_sem, st_L, st_K, W3, Int.toNat_one, F0]) ?_)
 all_goals simp only [go_sem, st_L, st_K, W3, Int.toNat_one, F0]
 all_goals repeat' (first | apply And.intro | intro _)
 refine hK24 _ ?_
 refine sr_k fun K25 hK25 => ?_
 simp only [go_sem, st_L, st_K, W3, Int.toNat_one, F0]
 all_goals repeat' (first | apply And.intro | intro _)
 all_goals refine call_now (by first | rfl | (simp only [go_sem, st_L, st_K, W3, Int.toNat_one, F0]; rfl) | simp only [go_sem, st_L, st_K, W3, Int.toNat_one, F0]) (now_add64 _ _ _ (by first | decide | exact (ad_val _ _ (by decide)).2 | exact (ad_val _ _ ((ad_val _ _ (by decide)).2)).2)) ?_
 all_goals simp only [go_sem, st_L, st_K, W3, Int.toNat_one, F0]
 all_goals repeat' (first | apply And.intro | intro _)
 refine hK25 _ ?_
 refine sr_k fun K26 hK26 => ?_
 simp only [go_sem, st_L, st_K, W3, Int.toNat_one, F0]
 all_goals repeat' (first | apply And.intro | intro _)
 refine hK26 _ ?_
 refine sr_k fun K27 hK27 => ?_
 simp only [go_sem, st_L, st_K, W3, Int.toNat_one, F0]
 all_goals repeat' (first | apply And.intro | intro _)
 all_goals refine call_now (by first | rfl | (simp only [go_sem, st_L, st_K, W3, Int.toNat_one, F0]; rfl) | simp only [go_sem, st_L, st_K, W3, Int.toNat_one, F0]) (now_add64 _ _ _ (by first | decide | exact (ad_val _ _ (by decide)).2 | exact (ad_val _ _ ((ad_val _ _ (by decide)).2)).2)) ?_
 all_goals simp only [go_sem, st_L, st_K, W3, Int.toNat_one, F0]
 all_goals repeat' (first | apply And.intro | intro _)
 refine hK27 _ ?_
 refine region_k fun K28 hK28 => ?_
 simp only [go_sem, st_L, st_K, W3, Int.toNat_one, F0]
 all_goals repeat' (first | apply And.intro | intro _)
 refine hK28 _ ?_
 refine bn22 _ ?_
 refine hN21 _ ?_
 refine region_k fun K29 hK29 => ?_
 simp only [go_sem, st_L, st_K, W3, Int.toNat_one, F0]
 all_goals repeat' (first | apply And.intro | intro _)
 refine hK29 _ ?_
 refine hN18 _ ?_
 refine rnd_forget [9, 10, 11, 12, 13, 25, 26, 27, 28, 29, 30, 31, 32, 33, 34, 35, 36, 37, 38, 39, 40, 41, 42, 43, 44, 45, 46, 47, 48, 49, 50, 51, 52, 53, 54, 55, 56, 57, 58, 59, 60, 61] ?_
 simp only [go_sem, St.forget, fgt]
 refine rnd_k fun N30 M30 hN30 hM30 => ?_
 refine sr_k fun K31 hK31 => ?_
 simp only [go_sem, st_L, st_K, W3, Int.toNat_one, F0]
 all_goals repeat' (first | apply And.intro | intro _)
 refine hK31 _ ?_
 refine seq_k fun N32 M32 hN32 hM32 => ?_
 refine condT_k (by first | rfl | (simp [go_sem, st_L, st_K, W3, Int.toNat_one, F0]; done)) ?_
 refine skip_k ?_
 refine hN32 _ ?_
 refine seq_k fun N33 M33 hN33 hM33 => ?_
 refine block_k fun B34 bn34 bx34 br34 bi34 => ?_
 refine sr_k fun K35 hK35 => ?_
 simp only [go_sem, st_L, st_K, W3, Int.toNat_one, F0]
 all_goals repeat' (first | apply And.intro | intro _)
 refine hK35 _ ?_
 refine sr_k fun K36 hK36 => ?_
 simp only [go_sem, st_L, st_K, W3, Int.toNat_one, F0]
 all_goals repeat' (first | apply And.intro | intro _)
 all_goals refine call_view (fun k => k) (fun _ _ => rfl) (by first | rfl | (simp only [go_sem, st_L, st_K, W3, Int.toNat_one, F0]; rfl) | simp only [go_sem, st_L, st_K, W3, Int.toNat_one, F0]) ((mul64 _ _).plain fun _ _ h => h) ?_
 all_goals (rintro v m ⟨hR, hm⟩; subst hR; subst hm)
 all_goals refine And.intro (by first | rfl | simp only [go_sem, st_L, st_K, W3, Int.toNat_one, F0]) (And.intro (by first | rfl | simp only [go_sem, st_L, st_K, W3, Int.toNat_one, F0]) ?_)
 all_goals simp only [go_sem, st_L, st_K, W3, Int.toNat_one, F0]
 all_goals repeat' (first | apply And.intro | intro _)
 refine hK36 _ ?_
 refine sr_k fun K37 hK37 => ?_
 simp only [go_sem, st_L, st_K, W3, Int.toNat_one, F0]
 all_goals repeat' (first | apply And.intro | intro _)
 all_goals refine call_now (by first | rfl | (simp only [go_sem, st_L, st_K, W3, Int.toNat_one, F0]; rfl) | simp only [go_sem, st_L, st_K, W3, Int.toNat_one, F0]) (now_add64 _ _ _ (by first | decide | exact (ad_val _ _ (by decide)).2 | exact (ad_val _ _ ((ad_val _ _ (by decide)).2)).2)) ?_
 all_goals simp only [go_sem, st_L, st_K, W3, Int.toNat_one, F0]
 all_goals repeat' (first | apply And.intro | intro _)
 refine hK37 _ ?_
 refine sr_k fun K38 hK38 => ?_
 simp only [go_sem, st_L, st_K, W3, Int.toNat_one, F0]
 all_goals repeat' (first | apply And.intro | intro _)
 refine hK38 _ ?_
 refine sr_k fun K39 hK39 => ?_
 simp only [go_sem, st_L, st_K, W3, Int.toNat_one, F0]
 all_goals repeat' (first | apply And.intro | intro _)
 all_goals refine call_now (by first | rfl | (simp only [go_sem, st_L, st_K, W3, Int.toNat_one, F0]; rfl) | simp only [go_sem, st_L, st_K, W3, Int.toNat_one, F0]) (now_add64 _ _ _ (by first | decide | exact (ad_val _ _ (by decide)).2 | exact (ad_val _ _ ((ad_val _ _ (by decide)).2)).2)) ?_
 all_goals simp only [go_sem, st_L, st_K, W3, Int.toNat_one, F0]
 all_goals repeat' (first | apply And.intro | intro _)
 refine hK39 _ ?_
 refine region_k fun K40 hK40 => ?_
 simp only [go_sem, st_L, st_K, W3, Int.toNat_one, F0]
 all_goals repeat' (first | apply And.intro | intro _)
 refine hK40 _ ?_
 refine bn34 _ ?_
 refine hN33 _ ?_
 refine region_k fun K41 hK41 => ?_
 simp only [go_sem, st_L, st_K, W3, Int.toNat_one, F0]
 all_goals repeat' (first | apply And.intro | intro _)
 refine hK41 _ ?_
 refine hN30 _ ?_
 refine rnd_forget [9, 10, 11, 12, 13, 25, 26, 27, 28, 29, 30, 31, 32, 33, 34, 35, 36, 37, 38, 39, 40, 41, 42, 43, 44, 45, 46, 47, 48, 49, 50, 51, 52, 53, 54, 55, 56, 57, 58, 59, 60, 61] ?_
 simp only [go_sem, St.forget, fgt]
 refine rnd_k fun N42 M42 hN42 hM42 => ?_
 refine sr_k fun K43 hK43 => ?_
 simp only [go_sem, st_L, st_K, W3, Int.toNat_one, F0]
 all_goals repeat' (first | apply And.intro | intro _)
 refine hK43 _ ?_
 refine seq_k fun N44 M44 hN44 hM44 => ?_
 refine condF_k (by first | rfl | (simp [go_sem, st_L, st_K, W3, Int.toNat_one, F0]; done)) ?_
 refine exit_k ?_
 refine hM44 _ _ ?_
 refine hM42 _ _ ?_
 refine bx16 _ ?_
 refine hN14 _ ?_
 refine region_k fun K45 hK45 => ?_
 simp only [go_sem, st_L, st_K, W3, Int.toNat_one, F0]
 all_goals repeat' (first | apply And.intro | intro _)
 refine hK45 _ ?_
 refine bn11 _ ?_
 refine hN10 _ ?_
 refine region_k fun K46 hK46 => ?_
 simp only [go_sem, st_L, st_K, W3, Int.toNat_one, F0]
 all_goals repeat' (first | apply And.intro | intro _)
 refine hK46 _ ?_
 refine hN7 _ ?_
 refine rnd_forget [6, 7, 8, 9, 10, 11, 12, 13, 20, 21, 22, 23, 24, 25, 26, 27, 28, 29, 30, 31, 32, 33, 34, 35, 36, 37, 38, 39, 40, 41, 42, 43, 44, 45, 46, 47, 48, 49, 50, 51, 52, 53, 54, 55, 56, 57, 58, 59, 60, 61, 62, 63, 64, 65, 66] ?_
 simp only [go_sem, St.forget, fgt]
 refine rnd_k fun N47 M47 hN47 hM47 => ?_
 refine sr_k fun K48 hK48 => ?_
 simp only [go_sem, st_L, st_K, W3, Int.toNat_one, F0]
 all_goals repeat' (first | apply And.intro | intro _)
 refine hK48 _ ?_
 refine seq_k fun N49 M49 hN49 hM49 => ?_
 refine condT_k (by first | rfl | (simp [go_sem, st_L, st_K, W3, Int.toNat_one, F0]; done)) ?_
 refine skip_k ?_
 refine hN49 _ ?_
 refine seq_k fun N50 M50 hN50 hM50 => ?_
 refine block_k fun B51 bn51 bx51 br51 bi51 => ?_
 refine sr_k fun K52 hK52 => ?_
 simp only [go_sem, st_L, st_K, W3, Int.toNat_one, F0]
 all_goals repeat' (first | apply And.intro | intro _)
 refine hK52 _ ?_
 refine sr_k fun K53 hK53 => ?_
 simp only [go_sem, st_L, st_K, W3, Int.toNat_one, F0]
 all_goals repeat' (first | apply And.intro | intro _)
 refine hK53 _ ?_
 refine seq_k fun N54 M54 hN54 hM54 => ?_
 refine sr_k fun K55 hK55 => ?_
 simp only [go_sem, st_L, st_K, W3, Int.toNat_one, F0]
 all_goals repeat' (first | apply And.intro | intro _)
 refine hK55 _ ?_
 refine block_k fun B56 bn56 bx56 br56 bi56 => ?_
 refine rounds_k 3 ?_
 refine rnd_k fun N58 M58 hN58 hM58 => ?_
 refine sr_k fun K59 hK59 => ?_
 simp only [go_sem, st_L, st_K, W3, Int.toNat_one, F0]
 all_goals repeat' (first | apply And.intro | intro _)
 refine hK59 _ ?_
 refine seq_k fun N60 M60 hN60 hM60 => ?_
 refine condT_k (by first | rfl | (simp [go_sem, st_L, st_K, W3, Int.toNat_one, F0]; done)) ?_
 refine skip_k ?_
 refine hN60 _ ?_
 refine seq_k fun N61 M61 hN61 hM61 => ?_
 refine block_k fun B62 bn62 bx62 br62 bi62 => ?_
 refine sr_k fun K63 hK63 => ?_
 simp only [go_sem, st_L, st_K, W3, Int.toNat_one, F0]
 all_goals repeat' (first | apply And.intro | intro _)
 refine hK63 _ ?_
 refine sr_k fun K64 hK64 => ?_
 simp only [go_sem, st_L, st_K, W3, Int.toNat_one, F0]
 all_goals repeat' (first | apply And.intro | intro _)
 all_goals refine call_view (fun k => k) (fun _ _ => rfl) (by first | rfl | (simp only [go_sem, st_L, st_K, W3, Int.toNat_one, F0]; rfl) | simp only [go_sem, st_L, st_K, W3, Int.toNat_one, F0]) ((mul64 _ _).plain fun _ _ h => h) ?_
 all_goals (rintro v m ⟨hR, hm⟩; subst hR; subst hm)
 all_goals refine And.intro (by first | rfl | simp only [go_sem, st_L, st_K, W3, Int.toNat_one, F0]) (And.intro (by first | rfl | simp only [go_sem, st_L, st_K, W3, Int.toNat_one, F0]) ?_)
 all_goals simp only [go_sem, st_L, st_K, W3, Int.toNat_one, F0]
 all_goals repeat' (first | apply And.intro | intro _)
 refine hK64 _ ?_
 refine sr_k fun K65 hK65 => ?_
 simp only [go_sem, st_L, st_K, W3, Int.toNat_one, F0]
 all_goals repeat' (first | apply And.intro | intro _)
 all_goals refine call_now (by first | rfl | (simp only [go_sem, st_L, st_K, W3, Int.toNat_one, F0]; rfl) | simp only [go_sem, st_L, st_K, W3, Int.toNat_one, F0]) (now_add64 _ _ _ (by first | decide | exact (ad_val _ _ (by decide)).2 | exact (ad_val _ _ ((ad_val _ _ (by decide)).2)).2)) ?_
 all_goals simp only [go_sem, st_L, st_K, W3, Int.toNat_one, F0]
 all_goals repeat' (first | apply And.intro | intro _)
 refine hK65 _ ?_
 refine sr_k fun K66 hK66 => ?_
 simp only [go_sem, st_L, st_K, W3, Int.toNat_one, F0]
 all_goals repeat' (first | apply And.intro | intro _)
 refine hK66 _ ?_
 refine sr_k fun K67 hK67 => ?_
 simp only [go_sem, st_L, st_K, W3, Int.toNat_one, F0]
 all_goals repeat' (first | apply And.intro | intro _)
 all_goals refine call_now (by first | rfl | (simp only [go_sem, st_L, st_K, W3, Int.toNat_one, F0]; rfl) | simp only [go_sem, st_L, st_K, W3, Int.toNat_one, F0]) (now_add64 _ _ _ (by first | decide | exact (ad_val _ _ (by decide)).2 | exact (ad_val _ _ ((ad_val _ _ (by decide)).2)).2)) ?_
 all_goals simp only [go_sem, st_L, st_K, W3, Int.toNat_one, F0]
 all_goals repeat' (first | apply And.intro | intro _)
 refine hK67 _ ?_
 refine region_k fun K68 hK68 => ?_
 simp only [go_sem, st_L, st_K, W3, Int.toNat_one, F0]
 all_goals repeat' (first | apply And.intro | intro _)
 refine hK68 _ ?_
 refine bn62 _ ?_
 refine hN61 _ ?_
 refine region_k fun K69 hK69 => ?_
 simp only [go_sem, st_L, st_K, W3, Int.toNat_one, F0]
 all_goals repeat' (first | apply And.intro | intro _)
 refine hK69 _ ?_
 refine hN58 _ ?_
 refine rnd_forget [9, 10, 11, 12, 13, 25, 26, 27, 28, 29, 30, 31, 32, 33, 34, 35, 36, 37, 38, 39, 40, 41, 42, 43, 44, 45, 46, 47, 48, 49, 50, 51, 52, 53, 54, 55, 56, 57, 58, 59, 60, 61] ?_
 simp only [go_sem, St.forget, fgt]
 refine rnd_k fun N70 M70 hN70 hM70 => ?_
 refine sr_k fun K71 hK71 => ?_
 simp only [go_sem, st_L, st_K, W3, Int.toNat_one, F0]
 all_goals repeat' (first | apply And.intro | intro _)
 refine hK71 _ ?_
 refine seq_k fun N72 M72 hN72 hM72 => ?_
 refine condT_k (by first | rfl | (simp [go_sem, st_L, st_K, W3, Int.toNat_one, F0]; done)) ?_
 refine skip_k ?_
 refine hN72 _ ?_
 refine seq_k fun N73 M73 hN73 hM73 => ?_
 refine block_k fun B74 bn74 bx74 br74 bi74 => ?_
 refine sr_k fun K75 hK75 => ?_
 simp only [go_sem, st_L, st_K, W3, Int.toNat_one, F0]
 all_goals repeat' (first | apply And.intro | intro _)
 refine hK75 _ ?_
 refine sr_k fun K76 hK76 => ?_
 simp only [go_sem, st_L, st_K, W3, Int.toNat_one, F0]
 all_goals repeat' (first | apply And.intro | intro _)
 all_goals refine call_view (fun k => k) (fun _ _ => rfl) (by first | rfl | (simp only [go_sem, st_L, st_K, W3, Int.toNat_one, F0]; rfl) | simp only [go_sem, st_L, st_K, W3, Int.toNat_one, F0]) ((mul64 _ _).plain fun _ _ h => h) ?_
 all_goals (rintro v m ⟨hR, hm⟩; subst hR; subst hm)
 all_goals refine And.intro (by first | rfl | simp only [go_sem, st_L, st_K, W3, Int.toNat_one, F0]) (And.intro (by first | rfl | simp only [go_sem, st_L, st_K, W3, Int.toNat_one, F0]) ?_)
 all_goals simp only [go_sem, st_L, st_K, W3, Int.toNat_one, F0]
 all_goals repeat' (first | apply And.intro | intro _)
 refine hK76 _ ?_
 refine sr_k fun K77 hK77 => ?_
 simp only [go_sem, st_L, st_K, W3, Int.toNat_one, F0]
 all_goals repeat' (first | apply And.intro | intro _)
 all_goals refine call_now (by first | rfl | (simp only [go_sem, st_L, st_K, W3, Int.toNat_one, F0]; rfl) | simp only [go_sem, st_L, st_K, W3, Int.toNat_one, F0]) (now_add64 _ _ _ (by first | decide | exact (ad_val _ _ (by decide)).2 | exact (ad_val _ _ ((ad_val _ _ (by decide)).2)).2)) ?_
 all_goals simp only [go_sem, st_L, st_K, W3, Int.toNat_one, F0]
 all_goals repeat' (first | apply And.intro | intro _)
 refine hK77 _ ?_
 refine sr_k fun K78 hK78 => ?_
 simp only [go_sem, st_L, st_K, W3, Int.toNat_one, F0]
 all_goals repeat' (first | apply And.intro | intro _)
 refine hK78 _ ?_
 refine sr_k fun K79 hK79 => ?_
 simp only [go_sem, st_L, st_K, W3, Int.toNat_one, F0]
 all_goals repeat' (first | apply And.intro | intro _)
 all_goals refine call_now (by first | rfl | (simp only [go_sem, st_L, st_K, W3, Int.toNat_one, F0]; rfl) | simp only [go_sem, st_L, st_K, W3, Int.toNat_one, F0]) (now_add64 _ _ _ (by first | decide | exact (ad_val _ _ (by decide)).2 | exact (ad_val _ _ ((ad_val _ _ (by decide)).2)).2)) ?_
 all_goals simp only [go_sem, st_L, st_K, W3, Int.toNat_one, F0]
 all_goals repeat' (first | apply And.intro | intro _)
 refine hK79 _ ?_
 refine region_k fun K80 hK80 => ?_
 simp only [go_sem, st_L, st_K, W3, Int.toNat_one, F0]
 all_goals repeat' (first | apply And.intro | intro _)
 refine hK80 _ ?_
 refine bn74 _ ?_
 refine hN73 _ ?_
 refine region_k fun K81 hK81 => ?_
 simp only [go_sem, st_L, st_K, W3, Int.toNat_one, F0]
 all_goals repeat' (first | apply And.intro | intro _)
 refine hK81 _ ?_
 refine hN70 _ ?_
 refine rnd_forget [9, 10, 11, 12, 13, 25, 26, 27, 28, 29, 30, 31, 32, 33, 34, 35, 36, 37, 38, 39, 40, 41, 42, 43, 44, 45, 46, 47, 48, 49, 50, 51, 52, 53, 54, 55, 56, 57, 58, 59, 60, 61] ?_
 simp only [go_sem, St.forget, fgt]
 refine rnd_k fun N82 M82 hN82 hM82 => ?_
 refine sr_k fun K83 hK83 => ?_
 simp only [go_sem, st_L, st_K, W3, Int.toNat_one, F0]
 all_goals repeat' (first | apply And.intro | intro _)
 refine hK83 _ ?_
 refine seq_k fun N84 M84 hN84 hM84 => ?_
 refine condF_k (by first | rfl | (simp [go_sem, st_L, st_K, W3, Int.toNat_one, F0]; done)) ?_
 refine exit_k ?_
 refine hM84 _ _ ?_
 refine hM82 _ _ ?_
 refine bx56 _ ?_
 refine hN54 _ ?_
 refine region_k fun K85 hK85 => ?_
 simp only [go_sem, st_L, st_K, W3, Int.toNat_one, F0]
 all_goals repeat' (first | apply And.intro | intro _)
 refine hK85 _ ?_
 refine bn51 _ ?_
 refine hN50 _ ?_
 refine region_k fun K86 hK86 => ?_
 simp only [go_sem, st_L, st_K, W3, Int.toNat_one, F0]
 all_goals repeat' (first | apply And.intro | intro _)
 refine hK86 _ ?_
 refine hN47 _ ?_
 refine rnd_forget [6, 7, 8, 9, 10, 11, 12, 13, 20, 21, 22, 23, 24, 25, 26, 27, 28, 29, 30, 31, 32, 33, 34, 35, 36, 37, 38, 39, 40, 41, 42, 43, 44, 45, 46, 47, 48, 49, 50, 51, 52, 53, 54, 55, 56, 57, 58, 59, 60, 61, 62, 63, 64, 65, 66] ?_
 simp only [go_sem, St.forget, fgt]
 refine rnd_k fun N87 M87 hN87 hM87 => ?_
 refine sr_k fun K88 hK88 => ?_
 simp only [go_sem, st_L, st_K, W3, Int.toNat_one, F0]
 all_goals repeat' (first | apply And.intro | intro _)
 refine hK88 _ ?_
 refine seq_k fun N89 M89 hN89 hM89 => ?_
 refine condT_k (by first | rfl | (simp [go_sem, st_L, st_K, W3, Int.toNat_one, F0]; done)) ?_
 refine skip_k ?_
 refine hN89 _ ?_
 refine seq_k fun N90 M90 hN90 hM90 => ?_
 refine block_k fun B91 bn91 bx91 br91 bi91 => ?_
 refine sr_k fun K92 hK92 => ?_
 simp only [go_sem, st_L, st_K, W3, Int.toNat_one, F0]
 all_goals repeat' (first | apply And.intro | intro _)
 refine hK92 _ ?_
 refine sr_k fun K93 hK93 => ?_
 simp only [go_sem, st_L, st_K, W3, Int.toNat_one, F0]
 all_goals repeat' (first | apply And.intro | intro _)
 refine hK93 _ ?_
 refine seq_k fun N94 M94 hN94 hM94 => ?_
 refine sr_k fun K95 hK95 => ?_
 simp only [go_sem, st_L, st_K, W3, Int.toNat_one, F0]
 all_goals repeat' (first | apply And.intro | intro _)
 refine hK95 _ ?_
 refine block_k fun B96 bn96 bx96 br96 bi96 => ?_
 refine rounds_k 3 ?_
 refine rnd_k fun N98 M98 hN98 hM98 => ?_
 refine sr_k fun K99 hK99 => ?_
 simp only [go_sem, st_L, st_K, W3, Int.toNat_one, F0]
 all_goals repeat' (first | apply And.intro | intro _)
 refine hK99 _ ?_
 refine seq_k fun N100 M100 hN100 hM100 => ?_
 refine condT_k (by first | rfl | (simp [go_sem, st_L, st_K, W3, Int.toNat_one, F0]; done)) ?_
 refine skip_k ?_
 refine hN100 _ ?_
 refine seq_k fun N101 M101 hN101 hM101 => ?_
 refine block_k fun B102 bn102 bx102 br102 bi102 => ?_
 refine sr_k fun K103 hK103 => ?_
 simp only [go_sem, st_L, st_K, W3, Int.toNat_one, F0]
 all_goals repeat' (first | apply And.intro | intro _)
 refine hK103 _ ?_
 refine sr_k fun K104 hK104 => ?_
 simp only [go_sem, st_L, st_K, W3, Int.toNat_one, F0]
 all_goals repeat' (first | apply And.intro | intro _)
 all_goals refine call_view (fun k => k) (fun _ _ => rfl) (by first | rfl | (simp only [go_sem, st_L, st_K, W3, Int.toNat_one, F0]; rfl) | simp only [go_sem, st_L, st_K, W3, Int.toNat_one, F0]) ((mul64 _ _).plain fun _ _ h => h) ?_
 all_goals (rintro v m ⟨hR, hm⟩; subst hR; subst hm)
 all_goals refine And.intro (by first | rfl | simp only [go_sem, st_L, st_K, W3, Int.toNat_one, F0]) (And.intro (by first | rfl | simp only [go_sem, st_L, st_K, W3, Int.toNat_one, F0]) ?_)
 all_goals simp only [go_sem, st_L, st_K, W3, Int.toNat_one, F0]
 all_goals repeat' (first | apply And.intro | intro _)
 refine hK104 _ ?_
 refine sr_k fun K105 hK105 => ?_
 simp only [go_sem, st_L, st_K, W3, Int.toNat_one, F0]
 all_goals repeat' (first | apply And.intro | intro _)
 all_goals refine call_now (by first | rfl | (simp only [go_sem, st_L, st_K, W3, Int.toNat_one, F0]; rfl) | simp only [go_sem, st_L, st_K, W3, Int.toNat_one, F0]) (now_add64 _ _ _ (by first | decide | exact (ad_val _ _ (by decide)).2 | exact (ad_val _ _ ((ad_val _ _ (by decide)).2)).2)) ?_
 all_goals simp only [go_sem, st_L, st_K, W3, Int.toNat_one, F0]
 all_goals repeat' (first | apply And.intro | intro _)
 refine hK105 _ ?_
 refine sr_k fun K106 hK106 => ?_
 simp only [go_sem, st_L, st_K, W3, Int.toNat_one, F0]
 all_goals repeat' (first | apply And.intro | intro _)
 refine hK106 _ ?_
 refine sr_k fun K107 hK107 => ?_
 simp only [go_sem, st_L, st_K, W3, Int.toNat_one, F0]
 all_goals repeat' (first | apply And.intro | intro _)
 all_goals refine call_now (by first | rfl | (simp only [go_sem, st_L, st_K, W3, Int.toNat_one, F0]; rfl) | simp only [go_sem, st_L, st_K, W3, Int.toNat_one, F0]) (now_add64 _ _ _ (by first | decide | exact (ad_val _ _ (by decide)).2 | exact (ad_val _ _ ((ad_val _ _ (by decide)).2)).2)) ?_
 all_goals simp only [go_sem, st_L, st_K, W3, Int.toNat_one, F0]
 all_goals repeat' (first | apply And.intro | intro _)
 refine hK107 _ ?_
 refine region_k fun K108 hK108 => ?_
 simp only [go_sem, st_L, st_K, W3, Int.toNat_one, F0]
 all_goals repeat' (first | apply And.intro | intro _)
 refine hK108 _ ?_
 refine bn102 _ ?_
 refine hN101 _ ?_
 refine region_k fun K109 hK109 => ?_
 simp only [go_sem, st_L, st_K, W3, Int.toNat_one, F0]
 all_goals repeat' (first | apply And.intro | intro _)
 refine hK109 _ ?_
 refine hN98 _ ?_
 refine rnd_forget [9, 10, 11, 12, 13, 25, 26, 27, 28, 29, 30, 31, 32, 33, 34, 35, 36, 37, 38, 39, 40, 41, 42, 43, 44, 45, 46, 47, 48, 49, 50, 51, 52, 53, 54, 55, 56, 57, 58, 59, 60, 61] ?_
 simp only [go_sem, St.forget, fgt]
 refine rnd_k fun N110 M110 hN110 hM110 => ?_
 refine sr_k fun K111 hK111 => ?_
 simp only [go_sem, st_L, st_K, W3, Int.toNat_one, F0]
 all_goals repeat' (first | apply And.intro | intro _)
 refine hK111 _ ?_
 refine seq_k fun N112 M112 hN112 hM112 => ?_
 refine condT_k (by first | rfl | (simp [go_sem, st_L, st_K, W3, Int.toNat_one, F0]; done)) ?_
 refine skip_k ?_
 refine hN112 _ ?_
 refine seq_k fun N113 M113 hN113 hM113 => ?_
 refine block_k fun B114 bn114 bx114 br114 bi114 => ?_
 refine sr_k fun K115 hK115 => ?_
 simp only [go_sem, st_L, st_K, W3, Int.toNat_one, F0]
 all_goals repeat' (first | apply And.intro | intro _)
 refine hK115 _ ?_
 refine sr_k fun K116 hK116 => ?_
 simp only [go_sem, st_L, st_K, W3, Int.toNat_one, F0]
 all_goals repeat' (first | apply And.intro | intro _)
 all_goals refine call_view (fun k => k) (fun _ _ => rfl) (by first | rfl | (simp only [go_sem, st_L, st_K, W3, Int.toNat_one, F0]; rfl) | simp only [go_sem, st_L, st_K, W3, Int.toNat_one, F0]) ((mul64 _ _).plain fun _ _ h => h) ?_
 all_goals (rintro v m ⟨hR, hm⟩; subst hR; subst hm)
 all_goals refine And.intro (by first | rfl | simp only [go_sem, st_L, st_K, W3, Int.toNat_one, F0]) (And.intro (by first | rfl | simp only [go_sem, st_L, st_K, W3, Int.toNat_one, F0]) ?_)
 all_goals simp only [go_sem, st_L, st_K, W3, Int.toNat_one, F0]
 all_goals repeat' (first | apply And.intro | intro _)
 refine hK116 _ ?_
 refine sr_k fun K117 hK117 => ?_
 simp only [go_sem, st_L, st_K, W3, Int.toNat_one, F0]
 all_goals repeat' (first | apply And.intro | intro _)
 all_goals refine call_now (by first | rfl | (simp only [go_sem, st_L, st_K, W3, Int.toNat_one, F0]; rfl) | simp only [go_sem, st_L, st_K, W3, Int.toNat_one, F0]) (now_add64 _ _ _ (by first | decide | exact (ad_val _ _ (by decide)).2 | exact (ad_val _ _ ((ad_val _ _ (by decide)).2)).2)) ?_
 all_goals simp only [go_sem, st_L, st_K, W3, Int.toNat_one, F0]
 all_goals repeat' (first | apply And.intro | intro _)
 refine hK117 _ ?_
 refine sr_k fun K118 hK118 => ?_
 simp only [go_sem, st_L, st_K, W3, Int.toNat_one, F0]
 all_goals repeat' (first | apply And.intro | intro _)
 refine hK118 _ ?_
 refine sr_k fun K119 hK119 => ?_
 simp only [go_sem, st_L, st_K, W3, Int.toNat_one, F0]
 all_goals repeat' (first | apply And.intro | intro _)
 all_goals refine call_now (by first | rfl | (simp only [go_sem, st_L, st_K, W3, Int.toNat_one, F0]; rfl) | simp only [go_sem, st_L, st_K, W3, Int.toNat_one, F0]) (now_add64 _ _ _ (by first | decide | exact (ad_val _ _ (by decide)).2 | exact (ad_val _ _ ((ad_val _ _ (by decide)).2)).2)) ?_
 all_goals simp only [go_sem, st_L, st_K, W3, Int.toNat_one, F0]
 all_goals repeat' (first | apply And.intro | intro _)
 refine hK119 _ ?_
 refine region_k fun K120 hK120 => ?_
 simp only [go_sem, st_L, st_K, W3, Int.toNat_one, F0]
 all_goals repeat' (first | apply And.intro | intro _)
 refine hK120 _ ?_
 refine bn114 _ ?_
 refine hN113 _ ?_
 refine region_k fun K121 hK121 => ?_
 simp only [go_sem, st_L, st_K, W3, Int.toNat_one, F0]
 all_goals repeat' (first | apply And.intro | intro _)
 refine hK121 _ ?_
 refine hN110 _ ?_
 refine rnd_forget [9, 10, 11, 12, 13, 25, 26, 27, 28, 29, 30, 31, 32, 33, 34, 35, 36, 37, 38, 39, 40, 41, 42, 43, 44, 45, 46, 47, 48, 49, 50, 51, 52, 53, 54, 55, 56, 57, 58, 59, 60, 61] ?_
 simp only [go_sem, St.forget, fgt]
 refine rnd_k fun N122 M122 hN122 hM122 => ?_
 refine sr_k fun K123 hK123 => ?_
 simp only [go_sem, st_L, st_K, W3, Int.toNat_one, F0]
 all_goals repeat' (first | apply And.intro | intro _)
 refine hK123 _ ?_
 refine seq_k fun N124 M124 hN124 hM124 => ?_
 refine condF_k (by first | rfl | (simp [go_sem, st_L, st_K, W3, Int.toNat_one, F0]; done)) ?_
 refine exit_k ?_
 refine hM124 _ _ ?_
 refine hM122 _ _ ?_
 refine bx96 _ ?_
 refine hN94 _ ?_
 refine region_k fun K125 hK125 => ?_
 simp only [go_sem, st_L, st_K, W3, Int.toNat_one, F0]
 all_goals repeat' (first | apply And.intro | intro _)
 refine hK125 _ ?_
 refine bn91 _ ?_
 refine hN90 _ ?_
 refine region_k fun K126 hK126 => ?_
 simp only [go_sem, st_L, st_K, W3, Int.toNat_one, F0]
 all_goals repeat' (first | apply And.intro | intro _)
 refine hK126 _ ?_
 refine hN87 _ ?_
 refine rnd_forget [6, 7, 8, 9, 10, 11, 12, 13, 20, 21, 22, 23, 24, 25, 26, 27, 28, 29, 30, 31, 32, 33, 34, 35, 36, 37, 38, 39, 40, 41, 42, 43, 44, 45, 46, 47, 48, 49, 50, 51, 52, 53, 54, 55, 56, 57, 58, 59, 60, 61, 62, 63, 64, 65, 66] ?_
 simp only [go_sem, St.forget, fgt]
 refine rnd_k fun N127 M127 hN127 hM127 => ?_
 refine sr_k fun K128 hK128 => ?_
 simp only [go_sem, st_L, st_K, W3, Int.toNat_one, F0]
 all_goals repeat' (first | apply And.intro | intro _)
 refine hK128 _ ?_
 refine seq_k fun N129 M129 hN129 hM129 => ?_
 refine condF_k (by first | rfl | (simp [go_sem, st_L, st_K, W3, Int.toNat_one, F0]; done)) ?_
 refine exit_k ?_
 refine hM129 _ _ ?_
 refine hM127 _ _ ?_
 refine bx5 _ ?_
 refine hN3 _ ?_
 refine sr_k fun K130 hK130 => ?_
 simp only [go_sem, st_L, st_K, W3, Int.toNat_one, F0]
 all_goals repeat' (first | apply And.intro | intro _)
 refine hK130 _ ?_
 refine sr_k fun K131 hK131 => ?_
 simp only [go_sem, st_L, st_K, W3, Int.toNat_one, F0]
 all_goals repeat' (first | apply And.intro | intro _)
 refine hK131 _ ?_
 refine seq_k fun N132 M132 hN132 hM132 => ?_
 refine sr_k fun K133 hK133 => ?_
 simp only [go_sem, st_L, st_K, W3, Int.toNat_one, F0]
 all_goals repeat' (first | apply And.intro | intro _)
 refine hK133 _ ?_
 refine block_k fun B134 bn134 bx134 br134 bi134 => ?_
 refine ht_dropE [0, 1, 2, 3, 5, 6, 7, 8, 9, 10, 11, 12, 13, 18, 19, 20, 21, 22, 23, 24, 25, 26, 27, 28, 29, 30, 31, 32, 33, 34, 35, 36, 37, 38, 39, 40, 41, 42, 43, 44, 45, 46, 47, 48, 49, 50, 51, 52, 53, 54, 55, 56, 57, 58, 59, 60, 61, 62, 63, 64, 65, 66, 67, 68, 69, 70, 71, 72, 73, 74, 75, 76, 77, 78, 79, 80, 81, 82, 83, 84, 85, 86, 87, 88, 89, 90, 91, 92] ?_
 simp only [dropE_mk, fgt_nil, fgt_cons, List.contains_cons, List.contains_nil, Nat.reduceBEq, beq_self_eq_true, Bool.or_false, Bool.or_true, Bool.true_or, Bool.false_or, Bool.false_eq_true, reduceIte]
 refine loop_k (fun y => [(93, .w (.one (.pl (.i ((y.1 : Nat) : Int)))))]) (fun y => [(14, ⟨false, (lowN a r0 r1 y.1).ls⟩)]) (fun y => 5 - y.1) (⟨0, by omega⟩ : {y : Nat // y ≤ 5}) ?_ ?_ ?_
 · (simp only [go_sem, leX, List.cons_append, List.nil_append]; try simp)
 · (simp only [lowN, lowT, T3.ls, W3, go_sem, leX, List.cons_append, List.nil_append]; try simp [lowN, lowT, T3.ls, W3, leX, look])
 intro yy N135 M135 hN135 hM135
 simp only [List.cons_append, List.nil_append]
 obtain ⟨y, hy⟩ := yy
 rcases Nat.lt_or_ge y 5 with hlt | hge
 · obtain ⟨q, hq⟩ : ∃ q, lowN a r0 r1 y = q := ⟨_, rfl⟩
   obtain ⟨qa, qb, qc⟩ := q
   have hcq : ((y : Nat) : Int) < 5 := by omega
   have hs1 : Go.RowKit.wrap64 (((y : Nat) : Int) + 1) = ((y + 1 : Nat) : Int) := wnat (by omega) (by omega)
   simp only [hq, T3.ls, W3]
   refine sr_k fun K136 hK136 => ?_
   simp only [go_sem, st_L, st_K, W3, Int.toNat_one, F0, hcq, hs1]
   all_goals repeat' (first | apply And.intro | intro _)
   refine hK136 _ ?_
   refine seq_k fun N137 M137 hN137 hM137 => ?_
   refine condT_k (by first | rfl | (simp [go_sem, st_L, st_K, W3, Int.toNat_one, F0, hcq, hs1]; done)) ?_
   refine skip_k ?_
   refine hN137 _ ?_
   refine seq_k fun N138 M138 hN138 hM138 => ?_
   refine block_k fun B139 bn139 bx139 br139 bi139 => ?_
   refine region_k fun K140 hK140 => ?_
   simp only [go_sem, st_L, st_K, W3, Int.toNat_one, F0, hcq, hs1]
   all_goals repeat' (first | apply And.intro | intro _)
   all_goals refine call_view (fun k => k) (fun _ _ => rfl) (by first | rfl | (simp only [go_sem, st_L, st_K, W3, Int.toNat_one, F0, hcq, hs1]; rfl) | simp only [go_sem, st_L, st_K, W3, Int.toNat_one, F0, hcq, hs1]) ((plus_ ⟨_, _, _⟩ ⟨_, _, _⟩).plain fun _ _ h => h) ?_
   all_goals (rintro v m ⟨hR, hm⟩; subst hR; subst hm)
   all_goals refine And.intro (by first | rfl | simp only [go_sem, st_L, st_K, W3, Int.toNat_one, F0, hcq, hs1]) (And.intro (by first | rfl | simp only [go_sem, st_L, st_K, W3, Int.toNat_one, F0, hcq, hs1]) ?_)
   all_goals simp only [go_sem, st_L, st_K, W3, Int.toNat_one, F0, hcq, hs1]
   all_goals repeat' (first | apply And.intro | intro _)
   refine hK140 _ ?_
   refine bn139 _ ?_
   refine hN138 _ ?_
   refine region_k fun K141 hK141 => ?_
   simp only [go_sem, st_L, st_K, W3, Int.toNat_one, F0, hcq, hs1]
   all_goals repeat' (first | apply And.intro | intro _)
   refine hK141 _ ?_
   refine hN135 ⟨y + 1, by omega⟩ _ ?_ ?_ ?_
   · (show 5 - (y + 1) < 5 - y; clear hs1; omega)
   · (simp only [go_sem, leX, List.cons_append, List.nil_append]; try simp)
   · (simp only [lowN, hq, T3.ls, W3, go_sem, leX, List.cons_append, List.nil_append]; first | done | (simp [lowN, hq, highT, T3.ls, W3, leX, look]; done) | (simp [lowN, hq, highT, T3.ls, W3, leX, look]; exact ⟨rfl, rfl, rfl⟩))
 · obtain rfl : y = 5 := by omega
   have hl5 := lowN5 a r0 r1
   have hb5 := (low5_val a r0 r1 ha hr).2
   obtain ⟨q, hq⟩ : ∃ q, lowN a r0 r1 5 = q := ⟨_, rfl⟩
   obtain ⟨qa, qb, qc⟩ := q
   rw [hq] at hl5
   rw [← hl5] at hb5
   have hl5 := hl5.symm
   have hcut : 3 < qc → ¬ 3 < (cut3 ⟨qa, qb, qc⟩).c.toNat := fun h => (cut_val hb5 (three_lt.mp h)).2
   have hcq : ¬ ((5 : Nat) : Int) < 5 := by omega
   simp only [hq, T3.ls, W3]
   refine sr_k fun K142 hK142 => ?_
   simp only [go_sem, st_L, st_K, W3, Int.toNat_one, F0, hcq]
   all_goals repeat' (first | apply And.intro | intro _)
   refine hK142 _ ?_
   refine seq_k fun N143 M143 hN143 hM143 => ?_
   refine condF_k (by first | rfl | (simp [go_sem, st_L, st_K, W3, Int.toNat_one, F0, hcq]; done)) ?_
   refine exit_k ?_
   refine hM143 _ _ ?_
   refine hM135 _ _ ?_
   refine bx134 _ ?_
   refine hN132 _ ?_
   refine seq_k fun N144 M144 hN144 hM144 => ?_
   refine block_k fun B145 bn145 bx145 br145 bi145 => ?_
   refine ht_dropE [0, 1, 2, 3, 5, 6, 7, 8, 9, 10, 11, 12, 13, 15, 18, 19, 20, 21, 22, 23, 24, 25, 26, 27, 28, 29, 30, 31, 32, 33, 34, 35, 36, 37, 38, 39, 40, 41, 42, 43, 44, 45, 46, 47, 48, 49, 50, 51, 52, 53, 54, 55, 56, 57, 58, 59, 60, 61, 62, 63, 64, 65, 66, 67, 68, 69, 70, 71, 72, 73, 74, 75, 76, 77, 78, 79, 80, 81, 82, 83, 84, 85, 86, 87, 88, 89, 90, 91, 92, 93, 94, 95, 96, 97, 98] ?_
   simp only [dropE_mk, fgt_nil, fgt_cons, List.contains_cons, List.contains_nil, Nat.reduceBEq, beq_self_eq_true, Bool.or_false, Bool.or_true, Bool.true_or, Bool.false_or, Bool.false_eq_true, reduceIte]
   refine loop_k (fun y => []) (fun y => [(14, ⟨false, (cutN ⟨qa, qb, qc⟩ y.1).ls⟩)]) (fun y => 1 - y.1) (⟨0, by omega, fun h => by cases h⟩ : {y : Nat // y ≤ 1 ∧ (y = 1 → 3 < qc)}) ?_ ?_ ?_
   · (simp only [go_sem, leX, List.cons_append, List.nil_append]; try simp)
   · (simp only [cutN, T3.ls, W3, go_sem, leX, List.cons_append, List.nil_append]; try simp [cutN, T3.ls, W3, leX, look])
   intro yy N146 M146 hN146 hM146
   simp only [List.cons_append, List.nil_append]
   obtain ⟨y, hy, hy2⟩ := yy
   have hd : (y = 0 ∧ 3 < qc) ∨ (y = 0 ∧ ¬ 3 < qc ∧ ¬ 3 < (cutN ⟨qa, qb, qc⟩ 0).c ∧ 3 < (up3 (cutN ⟨qa, qb, qc⟩ 0)).c) ∨ (y = 0 ∧ ¬ 3 < qc ∧ ¬ 3 < (cutN ⟨qa, qb, qc⟩ 0).c ∧ ¬ 3 < (up3 (cutN ⟨qa, qb, qc⟩ 0)).c) ∨ (y = 1 ∧ 3 < qc ∧ ¬ 3 < (cutN ⟨qa, qb, qc⟩ 1).c ∧ 3 < (up3 (cutN ⟨qa, qb, qc⟩ 1)).c) ∨ (y = 1 ∧ 3 < qc ∧ ¬ 3 < (cutN ⟨qa, qb, qc⟩ 1).c ∧ ¬ 3 < (up3 (cutN ⟨qa, qb, qc⟩ 1)).c) := by
    rcases Nat.lt_or_ge y 1 with h | h
    · have hy0 : y = 0 := by omega
      by_cases h3 : 3 < qc
      · exact .inl ⟨hy0, h3⟩
      · by_cases h4 : 3 < (up3 (cutN ⟨qa, qb, qc⟩ 0)).c
        · exact .inr (.inl ⟨hy0, h3, h3, h4⟩)
        · exact .inr (.inr (.inl ⟨hy0, h3, h3, h4⟩))
    · have hy1 : y = 1 := by omega
      have h3 := hy2 hy1
      have h5 : ¬ 3 < (cutN ⟨qa, qb, qc⟩ 1).c := fun h => hcut h3 (three_lt.mp h)
      by_cases h4 : 3 < (up3 (cutN ⟨qa, qb, qc⟩ 1)).c
      · exact .inr (.inr (.inr (.inl ⟨hy1, h3, h5, h4⟩)))
      · exact .inr (.inr (.inr (.inr ⟨hy1, h3, h5, h4⟩)))
   rcases hd with ⟨rfl, hc3⟩ | ⟨rfl, hc3, hcq, hup⟩ | ⟨rfl, hc3, hcq, hup⟩ | ⟨rfl, hc3, hcq, hup⟩ | ⟨rfl, hc3, hcq, hup⟩
   · simp only [cutN, hq, T3.ls, W3]
     have hcq := hc3
     refine seq_k fun N147 M147 hN147 hM147 => ?_
     refine sr_k fun K148 hK148 => ?_
     simp only [go_sem, st_L, st_K, W3, Int.toNat_one, F0, hcq]
     all_goals repeat' (first | apply And.intro | intro _)
     refine hK148 _ ?_
     refine condT_k (by first | rfl | (simp [go_sem, st_L, st_K, W3, Int.toNat_one, F0, hcq]; done)) ?_
     refine skip_k ?_
     refine hN147 _ ?_
     refine block_k fun B149 bn149 bx149 br149 bi149 => ?_
     refine sr_k fun K150 hK150 => ?_
     simp only [go_sem, st_L, st_K, W3, Int.toNat_one, F0, hcq]
     all_goals repeat' (first | apply And.intro | intro _)
     refine hK150 _ ?_
     refine sr_k fun K151 hK151 => ?_
     simp only [go_sem, st_L, st_K, W3, Int.toNat_one, F0, hcq]
     all_goals repeat' (first | apply And.intro | intro _)
     refine hK151 _ ?_
     refine region_k fun K152 hK152 => ?_
     simp only [go_sem, st_L, st_K, W3, Int.toNat_one, F0, hcq]
     all_goals repeat' (first | apply And.intro | intro _)
     all_goals refine call_view (fun k => k) (fun _ _ => rfl) (by first | rfl | (simp only [go_sem, st_L, st_K, W3, Int.toNat_one, F0, hcq]; rfl) | simp only [go_sem, st_L, st_K, W3, Int.toNat_one, F0, hcq]) ((plus_ ⟨_, _, _⟩ ⟨_, _, _⟩).plain fun _ _ h => h) ?_
     all_goals (rintro v m ⟨hR, hm⟩; subst hR; subst hm)
     all_goals refine And.intro (by first | rfl | simp only [go_sem, st_L, st_K, W3, Int.toNat_one, F0, hcq]) (And.intro (by first | rfl | simp only [go_sem, st_L, st_K, W3, Int.toNat_one, F0, hcq]) ?_)
     all_goals simp only [go_sem, st_L, st_K, W3, Int.toNat_one, F0, hcq]
     all_goals repeat' (first | apply And.intro | intro _)
     refine hK152 _ ?_
     refine bn149 _ ?_
     refine hN146 ⟨1, by omega, fun _ => hc3⟩ _ ?_ ?_ ?_
     · (show 1 - 1 < 1 - 0; omega)
     · (simp only [go_sem, leX, List.cons_append, List.nil_append]; try simp)
     · (simp only [cutN, hq, T3.ls, W3, go_sem, leX, List.cons_append, List.nil_append]; first | done | (simp [cutN, cut3, hq, T3.ls, W3, leX, look]; done) | (simp [cutN, cut3, hq, T3.ls, W3, leX, look]; exact ⟨rfl, rfl, rfl⟩))
   · obtain ⟨⟨xa, xb, xc⟩, hx⟩ : ∃ x, cutN ⟨qa, qb, qc⟩ 0 = x := ⟨_, rfl⟩
     rw [hx] at hcq hup
     simp only [hx, T3.ls, W3]
     rw [up3] at hup
     simp only at hcq hup
     have hres : timesT a r0 r1 = fin3 ⟨xa, xb, xc⟩ := by rw [← hx, timesT, hl5, red3]; exact congrArg fin3 (if_neg hc3)
     rw [fin3, up3, if_pos hup] at hres

     refine seq_k fun N153 M153 hN153 hM153 => ?_
     refine sr_k fun K154 hK154 => ?_
     simp only [go_sem, st_L, st_K, W3, Int.toNat_one, F0, hcq, hup]
     all_goals repeat' (first | apply And.intro | intro _)
     refine hK154 _ ?_
     refine condF_k (by first | rfl | (simp [go_sem, st_L, st_K, W3, Int.toNat_one, F0, hcq, hup]; done)) ?_
     refine exit_k ?_
     refine hM153 _ _ ?_
     refine hM146 _ _ ?_
     refine bx145 _ ?_
     refine hN144 _ ?_
     refine seq_k fun N155 M155 hN155 hM155 => ?_
     refine sr_k fun K156 hK156 => ?_
     simp only [go_sem, st_L, st_K, W3, Int.toNat_one, F0, hcq, hup]
     all_goals repeat' (first | apply And.intro | intro _)
     all_goals refine call_view (fun k => k) (fun _ _ => rfl) (by first | rfl | (simp only [go_sem, st_L, st_K, W3, Int.toNat_one, F0, hcq, hup]; rfl) | simp only [go_sem, st_L, st_K, W3, Int.toNat_one, F0, hcq, hup]) ((plus_ ⟨_, _, _⟩ ⟨_, _, _⟩).plain fun _ _ h => h) ?_
     all_goals (rintro v m ⟨hR, hm⟩; subst hR; subst hm)
     all_goals refine And.intro (by first | rfl | simp only [go_sem, st_L, st_K, W3, Int.toNat_one, F0, hcq, hup]) (And.intro (by first | rfl | simp only [go_sem, st_L, st_K, W3, Int.toNat_one, F0, hcq, hup]) ?_)
     all_goals simp only [go_sem, st_L, st_K, W3, Int.toNat_one, F0, hcq, hup]
     all_goals repeat' (first | apply And.intro | intro _)
     refine hK156 _ ?_
     refine sr_k fun K157 hK157 => ?_
     simp only [go_sem, st_L, st_K, W3, Int.toNat_one, F0, hcq, hup]
     all_goals repeat' (first | apply And.intro | intro _)
     refine hK157 _ ?_
     refine condT_k (by first | rfl | (simp [go_sem, st_L, st_K, W3, Int.toNat_one, F0, hcq, hup]; done)) ?_
     refine sr_k fun K158 hK158 => ?_
     simp only [go_sem, st_L, st_K, W3, Int.toNat_one, F0, hcq, hup]
     all_goals repeat' (first | apply And.intro | intro _)
     refine hK158 _ ?_
     refine sr_k fun K159 hK159 => ?_
     simp only [go_sem, st_L, st_K, W3, Int.toNat_one, F0, hcq, hup]
     all_goals repeat' (first | apply And.intro | intro _)
     refine hK159 _ ?_
     refine ret_k ?_
     refine hM155 _ _ ?_
     simp only [go_sem, st_L, st_K, W3, Int.toNat_one, F0, hcq, hup]
     all_goals (first | (rw [hres]; done) | (rw [hres]; simp only [W3]; done))
   · obtain ⟨⟨xa, xb, xc⟩, hx⟩ : ∃ x, cutN ⟨qa, qb, qc⟩ 0 = x := ⟨_, rfl⟩
     rw [hx] at hcq hup
     simp only [hx, T3.ls, W3]
     rw [up3] at hup
     simp only at hcq hup
     have hres : timesT a r0 r1 = fin3 ⟨xa, xb, xc⟩ := by rw [← hx, timesT, hl5, red3]; exact congrArg fin3 (if_neg hc3)
     rw [fin3, up3, if_neg hup] at hres

     refine seq_k fun N160 M160 hN160 hM160 => ?_
     refine sr_k fun K161 hK161 => ?_
     simp only [go_sem, st_L, st_K, W3, Int.toNat_one, F0, hcq, hup]
     all_goals repeat' (first | apply And.intro | intro _)
     refine hK161 _ ?_
     refine condF_k (by first | rfl | (simp [go_sem, st_L, st_K, W3, Int.toNat_one, F0, hcq, hup]; done)) ?_
     refine exit_k ?_
     refine hM160 _ _ ?_
     refine hM146 _ _ ?_
     refine bx145 _ ?_
     refine hN144 _ ?_
     refine seq_k fun N162 M162 hN162 hM162 => ?_
     refine sr_k fun K163 hK163 => ?_
     simp only [go_sem, st_L, st_K, W3, Int.toNat_one, F0, hcq, hup]
     all_goals repeat' (first | apply And.intro | intro _)
     all_goals refine call_view (fun k => k) (fun _ _ => rfl) (by first | rfl | (simp only [go_sem, st_L, st_K, W3, Int.toNat_one, F0, hcq, hup]; rfl) | simp only [go_sem, st_L, st_K, W3, Int.toNat_one, F0, hcq, hup]) ((plus_ ⟨_, _, _⟩ ⟨_, _, _⟩).plain fun _ _ h => h) ?_
     all_goals (rintro v m ⟨hR, hm⟩; subst hR; subst hm)
     all_goals refine And.intro (by first | rfl | simp only [go_sem, st_L, st_K, W3, Int.toNat_one, F0, hcq, hup]) (And.intro (by first | rfl | simp only [go_sem, st_L, st_K, W3, Int.toNat_one, F0, hcq, hup]) ?_)
     all_goals simp only [go_sem, st_L, st_K, W3, Int.toNat_one, F0, hcq, hup]
     all_goals repeat' (first | apply And.intro | intro _)
     refine hK163 _ ?_
     refine sr_k fun K164 hK164 => ?_
     simp only [go_sem, st_L, st_K, W3, Int.toNat_one, F0, hcq, hup]
     all_goals repeat' (first | apply And.intro | intro _)
     refine hK164 _ ?_
     refine condF_k (by first | rfl | (simp [go_sem, st_L, st_K, W3, Int.toNat_one, F0, hcq, hup]; done)) ?_
     refine skip_k ?_
     refine hN162 _ ?_
     refine sr_k fun K165 hK165 => ?_
     simp only [go_sem, st_L, st_K, W3, Int.toNat_one, F0, hcq, hup]
     all_goals repeat' (first | apply And.intro | intro _)
     refine hK165 _ ?_
     refine ret_k ?_
     simp only [go_sem, st_L, st_K, W3, Int.toNat_one, F0, hcq, hup]
     all_goals (first | (rw [hres]; done) | (rw [hres]; simp only [W3]; done))
   · obtain ⟨⟨xa, xb, xc⟩, hx⟩ : ∃ x, cutN ⟨qa, qb, qc⟩ 1 = x := ⟨_, rfl⟩
     rw [hx] at hcq hup
     simp only [hx, T3.ls, W3]
     rw [up3] at hup
     simp only at hcq hup
     have hres : timesT a r0 r1 = fin3 ⟨xa, xb, xc⟩ := by rw [← hx, timesT, hl5, red3]; exact congrArg fin3 (if_pos hc3)
     rw [fin3, up3, if_pos hup] at hres

     refine seq_k fun N166 M166 hN166 hM166 => ?_
     refine sr_k fun K167 hK167 => ?_
     simp only [go_sem, st_L, st_K, W3, Int.toNat_one, F0, hcq, hup]
     all_goals repeat' (first | apply And.intro | intro _)
     refine hK167 _ ?_
     refine condF_k (by first | rfl | (simp [go_sem, st_L, st_K, W3, Int.toNat_one, F0, hcq, hup]; done)) ?_
     refine exit_k ?_
     refine hM166 _ _ ?_
     refine hM146 _ _ ?_
     refine bx145 _ ?_
     refine hN144 _ ?_
     refine seq_k fun N168 M168 hN168 hM168 => ?_
     refine sr_k fun K169 hK169 => ?_
     simp only [go_sem, st_L, st_K, W3, Int.toNat_one, F0, hcq, hup]
     all_goals repeat' (first | apply And.intro | intro _)
     all_goals refine call_view (fun k => k) (fun _ _ => rfl) (by first | rfl | (simp only [go_sem, st_L, st_K, W3, Int.toNat_one, F0, hcq, hup]; rfl) | simp only [go_sem, st_L, st_K, W3, Int.toNat_one, F0, hcq, hup]) ((plus_ ⟨_, _, _⟩ ⟨_, _, _⟩).plain fun _ _ h => h) ?_
     all_goals (rintro v m ⟨hR, hm⟩; subst hR; subst hm)
     all_goals refine And.intro (by first | rfl | simp only [go_sem, st_L, st_K, W3, Int.toNat_one, F0, hcq, hup]) (And.intro (by first | rfl | simp only [go_sem, st_L, st_K, W3, Int.toNat_one, F0, hcq, hup]) ?_)
     all_goals simp only [go_sem, st_L, st_K, W3, Int.toNat_one, F0, hcq, hup]
     all_goals repeat' (first | apply And.intro | intro _)
     refine hK169 _ ?_
     refine sr_k fun K170 hK170 => ?_
     simp only [go_sem, st_L, st_K, W3, Int.toNat_one, F0, hcq, hup]
     all_goals repeat' (first | apply And.intro | intro _)
     refine hK170 _ ?_
     refine condT_k (by first | rfl | (simp [go_sem, st_L, st_K, W3, Int.toNat_one, F0, hcq, hup]; done)) ?_
     refine sr_k fun K171 hK171 => ?_
     simp only [go_sem, st_L, st_K, W3, Int.toNat_one, F0, hcq, hup]
     all_goals repeat' (first | apply And.intro | intro _)
     refine hK171 _ ?_
     refine sr_k fun K172 hK172 => ?_
     simp only [go_sem, st_L, st_K, W3, Int.toNat_one, F0, hcq, hup]
     all_goals repeat' (first | apply And.intro | intro _)
     refine hK172 _ ?_
     refine ret_k ?_
     refine hM168 _ _ ?_
     simp only [go_sem, st_L, st_K, W3, Int.toNat_one, F0, hcq, hup]
     all_goals (first | (rw [hres]; done) | (rw [hres]; simp only [W3]; done))
   · obtain ⟨⟨xa, xb, xc⟩, hx⟩ : ∃ x, cutN ⟨qa, qb, qc⟩ 1 = x := ⟨_, rfl⟩
     rw [hx] at hcq hup
     simp only [hx, T3.ls, W3]
     rw [up3] at hup
     simp only at hcq hup
     have hres : timesT a r0 r1 = fin3 ⟨xa, xb, xc⟩ := by rw [← hx, timesT, hl5, red3]; exact congrArg fin3 (if_pos hc3)
     rw [fin3, up3, if_neg hup] at hres

     refine seq_k fun N173 M173 hN173 hM173 => ?_
     refine sr_k fun K174 hK174 => ?_
     simp only [go_sem, st_L, st_K, W3, Int.toNat_one, F0, hcq, hup]
     all_goals repeat' (first | apply And.intro | intro _)
     refine hK174 _ ?_
     refine condF_k (by first | rfl | (simp [go_sem, st_L, st_K, W3, Int.toNat_one, F0, hcq, hup]; done)) ?_
     refine exit_k ?_
     refine hM173 _ _ ?_
     refine hM146 _ _ ?_
     refine bx145 _ ?_
     refine hN144 _ ?_
     refine seq_k fun N175 M175 hN175 hM175 => ?_
     refine sr_k fun K176 hK176 => ?_
     simp only [go_sem, st_L, st_K, W3, Int.toNat_one, F0, hcq, hup]
     all_goals repeat' (first | apply And.intro | intro _)
     all_goals refine call_view (fun k => k) (fun _ _ => rfl) (by first | rfl | (simp only [go_sem, st_L, st_K, W3, Int.toNat_one, F0, hcq, hup]; rfl) | simp only [go_sem, st_L, st_K, W3, Int.toNat_one, F0, hcq, hup]) ((plus_ ⟨_, _, _⟩ ⟨_, _, _⟩).plain fun _ _ h => h) ?_
     all_goals (rintro v m ⟨hR, hm⟩; subst hR; subst hm)
     all_goals refine And.intro (by first | rfl | simp only [go_sem, st_L, st_K, W3, Int.toNat_one, F0, hcq, hup]) (And.intro (by first | rfl | simp only [go_sem, st_L, st_K, W3, Int.toNat_one, F0, hcq, hup]) ?_)
     all_goals simp only [go_sem, st_L, st_K, W3, Int.toNat_one, F0, hcq, hup]
     all_goals repeat' (first | apply And.intro | intro _)
     refine hK176 _ ?_
     refine sr_k fun K177 hK177 => ?_
     simp only [go_sem, st_L, st_K, W3, Int.toNat_one, F0, hcq, hup]
     all_goals repeat' (first | apply And.intro | intro _)
     refine hK177 _ ?_
     refine condF_k (by first | rfl | (simp [go_sem, st_L, st_K, W3, Int.toNat_one, F0, hcq, hup]; done)) ?_
     refine skip_k ?_
     refine hN175 _ ?_
     refine sr_k fun K178 hK178 => ?_
     simp only [go_sem, st_L, st_K, W3, Int.toNat_one, F0, hcq, hup]
     all_goals repeat' (first | apply And.intro | intro _)
     refine hK178 _ ?_
     refine ret_k ?_
     simp only [go_sem, st_L, st_K, W3, Int.toNat_one, F0, hcq, hup]
     all_goals (first | (rw [hres]; done) | (rw [hres]; simp only [W3]; done))
end Go.Sy
