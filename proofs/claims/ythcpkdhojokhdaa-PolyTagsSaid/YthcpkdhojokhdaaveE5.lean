/- Walks: a sum begun, as the document tells it. -/
import Derived.Test.YthcpkdhojokhdaaveE4
set_option linter.unusedVariables false
set_option linter.unusedSimpArgs false
namespace Go.Sy
open Go.Proofs
attribute [local irreducible] atCall HT runOps runD onC onE onO onG goV goA goS onSt onGuard
set_option maxHeartbeats 3200000 in
set_option maxRecDepth 100000 in
theorem poly_begun_ (k0 k1 k2 k3 k4 k5 k6 k7 k8 k9 k10 k11 k12 k13 k14 k15 k16 k17 k18 k19 k20 k21 k22 k23 k24 k25 k26 k27 k28 k29 k30 k31 : UInt8) :
 Ct Try.prog 16 [.w (.agg [.pl (.u8 k0), .pl (.u8 k1), .pl (.u8 k2), .pl (.u8 k3), .pl (.u8 k4), .pl (.u8 k5), .pl (.u8 k6), .pl (.u8 k7), .pl (.u8 k8), .pl (.u8 k9), .pl (.u8 k10), .pl (.u8 k11), .pl (.u8 k12), .pl (.u8 k13), .pl (.u8 k14), .pl (.u8 k15), .pl (.u8 k16), .pl (.u8 k17), .pl (.u8 k18), .pl (.u8 k19), .pl (.u8 k20), .pl (.u8 k21), .pl (.u8 k22), .pl (.u8 k23), .pl (.u8 k24), .pl (.u8 k25), .pl (.u8 k26), .pl (.u8 k27), .pl (.u8 k28), .pl (.u8 k29), .pl (.u8 k30), .pl (.u8 k31)])] (fun v m => v = .w (.agg (polyC (lev [k0, k1, k2, k3 &&& 15, k4 &&& 252, k5, k6, k7 &&& 15]) (lev [k8 &&& 252, k9, k10, k11 &&& 15, k12 &&& 252, k13, k14, k15 &&& 15]) (lev [k16, k17, k18, k19, k20, k21, k22, k23]) (lev [k24, k25, k26, k27, k28, k29, k30, k31]) 0 0 0 (List.replicate 16 0) 0))) := by
 refine Ct.k Try.func16 rfl Try.ntmps16 (congrArg Array.toList Try.results16) (by simp) fun w0 ro => ?_
 refine sr_k fun K1 hK1 => ?_
 simp only [go_sem, polyC, Int.toNat_one]
 all_goals repeat' (first | apply And.intro | intro _)
 refine hK1 _ ?_
 refine seq_k fun N2 M2 hN2 hM2 => ?_
 refine sr_k fun K3 hK3 => ?_
 simp only [go_sem, polyC, Int.toNat_one]
 all_goals repeat' (first | apply And.intro | intro _)
 refine hK3 _ ?_
 refine block_k fun B4 bn4 bx4 br4 bi4 => ?_
 refine rounds_k 5 ?_
 refine rnd_k fun N6 M6 hN6 hM6 => ?_
 refine sr_k fun K7 hK7 => ?_
 simp only [go_sem, polyC, Int.toNat_one]
 all_goals repeat' (first | apply And.intro | intro _)
 refine hK7 _ ?_
 refine seq_k fun N8 M8 hN8 hM8 => ?_
 refine condT_k (by first | rfl | (simp [go_sem, polyC, Int.toNat_one]; done)) ?_
 refine skip_k ?_
 refine hN8 _ ?_
 refine seq_k fun N9 M9 hN9 hM9 => ?_
 refine block_k fun B10 bn10 bx10 br10 bi10 => ?_
 refine sr_k fun K11 hK11 => ?_
 simp only [go_sem, polyC, Int.toNat_one]
 all_goals repeat' (first | apply And.intro | intro _)
 refine hK11 _ ?_
 refine region_k fun K12 hK12 => ?_
 simp only [go_sem, polyC, Int.toNat_one]
 all_goals repeat' (first | apply And.intro | intro _)
 refine hK12 _ ?_
 refine bn10 _ ?_
 refine hN9 _ ?_
 refine region_k fun K13 hK13 => ?_
 simp only [go_sem, polyC, Int.toNat_one]
 all_goals repeat' (first | apply And.intro | intro _)
 refine hK13 _ ?_
 refine hN6 _ ?_
 refine rnd_forget [3, 7, 8, 9, 10, 11, 12, 13, 14, 15, 16] ?_
 simp only [go_sem, St.forget, fgt]
 refine rnd_k fun N14 M14 hN14 hM14 => ?_
 refine sr_k fun K15 hK15 => ?_
 simp only [go_sem, polyC, Int.toNat_one]
 all_goals repeat' (first | apply And.intro | intro _)
 refine hK15 _ ?_
 refine seq_k fun N16 M16 hN16 hM16 => ?_
 refine condT_k (by first | rfl | (simp [go_sem, polyC, Int.toNat_one]; done)) ?_
 refine skip_k ?_
 refine hN16 _ ?_
 refine seq_k fun N17 M17 hN17 hM17 => ?_
 refine block_k fun B18 bn18 bx18 br18 bi18 => ?_
 refine sr_k fun K19 hK19 => ?_
 simp only [go_sem, polyC, Int.toNat_one]
 all_goals repeat' (first | apply And.intro | intro _)
 refine hK19 _ ?_
 refine region_k fun K20 hK20 => ?_
 simp only [go_sem, polyC, Int.toNat_one]
 all_goals repeat' (first | apply And.intro | intro _)
 refine hK20 _ ?_
 refine bn18 _ ?_
 refine hN17 _ ?_
 refine region_k fun K21 hK21 => ?_
 simp only [go_sem, polyC, Int.toNat_one]
 all_goals repeat' (first | apply And.intro | intro _)
 refine hK21 _ ?_
 refine hN14 _ ?_
 refine rnd_forget [3, 7, 8, 9, 10, 11, 12, 13, 14, 15, 16] ?_
 simp only [go_sem, St.forget, fgt]
 refine rnd_k fun N22 M22 hN22 hM22 => ?_
 refine sr_k fun K23 hK23 => ?_
 simp only [go_sem, polyC, Int.toNat_one]
 all_goals repeat' (first | apply And.intro | intro _)
 refine hK23 _ ?_
 refine seq_k fun N24 M24 hN24 hM24 => ?_
 refine condT_k (by first | rfl | (simp [go_sem, polyC, Int.toNat_one]; done)) ?_
 refine skip_k ?_
 refine hN24 _ ?_
 refine seq_k fun N25 M25 hN25 hM25 => ?_
 refine block_k fun B26 bn26 bx26 br26 bi26 => ?_
 refine sr_k fun K27 hK27 => ?_
 simp only [go_sem, polyC, Int.toNat_one]
 all_goals repeat' (first | apply And.intro | intro _)
 refine hK27 _ ?_
 refine region_k fun K28 hK28 => ?_
 simp only [go_sem, polyC, Int.toNat_one]
 all_goals repeat' (first | apply And.intro | intro _)
 refine hK28 _ ?_
 refine bn26 _ ?_
 refine hN25 _ ?_
 refine region_k fun K29 hK29 => ?_
 simp only [go_sem, polyC, Int.toNat_one]
 all_goals repeat' (first | apply And.intro | intro _)
 refine hK29 _ ?_
 refine hN22 _ ?_
 refine rnd_forget [3, 7, 8, 9, 10, 11, 12, 13, 14, 15, 16] ?_
 simp only [go_sem, St.forget, fgt]
 refine rnd_k fun N30 M30 hN30 hM30 => ?_
 refine sr_k fun K31 hK31 => ?_
 simp only [go_sem, polyC, Int.toNat_one]
 all_goals repeat' (first | apply And.intro | intro _)
 refine hK31 _ ?_
 refine seq_k fun N32 M32 hN32 hM32 => ?_
 refine condT_k (by first | rfl | (simp [go_sem, polyC, Int.toNat_one]; done)) ?_
 refine skip_k ?_
 refine hN32 _ ?_
 refine seq_k fun N33 M33 hN33 hM33 => ?_
 refine block_k fun B34 bn34 bx34 br34 bi34 => ?_
 refine sr_k fun K35 hK35 => ?_
 simp only [go_sem, polyC, Int.toNat_one]
 all_goals repeat' (first | apply And.intro | intro _)
 refine hK35 _ ?_
 refine region_k fun K36 hK36 => ?_
 simp only [go_sem, polyC, Int.toNat_one]
 all_goals repeat' (first | apply And.intro | intro _)
 refine hK36 _ ?_
 refine bn34 _ ?_
 refine hN33 _ ?_
 refine region_k fun K37 hK37 => ?_
 simp only [go_sem, polyC, Int.toNat_one]
 all_goals repeat' (first | apply And.intro | intro _)
 refine hK37 _ ?_
 refine hN30 _ ?_
 refine rnd_forget [3, 7, 8, 9, 10, 11, 12, 13, 14, 15, 16] ?_
 simp only [go_sem, St.forget, fgt]
 refine rnd_k fun N38 M38 hN38 hM38 => ?_
 refine sr_k fun K39 hK39 => ?_
 simp only [go_sem, polyC, Int.toNat_one]
 all_goals repeat' (first | apply And.intro | intro _)
 refine hK39 _ ?_
 refine seq_k fun N40 M40 hN40 hM40 => ?_
 refine condF_k (by first | rfl | (simp [go_sem, polyC, Int.toNat_one]; done)) ?_
 refine exit_k ?_
 refine hM40 _ _ ?_
 refine hM38 _ _ ?_
 refine bx4 _ ?_
 refine hN2 _ ?_
 refine seq_k fun N41 M41 hN41 hM41 => ?_
 refine sr_k fun K42 hK42 => ?_
 simp only [go_sem, polyC, Int.toNat_one]
 all_goals repeat' (first | apply And.intro | intro _)
 refine hK42 _ ?_
 refine block_k fun B43 bn43 bx43 br43 bi43 => ?_
 refine rounds_k 4 ?_
 refine rnd_k fun N45 M45 hN45 hM45 => ?_
 refine seq_k fun N46 M46 hN46 hM46 => ?_
 refine sr_k fun K47 hK47 => ?_
 simp only [go_sem, polyC, Int.toNat_one]
 all_goals repeat' (first | apply And.intro | intro _)
 refine hK47 _ ?_
 refine condT_k (by first | rfl | (simp [go_sem, polyC, Int.toNat_one]; done)) ?_
 refine skip_k ?_
 refine hN46 _ ?_
 refine seq_k fun N48 M48 hN48 hM48 => ?_
 refine block_k fun B49 bn49 bx49 br49 bi49 => ?_
 refine region_k fun K50 hK50 => ?_
 simp only [go_sem, polyC, Int.toNat_one]
 all_goals repeat' (first | apply And.intro | intro _)
 refine hK50 _ ?_
 refine bn49 _ ?_
 refine hN48 _ ?_
 refine region_k fun K51 hK51 => ?_
 simp only [go_sem, polyC, Int.toNat_one]
 all_goals repeat' (first | apply And.intro | intro _)
 refine hK51 _ ?_
 refine hN45 _ ?_
 refine rnd_forget [17, 18, 19, 20, 21, 22, 23, 24, 25] ?_
 simp only [go_sem, St.forget, fgt]
 refine rnd_k fun N52 M52 hN52 hM52 => ?_
 refine seq_k fun N53 M53 hN53 hM53 => ?_
 refine sr_k fun K54 hK54 => ?_
 simp only [go_sem, polyC, Int.toNat_one]
 all_goals repeat' (first | apply And.intro | intro _)
 refine hK54 _ ?_
 refine condT_k (by first | rfl | (simp [go_sem, polyC, Int.toNat_one]; done)) ?_
 refine skip_k ?_
 refine hN53 _ ?_
 refine seq_k fun N55 M55 hN55 hM55 => ?_
 refine block_k fun B56 bn56 bx56 br56 bi56 => ?_
 refine region_k fun K57 hK57 => ?_
 simp only [go_sem, polyC, Int.toNat_one]
 all_goals repeat' (first | apply And.intro | intro _)
 refine hK57 _ ?_
 refine bn56 _ ?_
 refine hN55 _ ?_
 refine region_k fun K58 hK58 => ?_
 simp only [go_sem, polyC, Int.toNat_one]
 all_goals repeat' (first | apply And.intro | intro _)
 refine hK58 _ ?_
 refine hN52 _ ?_
 refine rnd_forget [17, 18, 19, 20, 21, 22, 23, 24, 25] ?_
 simp only [go_sem, St.forget, fgt]
 refine rnd_k fun N59 M59 hN59 hM59 => ?_
 refine seq_k fun N60 M60 hN60 hM60 => ?_
 refine sr_k fun K61 hK61 => ?_
 simp only [go_sem, polyC, Int.toNat_one]
 all_goals repeat' (first | apply And.intro | intro _)
 refine hK61 _ ?_
 refine condT_k (by first | rfl | (simp [go_sem, polyC, Int.toNat_one]; done)) ?_
 refine skip_k ?_
 refine hN60 _ ?_
 refine seq_k fun N62 M62 hN62 hM62 => ?_
 refine block_k fun B63 bn63 bx63 br63 bi63 => ?_
 refine region_k fun K64 hK64 => ?_
 simp only [go_sem, polyC, Int.toNat_one]
 all_goals repeat' (first | apply And.intro | intro _)
 refine hK64 _ ?_
 refine bn63 _ ?_
 refine hN62 _ ?_
 refine region_k fun K65 hK65 => ?_
 simp only [go_sem, polyC, Int.toNat_one]
 all_goals repeat' (first | apply And.intro | intro _)
 refine hK65 _ ?_
 refine hN59 _ ?_
 refine rnd_forget [17, 18, 19, 20, 21, 22, 23, 24, 25] ?_
 simp only [go_sem, St.forget, fgt]
 refine rnd_k fun N66 M66 hN66 hM66 => ?_
 refine seq_k fun N67 M67 hN67 hM67 => ?_
 refine sr_k fun K68 hK68 => ?_
 simp only [go_sem, polyC, Int.toNat_one]
 all_goals repeat' (first | apply And.intro | intro _)
 refine hK68 _ ?_
 refine condF_k (by first | rfl | (simp [go_sem, polyC, Int.toNat_one]; done)) ?_
 refine exit_k ?_
 refine hM67 _ _ ?_
 refine hM66 _ _ ?_
 refine bx43 _ ?_
 refine hN41 _ ?_
 refine sr_k fun K69 hK69 => ?_
 simp only [go_sem, polyC, Int.toNat_one]
 all_goals repeat' (first | apply And.intro | intro _)
 refine hK69 _ ?_
 refine sd_k [28, 29, 30, 31, 32, 33, 34, 35, 36, 37, 38, 39, 40, 41, 42] [0, 1, 3, 0, 8, 31, 63, 0, 128, 447, 0, 1024, 4031, 8127, 16383, 32767] [] mixed (by kernel_rfl) (by simp only [go_sem]) fun K70 hK70 => ?_
 simp only [go_sem, polyC, Int.toNat_one]
 all_goals repeat' (first | apply And.intro | intro _)
 all_goals refine call_draw (fun k => k) _ [] (fun _ _ => rfl) (by first | rfl | (simp only [go_sem, polyC, Int.toNat_one]; rfl) | simp only [go_sem, polyC, Int.toNat_one]) ((number_ _ (by simp)).plain fun _ _ h => h) ?_ ?_
 all_goals try (refine And.intro ?_ (And.intro ?_ (And.intro ?_ ?_)) <;> first | rfl | simp only [go_sem])
 all_goals simp only [go_sem, polyC, Int.toNat_one]
 all_goals repeat' (first | apply And.intro | intro _)
 all_goals refine call_draw (fun k => k) _ [] (fun _ _ => rfl) (by first | rfl | (simp only [go_sem, polyC, Int.toNat_one]; rfl) | simp only [go_sem, polyC, Int.toNat_one]) ((number_ _ (by simp)).plain fun _ _ h => h) ?_ ?_
 all_goals try (refine And.intro ?_ (And.intro ?_ (And.intro ?_ ?_)) <;> first | rfl | simp only [go_sem])
 all_goals simp only [go_sem, polyC, Int.toNat_one]
 all_goals repeat' (first | apply And.intro | intro _)
 all_goals refine call_draw (fun k => k) _ [] (fun _ _ => rfl) (by first | rfl | (simp only [go_sem, polyC, Int.toNat_one]; rfl) | simp only [go_sem, polyC, Int.toNat_one]) ((number_ _ (by simp)).plain fun _ _ h => h) ?_ ?_
 all_goals try (refine And.intro ?_ (And.intro ?_ (And.intro ?_ ?_)) <;> first | rfl | simp only [go_sem])
 all_goals simp only [go_sem, polyC, Int.toNat_one]
 all_goals repeat' (first | apply And.intro | intro _)
 all_goals refine call_draw (fun k => k) _ [] (fun _ _ => rfl) (by first | rfl | (simp only [go_sem, polyC, Int.toNat_one]; rfl) | simp only [go_sem, polyC, Int.toNat_one]) ((number_ _ (by simp)).plain fun _ _ h => h) ?_ ?_
 all_goals try (refine And.intro ?_ (And.intro ?_ (And.intro ?_ ?_)) <;> first | rfl | simp only [go_sem])
 all_goals simp only [go_sem, polyC, Int.toNat_one]
 all_goals repeat' (first | apply And.intro | intro _)
 refine hK70 _ _ ?_ ?_
 · first | trivial | (simp only [go_sem]; done) | (simp only [go_sem]; simp; done) | (simp only [go_sem]; simp; simp only [go_sem])
 refine ret_k ?_
 simp only [go_sem, polyC, Int.toNat_one]
 all_goals (first | rfl | simp [polyC])
theorem lev_m0 (b0 b1 b2 b3 b4 b5 b6 b7 : UInt8) : lev [b0, b1, b2, b3 &&& 15, b4 &&& 252, b5, b6, b7 &&& 15] = lev [b0, b1, b2, b3, b4, b5, b6, b7] &&& 1152921487695413247 := by
 apply UInt64.toNat_inj.mp
 rw [UInt64.toNat_and, lev_nat (by simp), lev_nat (by simp)]
 simp only [leN, UInt8.toNat_and]
 show (b0.toNat + 256 * (b1.toNat + 256 * (b2.toNat + 256 * ((b3.toNat &&& 15) + 256 * ((b4.toNat &&& 252) + 256 * (b5.toNat + 256 * (b6.toNat + 256 * ((b7.toNat &&& 15) + 256 * 0)))))))) = (b0.toNat + 256 * (b1.toNat + 256 * (b2.toNat + 256 * (b3.toNat + 256 * (b4.toNat + 256 * (b5.toNat + 256 * (b6.toNat + 256 * (b7.toNat + 256 * 0)))))))) &&& (255 + 256 * (255 + 256 * (255 + 256 * (15 + 256 * (252 + 256 * (255 + 256 * (255 + 256 * (15 + 256 * 0))))))))
 have h0 := b0.toNat_lt
 have g0 : b0.toNat &&& 255 = b0.toNat := by rw [show (255 : Nat) = 2 ^ 8 - 1 from rfl, Nat.and_two_pow_sub_one_eq_mod, Nat.mod_eq_of_lt h0]
 have h1 := b1.toNat_lt
 have g1 : b1.toNat &&& 255 = b1.toNat := by rw [show (255 : Nat) = 2 ^ 8 - 1 from rfl, Nat.and_two_pow_sub_one_eq_mod, Nat.mod_eq_of_lt h1]
 have h2 := b2.toNat_lt
 have g2 : b2.toNat &&& 255 = b2.toNat := by rw [show (255 : Nat) = 2 ^ 8 - 1 from rfl, Nat.and_two_pow_sub_one_eq_mod, Nat.mod_eq_of_lt h2]
 have h3 := b3.toNat_lt
 have g3 : b3.toNat &&& 255 = b3.toNat := by rw [show (255 : Nat) = 2 ^ 8 - 1 from rfl, Nat.and_two_pow_sub_one_eq_mod, Nat.mod_eq_of_lt h3]
 have h4 := b4.toNat_lt
 have g4 : b4.toNat &&& 255 = b4.toNat := by rw [show (255 : Nat) = 2 ^ 8 - 1 from rfl, Nat.and_two_pow_sub_one_eq_mod, Nat.mod_eq_of_lt h4]
 have h5 := b5.toNat_lt
 have g5 : b5.toNat &&& 255 = b5.toNat := by rw [show (255 : Nat) = 2 ^ 8 - 1 from rfl, Nat.and_two_pow_sub_one_eq_mod, Nat.mod_eq_of_lt h5]
 have h6 := b6.toNat_lt
 have g6 : b6.toNat &&& 255 = b6.toNat := by rw [show (255 : Nat) = 2 ^ 8 - 1 from rfl, Nat.and_two_pow_sub_one_eq_mod, Nat.mod_eq_of_lt h6]
 have h7 := b7.toNat_lt
 have g7 : b7.toNat &&& 255 = b7.toNat := by rw [show (255 : Nat) = 2 ^ 8 - 1 from rfl, Nat.and_two_pow_sub_one_eq_mod, Nat.mod_eq_of_lt h7]
 rw [and_step (a := b0.toNat) h0 (by decide), and_step (a := b1.toNat) h1 (by decide), and_step (a := b2.toNat) h2 (by decide), and_step (a := b3.toNat) h3 (by decide), and_step (a := b4.toNat) h4 (by decide), and_step (a := b5.toNat) h5 (by decide), and_step (a := b6.toNat) h6 (by decide), and_step (a := b7.toNat) h7 (by decide), Nat.zero_and, g0, g1, g2, g5, g6]
theorem lev_m1 (b0 b1 b2 b3 b4 b5 b6 b7 : UInt8) : lev [b0 &&& 252, b1, b2, b3 &&& 15, b4 &&& 252, b5, b6, b7 &&& 15] = lev [b0, b1, b2, b3, b4, b5, b6, b7] &&& 1152921487695413244 := by
 apply UInt64.toNat_inj.mp
 rw [UInt64.toNat_and, lev_nat (by simp), lev_nat (by simp)]
 simp only [leN, UInt8.toNat_and]
 show ((b0.toNat &&& 252) + 256 * (b1.toNat + 256 * (b2.toNat + 256 * ((b3.toNat &&& 15) + 256 * ((b4.toNat &&& 252) + 256 * (b5.toNat + 256 * (b6.toNat + 256 * ((b7.toNat &&& 15) + 256 * 0)))))))) = (b0.toNat + 256 * (b1.toNat + 256 * (b2.toNat + 256 * (b3.toNat + 256 * (b4.toNat + 256 * (b5.toNat + 256 * (b6.toNat + 256 * (b7.toNat + 256 * 0)))))))) &&& (252 + 256 * (255 + 256 * (255 + 256 * (15 + 256 * (252 + 256 * (255 + 256 * (255 + 256 * (15 + 256 * 0))))))))
 have h0 := b0.toNat_lt
 have g0 : b0.toNat &&& 255 = b0.toNat := by rw [show (255 : Nat) = 2 ^ 8 - 1 from rfl, Nat.and_two_pow_sub_one_eq_mod, Nat.mod_eq_of_lt h0]
 have h1 := b1.toNat_lt
 have g1 : b1.toNat &&& 255 = b1.toNat := by rw [show (255 : Nat) = 2 ^ 8 - 1 from rfl, Nat.and_two_pow_sub_one_eq_mod, Nat.mod_eq_of_lt h1]
 have h2 := b2.toNat_lt
 have g2 : b2.toNat &&& 255 = b2.toNat := by rw [show (255 : Nat) = 2 ^ 8 - 1 from rfl, Nat.and_two_pow_sub_one_eq_mod, Nat.mod_eq_of_lt h2]
 have h3 := b3.toNat_lt
 have g3 : b3.toNat &&& 255 = b3.toNat := by rw [show (255 : Nat) = 2 ^ 8 - 1 from rfl, Nat.and_two_pow_sub_one_eq_mod, Nat.mod_eq_of_lt h3]
 have h4 := b4.toNat_lt
 have g4 : b4.toNat &&& 255 = b4.toNat := by rw [show (255 : Nat) = 2 ^ 8 - 1 from rfl, Nat.and_two_pow_sub_one_eq_mod, Nat.mod_eq_of_lt h4]
 have h5 := b5.toNat_lt
 have g5 : b5.toNat &&& 255 = b5.toNat := by rw [show (255 : Nat) = 2 ^ 8 - 1 from rfl, Nat.and_two_pow_sub_one_eq_mod, Nat.mod_eq_of_lt h5]
 have h6 := b6.toNat_lt
 have g6 : b6.toNat &&& 255 = b6.toNat := by rw [show (255 : Nat) = 2 ^ 8 - 1 from rfl, Nat.and_two_pow_sub_one_eq_mod, Nat.mod_eq_of_lt h6]
 have h7 := b7.toNat_lt
 have g7 : b7.toNat &&& 255 = b7.toNat := by rw [show (255 : Nat) = 2 ^ 8 - 1 from rfl, Nat.and_two_pow_sub_one_eq_mod, Nat.mod_eq_of_lt h7]
 rw [and_step (a := b0.toNat) h0 (by decide), and_step (a := b1.toNat) h1 (by decide), and_step (a := b2.toNat) h2 (by decide), and_step (a := b3.toNat) h3 (by decide), and_step (a := b4.toNat) h4 (by decide), and_step (a := b5.toNat) h5 (by decide), and_step (a := b6.toNat) h6 (by decide), and_step (a := b7.toNat) h7 (by decide), Nat.zero_and, g1, g2, g5, g6]
theorem poly_begun (key : List UInt8) (hk : key.length = 32) : Ct Try.prog 16 [.w (.agg (bytesC key))] (fun v m => v = .w (.agg (begC key))) := by
 match key, hk with
 | [k0, k1, k2, k3, k4, k5, k6, k7, k8, k9, k10, k11, k12, k13, k14, k15, k16, k17, k18, k19, k20, k21, k22, k23, k24, k25, k26, k27, k28, k29, k30, k31], _ =>
  have h := poly_begun_ k0 k1 k2 k3 k4 k5 k6 k7 k8 k9 k10 k11 k12 k13 k14 k15 k16 k17 k18 k19 k20 k21 k22 k23 k24 k25 k26 k27 k28 k29 k30 k31
  rw [lev_m0, lev_m1] at h
  exact h
end Go.Sy
