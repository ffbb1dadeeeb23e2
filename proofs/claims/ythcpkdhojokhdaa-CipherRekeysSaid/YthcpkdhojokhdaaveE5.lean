/- Walks: a sum begun, as the document tells it. -/
import Derived.Test.YthcpkdhojokhdaaveE4
set_option linter.unusedVariables false
set_option linter.unusedSimpArgs false
namespace Go.Sy
open Go.Proofs
attribute [local irreducible] atCall HT runOps runD onC onE onO onG goV goA goS onSt onGuard
set_option maxHeartbeats 3200000 in
set_option maxRecDepth 100000 in
theorem poly_begun_ (k0 k1 k2 k3 k4 k5 k6 k7 k8 k9 k10 k11 k12 k13 k14 k15 k16 k17 k18 k19 k20 k21 k22 k23 k24 k25 k26 k27 k28 k29 k30 k31 : UInt8) :
 Ct Try.prog 16 [.w (.agg [.pl (.u8 k0), .pl (.u8 k1), .pl (.u8 k2), .pl (.u8 k3), .pl (.u8 k4), .pl (.u8 k5), .pl (.u8 k6), .pl (.u8 k7), .pl (.u8 k8), .pl (.u8 k9), .pl (.u8 k10), .pl (.u8 k11), .pl (.u8 k12), .pl (.u8 k13), .pl (.u8 k14), .pl (.u8 k15), .pl (.u8 k16), .pl (.u8 k17), .pl (.u8 k18), .pl (.u8 k19), .pl (.u8 k20), .pl (.u8 k21), .pl (.u8 k22), .pl (.u8 k23), .pl (.u8 k24), .pl (.u8 k25), .pl (.u8 k26), .pl (.u8 k27), .pl (.u8 k28), .pl (.u8 k29), .pl (.u8 k30), .pl (.u8 k31)])] (fun v m => v = .w (.agg (polyC (lev [k0, k1, k2, k3 &&& 15, k4 &&& 252, k5, k6, k7 &&& 15]) (lev [k8 &&& 252, k9, k10, k11 &&& 15, k12 &&& 252, k13, k14, k15 &&& 15]) (lev [k16, k17, k18, k19, k20, k21, k22, k23]) (lev [k24, k25, k26, k27, k28, k29, k30, k31]) 0 0 0 (List.replicate 16 0) 0))) := by
 refine Ct.k Try.func16 rfl Try.ntmps16 (congrArg Array.toList Try.results16) (by simp) fun w0 ro => ?_
 refine top_k fun zZ zhZ => ?_
 iterate 162 first
  | (refine rnd_forget (x := .seq (.region 2 _ _) _) [3, 7, 8, 9, 10, 11, 12, 13, 14, 15, 16] ?_; simp only [go_sem, St.forget, fgt]; refine rnd_k fun zN zM zhN zhM => ?_)
  | (refine rnd_forget [17, 18, 19, 20, 21, 22, 23, 24, 25] ?_; simp only [go_sem, St.forget, fgt]; refine rnd_k fun zN zM zhN zhM => ?_)
  | refine zhK _ ?_
  | (refine zhN _ ?_; clear zhN zhM)
  | (refine sr_k fun zK zhK => ?_; simp only [go_sem, polyC, Int.toNat_one]; (repeat' (first | apply And.intro | intro _)))
  | (refine region_k fun zK zhK => ?_; simp only [go_sem, polyC, Int.toNat_one]; (repeat' (first | apply And.intro | intro _)))
  | refine block_k fun zB zbn zbx zbr zbi => ?_
  | refine skip_k ?_
  | (refine zbn _ ?_; clear zbn zbx zbr zbi)
  | (refine zhM _ _ ?_; clear zhN zhM)
  | refine rnd_k fun zN zM zhN zhM => ?_
  | refine exit_k ?_
  | (refine zbx _ ?_; clear zbn zbx zbr zbi)
  | refine rounds_k (x := .seq (.region 2 _ _) _) 5 ?_
  | refine rounds_k 4 ?_
  | (refine sd_k (id := 11) [28, 29, 30, 31, 32, 33, 34, 35, 36, 37, 38, 39, 40, 41, 42] [0, 1, 3, 0, 8, 31, 63, 0, 128, 447, 0, 1024, 4031, 8127, 16383, 32767] [] mixed (by kernel_rfl) (by simp only [go_sem]) fun zK zhK => ?_; simp only [go_sem, polyC, Int.toNat_one]; (repeat' (first | apply And.intro | intro _)))
  | refine zhK _ _ trivial ?_
  | refine ret_k ?_
  | (refine zhZ _ _ ?_; simp only [go_sem, polyC, Int.toNat_one]; (all_goals (first | rfl | simp [polyC])))
  | ((all_goals refine call_draw (fun k => k) _ [] (fun _ _ => rfl) (by first | rfl | (simp only [go_sem, polyC, Int.toNat_one] <;> rfl)) ((number_ _ (by simp)).plain fun _ _ h => h) ?_ ?_); (all_goals try (refine And.intro ?_ (And.intro ?_ (And.intro ?_ ?_)) <;> first | rfl | simp only [go_sem])); (all_goals simp only [go_sem, polyC, Int.toNat_one]); (all_goals repeat' (first | apply And.intro | intro _)))
  | refine seq_k fun zN zM zhN zhM => ?_
  | (refine condT_k ?_ ?_; focus (first | rfl | (simp [go_sem, polyC, Int.toNat_one]; done)))
  | (refine condF_k ?_ ?_; focus (first | rfl | (simp [go_sem, polyC, Int.toNat_one]; done)))
theorem lev_m0 (b0 b1 b2 b3 b4 b5 b6 b7 : UInt8) : lev [b0, b1, b2, b3 &&& 15, b4 &&& 252, b5, b6, b7 &&& 15] = lev [b0, b1, b2, b3, b4, b5, b6, b7] &&& 1152921487695413247 := by
 apply UInt64.toNat_inj.mp
 rw [UInt64.toNat_and, lev_nat (by simp), lev_nat (by simp)]
 simp only [leN, UInt8.toNat_and]
 show (b0.toNat + 256 * (b1.toNat + 256 * (b2.toNat + 256 * ((b3.toNat &&& 15) + 256 * ((b4.toNat &&& 252) + 256 * (b5.toNat + 256 * (b6.toNat + 256 * ((b7.toNat &&& 15) + 256 * 0)))))))) = (b0.toNat + 256 * (b1.toNat + 256 * (b2.toNat + 256 * (b3.toNat + 256 * (b4.toNat + 256 * (b5.toNat + 256 * (b6.toNat + 256 * (b7.toNat + 256 * 0)))))))) &&& (255 + 256 * (255 + 256 * (255 + 256 * (15 + 256 * (252 + 256 * (255 + 256 * (255 + 256 * (15 + 256 * 0))))))))
 have h0 := b0.toNat_lt
 have g0 : b0.toNat &&& 255 = b0.toNat := by rw [show (255 : Nat) = 2 ^ 8 - 1 from rfl, Nat.and_two_pow_sub_one_eq_mod, Nat.mod_eq_of_lt h0]
 have h1 := b1.toNat_lt
 have g1 : b1.toNat &&& 255 = b1.toNat := by rw [show (255 : Nat) = 2 ^ 8 - 1 from rfl, Nat.and_two_pow_sub_one_eq_mod, Nat.mod_eq_of_lt h1]
 have h2 := b2.toNat_lt
 have g2 : b2.toNat &&& 255 = b2.toNat := by rw [show (255 : Nat) = 2 ^ 8 - 1 from rfl, Nat.and_two_pow_sub_one_eq_mod, Nat.mod_eq_of_lt h2]
 have h3 := b3.toNat_lt
 have g3 : b3.toNat &&& 255 = b3.toNat := by rw [show (255 : Nat) = 2 ^ 8 - 1 from rfl, Nat.and_two_pow_sub_one_eq_mod, Nat.mod_eq_of_lt h3]
 have h4 := b4.toNat_lt
 have g4 : b4.toNat &&& 255 = b4.toNat := by rw [show (255 : Nat) = 2 ^ 8 - 1 from rfl, Nat.and_two_pow_sub_one_eq_mod, Nat.mod_eq_of_lt h4]
 have h5 := b5.toNat_lt
 have g5 : b5.toNat &&& 255 = b5.toNat := by rw [show (255 : Nat) = 2 ^ 8 - 1 from rfl, Nat.and_two_pow_sub_one_eq_mod, Nat.mod_eq_of_lt h5]
 have h6 := b6.toNat_lt
 have g6 : b6.toNat &&& 255 = b6.toNat := by rw [show (255 : Nat) = 2 ^ 8 - 1 from rfl, Nat.and_two_pow_sub_one_eq_mod, Nat.mod_eq_of_lt h6]
 have h7 := b7.toNat_lt
 have g7 : b7.toNat &&& 255 = b7.toNat := by rw [show (255 : Nat) = 2 ^ 8 - 1 from rfl, Nat.and_two_pow_sub_one_eq_mod, Nat.mod_eq_of_lt h7]
 rw [and_step (a := b0.toNat) h0 (by decide), and_step (a := b1.toNat) h1 (by decide), and_step (a := b2.toNat) h2 (by decide), and_step (a := b3.toNat) h3 (by decide), and_step (a := b4.toNat) h4 (by decide), and_step (a := b5.toNat) h5 (by decide), and_step (a := b6.toNat) h6 (by decide), and_step (a := b7.toNat) h7 (by decide), Nat.zero_and, g0, g1, g2, g5, g6]
theorem lev_m1 (b0 b1 b2 b3 b4 b5 b6 b7 : UInt8) : lev [b0 &&& 252, b1, b2, b3 &&& 15, b4 &&& 252, b5, b6, b7 &&& 15] = lev [b0, b1, b2, b3, b4, b5, b6, b7] &&& 1152921487695413244 := by
 apply UInt64.toNat_inj.mp
 rw [UInt64.toNat_and, lev_nat (by simp), lev_nat (by simp)]
 simp only [leN, UInt8.toNat_and]
 show ((b0.toNat &&& 252) + 256 * (b1.toNat + 256 * (b2.toNat + 256 * ((b3.toNat &&& 15) + 256 * ((b4.toNat &&& 252) + 256 * (b5.toNat + 256 * (b6.toNat + 256 * ((b7.toNat &&& 15) + 256 * 0)))))))) = (b0.toNat + 256 * (b1.toNat + 256 * (b2.toNat + 256 * (b3.toNat + 256 * (b4.toNat + 256 * (b5.toNat + 256 * (b6.toNat + 256 * (b7.toNat + 256 * 0)))))))) &&& (252 + 256 * (255 + 256 * (255 + 256 * (15 + 256 * (252 + 256 * (255 + 256 * (255 + 256 * (15 + 256 * 0))))))))
 have h0 := b0.toNat_lt
 have g0 : b0.toNat &&& 255 = b0.toNat := by rw [show (255 : Nat) = 2 ^ 8 - 1 from rfl, Nat.and_two_pow_sub_one_eq_mod, Nat.mod_eq_of_lt h0]
 have h1 := b1.toNat_lt
 have g1 : b1.toNat &&& 255 = b1.toNat := by rw [show (255 : Nat) = 2 ^ 8 - 1 from rfl, Nat.and_two_pow_sub_one_eq_mod, Nat.mod_eq_of_lt h1]
 have h2 := b2.toNat_lt
 have g2 : b2.toNat &&& 255 = b2.toNat := by rw [show (255 : Nat) = 2 ^ 8 - 1 from rfl, Nat.and_two_pow_sub_one_eq_mod, Nat.mod_eq_of_lt h2]
 have h3 := b3.toNat_lt
 have g3 : b3.toNat &&& 255 = b3.toNat := by rw [show (255 : Nat) = 2 ^ 8 - 1 from rfl, Nat.and_two_pow_sub_one_eq_mod, Nat.mod_eq_of_lt h3]
 have h4 := b4.toNat_lt
 have g4 : b4.toNat &&& 255 = b4.toNat := by rw [show (255 : Nat) = 2 ^ 8 - 1 from rfl, Nat.and_two_pow_sub_one_eq_mod, Nat.mod_eq_of_lt h4]
 have h5 := b5.toNat_lt
 have g5 : b5.toNat &&& 255 = b5.toNat := by rw [show (255 : Nat) = 2 ^ 8 - 1 from rfl, Nat.and_two_pow_sub_one_eq_mod, Nat.mod_eq_of_lt h5]
 have h6 := b6.toNat_lt
 have g6 : b6.toNat &&& 255 = b6.toNat := by rw [show (255 : Nat) = 2 ^ 8 - 1 from rfl, Nat.and_two_pow_sub_one_eq_mod, Nat.mod_eq_of_lt h6]
 have h7 := b7.toNat_lt
 have g7 : b7.toNat &&& 255 = b7.toNat := by rw [show (255 : Nat) = 2 ^ 8 - 1 from rfl, Nat.and_two_pow_sub_one_eq_mod, Nat.mod_eq_of_lt h7]
 rw [and_step (a := b0.toNat) h0 (by decide), and_step (a := b1.toNat) h1 (by decide), and_step (a := b2.toNat) h2 (by decide), and_step (a := b3.toNat) h3 (by decide), and_step (a := b4.toNat) h4 (by decide), and_step (a := b5.toNat) h5 (by decide), and_step (a := b6.toNat) h6 (by decide), and_step (a := b7.toNat) h7 (by decide), Nat.zero_and, g1, g2, g5, g6]
theorem poly_begun (key : List UInt8) (hk : key.length = 32) : Ct Try.prog 16 [.w (.agg (bytesC key))] (fun v m => v = .w (.agg (begC key))) := by
 match key, hk with
 | [k0, k1, k2, k3, k4, k5, k6, k7, k8, k9, k10, k11, k12, k13, k14, k15, k16, k17, k18, k19, k20, k21, k22, k23, k24, k25, k26, k27, k28, k29, k30, k31], _ =>
  have h := poly_begun_ k0 k1 k2 k3 k4 k5 k6 k7 k8 k9 k10 k11 k12 k13 k14 k15 k16 k17 k18 k19 k20 k21 k22 k23 k24 k25 k26 k27 k28 k29 k30 k31
  rw [lev_m0, lev_m1] at h
  exact h
end Go.Sy

