/- Walks: four words and two more mixed. -/
import Derived.Test.YtcmcnfjdfcianaaDoorvqgB1
set_option linter.unusedVariables false
set_option linter.unusedSimpArgs false
namespace Go.Sy
namespace Bk
open Go.Proofs
attribute [local irreducible] atCall HT runOps runD onC onE onO onG goV goA goS onSt onGuard
def ma1 (a b x : UInt32) : UInt32 := a + (b + x)
def md1 (a b d x : UInt32) : UInt32 := rot32 (d ^^^ ma1 a b x) 16
def mc1 (a b c d x : UInt32) : UInt32 := c + md1 a b d x
def mb1 (a b c d x : UInt32) : UInt32 := rot32 (b ^^^ mc1 a b c d x) 20
def mA (a b c d x y : UInt32) : UInt32 := ma1 a b x + (mb1 a b c d x + y)
def mD (a b c d x y : UInt32) : UInt32 := rot32 (md1 a b d x ^^^ mA a b c d x y) 24
def mC (a b c d x y : UInt32) : UInt32 := mc1 a b c d x + mD a b c d x y
def mB (a b c d x y : UInt32) : UInt32 := rot32 (mb1 a b c d x ^^^ mC a b c d x y) 25
set_option maxHeartbeats 800000 in
set_option maxRecDepth 100000 in
theorem mix_0_ (x0 x1 x2 x3 x4 x5 x6 x7 x8 x9 x10 x11 x12 x13 x14 x15 x y : UInt32) :
 CtM Tryd.prog 69 [.w (.one (.pl (.i 0))), .w (.one (.pl (.i 4))), .w (.one (.pl (.i 8))), .w (.one (.pl (.i 12))), .w (.one (.pl (.u32 x))), .w (.one (.pl (.u32 y))), .w (.one (.p 500000 []))] [(500000, ⟨false, [.pl (.u32 x0), .pl (.u32 x1), .pl (.u32 x2), .pl (.u32 x3), .pl (.u32 x4), .pl (.u32 x5), .pl (.u32 x6), .pl (.u32 x7), .pl (.u32 x8), .pl (.u32 x9), .pl (.u32 x10), .pl (.u32 x11), .pl (.u32 x12), .pl (.u32 x13), .pl (.u32 x14), .pl (.u32 x15)]⟩)] (fun v m => v = .tup [] ∧ m = [(500000, ⟨false, [.pl (.u32 (mA x0 x4 x8 x12 x y)), .pl (.u32 x1), .pl (.u32 x2), .pl (.u32 x3), .pl (.u32 (mB x0 x4 x8 x12 x y)), .pl (.u32 x5), .pl (.u32 x6), .pl (.u32 x7), .pl (.u32 (mC x0 x4 x8 x12 x y)), .pl (.u32 x9), .pl (.u32 x10), .pl (.u32 x11), .pl (.u32 (mD x0 x4 x8 x12 x y)), .pl (.u32 x13), .pl (.u32 x14), .pl (.u32 x15)]⟩)]) := by
 refine CtM.k Tryd.func69 rfl Tryd.ntmps69 (congrArg Array.toList Tryd.results69) (by simp) fun w0 ro may fx => ?_
 refine top_k fun zZ zhZ => ?_
 refine sd_k (id := 0) [13, 14, 15, 16, 17, 18, 19, 20, 21, 22] [0, 1, 3, 0, 8, 24, 0, 120, 255, 511, 1023] [] mixed (by kernel_rfl) (by simp only [go_sem]) fun zK zhK => ?_
 simp only [go_sem, Int.toNat_one]
 repeat' (first | apply And.intro | intro _)
 refine zhK _ _ trivial ?_
 refine sd_k (id := 1) [23, 24, 25, 26, 27, 28, 29, 30, 31, 32] [0, 0, 2, 6, 0, 16, 48, 126, 254, 511, 1023] [] mixed (by kernel_rfl) (by simp only [go_sem]) fun zK zhK => ?_
 simp only [go_sem, Int.toNat_one]
 repeat' (first | apply And.intro | intro _)
 all_goals refine call_draw (fun k => k) _ [] (fun _ _ => rfl) (by first | rfl | (simp only [go_sem, Int.toNat_one] <;> rfl)) ((rotl_16 _).plain fun _ _ h => h) ?_ ?_
 all_goals try (refine And.intro ?_ (And.intro ?_ (And.intro ?_ ?_)) <;> first | rfl | simp only [go_sem])
 all_goals simp only [go_sem, Int.toNat_one]
 all_goals repeat' (first | apply And.intro | intro _)
 refine zhK _ _ trivial ?_
 refine sd_k (id := 2) [33, 34, 35, 36, 37, 38, 39, 40] [0, 1, 3, 0, 8, 24, 63, 127, 255] [] mixed (by kernel_rfl) (by simp only [go_sem]) fun zK zhK => ?_
 simp only [go_sem, Int.toNat_one]
 repeat' (first | apply And.intro | intro _)
 refine zhK _ _ trivial ?_
 refine sd_k (id := 3) [41, 42, 43, 44, 45, 46, 47, 48, 49, 50] [0, 0, 2, 6, 0, 16, 48, 126, 254, 511, 1023] [] mixed (by kernel_rfl) (by simp only [go_sem]) fun zK zhK => ?_
 simp only [go_sem, Int.toNat_one]
 repeat' (first | apply And.intro | intro _)
 all_goals refine call_draw (fun k => k) _ [] (fun _ _ => rfl) (by first | rfl | (simp only [go_sem, Int.toNat_one] <;> rfl)) ((rotl_20 _).plain fun _ _ h => h) ?_ ?_
 all_goals try (refine And.intro ?_ (And.intro ?_ (And.intro ?_ ?_)) <;> first | rfl | simp only [go_sem])
 all_goals simp only [go_sem, Int.toNat_one]
 all_goals repeat' (first | apply And.intro | intro _)
 refine zhK _ _ trivial ?_
 refine sd_k (id := 4) [51, 52, 53, 54, 55, 56, 57, 58, 59, 60] [0, 1, 3, 0, 8, 24, 0, 120, 255, 511, 1023] [] mixed (by kernel_rfl) (by simp only [go_sem]) fun zK zhK => ?_
 simp only [go_sem, Int.toNat_one]
 repeat' (first | apply And.intro | intro _)
 refine zhK _ _ trivial ?_
 refine sd_k (id := 5) [61, 62, 63, 64, 65, 66, 67, 68, 69, 70] [0, 0, 2, 6, 0, 16, 48, 126, 254, 511, 1023] [] mixed (by kernel_rfl) (by simp only [go_sem]) fun zK zhK => ?_
 simp only [go_sem, Int.toNat_one]
 repeat' (first | apply And.intro | intro _)
 all_goals refine call_draw (fun k => k) _ [] (fun _ _ => rfl) (by first | rfl | (simp only [go_sem, Int.toNat_one] <;> rfl)) ((rotl_24 _).plain fun _ _ h => h) ?_ ?_
 all_goals try (refine And.intro ?_ (And.intro ?_ (And.intro ?_ ?_)) <;> first | rfl | simp only [go_sem])
 all_goals simp only [go_sem, Int.toNat_one]
 all_goals repeat' (first | apply And.intro | intro _)
 refine zhK _ _ trivial ?_
 refine sd_k (id := 6) [71, 72, 73, 74, 75, 76, 77, 78] [0, 1, 3, 0, 8, 24, 63, 127, 255] [] mixed (by kernel_rfl) (by simp only [go_sem]) fun zK zhK => ?_
 simp only [go_sem, Int.toNat_one]
 repeat' (first | apply And.intro | intro _)
 refine zhK _ _ trivial ?_
 refine draw_k (id := 7) [79, 80, 81, 82, 83, 84, 85, 86, 87, 88] [0, 0, 2, 6, 0, 16, 48, 126, 254, 511, 1023] [] mixed (by kernel_rfl) (by simp only [go_sem]) fun zK zhK => ?_
 simp only [go_sem, Int.toNat_one]
 repeat' (first | apply And.intro | intro _)
 all_goals refine call_draw (fun k => k) _ [] (fun _ _ => rfl) (by first | rfl | (simp only [go_sem, Int.toNat_one] <;> rfl)) ((rotl_25 _).plain fun _ _ h => h) ?_ ?_
 all_goals try (refine And.intro ?_ (And.intro ?_ (And.intro ?_ ?_)) <;> first | rfl | simp only [go_sem])
 all_goals simp only [go_sem, Int.toNat_one]
 all_goals repeat' (first | apply And.intro | intro _)
 refine zhK _ _ trivial ?_
 refine zhZ _ _ ?_
 simp only [go_sem, Int.toNat_one]
 all_goals (first | exact ⟨rfl, rfl⟩ | (refine ⟨rfl, ?_⟩; simp; done) | rfl)
theorem mix_0 (x0 x1 x2 x3 x4 x5 x6 x7 x8 x9 x10 x11 x12 x13 x14 x15 x y : UInt32) : CtM Tryd.prog 69 ([.w (.one (.pl (.i 0))), .w (.one (.pl (.i 4))), .w (.one (.pl (.i 8))), .w (.one (.pl (.i 12))), .w (.one (.pl (.u32 x))), .w (.one (.pl (.u32 y)))] ++ [500000].map fun k => .w (.one (.p k []))) [(500000, ⟨false, [.pl (.u32 x0), .pl (.u32 x1), .pl (.u32 x2), .pl (.u32 x3), .pl (.u32 x4), .pl (.u32 x5), .pl (.u32 x6), .pl (.u32 x7), .pl (.u32 x8), .pl (.u32 x9), .pl (.u32 x10), .pl (.u32 x11), .pl (.u32 x12), .pl (.u32 x13), .pl (.u32 x14), .pl (.u32 x15)]⟩)] (fun v m => v = .tup [] ∧ m = [(500000, ⟨false, [.pl (.u32 (mA x0 x4 x8 x12 x y)), .pl (.u32 x1), .pl (.u32 x2), .pl (.u32 x3), .pl (.u32 (mB x0 x4 x8 x12 x y)), .pl (.u32 x5), .pl (.u32 x6), .pl (.u32 x7), .pl (.u32 (mC x0 x4 x8 x12 x y)), .pl (.u32 x9), .pl (.u32 x10), .pl (.u32 x11), .pl (.u32 (mD x0 x4 x8 x12 x y)), .pl (.u32 x13), .pl (.u32 x14), .pl (.u32 x15)]⟩)]) := mix_0_ x0 x1 x2 x3 x4 x5 x6 x7 x8 x9 x10 x11 x12 x13 x14 x15 x y
set_option maxHeartbeats 800000 in
set_option maxRecDepth 100000 in
theorem mix_1_ (x0 x1 x2 x3 x4 x5 x6 x7 x8 x9 x10 x11 x12 x13 x14 x15 x y : UInt32) :
 CtM Tryd.prog 69 [.w (.one (.pl (.i 1))), .w (.one (.pl (.i 5))), .w (.one (.pl (.i 9))), .w (.one (.pl (.i 13))), .w (.one (.pl (.u32 x))), .w (.one (.pl (.u32 y))), .w (.one (.p 500000 []))] [(500000, ⟨false, [.pl (.u32 x0), .pl (.u32 x1), .pl (.u32 x2), .pl (.u32 x3), .pl (.u32 x4), .pl (.u32 x5), .pl (.u32 x6), .pl (.u32 x7), .pl (.u32 x8), .pl (.u32 x9), .pl (.u32 x10), .pl (.u32 x11), .pl (.u32 x12), .pl (.u32 x13), .pl (.u32 x14), .pl (.u32 x15)]⟩)] (fun v m => v = .tup [] ∧ m = [(500000, ⟨false, [.pl (.u32 x0), .pl (.u32 (mA x1 x5 x9 x13 x y)), .pl (.u32 x2), .pl (.u32 x3), .pl (.u32 x4), .pl (.u32 (mB x1 x5 x9 x13 x y)), .pl (.u32 x6), .pl (.u32 x7), .pl (.u32 x8), .pl (.u32 (mC x1 x5 x9 x13 x y)), .pl (.u32 x10), .pl (.u32 x11), .pl (.u32 x12), .pl (.u32 (mD x1 x5 x9 x13 x y)), .pl (.u32 x14), .pl (.u32 x15)]⟩)]) := by
 refine CtM.k Tryd.func69 rfl Tryd.ntmps69 (congrArg Array.toList Tryd.results69) (by simp) fun w0 ro may fx => ?_
 refine top_k fun zZ zhZ => ?_
 refine sd_k (id := 0) [13, 14, 15, 16, 17, 18, 19, 20, 21, 22] [0, 1, 3, 0, 8, 24, 0, 120, 255, 511, 1023] [] mixed (by kernel_rfl) (by simp only [go_sem]) fun zK zhK => ?_
 simp only [go_sem, Int.toNat_one]
 repeat' (first | apply And.intro | intro _)
 refine zhK _ _ trivial ?_
 refine sd_k (id := 1) [23, 24, 25, 26, 27, 28, 29, 30, 31, 32] [0, 0, 2, 6, 0, 16, 48, 126, 254, 511, 1023] [] mixed (by kernel_rfl) (by simp only [go_sem]) fun zK zhK => ?_
 simp only [go_sem, Int.toNat_one]
 repeat' (first | apply And.intro | intro _)
 all_goals refine call_draw (fun k => k) _ [] (fun _ _ => rfl) (by first | rfl | (simp only [go_sem, Int.toNat_one] <;> rfl)) ((rotl_16 _).plain fun _ _ h => h) ?_ ?_
 all_goals try (refine And.intro ?_ (And.intro ?_ (And.intro ?_ ?_)) <;> first | rfl | simp only [go_sem])
 all_goals simp only [go_sem, Int.toNat_one]
 all_goals repeat' (first | apply And.intro | intro _)
 refine zhK _ _ trivial ?_
 refine sd_k (id := 2) [33, 34, 35, 36, 37, 38, 39, 40] [0, 1, 3, 0, 8, 24, 63, 127, 255] [] mixed (by kernel_rfl) (by simp only [go_sem]) fun zK zhK => ?_
 simp only [go_sem, Int.toNat_one]
 repeat' (first | apply And.intro | intro _)
 refine zhK _ _ trivial ?_
 refine sd_k (id := 3) [41, 42, 43, 44, 45, 46, 47, 48, 49, 50] [0, 0, 2, 6, 0, 16, 48, 126, 254, 511, 1023] [] mixed (by kernel_rfl) (by simp only [go_sem]) fun zK zhK => ?_
 simp only [go_sem, Int.toNat_one]
 repeat' (first | apply And.intro | intro _)
 all_goals refine call_draw (fun k => k) _ [] (fun _ _ => rfl) (by first | rfl | (simp only [go_sem, Int.toNat_one] <;> rfl)) ((rotl_20 _).plain fun _ _ h => h) ?_ ?_
 all_goals try (refine And.intro ?_ (And.intro ?_ (And.intro ?_ ?_)) <;> first | rfl | simp only [go_sem])
 all_goals simp only [go_sem, Int.toNat_one]
 all_goals repeat' (first | apply And.intro | intro _)
 refine zhK _ _ trivial ?_
 refine sd_k (id := 4) [51, 52, 53, 54, 55, 56, 57, 58, 59, 60] [0, 1, 3, 0, 8, 24, 0, 120, 255, 511, 1023] [] mixed (by kernel_rfl) (by simp only [go_sem]) fun zK zhK => ?_
 simp only [go_sem, Int.toNat_one]
 repeat' (first | apply And.intro | intro _)
 refine zhK _ _ trivial ?_
 refine sd_k (id := 5) [61, 62, 63, 64, 65, 66, 67, 68, 69, 70] [0, 0, 2, 6, 0, 16, 48, 126, 254, 511, 1023] [] mixed (by kernel_rfl) (by simp only [go_sem]) fun zK zhK => ?_
 simp only [go_sem, Int.toNat_one]
 repeat' (first | apply And.intro | intro _)
 all_goals refine call_draw (fun k => k) _ [] (fun _ _ => rfl) (by first | rfl | (simp only [go_sem, Int.toNat_one] <;> rfl)) ((rotl_24 _).plain fun _ _ h => h) ?_ ?_
 all_goals try (refine And.intro ?_ (And.intro ?_ (And.intro ?_ ?_)) <;> first | rfl | simp only [go_sem])
 all_goals simp only [go_sem, Int.toNat_one]
 all_goals repeat' (first | apply And.intro | intro _)
 refine zhK _ _ trivial ?_
 refine sd_k (id := 6) [71, 72, 73, 74, 75, 76, 77, 78] [0, 1, 3, 0, 8, 24, 63, 127, 255] [] mixed (by kernel_rfl) (by simp only [go_sem]) fun zK zhK => ?_
 simp only [go_sem, Int.toNat_one]
 repeat' (first | apply And.intro | intro _)
 refine zhK _ _ trivial ?_
 refine draw_k (id := 7) [79, 80, 81, 82, 83, 84, 85, 86, 87, 88] [0, 0, 2, 6, 0, 16, 48, 126, 254, 511, 1023] [] mixed (by kernel_rfl) (by simp only [go_sem]) fun zK zhK => ?_
 simp only [go_sem, Int.toNat_one]
 repeat' (first | apply And.intro | intro _)
 all_goals refine call_draw (fun k => k) _ [] (fun _ _ => rfl) (by first | rfl | (simp only [go_sem, Int.toNat_one] <;> rfl)) ((rotl_25 _).plain fun _ _ h => h) ?_ ?_
 all_goals try (refine And.intro ?_ (And.intro ?_ (And.intro ?_ ?_)) <;> first | rfl | simp only [go_sem])
 all_goals simp only [go_sem, Int.toNat_one]
 all_goals repeat' (first | apply And.intro | intro _)
 refine zhK _ _ trivial ?_
 refine zhZ _ _ ?_
 simp only [go_sem, Int.toNat_one]
 all_goals (first | exact ⟨rfl, rfl⟩ | (refine ⟨rfl, ?_⟩; simp; done) | rfl)
theorem mix_1 (x0 x1 x2 x3 x4 x5 x6 x7 x8 x9 x10 x11 x12 x13 x14 x15 x y : UInt32) : CtM Tryd.prog 69 ([.w (.one (.pl (.i 1))), .w (.one (.pl (.i 5))), .w (.one (.pl (.i 9))), .w (.one (.pl (.i 13))), .w (.one (.pl (.u32 x))), .w (.one (.pl (.u32 y)))] ++ [500000].map fun k => .w (.one (.p k []))) [(500000, ⟨false, [.pl (.u32 x0), .pl (.u32 x1), .pl (.u32 x2), .pl (.u32 x3), .pl (.u32 x4), .pl (.u32 x5), .pl (.u32 x6), .pl (.u32 x7), .pl (.u32 x8), .pl (.u32 x9), .pl (.u32 x10), .pl (.u32 x11), .pl (.u32 x12), .pl (.u32 x13), .pl (.u32 x14), .pl (.u32 x15)]⟩)] (fun v m => v = .tup [] ∧ m = [(500000, ⟨false, [.pl (.u32 x0), .pl (.u32 (mA x1 x5 x9 x13 x y)), .pl (.u32 x2), .pl (.u32 x3), .pl (.u32 x4), .pl (.u32 (mB x1 x5 x9 x13 x y)), .pl (.u32 x6), .pl (.u32 x7), .pl (.u32 x8), .pl (.u32 (mC x1 x5 x9 x13 x y)), .pl (.u32 x10), .pl (.u32 x11), .pl (.u32 x12), .pl (.u32 (mD x1 x5 x9 x13 x y)), .pl (.u32 x14), .pl (.u32 x15)]⟩)]) := mix_1_ x0 x1 x2 x3 x4 x5 x6 x7 x8 x9 x10 x11 x12 x13 x14 x15 x y
set_option maxHeartbeats 800000 in
set_option maxRecDepth 100000 in
theorem mix_2_ (x0 x1 x2 x3 x4 x5 x6 x7 x8 x9 x10 x11 x12 x13 x14 x15 x y : UInt32) :
 CtM Tryd.prog 69 [.w (.one (.pl (.i 2))), .w (.one (.pl (.i 6))), .w (.one (.pl (.i 10))), .w (.one (.pl (.i 14))), .w (.one (.pl (.u32 x))), .w (.one (.pl (.u32 y))), .w (.one (.p 500000 []))] [(500000, ⟨false, [.pl (.u32 x0), .pl (.u32 x1), .pl (.u32 x2), .pl (.u32 x3), .pl (.u32 x4), .pl (.u32 x5), .pl (.u32 x6), .pl (.u32 x7), .pl (.u32 x8), .pl (.u32 x9), .pl (.u32 x10), .pl (.u32 x11), .pl (.u32 x12), .pl (.u32 x13), .pl (.u32 x14), .pl (.u32 x15)]⟩)] (fun v m => v = .tup [] ∧ m = [(500000, ⟨false, [.pl (.u32 x0), .pl (.u32 x1), .pl (.u32 (mA x2 x6 x10 x14 x y)), .pl (.u32 x3), .pl (.u32 x4), .pl (.u32 x5), .pl (.u32 (mB x2 x6 x10 x14 x y)), .pl (.u32 x7), .pl (.u32 x8), .pl (.u32 x9), .pl (.u32 (mC x2 x6 x10 x14 x y)), .pl (.u32 x11), .pl (.u32 x12), .pl (.u32 x13), .pl (.u32 (mD x2 x6 x10 x14 x y)), .pl (.u32 x15)]⟩)]) := by
 refine CtM.k Tryd.func69 rfl Tryd.ntmps69 (congrArg Array.toList Tryd.results69) (by simp) fun w0 ro may fx => ?_
 refine top_k fun zZ zhZ => ?_
 refine sd_k (id := 0) [13, 14, 15, 16, 17, 18, 19, 20, 21, 22] [0, 1, 3, 0, 8, 24, 0, 120, 255, 511, 1023] [] mixed (by kernel_rfl) (by simp only [go_sem]) fun zK zhK => ?_
 simp only [go_sem, Int.toNat_one]
 repeat' (first | apply And.intro | intro _)
 refine zhK _ _ trivial ?_
 refine sd_k (id := 1) [23, 24, 25, 26, 27, 28, 29, 30, 31, 32] [0, 0, 2, 6, 0, 16, 48, 126, 254, 511, 1023] [] mixed (by kernel_rfl) (by simp only [go_sem]) fun zK zhK => ?_
 simp only [go_sem, Int.toNat_one]
 repeat' (first | apply And.intro | intro _)
 all_goals refine call_draw (fun k => k) _ [] (fun _ _ => rfl) (by first | rfl | (simp only [go_sem, Int.toNat_one] <;> rfl)) ((rotl_16 _).plain fun _ _ h => h) ?_ ?_
 all_goals try (refine And.intro ?_ (And.intro ?_ (And.intro ?_ ?_)) <;> first | rfl | simp only [go_sem])
 all_goals simp only [go_sem, Int.toNat_one]
 all_goals repeat' (first | apply And.intro | intro _)
 refine zhK _ _ trivial ?_
 refine sd_k (id := 2) [33, 34, 35, 36, 37, 38, 39, 40] [0, 1, 3, 0, 8, 24, 63, 127, 255] [] mixed (by kernel_rfl) (by simp only [go_sem]) fun zK zhK => ?_
 simp only [go_sem, Int.toNat_one]
 repeat' (first | apply And.intro | intro _)
 refine zhK _ _ trivial ?_
 refine sd_k (id := 3) [41, 42, 43, 44, 45, 46, 47, 48, 49, 50] [0, 0, 2, 6, 0, 16, 48, 126, 254, 511, 1023] [] mixed (by kernel_rfl) (by simp only [go_sem]) fun zK zhK => ?_
 simp only [go_sem, Int.toNat_one]
 repeat' (first | apply And.intro | intro _)
 all_goals refine call_draw (fun k => k) _ [] (fun _ _ => rfl) (by first | rfl | (simp only [go_sem, Int.toNat_one] <;> rfl)) ((rotl_20 _).plain fun _ _ h => h) ?_ ?_
 all_goals try (refine And.intro ?_ (And.intro ?_ (And.intro ?_ ?_)) <;> first | rfl | simp only [go_sem])
 all_goals simp only [go_sem, Int.toNat_one]
 all_goals repeat' (first | apply And.intro | intro _)
 refine zhK _ _ trivial ?_
 refine sd_k (id := 4) [51, 52, 53, 54, 55, 56, 57, 58, 59, 60] [0, 1, 3, 0, 8, 24, 0, 120, 255, 511, 1023] [] mixed (by kernel_rfl) (by simp only [go_sem]) fun zK zhK => ?_
 simp only [go_sem, Int.toNat_one]
 repeat' (first | apply And.intro | intro _)
 refine zhK _ _ trivial ?_
 refine sd_k (id := 5) [61, 62, 63, 64, 65, 66, 67, 68, 69, 70] [0, 0, 2, 6, 0, 16, 48, 126, 254, 511, 1023] [] mixed (by kernel_rfl) (by simp only [go_sem]) fun zK zhK => ?_
 simp only [go_sem, Int.toNat_one]
 repeat' (first | apply And.intro | intro _)
 all_goals refine call_draw (fun k => k) _ [] (fun _ _ => rfl) (by first | rfl | (simp only [go_sem, Int.toNat_one] <;> rfl)) ((rotl_24 _).plain fun _ _ h => h) ?_ ?_
 all_goals try (refine And.intro ?_ (And.intro ?_ (And.intro ?_ ?_)) <;> first | rfl | simp only [go_sem])
 all_goals simp only [go_sem, Int.toNat_one]
 all_goals repeat' (first | apply And.intro | intro _)
 refine zhK _ _ trivial ?_
 refine sd_k (id := 6) [71, 72, 73, 74, 75, 76, 77, 78] [0, 1, 3, 0, 8, 24, 63, 127, 255] [] mixed (by kernel_rfl) (by simp only [go_sem]) fun zK zhK => ?_
 simp only [go_sem, Int.toNat_one]
 repeat' (first | apply And.intro | intro _)
 refine zhK _ _ trivial ?_
 refine draw_k (id := 7) [79, 80, 81, 82, 83, 84, 85, 86, 87, 88] [0, 0, 2, 6, 0, 16, 48, 126, 254, 511, 1023] [] mixed (by kernel_rfl) (by simp only [go_sem]) fun zK zhK => ?_
 simp only [go_sem, Int.toNat_one]
 repeat' (first | apply And.intro | intro _)
 all_goals refine call_draw (fun k => k) _ [] (fun _ _ => rfl) (by first | rfl | (simp only [go_sem, Int.toNat_one] <;> rfl)) ((rotl_25 _).plain fun _ _ h => h) ?_ ?_
 all_goals try (refine And.intro ?_ (And.intro ?_ (And.intro ?_ ?_)) <;> first | rfl | simp only [go_sem])
 all_goals simp only [go_sem, Int.toNat_one]
 all_goals repeat' (first | apply And.intro | intro _)
 refine zhK _ _ trivial ?_
 refine zhZ _ _ ?_
 simp only [go_sem, Int.toNat_one]
 all_goals (first | exact ⟨rfl, rfl⟩ | (refine ⟨rfl, ?_⟩; simp; done) | rfl)
theorem mix_2 (x0 x1 x2 x3 x4 x5 x6 x7 x8 x9 x10 x11 x12 x13 x14 x15 x y : UInt32) : CtM Tryd.prog 69 ([.w (.one (.pl (.i 2))), .w (.one (.pl (.i 6))), .w (.one (.pl (.i 10))), .w (.one (.pl (.i 14))), .w (.one (.pl (.u32 x))), .w (.one (.pl (.u32 y)))] ++ [500000].map fun k => .w (.one (.p k []))) [(500000, ⟨false, [.pl (.u32 x0), .pl (.u32 x1), .pl (.u32 x2), .pl (.u32 x3), .pl (.u32 x4), .pl (.u32 x5), .pl (.u32 x6), .pl (.u32 x7), .pl (.u32 x8), .pl (.u32 x9), .pl (.u32 x10), .pl (.u32 x11), .pl (.u32 x12), .pl (.u32 x13), .pl (.u32 x14), .pl (.u32 x15)]⟩)] (fun v m => v = .tup [] ∧ m = [(500000, ⟨false, [.pl (.u32 x0), .pl (.u32 x1), .pl (.u32 (mA x2 x6 x10 x14 x y)), .pl (.u32 x3), .pl (.u32 x4), .pl (.u32 x5), .pl (.u32 (mB x2 x6 x10 x14 x y)), .pl (.u32 x7), .pl (.u32 x8), .pl (.u32 x9), .pl (.u32 (mC x2 x6 x10 x14 x y)), .pl (.u32 x11), .pl (.u32 x12), .pl (.u32 x13), .pl (.u32 (mD x2 x6 x10 x14 x y)), .pl (.u32 x15)]⟩)]) := mix_2_ x0 x1 x2 x3 x4 x5 x6 x7 x8 x9 x10 x11 x12 x13 x14 x15 x y
set_option maxHeartbeats 800000 in
set_option maxRecDepth 100000 in
theorem mix_3_ (x0 x1 x2 x3 x4 x5 x6 x7 x8 x9 x10 x11 x12 x13 x14 x15 x y : UInt32) :
 CtM Tryd.prog 69 [.w (.one (.pl (.i 3))), .w (.one (.pl (.i 7))), .w (.one (.pl (.i 11))), .w (.one (.pl (.i 15))), .w (.one (.pl (.u32 x))), .w (.one (.pl (.u32 y))), .w (.one (.p 500000 []))] [(500000, ⟨false, [.pl (.u32 x0), .pl (.u32 x1), .pl (.u32 x2), .pl (.u32 x3), .pl (.u32 x4), .pl (.u32 x5), .pl (.u32 x6), .pl (.u32 x7), .pl (.u32 x8), .pl (.u32 x9), .pl (.u32 x10), .pl (.u32 x11), .pl (.u32 x12), .pl (.u32 x13), .pl (.u32 x14), .pl (.u32 x15)]⟩)] (fun v m => v = .tup [] ∧ m = [(500000, ⟨false, [.pl (.u32 x0), .pl (.u32 x1), .pl (.u32 x2), .pl (.u32 (mA x3 x7 x11 x15 x y)), .pl (.u32 x4), .pl (.u32 x5), .pl (.u32 x6), .pl (.u32 (mB x3 x7 x11 x15 x y)), .pl (.u32 x8), .pl (.u32 x9), .pl (.u32 x10), .pl (.u32 (mC x3 x7 x11 x15 x y)), .pl (.u32 x12), .pl (.u32 x13), .pl (.u32 x14), .pl (.u32 (mD x3 x7 x11 x15 x y))]⟩)]) := by
 refine CtM.k Tryd.func69 rfl Tryd.ntmps69 (congrArg Array.toList Tryd.results69) (by simp) fun w0 ro may fx => ?_
 refine top_k fun zZ zhZ => ?_
 refine sd_k (id := 0) [13, 14, 15, 16, 17, 18, 19, 20, 21, 22] [0, 1, 3, 0, 8, 24, 0, 120, 255, 511, 1023] [] mixed (by kernel_rfl) (by simp only [go_sem]) fun zK zhK => ?_
 simp only [go_sem, Int.toNat_one]
 repeat' (first | apply And.intro | intro _)
 refine zhK _ _ trivial ?_
 refine sd_k (id := 1) [23, 24, 25, 26, 27, 28, 29, 30, 31, 32] [0, 0, 2, 6, 0, 16, 48, 126, 254, 511, 1023] [] mixed (by kernel_rfl) (by simp only [go_sem]) fun zK zhK => ?_
 simp only [go_sem, Int.toNat_one]
 repeat' (first | apply And.intro | intro _)
 all_goals refine call_draw (fun k => k) _ [] (fun _ _ => rfl) (by first | rfl | (simp only [go_sem, Int.toNat_one] <;> rfl)) ((rotl_16 _).plain fun _ _ h => h) ?_ ?_
 all_goals try (refine And.intro ?_ (And.intro ?_ (And.intro ?_ ?_)) <;> first | rfl | simp only [go_sem])
 all_goals simp only [go_sem, Int.toNat_one]
 all_goals repeat' (first | apply And.intro | intro _)
 refine zhK _ _ trivial ?_
 refine sd_k (id := 2) [33, 34, 35, 36, 37, 38, 39, 40] [0, 1, 3, 0, 8, 24, 63, 127, 255] [] mixed (by kernel_rfl) (by simp only [go_sem]) fun zK zhK => ?_
 simp only [go_sem, Int.toNat_one]
 repeat' (first | apply And.intro | intro _)
 refine zhK _ _ trivial ?_
 refine sd_k (id := 3) [41, 42, 43, 44, 45, 46, 47, 48, 49, 50] [0, 0, 2, 6, 0, 16, 48, 126, 254, 511, 1023] [] mixed (by kernel_rfl) (by simp only [go_sem]) fun zK zhK => ?_
 simp only [go_sem, Int.toNat_one]
 repeat' (first | apply And.intro | intro _)
 all_goals refine call_draw (fun k => k) _ [] (fun _ _ => rfl) (by first | rfl | (simp only [go_sem, Int.toNat_one] <;> rfl)) ((rotl_20 _).plain fun _ _ h => h) ?_ ?_
 all_goals try (refine And.intro ?_ (And.intro ?_ (And.intro ?_ ?_)) <;> first | rfl | simp only [go_sem])
 all_goals simp only [go_sem, Int.toNat_one]
 all_goals repeat' (first | apply And.intro | intro _)
 refine zhK _ _ trivial ?_
 refine sd_k (id := 4) [51, 52, 53, 54, 55, 56, 57, 58, 59, 60] [0, 1, 3, 0, 8, 24, 0, 120, 255, 511, 1023] [] mixed (by kernel_rfl) (by simp only [go_sem]) fun zK zhK => ?_
 simp only [go_sem, Int.toNat_one]
 repeat' (first | apply And.intro | intro _)
 refine zhK _ _ trivial ?_
 refine sd_k (id := 5) [61, 62, 63, 64, 65, 66, 67, 68, 69, 70] [0, 0, 2, 6, 0, 16, 48, 126, 254, 511, 1023] [] mixed (by kernel_rfl) (by simp only [go_sem]) fun zK zhK => ?_
 simp only [go_sem, Int.toNat_one]
 repeat' (first | apply And.intro | intro _)
 all_goals refine call_draw (fun k => k) _ [] (fun _ _ => rfl) (by first | rfl | (simp only [go_sem, Int.toNat_one] <;> rfl)) ((rotl_24 _).plain fun _ _ h => h) ?_ ?_
 all_goals try (refine And.intro ?_ (And.intro ?_ (And.intro ?_ ?_)) <;> first | rfl | simp only [go_sem])
 all_goals simp only [go_sem, Int.toNat_one]
 all_goals repeat' (first | apply And.intro | intro _)
 refine zhK _ _ trivial ?_
 refine sd_k (id := 6) [71, 72, 73, 74, 75, 76, 77, 78] [0, 1, 3, 0, 8, 24, 63, 127, 255] [] mixed (by kernel_rfl) (by simp only [go_sem]) fun zK zhK => ?_
 simp only [go_sem, Int.toNat_one]
 repeat' (first | apply And.intro | intro _)
 refine zhK _ _ trivial ?_
 refine draw_k (id := 7) [79, 80, 81, 82, 83, 84, 85, 86, 87, 88] [0, 0, 2, 6, 0, 16, 48, 126, 254, 511, 1023] [] mixed (by kernel_rfl) (by simp only [go_sem]) fun zK zhK => ?_
 simp only [go_sem, Int.toNat_one]
 repeat' (first | apply And.intro | intro _)
 all_goals refine call_draw (fun k => k) _ [] (fun _ _ => rfl) (by first | rfl | (simp only [go_sem, Int.toNat_one] <;> rfl)) ((rotl_25 _).plain fun _ _ h => h) ?_ ?_
 all_goals try (refine And.intro ?_ (And.intro ?_ (And.intro ?_ ?_)) <;> first | rfl | simp only [go_sem])
 all_goals simp only [go_sem, Int.toNat_one]
 all_goals repeat' (first | apply And.intro | intro _)
 refine zhK _ _ trivial ?_
 refine zhZ _ _ ?_
 simp only [go_sem, Int.toNat_one]
 all_goals (first | exact ⟨rfl, rfl⟩ | (refine ⟨rfl, ?_⟩; simp; done) | rfl)
theorem mix_3 (x0 x1 x2 x3 x4 x5 x6 x7 x8 x9 x10 x11 x12 x13 x14 x15 x y : UInt32) : CtM Tryd.prog 69 ([.w (.one (.pl (.i 3))), .w (.one (.pl (.i 7))), .w (.one (.pl (.i 11))), .w (.one (.pl (.i 15))), .w (.one (.pl (.u32 x))), .w (.one (.pl (.u32 y)))] ++ [500000].map fun k => .w (.one (.p k []))) [(500000, ⟨false, [.pl (.u32 x0), .pl (.u32 x1), .pl (.u32 x2), .pl (.u32 x3), .pl (.u32 x4), .pl (.u32 x5), .pl (.u32 x6), .pl (.u32 x7), .pl (.u32 x8), .pl (.u32 x9), .pl (.u32 x10), .pl (.u32 x11), .pl (.u32 x12), .pl (.u32 x13), .pl (.u32 x14), .pl (.u32 x15)]⟩)] (fun v m => v = .tup [] ∧ m = [(500000, ⟨false, [.pl (.u32 x0), .pl (.u32 x1), .pl (.u32 x2), .pl (.u32 (mA x3 x7 x11 x15 x y)), .pl (.u32 x4), .pl (.u32 x5), .pl (.u32 x6), .pl (.u32 (mB x3 x7 x11 x15 x y)), .pl (.u32 x8), .pl (.u32 x9), .pl (.u32 x10), .pl (.u32 (mC x3 x7 x11 x15 x y)), .pl (.u32 x12), .pl (.u32 x13), .pl (.u32 x14), .pl (.u32 (mD x3 x7 x11 x15 x y))]⟩)]) := mix_3_ x0 x1 x2 x3 x4 x5 x6 x7 x8 x9 x10 x11 x12 x13 x14 x15 x y
set_option maxHeartbeats 800000 in
set_option maxRecDepth 100000 in
theorem mix_4_ (x0 x1 x2 x3 x4 x5 x6 x7 x8 x9 x10 x11 x12 x13 x14 x15 x y : UInt32) :
 CtM Tryd.prog 69 [.w (.one (.pl (.i 0))), .w (.one (.pl (.i 5))), .w (.one (.pl (.i 10))), .w (.one (.pl (.i 15))), .w (.one (.pl (.u32 x))), .w (.one (.pl (.u32 y))), .w (.one (.p 500000 []))] [(500000, ⟨false, [.pl (.u32 x0), .pl (.u32 x1), .pl (.u32 x2), .pl (.u32 x3), .pl (.u32 x4), .pl (.u32 x5), .pl (.u32 x6), .pl (.u32 x7), .pl (.u32 x8), .pl (.u32 x9), .pl (.u32 x10), .pl (.u32 x11), .pl (.u32 x12), .pl (.u32 x13), .pl (.u32 x14), .pl (.u32 x15)]⟩)] (fun v m => v = .tup [] ∧ m = [(500000, ⟨false, [.pl (.u32 (mA x0 x5 x10 x15 x y)), .pl (.u32 x1), .pl (.u32 x2), .pl (.u32 x3), .pl (.u32 x4), .pl (.u32 (mB x0 x5 x10 x15 x y)), .pl (.u32 x6), .pl (.u32 x7), .pl (.u32 x8), .pl (.u32 x9), .pl (.u32 (mC x0 x5 x10 x15 x y)), .pl (.u32 x11), .pl (.u32 x12), .pl (.u32 x13), .pl (.u32 x14), .pl (.u32 (mD x0 x5 x10 x15 x y))]⟩)]) := by
 refine CtM.k Tryd.func69 rfl Tryd.ntmps69 (congrArg Array.toList Tryd.results69) (by simp) fun w0 ro may fx => ?_
 refine top_k fun zZ zhZ => ?_
 refine sd_k (id := 0) [13, 14, 15, 16, 17, 18, 19, 20, 21, 22] [0, 1, 3, 0, 8, 24, 0, 120, 255, 511, 1023] [] mixed (by kernel_rfl) (by simp only [go_sem]) fun zK zhK => ?_
 simp only [go_sem, Int.toNat_one]
 repeat' (first | apply And.intro | intro _)
 refine zhK _ _ trivial ?_
 refine sd_k (id := 1) [23, 24, 25, 26, 27, 28, 29, 30, 31, 32] [0, 0, 2, 6, 0, 16, 48, 126, 254, 511, 1023] [] mixed (by kernel_rfl) (by simp only [go_sem]) fun zK zhK => ?_
 simp only [go_sem, Int.toNat_one]
 repeat' (first | apply And.intro | intro _)
 all_goals refine call_draw (fun k => k) _ [] (fun _ _ => rfl) (by first | rfl | (simp only [go_sem, Int.toNat_one] <;> rfl)) ((rotl_16 _).plain fun _ _ h => h) ?_ ?_
 all_goals try (refine And.intro ?_ (And.intro ?_ (And.intro ?_ ?_)) <;> first | rfl | simp only [go_sem])
 all_goals simp only [go_sem, Int.toNat_one]
 all_goals repeat' (first | apply And.intro | intro _)
 refine zhK _ _ trivial ?_
 refine sd_k (id := 2) [33, 34, 35, 36, 37, 38, 39, 40] [0, 1, 3, 0, 8, 24, 63, 127, 255] [] mixed (by kernel_rfl) (by simp only [go_sem]) fun zK zhK => ?_
 simp only [go_sem, Int.toNat_one]
 repeat' (first | apply And.intro | intro _)
 refine zhK _ _ trivial ?_
 refine sd_k (id := 3) [41, 42, 43, 44, 45, 46, 47, 48, 49, 50] [0, 0, 2, 6, 0, 16, 48, 126, 254, 511, 1023] [] mixed (by kernel_rfl) (by simp only [go_sem]) fun zK zhK => ?_
 simp only [go_sem, Int.toNat_one]
 repeat' (first | apply And.intro | intro _)
 all_goals refine call_draw (fun k => k) _ [] (fun _ _ => rfl) (by first | rfl | (simp only [go_sem, Int.toNat_one] <;> rfl)) ((rotl_20 _).plain fun _ _ h => h) ?_ ?_
 all_goals try (refine And.intro ?_ (And.intro ?_ (And.intro ?_ ?_)) <;> first | rfl | simp only [go_sem])
 all_goals simp only [go_sem, Int.toNat_one]
 all_goals repeat' (first | apply And.intro | intro _)
 refine zhK _ _ trivial ?_
 refine sd_k (id := 4) [51, 52, 53, 54, 55, 56, 57, 58, 59, 60] [0, 1, 3, 0, 8, 24, 0, 120, 255, 511, 1023] [] mixed (by kernel_rfl) (by simp only [go_sem]) fun zK zhK => ?_
 simp only [go_sem, Int.toNat_one]
 repeat' (first | apply And.intro | intro _)
 refine zhK _ _ trivial ?_
 refine sd_k (id := 5) [61, 62, 63, 64, 65, 66, 67, 68, 69, 70] [0, 0, 2, 6, 0, 16, 48, 126, 254, 511, 1023] [] mixed (by kernel_rfl) (by simp only [go_sem]) fun zK zhK => ?_
 simp only [go_sem, Int.toNat_one]
 repeat' (first | apply And.intro | intro _)
 all_goals refine call_draw (fun k => k) _ [] (fun _ _ => rfl) (by first | rfl | (simp only [go_sem, Int.toNat_one] <;> rfl)) ((rotl_24 _).plain fun _ _ h => h) ?_ ?_
 all_goals try (refine And.intro ?_ (And.intro ?_ (And.intro ?_ ?_)) <;> first | rfl | simp only [go_sem])
 all_goals simp only [go_sem, Int.toNat_one]
 all_goals repeat' (first | apply And.intro | intro _)
 refine zhK _ _ trivial ?_
 refine sd_k (id := 6) [71, 72, 73, 74, 75, 76, 77, 78] [0, 1, 3, 0, 8, 24, 63, 127, 255] [] mixed (by kernel_rfl) (by simp only [go_sem]) fun zK zhK => ?_
 simp only [go_sem, Int.toNat_one]
 repeat' (first | apply And.intro | intro _)
 refine zhK _ _ trivial ?_
 refine draw_k (id := 7) [79, 80, 81, 82, 83, 84, 85, 86, 87, 88] [0, 0, 2, 6, 0, 16, 48, 126, 254, 511, 1023] [] mixed (by kernel_rfl) (by simp only [go_sem]) fun zK zhK => ?_
 simp only [go_sem, Int.toNat_one]
 repeat' (first | apply And.intro | intro _)
 all_goals refine call_draw (fun k => k) _ [] (fun _ _ => rfl) (by first | rfl | (simp only [go_sem, Int.toNat_one] <;> rfl)) ((rotl_25 _).plain fun _ _ h => h) ?_ ?_
 all_goals try (refine And.intro ?_ (And.intro ?_ (And.intro ?_ ?_)) <;> first | rfl | simp only [go_sem])
 all_goals simp only [go_sem, Int.toNat_one]
 all_goals repeat' (first | apply And.intro | intro _)
 refine zhK _ _ trivial ?_
 refine zhZ _ _ ?_
 simp only [go_sem, Int.toNat_one]
 all_goals (first | exact ⟨rfl, rfl⟩ | (refine ⟨rfl, ?_⟩; simp; done) | rfl)
theorem mix_4 (x0 x1 x2 x3 x4 x5 x6 x7 x8 x9 x10 x11 x12 x13 x14 x15 x y : UInt32) : CtM Tryd.prog 69 ([.w (.one (.pl (.i 0))), .w (.one (.pl (.i 5))), .w (.one (.pl (.i 10))), .w (.one (.pl (.i 15))), .w (.one (.pl (.u32 x))), .w (.one (.pl (.u32 y)))] ++ [500000].map fun k => .w (.one (.p k []))) [(500000, ⟨false, [.pl (.u32 x0), .pl (.u32 x1), .pl (.u32 x2), .pl (.u32 x3), .pl (.u32 x4), .pl (.u32 x5), .pl (.u32 x6), .pl (.u32 x7), .pl (.u32 x8), .pl (.u32 x9), .pl (.u32 x10), .pl (.u32 x11), .pl (.u32 x12), .pl (.u32 x13), .pl (.u32 x14), .pl (.u32 x15)]⟩)] (fun v m => v = .tup [] ∧ m = [(500000, ⟨false, [.pl (.u32 (mA x0 x5 x10 x15 x y)), .pl (.u32 x1), .pl (.u32 x2), .pl (.u32 x3), .pl (.u32 x4), .pl (.u32 (mB x0 x5 x10 x15 x y)), .pl (.u32 x6), .pl (.u32 x7), .pl (.u32 x8), .pl (.u32 x9), .pl (.u32 (mC x0 x5 x10 x15 x y)), .pl (.u32 x11), .pl (.u32 x12), .pl (.u32 x13), .pl (.u32 x14), .pl (.u32 (mD x0 x5 x10 x15 x y))]⟩)]) := mix_4_ x0 x1 x2 x3 x4 x5 x6 x7 x8 x9 x10 x11 x12 x13 x14 x15 x y
set_option maxHeartbeats 800000 in
set_option maxRecDepth 100000 in
theorem mix_5_ (x0 x1 x2 x3 x4 x5 x6 x7 x8 x9 x10 x11 x12 x13 x14 x15 x y : UInt32) :
 CtM Tryd.prog 69 [.w (.one (.pl (.i 1))), .w (.one (.pl (.i 6))), .w (.one (.pl (.i 11))), .w (.one (.pl (.i 12))), .w (.one (.pl (.u32 x))), .w (.one (.pl (.u32 y))), .w (.one (.p 500000 []))] [(500000, ⟨false, [.pl (.u32 x0), .pl (.u32 x1), .pl (.u32 x2), .pl (.u32 x3), .pl (.u32 x4), .pl (.u32 x5), .pl (.u32 x6), .pl (.u32 x7), .pl (.u32 x8), .pl (.u32 x9), .pl (.u32 x10), .pl (.u32 x11), .pl (.u32 x12), .pl (.u32 x13), .pl (.u32 x14), .pl (.u32 x15)]⟩)] (fun v m => v = .tup [] ∧ m = [(500000, ⟨false, [.pl (.u32 x0), .pl (.u32 (mA x1 x6 x11 x12 x y)), .pl (.u32 x2), .pl (.u32 x3), .pl (.u32 x4), .pl (.u32 x5), .pl (.u32 (mB x1 x6 x11 x12 x y)), .pl (.u32 x7), .pl (.u32 x8), .pl (.u32 x9), .pl (.u32 x10), .pl (.u32 (mC x1 x6 x11 x12 x y)), .pl (.u32 (mD x1 x6 x11 x12 x y)), .pl (.u32 x13), .pl (.u32 x14), .pl (.u32 x15)]⟩)]) := by
 refine CtM.k Tryd.func69 rfl Tryd.ntmps69 (congrArg Array.toList Tryd.results69) (by simp) fun w0 ro may fx => ?_
 refine top_k fun zZ zhZ => ?_
 refine sd_k (id := 0) [13, 14, 15, 16, 17, 18, 19, 20, 21, 22] [0, 1, 3, 0, 8, 24, 0, 120, 255, 511, 1023] [] mixed (by kernel_rfl) (by simp only [go_sem]) fun zK zhK => ?_
 simp only [go_sem, Int.toNat_one]
 repeat' (first | apply And.intro | intro _)
 refine zhK _ _ trivial ?_
 refine sd_k (id := 1) [23, 24, 25, 26, 27, 28, 29, 30, 31, 32] [0, 0, 2, 6, 0, 16, 48, 126, 254, 511, 1023] [] mixed (by kernel_rfl) (by simp only [go_sem]) fun zK zhK => ?_
 simp only [go_sem, Int.toNat_one]
 repeat' (first | apply And.intro | intro _)
 all_goals refine call_draw (fun k => k) _ [] (fun _ _ => rfl) (by first | rfl | (simp only [go_sem, Int.toNat_one] <;> rfl)) ((rotl_16 _).plain fun _ _ h => h) ?_ ?_
 all_goals try (refine And.intro ?_ (And.intro ?_ (And.intro ?_ ?_)) <;> first | rfl | simp only [go_sem])
 all_goals simp only [go_sem, Int.toNat_one]
 all_goals repeat' (first | apply And.intro | intro _)
 refine zhK _ _ trivial ?_
 refine sd_k (id := 2) [33, 34, 35, 36, 37, 38, 39, 40] [0, 1, 3, 0, 8, 24, 63, 127, 255] [] mixed (by kernel_rfl) (by simp only [go_sem]) fun zK zhK => ?_
 simp only [go_sem, Int.toNat_one]
 repeat' (first | apply And.intro | intro _)
 refine zhK _ _ trivial ?_
 refine sd_k (id := 3) [41, 42, 43, 44, 45, 46, 47, 48, 49, 50] [0, 0, 2, 6, 0, 16, 48, 126, 254, 511, 1023] [] mixed (by kernel_rfl) (by simp only [go_sem]) fun zK zhK => ?_
 simp only [go_sem, Int.toNat_one]
 repeat' (first | apply And.intro | intro _)
 all_goals refine call_draw (fun k => k) _ [] (fun _ _ => rfl) (by first | rfl | (simp only [go_sem, Int.toNat_one] <;> rfl)) ((rotl_20 _).plain fun _ _ h => h) ?_ ?_
 all_goals try (refine And.intro ?_ (And.intro ?_ (And.intro ?_ ?_)) <;> first | rfl | simp only [go_sem])
 all_goals simp only [go_sem, Int.toNat_one]
 all_goals repeat' (first | apply And.intro | intro _)
 refine zhK _ _ trivial ?_
 refine sd_k (id := 4) [51, 52, 53, 54, 55, 56, 57, 58, 59, 60] [0, 1, 3, 0, 8, 24, 0, 120, 255, 511, 1023] [] mixed (by kernel_rfl) (by simp only [go_sem]) fun zK zhK => ?_
 simp only [go_sem, Int.toNat_one]
 repeat' (first | apply And.intro | intro _)
 refine zhK _ _ trivial ?_
 refine sd_k (id := 5) [61, 62, 63, 64, 65, 66, 67, 68, 69, 70] [0, 0, 2, 6, 0, 16, 48, 126, 254, 511, 1023] [] mixed (by kernel_rfl) (by simp only [go_sem]) fun zK zhK => ?_
 simp only [go_sem, Int.toNat_one]
 repeat' (first | apply And.intro | intro _)
 all_goals refine call_draw (fun k => k) _ [] (fun _ _ => rfl) (by first | rfl | (simp only [go_sem, Int.toNat_one] <;> rfl)) ((rotl_24 _).plain fun _ _ h => h) ?_ ?_
 all_goals try (refine And.intro ?_ (And.intro ?_ (And.intro ?_ ?_)) <;> first | rfl | simp only [go_sem])
 all_goals simp only [go_sem, Int.toNat_one]
 all_goals repeat' (first | apply And.intro | intro _)
 refine zhK _ _ trivial ?_
 refine sd_k (id := 6) [71, 72, 73, 74, 75, 76, 77, 78] [0, 1, 3, 0, 8, 24, 63, 127, 255] [] mixed (by kernel_rfl) (by simp only [go_sem]) fun zK zhK => ?_
 simp only [go_sem, Int.toNat_one]
 repeat' (first | apply And.intro | intro _)
 refine zhK _ _ trivial ?_
 refine draw_k (id := 7) [79, 80, 81, 82, 83, 84, 85, 86, 87, 88] [0, 0, 2, 6, 0, 16, 48, 126, 254, 511, 1023] [] mixed (by kernel_rfl) (by simp only [go_sem]) fun zK zhK => ?_
 simp only [go_sem, Int.toNat_one]
 repeat' (first | apply And.intro | intro _)
 all_goals refine call_draw (fun k => k) _ [] (fun _ _ => rfl) (by first | rfl | (simp only [go_sem, Int.toNat_one] <;> rfl)) ((rotl_25 _).plain fun _ _ h => h) ?_ ?_
 all_goals try (refine And.intro ?_ (And.intro ?_ (And.intro ?_ ?_)) <;> first | rfl | simp only [go_sem])
 all_goals simp only [go_sem, Int.toNat_one]
 all_goals repeat' (first | apply And.intro | intro _)
 refine zhK _ _ trivial ?_
 refine zhZ _ _ ?_
 simp only [go_sem, Int.toNat_one]
 all_goals (first | exact ⟨rfl, rfl⟩ | (refine ⟨rfl, ?_⟩; simp; done) | rfl)
theorem mix_5 (x0 x1 x2 x3 x4 x5 x6 x7 x8 x9 x10 x11 x12 x13 x14 x15 x y : UInt32) : CtM Tryd.prog 69 ([.w (.one (.pl (.i 1))), .w (.one (.pl (.i 6))), .w (.one (.pl (.i 11))), .w (.one (.pl (.i 12))), .w (.one (.pl (.u32 x))), .w (.one (.pl (.u32 y)))] ++ [500000].map fun k => .w (.one (.p k []))) [(500000, ⟨false, [.pl (.u32 x0), .pl (.u32 x1), .pl (.u32 x2), .pl (.u32 x3), .pl (.u32 x4), .pl (.u32 x5), .pl (.u32 x6), .pl (.u32 x7), .pl (.u32 x8), .pl (.u32 x9), .pl (.u32 x10), .pl (.u32 x11), .pl (.u32 x12), .pl (.u32 x13), .pl (.u32 x14), .pl (.u32 x15)]⟩)] (fun v m => v = .tup [] ∧ m = [(500000, ⟨false, [.pl (.u32 x0), .pl (.u32 (mA x1 x6 x11 x12 x y)), .pl (.u32 x2), .pl (.u32 x3), .pl (.u32 x4), .pl (.u32 x5), .pl (.u32 (mB x1 x6 x11 x12 x y)), .pl (.u32 x7), .pl (.u32 x8), .pl (.u32 x9), .pl (.u32 x10), .pl (.u32 (mC x1 x6 x11 x12 x y)), .pl (.u32 (mD x1 x6 x11 x12 x y)), .pl (.u32 x13), .pl (.u32 x14), .pl (.u32 x15)]⟩)]) := mix_5_ x0 x1 x2 x3 x4 x5 x6 x7 x8 x9 x10 x11 x12 x13 x14 x15 x y
set_option maxHeartbeats 800000 in
set_option maxRecDepth 100000 in
theorem mix_6_ (x0 x1 x2 x3 x4 x5 x6 x7 x8 x9 x10 x11 x12 x13 x14 x15 x y : UInt32) :
 CtM Tryd.prog 69 [.w (.one (.pl (.i 2))), .w (.one (.pl (.i 7))), .w (.one (.pl (.i 8))), .w (.one (.pl (.i 13))), .w (.one (.pl (.u32 x))), .w (.one (.pl (.u32 y))), .w (.one (.p 500000 []))] [(500000, ⟨false, [.pl (.u32 x0), .pl (.u32 x1), .pl (.u32 x2), .pl (.u32 x3), .pl (.u32 x4), .pl (.u32 x5), .pl (.u32 x6), .pl (.u32 x7), .pl (.u32 x8), .pl (.u32 x9), .pl (.u32 x10), .pl (.u32 x11), .pl (.u32 x12), .pl (.u32 x13), .pl (.u32 x14), .pl (.u32 x15)]⟩)] (fun v m => v = .tup [] ∧ m = [(500000, ⟨false, [.pl (.u32 x0), .pl (.u32 x1), .pl (.u32 (mA x2 x7 x8 x13 x y)), .pl (.u32 x3), .pl (.u32 x4), .pl (.u32 x5), .pl (.u32 x6), .pl (.u32 (mB x2 x7 x8 x13 x y)), .pl (.u32 (mC x2 x7 x8 x13 x y)), .pl (.u32 x9), .pl (.u32 x10), .pl (.u32 x11), .pl (.u32 x12), .pl (.u32 (mD x2 x7 x8 x13 x y)), .pl (.u32 x14), .pl (.u32 x15)]⟩)]) := by
 refine CtM.k Tryd.func69 rfl Tryd.ntmps69 (congrArg Array.toList Tryd.results69) (by simp) fun w0 ro may fx => ?_
 refine top_k fun zZ zhZ => ?_
 refine sd_k (id := 0) [13, 14, 15, 16, 17, 18, 19, 20, 21, 22] [0, 1, 3, 0, 8, 24, 0, 120, 255, 511, 1023] [] mixed (by kernel_rfl) (by simp only [go_sem]) fun zK zhK => ?_
 simp only [go_sem, Int.toNat_one]
 repeat' (first | apply And.intro | intro _)
 refine zhK _ _ trivial ?_
 refine sd_k (id := 1) [23, 24, 25, 26, 27, 28, 29, 30, 31, 32] [0, 0, 2, 6, 0, 16, 48, 126, 254, 511, 1023] [] mixed (by kernel_rfl) (by simp only [go_sem]) fun zK zhK => ?_
 simp only [go_sem, Int.toNat_one]
 repeat' (first | apply And.intro | intro _)
 all_goals refine call_draw (fun k => k) _ [] (fun _ _ => rfl) (by first | rfl | (simp only [go_sem, Int.toNat_one] <;> rfl)) ((rotl_16 _).plain fun _ _ h => h) ?_ ?_
 all_goals try (refine And.intro ?_ (And.intro ?_ (And.intro ?_ ?_)) <;> first | rfl | simp only [go_sem])
 all_goals simp only [go_sem, Int.toNat_one]
 all_goals repeat' (first | apply And.intro | intro _)
 refine zhK _ _ trivial ?_
 refine sd_k (id := 2) [33, 34, 35, 36, 37, 38, 39, 40] [0, 1, 3, 0, 8, 24, 63, 127, 255] [] mixed (by kernel_rfl) (by simp only [go_sem]) fun zK zhK => ?_
 simp only [go_sem, Int.toNat_one]
 repeat' (first | apply And.intro | intro _)
 refine zhK _ _ trivial ?_
 refine sd_k (id := 3) [41, 42, 43, 44, 45, 46, 47, 48, 49, 50] [0, 0, 2, 6, 0, 16, 48, 126, 254, 511, 1023] [] mixed (by kernel_rfl) (by simp only [go_sem]) fun zK zhK => ?_
 simp only [go_sem, Int.toNat_one]
 repeat' (first | apply And.intro | intro _)
 all_goals refine call_draw (fun k => k) _ [] (fun _ _ => rfl) (by first | rfl | (simp only [go_sem, Int.toNat_one] <;> rfl)) ((rotl_20 _).plain fun _ _ h => h) ?_ ?_
 all_goals try (refine And.intro ?_ (And.intro ?_ (And.intro ?_ ?_)) <;> first | rfl | simp only [go_sem])
 all_goals simp only [go_sem, Int.toNat_one]
 all_goals repeat' (first | apply And.intro | intro _)
 refine zhK _ _ trivial ?_
 refine sd_k (id := 4) [51, 52, 53, 54, 55, 56, 57, 58, 59, 60] [0, 1, 3, 0, 8, 24, 0, 120, 255, 511, 1023] [] mixed (by kernel_rfl) (by simp only [go_sem]) fun zK zhK => ?_
 simp only [go_sem, Int.toNat_one]
 repeat' (first | apply And.intro | intro _)
 refine zhK _ _ trivial ?_
 refine sd_k (id := 5) [61, 62, 63, 64, 65, 66, 67, 68, 69, 70] [0, 0, 2, 6, 0, 16, 48, 126, 254, 511, 1023] [] mixed (by kernel_rfl) (by simp only [go_sem]) fun zK zhK => ?_
 simp only [go_sem, Int.toNat_one]
 repeat' (first | apply And.intro | intro _)
 all_goals refine call_draw (fun k => k) _ [] (fun _ _ => rfl) (by first | rfl | (simp only [go_sem, Int.toNat_one] <;> rfl)) ((rotl_24 _).plain fun _ _ h => h) ?_ ?_
 all_goals try (refine And.intro ?_ (And.intro ?_ (And.intro ?_ ?_)) <;> first | rfl | simp only [go_sem])
 all_goals simp only [go_sem, Int.toNat_one]
 all_goals repeat' (first | apply And.intro | intro _)
 refine zhK _ _ trivial ?_
 refine sd_k (id := 6) [71, 72, 73, 74, 75, 76, 77, 78] [0, 1, 3, 0, 8, 24, 63, 127, 255] [] mixed (by kernel_rfl) (by simp only [go_sem]) fun zK zhK => ?_
 simp only [go_sem, Int.toNat_one]
 repeat' (first | apply And.intro | intro _)
 refine zhK _ _ trivial ?_
 refine draw_k (id := 7) [79, 80, 81, 82, 83, 84, 85, 86, 87, 88] [0, 0, 2, 6, 0, 16, 48, 126, 254, 511, 1023] [] mixed (by kernel_rfl) (by simp only [go_sem]) fun zK zhK => ?_
 simp only [go_sem, Int.toNat_one]
 repeat' (first | apply And.intro | intro _)
 all_goals refine call_draw (fun k => k) _ [] (fun _ _ => rfl) (by first | rfl | (simp only [go_sem, Int.toNat_one] <;> rfl)) ((rotl_25 _).plain fun _ _ h => h) ?_ ?_
 all_goals try (refine And.intro ?_ (And.intro ?_ (And.intro ?_ ?_)) <;> first | rfl | simp only [go_sem])
 all_goals simp only [go_sem, Int.toNat_one]
 all_goals repeat' (first | apply And.intro | intro _)
 refine zhK _ _ trivial ?_
 refine zhZ _ _ ?_
 simp only [go_sem, Int.toNat_one]
 all_goals (first | exact ⟨rfl, rfl⟩ | (refine ⟨rfl, ?_⟩; simp; done) | rfl)
theorem mix_6 (x0 x1 x2 x3 x4 x5 x6 x7 x8 x9 x10 x11 x12 x13 x14 x15 x y : UInt32) : CtM Tryd.prog 69 ([.w (.one (.pl (.i 2))), .w (.one (.pl (.i 7))), .w (.one (.pl (.i 8))), .w (.one (.pl (.i 13))), .w (.one (.pl (.u32 x))), .w (.one (.pl (.u32 y)))] ++ [500000].map fun k => .w (.one (.p k []))) [(500000, ⟨false, [.pl (.u32 x0), .pl (.u32 x1), .pl (.u32 x2), .pl (.u32 x3), .pl (.u32 x4), .pl (.u32 x5), .pl (.u32 x6), .pl (.u32 x7), .pl (.u32 x8), .pl (.u32 x9), .pl (.u32 x10), .pl (.u32 x11), .pl (.u32 x12), .pl (.u32 x13), .pl (.u32 x14), .pl (.u32 x15)]⟩)] (fun v m => v = .tup [] ∧ m = [(500000, ⟨false, [.pl (.u32 x0), .pl (.u32 x1), .pl (.u32 (mA x2 x7 x8 x13 x y)), .pl (.u32 x3), .pl (.u32 x4), .pl (.u32 x5), .pl (.u32 x6), .pl (.u32 (mB x2 x7 x8 x13 x y)), .pl (.u32 (mC x2 x7 x8 x13 x y)), .pl (.u32 x9), .pl (.u32 x10), .pl (.u32 x11), .pl (.u32 x12), .pl (.u32 (mD x2 x7 x8 x13 x y)), .pl (.u32 x14), .pl (.u32 x15)]⟩)]) := mix_6_ x0 x1 x2 x3 x4 x5 x6 x7 x8 x9 x10 x11 x12 x13 x14 x15 x y
set_option maxHeartbeats 800000 in
set_option maxRecDepth 100000 in
theorem mix_7_ (x0 x1 x2 x3 x4 x5 x6 x7 x8 x9 x10 x11 x12 x13 x14 x15 x y : UInt32) :
 CtM Tryd.prog 69 [.w (.one (.pl (.i 3))), .w (.one (.pl (.i 4))), .w (.one (.pl (.i 9))), .w (.one (.pl (.i 14))), .w (.one (.pl (.u32 x))), .w (.one (.pl (.u32 y))), .w (.one (.p 500000 []))] [(500000, ⟨false, [.pl (.u32 x0), .pl (.u32 x1), .pl (.u32 x2), .pl (.u32 x3), .pl (.u32 x4), .pl (.u32 x5), .pl (.u32 x6), .pl (.u32 x7), .pl (.u32 x8), .pl (.u32 x9), .pl (.u32 x10), .pl (.u32 x11), .pl (.u32 x12), .pl (.u32 x13), .pl (.u32 x14), .pl (.u32 x15)]⟩)] (fun v m => v = .tup [] ∧ m = [(500000, ⟨false, [.pl (.u32 x0), .pl (.u32 x1), .pl (.u32 x2), .pl (.u32 (mA x3 x4 x9 x14 x y)), .pl (.u32 (mB x3 x4 x9 x14 x y)), .pl (.u32 x5), .pl (.u32 x6), .pl (.u32 x7), .pl (.u32 x8), .pl (.u32 (mC x3 x4 x9 x14 x y)), .pl (.u32 x10), .pl (.u32 x11), .pl (.u32 x12), .pl (.u32 x13), .pl (.u32 (mD x3 x4 x9 x14 x y)), .pl (.u32 x15)]⟩)]) := by
 refine CtM.k Tryd.func69 rfl Tryd.ntmps69 (congrArg Array.toList Tryd.results69) (by simp) fun w0 ro may fx => ?_
 refine top_k fun zZ zhZ => ?_
 refine sd_k (id := 0) [13, 14, 15, 16, 17, 18, 19, 20, 21, 22] [0, 1, 3, 0, 8, 24, 0, 120, 255, 511, 1023] [] mixed (by kernel_rfl) (by simp only [go_sem]) fun zK zhK => ?_
 simp only [go_sem, Int.toNat_one]
 repeat' (first | apply And.intro | intro _)
 refine zhK _ _ trivial ?_
 refine sd_k (id := 1) [23, 24, 25, 26, 27, 28, 29, 30, 31, 32] [0, 0, 2, 6, 0, 16, 48, 126, 254, 511, 1023] [] mixed (by kernel_rfl) (by simp only [go_sem]) fun zK zhK => ?_
 simp only [go_sem, Int.toNat_one]
 repeat' (first | apply And.intro | intro _)
 all_goals refine call_draw (fun k => k) _ [] (fun _ _ => rfl) (by first | rfl | (simp only [go_sem, Int.toNat_one] <;> rfl)) ((rotl_16 _).plain fun _ _ h => h) ?_ ?_
 all_goals try (refine And.intro ?_ (And.intro ?_ (And.intro ?_ ?_)) <;> first | rfl | simp only [go_sem])
 all_goals simp only [go_sem, Int.toNat_one]
 all_goals repeat' (first | apply And.intro | intro _)
 refine zhK _ _ trivial ?_
 refine sd_k (id := 2) [33, 34, 35, 36, 37, 38, 39, 40] [0, 1, 3, 0, 8, 24, 63, 127, 255] [] mixed (by kernel_rfl) (by simp only [go_sem]) fun zK zhK => ?_
 simp only [go_sem, Int.toNat_one]
 repeat' (first | apply And.intro | intro _)
 refine zhK _ _ trivial ?_
 refine sd_k (id := 3) [41, 42, 43, 44, 45, 46, 47, 48, 49, 50] [0, 0, 2, 6, 0, 16, 48, 126, 254, 511, 1023] [] mixed (by kernel_rfl) (by simp only [go_sem]) fun zK zhK => ?_
 simp only [go_sem, Int.toNat_one]
 repeat' (first | apply And.intro | intro _)
 all_goals refine call_draw (fun k => k) _ [] (fun _ _ => rfl) (by first | rfl | (simp only [go_sem, Int.toNat_one] <;> rfl)) ((rotl_20 _).plain fun _ _ h => h) ?_ ?_
 all_goals try (refine And.intro ?_ (And.intro ?_ (And.intro ?_ ?_)) <;> first | rfl | simp only [go_sem])
 all_goals simp only [go_sem, Int.toNat_one]
 all_goals repeat' (first | apply And.intro | intro _)
 refine zhK _ _ trivial ?_
 refine sd_k (id := 4) [51, 52, 53, 54, 55, 56, 57, 58, 59, 60] [0, 1, 3, 0, 8, 24, 0, 120, 255, 511, 1023] [] mixed (by kernel_rfl) (by simp only [go_sem]) fun zK zhK => ?_
 simp only [go_sem, Int.toNat_one]
 repeat' (first | apply And.intro | intro _)
 refine zhK _ _ trivial ?_
 refine sd_k (id := 5) [61, 62, 63, 64, 65, 66, 67, 68, 69, 70] [0, 0, 2, 6, 0, 16, 48, 126, 254, 511, 1023] [] mixed (by kernel_rfl) (by simp only [go_sem]) fun zK zhK => ?_
 simp only [go_sem, Int.toNat_one]
 repeat' (first | apply And.intro | intro _)
 all_goals refine call_draw (fun k => k) _ [] (fun _ _ => rfl) (by first | rfl | (simp only [go_sem, Int.toNat_one] <;> rfl)) ((rotl_24 _).plain fun _ _ h => h) ?_ ?_
 all_goals try (refine And.intro ?_ (And.intro ?_ (And.intro ?_ ?_)) <;> first | rfl | simp only [go_sem])
 all_goals simp only [go_sem, Int.toNat_one]
 all_goals repeat' (first | apply And.intro | intro _)
 refine zhK _ _ trivial ?_
 refine sd_k (id := 6) [71, 72, 73, 74, 75, 76, 77, 78] [0, 1, 3, 0, 8, 24, 63, 127, 255] [] mixed (by kernel_rfl) (by simp only [go_sem]) fun zK zhK => ?_
 simp only [go_sem, Int.toNat_one]
 repeat' (first | apply And.intro | intro _)
 refine zhK _ _ trivial ?_
 refine draw_k (id := 7) [79, 80, 81, 82, 83, 84, 85, 86, 87, 88] [0, 0, 2, 6, 0, 16, 48, 126, 254, 511, 1023] [] mixed (by kernel_rfl) (by simp only [go_sem]) fun zK zhK => ?_
 simp only [go_sem, Int.toNat_one]
 repeat' (first | apply And.intro | intro _)
 all_goals refine call_draw (fun k => k) _ [] (fun _ _ => rfl) (by first | rfl | (simp only [go_sem, Int.toNat_one] <;> rfl)) ((rotl_25 _).plain fun _ _ h => h) ?_ ?_
 all_goals try (refine And.intro ?_ (And.intro ?_ (And.intro ?_ ?_)) <;> first | rfl | simp only [go_sem])
 all_goals simp only [go_sem, Int.toNat_one]
 all_goals repeat' (first | apply And.intro | intro _)
 refine zhK _ _ trivial ?_
 refine zhZ _ _ ?_
 simp only [go_sem, Int.toNat_one]
 all_goals (first | exact ⟨rfl, rfl⟩ | (refine ⟨rfl, ?_⟩; simp; done) | rfl)
theorem mix_7 (x0 x1 x2 x3 x4 x5 x6 x7 x8 x9 x10 x11 x12 x13 x14 x15 x y : UInt32) : CtM Tryd.prog 69 ([.w (.one (.pl (.i 3))), .w (.one (.pl (.i 4))), .w (.one (.pl (.i 9))), .w (.one (.pl (.i 14))), .w (.one (.pl (.u32 x))), .w (.one (.pl (.u32 y)))] ++ [500000].map fun k => .w (.one (.p k []))) [(500000, ⟨false, [.pl (.u32 x0), .pl (.u32 x1), .pl (.u32 x2), .pl (.u32 x3), .pl (.u32 x4), .pl (.u32 x5), .pl (.u32 x6), .pl (.u32 x7), .pl (.u32 x8), .pl (.u32 x9), .pl (.u32 x10), .pl (.u32 x11), .pl (.u32 x12), .pl (.u32 x13), .pl (.u32 x14), .pl (.u32 x15)]⟩)] (fun v m => v = .tup [] ∧ m = [(500000, ⟨false, [.pl (.u32 x0), .pl (.u32 x1), .pl (.u32 x2), .pl (.u32 (mA x3 x4 x9 x14 x y)), .pl (.u32 (mB x3 x4 x9 x14 x y)), .pl (.u32 x5), .pl (.u32 x6), .pl (.u32 x7), .pl (.u32 x8), .pl (.u32 (mC x3 x4 x9 x14 x y)), .pl (.u32 x10), .pl (.u32 x11), .pl (.u32 x12), .pl (.u32 x13), .pl (.u32 (mD x3 x4 x9 x14 x y)), .pl (.u32 x15)]⟩)]) := mix_7_ x0 x1 x2 x3 x4 x5 x6 x7 x8 x9 x10 x11 x12 x13 x14 x15 x y
end Bk
end Go.Sy
