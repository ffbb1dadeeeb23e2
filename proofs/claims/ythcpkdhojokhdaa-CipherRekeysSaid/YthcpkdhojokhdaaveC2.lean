/- Walks: two words mixed with a third. -/
import Derived.Test.YthcpkdhojokhdaaveC1
set_option linter.unusedVariables false
set_option linter.unusedSimpArgs false
namespace Go.Sy
open Go.Proofs
attribute [local irreducible] atCall HT runOps runD onC onE onO onG goV goA goS onSt onGuard
set_option maxHeartbeats 800000 in
theorem turn_0_4_12 (x0 x1 x2 x3 x4 x5 x6 x7 x8 x9 x10 x11 x12 x13 x14 x15 : UInt32) (k : Nat) (hk : k = 16 ∨ k = 12 ∨ k = 8 ∨ k = 7) :
 CtM Try.prog 64 [.w (.one (.pl (.i 0))), .w (.one (.pl (.i 4))), .w (.one (.pl (.i 12))), .w (.one (.pl (.i (k : Int)))), .w (.one (.p 500001 []))] [(500001, ⟨false, [.p 500000 []]⟩), (500000, ⟨false, [.pl (.u32 x0), .pl (.u32 x1), .pl (.u32 x2), .pl (.u32 x3), .pl (.u32 x4), .pl (.u32 x5), .pl (.u32 x6), .pl (.u32 x7), .pl (.u32 x8), .pl (.u32 x9), .pl (.u32 x10), .pl (.u32 x11), .pl (.u32 x12), .pl (.u32 x13), .pl (.u32 x14), .pl (.u32 x15)]⟩)] (fun v m => v = .tup [] ∧ m = [(500001, ⟨false, [.p 500000 []]⟩), (500000, ⟨false, [.pl (.u32 (x0 + x4)), .pl (.u32 x1), .pl (.u32 x2), .pl (.u32 x3), .pl (.u32 x4), .pl (.u32 x5), .pl (.u32 x6), .pl (.u32 x7), .pl (.u32 x8), .pl (.u32 x9), .pl (.u32 x10), .pl (.u32 x11), .pl (.u32 (rot32 (x12 ^^^ (x0 + x4)) k)), .pl (.u32 x13), .pl (.u32 x14), .pl (.u32 x15)]⟩)]) := by
 refine CtM.k Try.func64 rfl Try.ntmps64 (congrArg Array.toList Try.results64) (by simp) fun w0 ro may fx => ?_
 refine top_k fun zZ zhZ => ?_
 refine sd_k (id := 0) [9, 10, 11, 12, 13, 14, 15, 16, 17, 18, 19, 20, 21] [0, 0, 1, 7, 15, 0, 0, 32, 224, 480, 1023, 1, 4095, 8191] [] mixed (by kernel_rfl) (by simp only [go_sem]) fun zK zhK => ?_
 simp only [go_sem, Int.toNat_one]
 repeat' (first | apply And.intro | intro _)
 refine zhK _ _ trivial ?_
 refine draw_k (id := 1) [22, 23, 24, 25, 26, 27, 28, 29, 30, 31, 32, 33, 34, 35, 36, 37, 38] [0, 0, 0, 0, 4, 28, 60, 0, 0, 128, 896, 1920, 4092, 0, 16380, 1, 65535, 131071] [] mixed (by kernel_rfl) (by simp only [go_sem]) fun zK zhK => ?_
 simp only [go_sem, Int.toNat_one]
 repeat' (first | apply And.intro | intro _)
 all_goals refine call_draw (fun k => k) _ [] (fun _ _ => rfl) (by first | rfl | (simp only [go_sem, Int.toNat_one] <;> rfl)) ((rotl _ k hk).plain fun _ _ h => h) ?_ ?_
 all_goals try (refine And.intro ?_ (And.intro ?_ (And.intro ?_ ?_)) <;> first | rfl | simp only [go_sem])
 all_goals simp only [go_sem, Int.toNat_one]
 all_goals repeat' (first | apply And.intro | intro _)
 refine zhK _ _ trivial ?_
 refine zhZ _ _ ?_
 simp only [go_sem, Int.toNat_one]
 all_goals (first | exact ⟨rfl, rfl⟩ | (refine ⟨rfl, ?_⟩; simp))
set_option maxHeartbeats 800000 in
theorem turn_8_12_4 (x0 x1 x2 x3 x4 x5 x6 x7 x8 x9 x10 x11 x12 x13 x14 x15 : UInt32) (k : Nat) (hk : k = 16 ∨ k = 12 ∨ k = 8 ∨ k = 7) :
 CtM Try.prog 64 [.w (.one (.pl (.i 8))), .w (.one (.pl (.i 12))), .w (.one (.pl (.i 4))), .w (.one (.pl (.i (k : Int)))), .w (.one (.p 500001 []))] [(500001, ⟨false, [.p 500000 []]⟩), (500000, ⟨false, [.pl (.u32 x0), .pl (.u32 x1), .pl (.u32 x2), .pl (.u32 x3), .pl (.u32 x4), .pl (.u32 x5), .pl (.u32 x6), .pl (.u32 x7), .pl (.u32 x8), .pl (.u32 x9), .pl (.u32 x10), .pl (.u32 x11), .pl (.u32 x12), .pl (.u32 x13), .pl (.u32 x14), .pl (.u32 x15)]⟩)] (fun v m => v = .tup [] ∧ m = [(500001, ⟨false, [.p 500000 []]⟩), (500000, ⟨false, [.pl (.u32 x0), .pl (.u32 x1), .pl (.u32 x2), .pl (.u32 x3), .pl (.u32 (rot32 (x4 ^^^ (x8 + x12)) k)), .pl (.u32 x5), .pl (.u32 x6), .pl (.u32 x7), .pl (.u32 (x8 + x12)), .pl (.u32 x9), .pl (.u32 x10), .pl (.u32 x11), .pl (.u32 x12), .pl (.u32 x13), .pl (.u32 x14), .pl (.u32 x15)]⟩)]) := by
 refine CtM.k Try.func64 rfl Try.ntmps64 (congrArg Array.toList Try.results64) (by simp) fun w0 ro may fx => ?_
 refine top_k fun zZ zhZ => ?_
 refine sd_k (id := 0) [9, 10, 11, 12, 13, 14, 15, 16, 17, 18, 19, 20, 21] [0, 0, 1, 7, 15, 0, 0, 32, 224, 480, 1023, 1, 4095, 8191] [] mixed (by kernel_rfl) (by simp only [go_sem]) fun zK zhK => ?_
 simp only [go_sem, Int.toNat_one]
 repeat' (first | apply And.intro | intro _)
 refine zhK _ _ trivial ?_
 refine draw_k (id := 1) [22, 23, 24, 25, 26, 27, 28, 29, 30, 31, 32, 33, 34, 35, 36, 37, 38] [0, 0, 0, 0, 4, 28, 60, 0, 0, 128, 896, 1920, 4092, 0, 16380, 1, 65535, 131071] [] mixed (by kernel_rfl) (by simp only [go_sem]) fun zK zhK => ?_
 simp only [go_sem, Int.toNat_one]
 repeat' (first | apply And.intro | intro _)
 all_goals refine call_draw (fun k => k) _ [] (fun _ _ => rfl) (by first | rfl | (simp only [go_sem, Int.toNat_one] <;> rfl)) ((rotl _ k hk).plain fun _ _ h => h) ?_ ?_
 all_goals try (refine And.intro ?_ (And.intro ?_ (And.intro ?_ ?_)) <;> first | rfl | simp only [go_sem])
 all_goals simp only [go_sem, Int.toNat_one]
 all_goals repeat' (first | apply And.intro | intro _)
 refine zhK _ _ trivial ?_
 refine zhZ _ _ ?_
 simp only [go_sem, Int.toNat_one]
 all_goals (first | exact ⟨rfl, rfl⟩ | (refine ⟨rfl, ?_⟩; simp))
set_option maxHeartbeats 800000 in
theorem turn_1_5_13 (x0 x1 x2 x3 x4 x5 x6 x7 x8 x9 x10 x11 x12 x13 x14 x15 : UInt32) (k : Nat) (hk : k = 16 ∨ k = 12 ∨ k = 8 ∨ k = 7) :
 CtM Try.prog 64 [.w (.one (.pl (.i 1))), .w (.one (.pl (.i 5))), .w (.one (.pl (.i 13))), .w (.one (.pl (.i (k : Int)))), .w (.one (.p 500001 []))] [(500001, ⟨false, [.p 500000 []]⟩), (500000, ⟨false, [.pl (.u32 x0), .pl (.u32 x1), .pl (.u32 x2), .pl (.u32 x3), .pl (.u32 x4), .pl (.u32 x5), .pl (.u32 x6), .pl (.u32 x7), .pl (.u32 x8), .pl (.u32 x9), .pl (.u32 x10), .pl (.u32 x11), .pl (.u32 x12), .pl (.u32 x13), .pl (.u32 x14), .pl (.u32 x15)]⟩)] (fun v m => v = .tup [] ∧ m = [(500001, ⟨false, [.p 500000 []]⟩), (500000, ⟨false, [.pl (.u32 x0), .pl (.u32 (x1 + x5)), .pl (.u32 x2), .pl (.u32 x3), .pl (.u32 x4), .pl (.u32 x5), .pl (.u32 x6), .pl (.u32 x7), .pl (.u32 x8), .pl (.u32 x9), .pl (.u32 x10), .pl (.u32 x11), .pl (.u32 x12), .pl (.u32 (rot32 (x13 ^^^ (x1 + x5)) k)), .pl (.u32 x14), .pl (.u32 x15)]⟩)]) := by
 refine CtM.k Try.func64 rfl Try.ntmps64 (congrArg Array.toList Try.results64) (by simp) fun w0 ro may fx => ?_
 refine top_k fun zZ zhZ => ?_
 refine sd_k (id := 0) [9, 10, 11, 12, 13, 14, 15, 16, 17, 18, 19, 20, 21] [0, 0, 1, 7, 15, 0, 0, 32, 224, 480, 1023, 1, 4095, 8191] [] mixed (by kernel_rfl) (by simp only [go_sem]) fun zK zhK => ?_
 simp only [go_sem, Int.toNat_one]
 repeat' (first | apply And.intro | intro _)
 refine zhK _ _ trivial ?_
 refine draw_k (id := 1) [22, 23, 24, 25, 26, 27, 28, 29, 30, 31, 32, 33, 34, 35, 36, 37, 38] [0, 0, 0, 0, 4, 28, 60, 0, 0, 128, 896, 1920, 4092, 0, 16380, 1, 65535, 131071] [] mixed (by kernel_rfl) (by simp only [go_sem]) fun zK zhK => ?_
 simp only [go_sem, Int.toNat_one]
 repeat' (first | apply And.intro | intro _)
 all_goals refine call_draw (fun k => k) _ [] (fun _ _ => rfl) (by first | rfl | (simp only [go_sem, Int.toNat_one] <;> rfl)) ((rotl _ k hk).plain fun _ _ h => h) ?_ ?_
 all_goals try (refine And.intro ?_ (And.intro ?_ (And.intro ?_ ?_)) <;> first | rfl | simp only [go_sem])
 all_goals simp only [go_sem, Int.toNat_one]
 all_goals repeat' (first | apply And.intro | intro _)
 refine zhK _ _ trivial ?_
 refine zhZ _ _ ?_
 simp only [go_sem, Int.toNat_one]
 all_goals (first | exact ⟨rfl, rfl⟩ | (refine ⟨rfl, ?_⟩; simp))
set_option maxHeartbeats 800000 in
theorem turn_9_13_5 (x0 x1 x2 x3 x4 x5 x6 x7 x8 x9 x10 x11 x12 x13 x14 x15 : UInt32) (k : Nat) (hk : k = 16 ∨ k = 12 ∨ k = 8 ∨ k = 7) :
 CtM Try.prog 64 [.w (.one (.pl (.i 9))), .w (.one (.pl (.i 13))), .w (.one (.pl (.i 5))), .w (.one (.pl (.i (k : Int)))), .w (.one (.p 500001 []))] [(500001, ⟨false, [.p 500000 []]⟩), (500000, ⟨false, [.pl (.u32 x0), .pl (.u32 x1), .pl (.u32 x2), .pl (.u32 x3), .pl (.u32 x4), .pl (.u32 x5), .pl (.u32 x6), .pl (.u32 x7), .pl (.u32 x8), .pl (.u32 x9), .pl (.u32 x10), .pl (.u32 x11), .pl (.u32 x12), .pl (.u32 x13), .pl (.u32 x14), .pl (.u32 x15)]⟩)] (fun v m => v = .tup [] ∧ m = [(500001, ⟨false, [.p 500000 []]⟩), (500000, ⟨false, [.pl (.u32 x0), .pl (.u32 x1), .pl (.u32 x2), .pl (.u32 x3), .pl (.u32 x4), .pl (.u32 (rot32 (x5 ^^^ (x9 + x13)) k)), .pl (.u32 x6), .pl (.u32 x7), .pl (.u32 x8), .pl (.u32 (x9 + x13)), .pl (.u32 x10), .pl (.u32 x11), .pl (.u32 x12), .pl (.u32 x13), .pl (.u32 x14), .pl (.u32 x15)]⟩)]) := by
 refine CtM.k Try.func64 rfl Try.ntmps64 (congrArg Array.toList Try.results64) (by simp) fun w0 ro may fx => ?_
 refine top_k fun zZ zhZ => ?_
 refine sd_k (id := 0) [9, 10, 11, 12, 13, 14, 15, 16, 17, 18, 19, 20, 21] [0, 0, 1, 7, 15, 0, 0, 32, 224, 480, 1023, 1, 4095, 8191] [] mixed (by kernel_rfl) (by simp only [go_sem]) fun zK zhK => ?_
 simp only [go_sem, Int.toNat_one]
 repeat' (first | apply And.intro | intro _)
 refine zhK _ _ trivial ?_
 refine draw_k (id := 1) [22, 23, 24, 25, 26, 27, 28, 29, 30, 31, 32, 33, 34, 35, 36, 37, 38] [0, 0, 0, 0, 4, 28, 60, 0, 0, 128, 896, 1920, 4092, 0, 16380, 1, 65535, 131071] [] mixed (by kernel_rfl) (by simp only [go_sem]) fun zK zhK => ?_
 simp only [go_sem, Int.toNat_one]
 repeat' (first | apply And.intro | intro _)
 all_goals refine call_draw (fun k => k) _ [] (fun _ _ => rfl) (by first | rfl | (simp only [go_sem, Int.toNat_one] <;> rfl)) ((rotl _ k hk).plain fun _ _ h => h) ?_ ?_
 all_goals try (refine And.intro ?_ (And.intro ?_ (And.intro ?_ ?_)) <;> first | rfl | simp only [go_sem])
 all_goals simp only [go_sem, Int.toNat_one]
 all_goals repeat' (first | apply And.intro | intro _)
 refine zhK _ _ trivial ?_
 refine zhZ _ _ ?_
 simp only [go_sem, Int.toNat_one]
 all_goals (first | exact ⟨rfl, rfl⟩ | (refine ⟨rfl, ?_⟩; simp))
set_option maxHeartbeats 800000 in
theorem turn_2_6_14 (x0 x1 x2 x3 x4 x5 x6 x7 x8 x9 x10 x11 x12 x13 x14 x15 : UInt32) (k : Nat) (hk : k = 16 ∨ k = 12 ∨ k = 8 ∨ k = 7) :
 CtM Try.prog 64 [.w (.one (.pl (.i 2))), .w (.one (.pl (.i 6))), .w (.one (.pl (.i 14))), .w (.one (.pl (.i (k : Int)))), .w (.one (.p 500001 []))] [(500001, ⟨false, [.p 500000 []]⟩), (500000, ⟨false, [.pl (.u32 x0), .pl (.u32 x1), .pl (.u32 x2), .pl (.u32 x3), .pl (.u32 x4), .pl (.u32 x5), .pl (.u32 x6), .pl (.u32 x7), .pl (.u32 x8), .pl (.u32 x9), .pl (.u32 x10), .pl (.u32 x11), .pl (.u32 x12), .pl (.u32 x13), .pl (.u32 x14), .pl (.u32 x15)]⟩)] (fun v m => v = .tup [] ∧ m = [(500001, ⟨false, [.p 500000 []]⟩), (500000, ⟨false, [.pl (.u32 x0), .pl (.u32 x1), .pl (.u32 (x2 + x6)), .pl (.u32 x3), .pl (.u32 x4), .pl (.u32 x5), .pl (.u32 x6), .pl (.u32 x7), .pl (.u32 x8), .pl (.u32 x9), .pl (.u32 x10), .pl (.u32 x11), .pl (.u32 x12), .pl (.u32 x13), .pl (.u32 (rot32 (x14 ^^^ (x2 + x6)) k)), .pl (.u32 x15)]⟩)]) := by
 refine CtM.k Try.func64 rfl Try.ntmps64 (congrArg Array.toList Try.results64) (by simp) fun w0 ro may fx => ?_
 refine top_k fun zZ zhZ => ?_
 refine sd_k (id := 0) [9, 10, 11, 12, 13, 14, 15, 16, 17, 18, 19, 20, 21] [0, 0, 1, 7, 15, 0, 0, 32, 224, 480, 1023, 1, 4095, 8191] [] mixed (by kernel_rfl) (by simp only [go_sem]) fun zK zhK => ?_
 simp only [go_sem, Int.toNat_one]
 repeat' (first | apply And.intro | intro _)
 refine zhK _ _ trivial ?_
 refine draw_k (id := 1) [22, 23, 24, 25, 26, 27, 28, 29, 30, 31, 32, 33, 34, 35, 36, 37, 38] [0, 0, 0, 0, 4, 28, 60, 0, 0, 128, 896, 1920, 4092, 0, 16380, 1, 65535, 131071] [] mixed (by kernel_rfl) (by simp only [go_sem]) fun zK zhK => ?_
 simp only [go_sem, Int.toNat_one]
 repeat' (first | apply And.intro | intro _)
 all_goals refine call_draw (fun k => k) _ [] (fun _ _ => rfl) (by first | rfl | (simp only [go_sem, Int.toNat_one] <;> rfl)) ((rotl _ k hk).plain fun _ _ h => h) ?_ ?_
 all_goals try (refine And.intro ?_ (And.intro ?_ (And.intro ?_ ?_)) <;> first | rfl | simp only [go_sem])
 all_goals simp only [go_sem, Int.toNat_one]
 all_goals repeat' (first | apply And.intro | intro _)
 refine zhK _ _ trivial ?_
 refine zhZ _ _ ?_
 simp only [go_sem, Int.toNat_one]
 all_goals (first | exact ⟨rfl, rfl⟩ | (refine ⟨rfl, ?_⟩; simp))
set_option maxHeartbeats 800000 in
theorem turn_10_14_6 (x0 x1 x2 x3 x4 x5 x6 x7 x8 x9 x10 x11 x12 x13 x14 x15 : UInt32) (k : Nat) (hk : k = 16 ∨ k = 12 ∨ k = 8 ∨ k = 7) :
 CtM Try.prog 64 [.w (.one (.pl (.i 10))), .w (.one (.pl (.i 14))), .w (.one (.pl (.i 6))), .w (.one (.pl (.i (k : Int)))), .w (.one (.p 500001 []))] [(500001, ⟨false, [.p 500000 []]⟩), (500000, ⟨false, [.pl (.u32 x0), .pl (.u32 x1), .pl (.u32 x2), .pl (.u32 x3), .pl (.u32 x4), .pl (.u32 x5), .pl (.u32 x6), .pl (.u32 x7), .pl (.u32 x8), .pl (.u32 x9), .pl (.u32 x10), .pl (.u32 x11), .pl (.u32 x12), .pl (.u32 x13), .pl (.u32 x14), .pl (.u32 x15)]⟩)] (fun v m => v = .tup [] ∧ m = [(500001, ⟨false, [.p 500000 []]⟩), (500000, ⟨false, [.pl (.u32 x0), .pl (.u32 x1), .pl (.u32 x2), .pl (.u32 x3), .pl (.u32 x4), .pl (.u32 x5), .pl (.u32 (rot32 (x6 ^^^ (x10 + x14)) k)), .pl (.u32 x7), .pl (.u32 x8), .pl (.u32 x9), .pl (.u32 (x10 + x14)), .pl (.u32 x11), .pl (.u32 x12), .pl (.u32 x13), .pl (.u32 x14), .pl (.u32 x15)]⟩)]) := by
 refine CtM.k Try.func64 rfl Try.ntmps64 (congrArg Array.toList Try.results64) (by simp) fun w0 ro may fx => ?_
 refine top_k fun zZ zhZ => ?_
 refine sd_k (id := 0) [9, 10, 11, 12, 13, 14, 15, 16, 17, 18, 19, 20, 21] [0, 0, 1, 7, 15, 0, 0, 32, 224, 480, 1023, 1, 4095, 8191] [] mixed (by kernel_rfl) (by simp only [go_sem]) fun zK zhK => ?_
 simp only [go_sem, Int.toNat_one]
 repeat' (first | apply And.intro | intro _)
 refine zhK _ _ trivial ?_
 refine draw_k (id := 1) [22, 23, 24, 25, 26, 27, 28, 29, 30, 31, 32, 33, 34, 35, 36, 37, 38] [0, 0, 0, 0, 4, 28, 60, 0, 0, 128, 896, 1920, 4092, 0, 16380, 1, 65535, 131071] [] mixed (by kernel_rfl) (by simp only [go_sem]) fun zK zhK => ?_
 simp only [go_sem, Int.toNat_one]
 repeat' (first | apply And.intro | intro _)
 all_goals refine call_draw (fun k => k) _ [] (fun _ _ => rfl) (by first | rfl | (simp only [go_sem, Int.toNat_one] <;> rfl)) ((rotl _ k hk).plain fun _ _ h => h) ?_ ?_
 all_goals try (refine And.intro ?_ (And.intro ?_ (And.intro ?_ ?_)) <;> first | rfl | simp only [go_sem])
 all_goals simp only [go_sem, Int.toNat_one]
 all_goals repeat' (first | apply And.intro | intro _)
 refine zhK _ _ trivial ?_
 refine zhZ _ _ ?_
 simp only [go_sem, Int.toNat_one]
 all_goals (first | exact ⟨rfl, rfl⟩ | (refine ⟨rfl, ?_⟩; simp))
set_option maxHeartbeats 800000 in
theorem turn_3_7_15 (x0 x1 x2 x3 x4 x5 x6 x7 x8 x9 x10 x11 x12 x13 x14 x15 : UInt32) (k : Nat) (hk : k = 16 ∨ k = 12 ∨ k = 8 ∨ k = 7) :
 CtM Try.prog 64 [.w (.one (.pl (.i 3))), .w (.one (.pl (.i 7))), .w (.one (.pl (.i 15))), .w (.one (.pl (.i (k : Int)))), .w (.one (.p 500001 []))] [(500001, ⟨false, [.p 500000 []]⟩), (500000, ⟨false, [.pl (.u32 x0), .pl (.u32 x1), .pl (.u32 x2), .pl (.u32 x3), .pl (.u32 x4), .pl (.u32 x5), .pl (.u32 x6), .pl (.u32 x7), .pl (.u32 x8), .pl (.u32 x9), .pl (.u32 x10), .pl (.u32 x11), .pl (.u32 x12), .pl (.u32 x13), .pl (.u32 x14), .pl (.u32 x15)]⟩)] (fun v m => v = .tup [] ∧ m = [(500001, ⟨false, [.p 500000 []]⟩), (500000, ⟨false, [.pl (.u32 x0), .pl (.u32 x1), .pl (.u32 x2), .pl (.u32 (x3 + x7)), .pl (.u32 x4), .pl (.u32 x5), .pl (.u32 x6), .pl (.u32 x7), .pl (.u32 x8), .pl (.u32 x9), .pl (.u32 x10), .pl (.u32 x11), .pl (.u32 x12), .pl (.u32 x13), .pl (.u32 x14), .pl (.u32 (rot32 (x15 ^^^ (x3 + x7)) k))]⟩)]) := by
 refine CtM.k Try.func64 rfl Try.ntmps64 (congrArg Array.toList Try.results64) (by simp) fun w0 ro may fx => ?_
 refine top_k fun zZ zhZ => ?_
 refine sd_k (id := 0) [9, 10, 11, 12, 13, 14, 15, 16, 17, 18, 19, 20, 21] [0, 0, 1, 7, 15, 0, 0, 32, 224, 480, 1023, 1, 4095, 8191] [] mixed (by kernel_rfl) (by simp only [go_sem]) fun zK zhK => ?_
 simp only [go_sem, Int.toNat_one]
 repeat' (first | apply And.intro | intro _)
 refine zhK _ _ trivial ?_
 refine draw_k (id := 1) [22, 23, 24, 25, 26, 27, 28, 29, 30, 31, 32, 33, 34, 35, 36, 37, 38] [0, 0, 0, 0, 4, 28, 60, 0, 0, 128, 896, 1920, 4092, 0, 16380, 1, 65535, 131071] [] mixed (by kernel_rfl) (by simp only [go_sem]) fun zK zhK => ?_
 simp only [go_sem, Int.toNat_one]
 repeat' (first | apply And.intro | intro _)
 all_goals refine call_draw (fun k => k) _ [] (fun _ _ => rfl) (by first | rfl | (simp only [go_sem, Int.toNat_one] <;> rfl)) ((rotl _ k hk).plain fun _ _ h => h) ?_ ?_
 all_goals try (refine And.intro ?_ (And.intro ?_ (And.intro ?_ ?_)) <;> first | rfl | simp only [go_sem])
 all_goals simp only [go_sem, Int.toNat_one]
 all_goals repeat' (first | apply And.intro | intro _)
 refine zhK _ _ trivial ?_
 refine zhZ _ _ ?_
 simp only [go_sem, Int.toNat_one]
 all_goals (first | exact ⟨rfl, rfl⟩ | (refine ⟨rfl, ?_⟩; simp))
set_option maxHeartbeats 800000 in
theorem turn_11_15_7 (x0 x1 x2 x3 x4 x5 x6 x7 x8 x9 x10 x11 x12 x13 x14 x15 : UInt32) (k : Nat) (hk : k = 16 ∨ k = 12 ∨ k = 8 ∨ k = 7) :
 CtM Try.prog 64 [.w (.one (.pl (.i 11))), .w (.one (.pl (.i 15))), .w (.one (.pl (.i 7))), .w (.one (.pl (.i (k : Int)))), .w (.one (.p 500001 []))] [(500001, ⟨false, [.p 500000 []]⟩), (500000, ⟨false, [.pl (.u32 x0), .pl (.u32 x1), .pl (.u32 x2), .pl (.u32 x3), .pl (.u32 x4), .pl (.u32 x5), .pl (.u32 x6), .pl (.u32 x7), .pl (.u32 x8), .pl (.u32 x9), .pl (.u32 x10), .pl (.u32 x11), .pl (.u32 x12), .pl (.u32 x13), .pl (.u32 x14), .pl (.u32 x15)]⟩)] (fun v m => v = .tup [] ∧ m = [(500001, ⟨false, [.p 500000 []]⟩), (500000, ⟨false, [.pl (.u32 x0), .pl (.u32 x1), .pl (.u32 x2), .pl (.u32 x3), .pl (.u32 x4), .pl (.u32 x5), .pl (.u32 x6), .pl (.u32 (rot32 (x7 ^^^ (x11 + x15)) k)), .pl (.u32 x8), .pl (.u32 x9), .pl (.u32 x10), .pl (.u32 (x11 + x15)), .pl (.u32 x12), .pl (.u32 x13), .pl (.u32 x14), .pl (.u32 x15)]⟩)]) := by
 refine CtM.k Try.func64 rfl Try.ntmps64 (congrArg Array.toList Try.results64) (by simp) fun w0 ro may fx => ?_
 refine top_k fun zZ zhZ => ?_
 refine sd_k (id := 0) [9, 10, 11, 12, 13, 14, 15, 16, 17, 18, 19, 20, 21] [0, 0, 1, 7, 15, 0, 0, 32, 224, 480, 1023, 1, 4095, 8191] [] mixed (by kernel_rfl) (by simp only [go_sem]) fun zK zhK => ?_
 simp only [go_sem, Int.toNat_one]
 repeat' (first | apply And.intro | intro _)
 refine zhK _ _ trivial ?_
 refine draw_k (id := 1) [22, 23, 24, 25, 26, 27, 28, 29, 30, 31, 32, 33, 34, 35, 36, 37, 38] [0, 0, 0, 0, 4, 28, 60, 0, 0, 128, 896, 1920, 4092, 0, 16380, 1, 65535, 131071] [] mixed (by kernel_rfl) (by simp only [go_sem]) fun zK zhK => ?_
 simp only [go_sem, Int.toNat_one]
 repeat' (first | apply And.intro | intro _)
 all_goals refine call_draw (fun k => k) _ [] (fun _ _ => rfl) (by first | rfl | (simp only [go_sem, Int.toNat_one] <;> rfl)) ((rotl _ k hk).plain fun _ _ h => h) ?_ ?_
 all_goals try (refine And.intro ?_ (And.intro ?_ (And.intro ?_ ?_)) <;> first | rfl | simp only [go_sem])
 all_goals simp only [go_sem, Int.toNat_one]
 all_goals repeat' (first | apply And.intro | intro _)
 refine zhK _ _ trivial ?_
 refine zhZ _ _ ?_
 simp only [go_sem, Int.toNat_one]
 all_goals (first | exact ⟨rfl, rfl⟩ | (refine ⟨rfl, ?_⟩; simp))
set_option maxHeartbeats 800000 in
theorem turn_0_5_15 (x0 x1 x2 x3 x4 x5 x6 x7 x8 x9 x10 x11 x12 x13 x14 x15 : UInt32) (k : Nat) (hk : k = 16 ∨ k = 12 ∨ k = 8 ∨ k = 7) :
 CtM Try.prog 64 [.w (.one (.pl (.i 0))), .w (.one (.pl (.i 5))), .w (.one (.pl (.i 15))), .w (.one (.pl (.i (k : Int)))), .w (.one (.p 500001 []))] [(500001, ⟨false, [.p 500000 []]⟩), (500000, ⟨false, [.pl (.u32 x0), .pl (.u32 x1), .pl (.u32 x2), .pl (.u32 x3), .pl (.u32 x4), .pl (.u32 x5), .pl (.u32 x6), .pl (.u32 x7), .pl (.u32 x8), .pl (.u32 x9), .pl (.u32 x10), .pl (.u32 x11), .pl (.u32 x12), .pl (.u32 x13), .pl (.u32 x14), .pl (.u32 x15)]⟩)] (fun v m => v = .tup [] ∧ m = [(500001, ⟨false, [.p 500000 []]⟩), (500000, ⟨false, [.pl (.u32 (x0 + x5)), .pl (.u32 x1), .pl (.u32 x2), .pl (.u32 x3), .pl (.u32 x4), .pl (.u32 x5), .pl (.u32 x6), .pl (.u32 x7), .pl (.u32 x8), .pl (.u32 x9), .pl (.u32 x10), .pl (.u32 x11), .pl (.u32 x12), .pl (.u32 x13), .pl (.u32 x14), .pl (.u32 (rot32 (x15 ^^^ (x0 + x5)) k))]⟩)]) := by
 refine CtM.k Try.func64 rfl Try.ntmps64 (congrArg Array.toList Try.results64) (by simp) fun w0 ro may fx => ?_
 refine top_k fun zZ zhZ => ?_
 refine sd_k (id := 0) [9, 10, 11, 12, 13, 14, 15, 16, 17, 18, 19, 20, 21] [0, 0, 1, 7, 15, 0, 0, 32, 224, 480, 1023, 1, 4095, 8191] [] mixed (by kernel_rfl) (by simp only [go_sem]) fun zK zhK => ?_
 simp only [go_sem, Int.toNat_one]
 repeat' (first | apply And.intro | intro _)
 refine zhK _ _ trivial ?_
 refine draw_k (id := 1) [22, 23, 24, 25, 26, 27, 28, 29, 30, 31, 32, 33, 34, 35, 36, 37, 38] [0, 0, 0, 0, 4, 28, 60, 0, 0, 128, 896, 1920, 4092, 0, 16380, 1, 65535, 131071] [] mixed (by kernel_rfl) (by simp only [go_sem]) fun zK zhK => ?_
 simp only [go_sem, Int.toNat_one]
 repeat' (first | apply And.intro | intro _)
 all_goals refine call_draw (fun k => k) _ [] (fun _ _ => rfl) (by first | rfl | (simp only [go_sem, Int.toNat_one] <;> rfl)) ((rotl _ k hk).plain fun _ _ h => h) ?_ ?_
 all_goals try (refine And.intro ?_ (And.intro ?_ (And.intro ?_ ?_)) <;> first | rfl | simp only [go_sem])
 all_goals simp only [go_sem, Int.toNat_one]
 all_goals repeat' (first | apply And.intro | intro _)
 refine zhK _ _ trivial ?_
 refine zhZ _ _ ?_
 simp only [go_sem, Int.toNat_one]
 all_goals (first | exact ⟨rfl, rfl⟩ | (refine ⟨rfl, ?_⟩; simp))
set_option maxHeartbeats 800000 in
theorem turn_10_15_5 (x0 x1 x2 x3 x4 x5 x6 x7 x8 x9 x10 x11 x12 x13 x14 x15 : UInt32) (k : Nat) (hk : k = 16 ∨ k = 12 ∨ k = 8 ∨ k = 7) :
 CtM Try.prog 64 [.w (.one (.pl (.i 10))), .w (.one (.pl (.i 15))), .w (.one (.pl (.i 5))), .w (.one (.pl (.i (k : Int)))), .w (.one (.p 500001 []))] [(500001, ⟨false, [.p 500000 []]⟩), (500000, ⟨false, [.pl (.u32 x0), .pl (.u32 x1), .pl (.u32 x2), .pl (.u32 x3), .pl (.u32 x4), .pl (.u32 x5), .pl (.u32 x6), .pl (.u32 x7), .pl (.u32 x8), .pl (.u32 x9), .pl (.u32 x10), .pl (.u32 x11), .pl (.u32 x12), .pl (.u32 x13), .pl (.u32 x14), .pl (.u32 x15)]⟩)] (fun v m => v = .tup [] ∧ m = [(500001, ⟨false, [.p 500000 []]⟩), (500000, ⟨false, [.pl (.u32 x0), .pl (.u32 x1), .pl (.u32 x2), .pl (.u32 x3), .pl (.u32 x4), .pl (.u32 (rot32 (x5 ^^^ (x10 + x15)) k)), .pl (.u32 x6), .pl (.u32 x7), .pl (.u32 x8), .pl (.u32 x9), .pl (.u32 (x10 + x15)), .pl (.u32 x11), .pl (.u32 x12), .pl (.u32 x13), .pl (.u32 x14), .pl (.u32 x15)]⟩)]) := by
 refine CtM.k Try.func64 rfl Try.ntmps64 (congrArg Array.toList Try.results64) (by simp) fun w0 ro may fx => ?_
 refine top_k fun zZ zhZ => ?_
 refine sd_k (id := 0) [9, 10, 11, 12, 13, 14, 15, 16, 17, 18, 19, 20, 21] [0, 0, 1, 7, 15, 0, 0, 32, 224, 480, 1023, 1, 4095, 8191] [] mixed (by kernel_rfl) (by simp only [go_sem]) fun zK zhK => ?_
 simp only [go_sem, Int.toNat_one]
 repeat' (first | apply And.intro | intro _)
 refine zhK _ _ trivial ?_
 refine draw_k (id := 1) [22, 23, 24, 25, 26, 27, 28, 29, 30, 31, 32, 33, 34, 35, 36, 37, 38] [0, 0, 0, 0, 4, 28, 60, 0, 0, 128, 896, 1920, 4092, 0, 16380, 1, 65535, 131071] [] mixed (by kernel_rfl) (by simp only [go_sem]) fun zK zhK => ?_
 simp only [go_sem, Int.toNat_one]
 repeat' (first | apply And.intro | intro _)
 all_goals refine call_draw (fun k => k) _ [] (fun _ _ => rfl) (by first | rfl | (simp only [go_sem, Int.toNat_one] <;> rfl)) ((rotl _ k hk).plain fun _ _ h => h) ?_ ?_
 all_goals try (refine And.intro ?_ (And.intro ?_ (And.intro ?_ ?_)) <;> first | rfl | simp only [go_sem])
 all_goals simp only [go_sem, Int.toNat_one]
 all_goals repeat' (first | apply And.intro | intro _)
 refine zhK _ _ trivial ?_
 refine zhZ _ _ ?_
 simp only [go_sem, Int.toNat_one]
 all_goals (first | exact ⟨rfl, rfl⟩ | (refine ⟨rfl, ?_⟩; simp))
set_option maxHeartbeats 800000 in
theorem turn_1_6_12 (x0 x1 x2 x3 x4 x5 x6 x7 x8 x9 x10 x11 x12 x13 x14 x15 : UInt32) (k : Nat) (hk : k = 16 ∨ k = 12 ∨ k = 8 ∨ k = 7) :
 CtM Try.prog 64 [.w (.one (.pl (.i 1))), .w (.one (.pl (.i 6))), .w (.one (.pl (.i 12))), .w (.one (.pl (.i (k : Int)))), .w (.one (.p 500001 []))] [(500001, ⟨false, [.p 500000 []]⟩), (500000, ⟨false, [.pl (.u32 x0), .pl (.u32 x1), .pl (.u32 x2), .pl (.u32 x3), .pl (.u32 x4), .pl (.u32 x5), .pl (.u32 x6), .pl (.u32 x7), .pl (.u32 x8), .pl (.u32 x9), .pl (.u32 x10), .pl (.u32 x11), .pl (.u32 x12), .pl (.u32 x13), .pl (.u32 x14), .pl (.u32 x15)]⟩)] (fun v m => v = .tup [] ∧ m = [(500001, ⟨false, [.p 500000 []]⟩), (500000, ⟨false, [.pl (.u32 x0), .pl (.u32 (x1 + x6)), .pl (.u32 x2), .pl (.u32 x3), .pl (.u32 x4), .pl (.u32 x5), .pl (.u32 x6), .pl (.u32 x7), .pl (.u32 x8), .pl (.u32 x9), .pl (.u32 x10), .pl (.u32 x11), .pl (.u32 (rot32 (x12 ^^^ (x1 + x6)) k)), .pl (.u32 x13), .pl (.u32 x14), .pl (.u32 x15)]⟩)]) := by
 refine CtM.k Try.func64 rfl Try.ntmps64 (congrArg Array.toList Try.results64) (by simp) fun w0 ro may fx => ?_
 refine top_k fun zZ zhZ => ?_
 refine sd_k (id := 0) [9, 10, 11, 12, 13, 14, 15, 16, 17, 18, 19, 20, 21] [0, 0, 1, 7, 15, 0, 0, 32, 224, 480, 1023, 1, 4095, 8191] [] mixed (by kernel_rfl) (by simp only [go_sem]) fun zK zhK => ?_
 simp only [go_sem, Int.toNat_one]
 repeat' (first | apply And.intro | intro _)
 refine zhK _ _ trivial ?_
 refine draw_k (id := 1) [22, 23, 24, 25, 26, 27, 28, 29, 30, 31, 32, 33, 34, 35, 36, 37, 38] [0, 0, 0, 0, 4, 28, 60, 0, 0, 128, 896, 1920, 4092, 0, 16380, 1, 65535, 131071] [] mixed (by kernel_rfl) (by simp only [go_sem]) fun zK zhK => ?_
 simp only [go_sem, Int.toNat_one]
 repeat' (first | apply And.intro | intro _)
 all_goals refine call_draw (fun k => k) _ [] (fun _ _ => rfl) (by first | rfl | (simp only [go_sem, Int.toNat_one] <;> rfl)) ((rotl _ k hk).plain fun _ _ h => h) ?_ ?_
 all_goals try (refine And.intro ?_ (And.intro ?_ (And.intro ?_ ?_)) <;> first | rfl | simp only [go_sem])
 all_goals simp only [go_sem, Int.toNat_one]
 all_goals repeat' (first | apply And.intro | intro _)
 refine zhK _ _ trivial ?_
 refine zhZ _ _ ?_
 simp only [go_sem, Int.toNat_one]
 all_goals (first | exact ⟨rfl, rfl⟩ | (refine ⟨rfl, ?_⟩; simp))
set_option maxHeartbeats 800000 in
theorem turn_11_12_6 (x0 x1 x2 x3 x4 x5 x6 x7 x8 x9 x10 x11 x12 x13 x14 x15 : UInt32) (k : Nat) (hk : k = 16 ∨ k = 12 ∨ k = 8 ∨ k = 7) :
 CtM Try.prog 64 [.w (.one (.pl (.i 11))), .w (.one (.pl (.i 12))), .w (.one (.pl (.i 6))), .w (.one (.pl (.i (k : Int)))), .w (.one (.p 500001 []))] [(500001, ⟨false, [.p 500000 []]⟩), (500000, ⟨false, [.pl (.u32 x0), .pl (.u32 x1), .pl (.u32 x2), .pl (.u32 x3), .pl (.u32 x4), .pl (.u32 x5), .pl (.u32 x6), .pl (.u32 x7), .pl (.u32 x8), .pl (.u32 x9), .pl (.u32 x10), .pl (.u32 x11), .pl (.u32 x12), .pl (.u32 x13), .pl (.u32 x14), .pl (.u32 x15)]⟩)] (fun v m => v = .tup [] ∧ m = [(500001, ⟨false, [.p 500000 []]⟩), (500000, ⟨false, [.pl (.u32 x0), .pl (.u32 x1), .pl (.u32 x2), .pl (.u32 x3), .pl (.u32 x4), .pl (.u32 x5), .pl (.u32 (rot32 (x6 ^^^ (x11 + x12)) k)), .pl (.u32 x7), .pl (.u32 x8), .pl (.u32 x9), .pl (.u32 x10), .pl (.u32 (x11 + x12)), .pl (.u32 x12), .pl (.u32 x13), .pl (.u32 x14), .pl (.u32 x15)]⟩)]) := by
 refine CtM.k Try.func64 rfl Try.ntmps64 (congrArg Array.toList Try.results64) (by simp) fun w0 ro may fx => ?_
 refine top_k fun zZ zhZ => ?_
 refine sd_k (id := 0) [9, 10, 11, 12, 13, 14, 15, 16, 17, 18, 19, 20, 21] [0, 0, 1, 7, 15, 0, 0, 32, 224, 480, 1023, 1, 4095, 8191] [] mixed (by kernel_rfl) (by simp only [go_sem]) fun zK zhK => ?_
 simp only [go_sem, Int.toNat_one]
 repeat' (first | apply And.intro | intro _)
 refine zhK _ _ trivial ?_
 refine draw_k (id := 1) [22, 23, 24, 25, 26, 27, 28, 29, 30, 31, 32, 33, 34, 35, 36, 37, 38] [0, 0, 0, 0, 4, 28, 60, 0, 0, 128, 896, 1920, 4092, 0, 16380, 1, 65535, 131071] [] mixed (by kernel_rfl) (by simp only [go_sem]) fun zK zhK => ?_
 simp only [go_sem, Int.toNat_one]
 repeat' (first | apply And.intro | intro _)
 all_goals refine call_draw (fun k => k) _ [] (fun _ _ => rfl) (by first | rfl | (simp only [go_sem, Int.toNat_one] <;> rfl)) ((rotl _ k hk).plain fun _ _ h => h) ?_ ?_
 all_goals try (refine And.intro ?_ (And.intro ?_ (And.intro ?_ ?_)) <;> first | rfl | simp only [go_sem])
 all_goals simp only [go_sem, Int.toNat_one]
 all_goals repeat' (first | apply And.intro | intro _)
 refine zhK _ _ trivial ?_
 refine zhZ _ _ ?_
 simp only [go_sem, Int.toNat_one]
 all_goals (first | exact ⟨rfl, rfl⟩ | (refine ⟨rfl, ?_⟩; simp))
set_option maxHeartbeats 800000 in
theorem turn_2_7_13 (x0 x1 x2 x3 x4 x5 x6 x7 x8 x9 x10 x11 x12 x13 x14 x15 : UInt32) (k : Nat) (hk : k = 16 ∨ k = 12 ∨ k = 8 ∨ k = 7) :
 CtM Try.prog 64 [.w (.one (.pl (.i 2))), .w (.one (.pl (.i 7))), .w (.one (.pl (.i 13))), .w (.one (.pl (.i (k : Int)))), .w (.one (.p 500001 []))] [(500001, ⟨false, [.p 500000 []]⟩), (500000, ⟨false, [.pl (.u32 x0), .pl (.u32 x1), .pl (.u32 x2), .pl (.u32 x3), .pl (.u32 x4), .pl (.u32 x5), .pl (.u32 x6), .pl (.u32 x7), .pl (.u32 x8), .pl (.u32 x9), .pl (.u32 x10), .pl (.u32 x11), .pl (.u32 x12), .pl (.u32 x13), .pl (.u32 x14), .pl (.u32 x15)]⟩)] (fun v m => v = .tup [] ∧ m = [(500001, ⟨false, [.p 500000 []]⟩), (500000, ⟨false, [.pl (.u32 x0), .pl (.u32 x1), .pl (.u32 (x2 + x7)), .pl (.u32 x3), .pl (.u32 x4), .pl (.u32 x5), .pl (.u32 x6), .pl (.u32 x7), .pl (.u32 x8), .pl (.u32 x9), .pl (.u32 x10), .pl (.u32 x11), .pl (.u32 x12), .pl (.u32 (rot32 (x13 ^^^ (x2 + x7)) k)), .pl (.u32 x14), .pl (.u32 x15)]⟩)]) := by
 refine CtM.k Try.func64 rfl Try.ntmps64 (congrArg Array.toList Try.results64) (by simp) fun w0 ro may fx => ?_
 refine top_k fun zZ zhZ => ?_
 refine sd_k (id := 0) [9, 10, 11, 12, 13, 14, 15, 16, 17, 18, 19, 20, 21] [0, 0, 1, 7, 15, 0, 0, 32, 224, 480, 1023, 1, 4095, 8191] [] mixed (by kernel_rfl) (by simp only [go_sem]) fun zK zhK => ?_
 simp only [go_sem, Int.toNat_one]
 repeat' (first | apply And.intro | intro _)
 refine zhK _ _ trivial ?_
 refine draw_k (id := 1) [22, 23, 24, 25, 26, 27, 28, 29, 30, 31, 32, 33, 34, 35, 36, 37, 38] [0, 0, 0, 0, 4, 28, 60, 0, 0, 128, 896, 1920, 4092, 0, 16380, 1, 65535, 131071] [] mixed (by kernel_rfl) (by simp only [go_sem]) fun zK zhK => ?_
 simp only [go_sem, Int.toNat_one]
 repeat' (first | apply And.intro | intro _)
 all_goals refine call_draw (fun k => k) _ [] (fun _ _ => rfl) (by first | rfl | (simp only [go_sem, Int.toNat_one] <;> rfl)) ((rotl _ k hk).plain fun _ _ h => h) ?_ ?_
 all_goals try (refine And.intro ?_ (And.intro ?_ (And.intro ?_ ?_)) <;> first | rfl | simp only [go_sem])
 all_goals simp only [go_sem, Int.toNat_one]
 all_goals repeat' (first | apply And.intro | intro _)
 refine zhK _ _ trivial ?_
 refine zhZ _ _ ?_
 simp only [go_sem, Int.toNat_one]
 all_goals (first | exact ⟨rfl, rfl⟩ | (refine ⟨rfl, ?_⟩; simp))
set_option maxHeartbeats 800000 in
theorem turn_8_13_7 (x0 x1 x2 x3 x4 x5 x6 x7 x8 x9 x10 x11 x12 x13 x14 x15 : UInt32) (k : Nat) (hk : k = 16 ∨ k = 12 ∨ k = 8 ∨ k = 7) :
 CtM Try.prog 64 [.w (.one (.pl (.i 8))), .w (.one (.pl (.i 13))), .w (.one (.pl (.i 7))), .w (.one (.pl (.i (k : Int)))), .w (.one (.p 500001 []))] [(500001, ⟨false, [.p 500000 []]⟩), (500000, ⟨false, [.pl (.u32 x0), .pl (.u32 x1), .pl (.u32 x2), .pl (.u32 x3), .pl (.u32 x4), .pl (.u32 x5), .pl (.u32 x6), .pl (.u32 x7), .pl (.u32 x8), .pl (.u32 x9), .pl (.u32 x10), .pl (.u32 x11), .pl (.u32 x12), .pl (.u32 x13), .pl (.u32 x14), .pl (.u32 x15)]⟩)] (fun v m => v = .tup [] ∧ m = [(500001, ⟨false, [.p 500000 []]⟩), (500000, ⟨false, [.pl (.u32 x0), .pl (.u32 x1), .pl (.u32 x2), .pl (.u32 x3), .pl (.u32 x4), .pl (.u32 x5), .pl (.u32 x6), .pl (.u32 (rot32 (x7 ^^^ (x8 + x13)) k)), .pl (.u32 (x8 + x13)), .pl (.u32 x9), .pl (.u32 x10), .pl (.u32 x11), .pl (.u32 x12), .pl (.u32 x13), .pl (.u32 x14), .pl (.u32 x15)]⟩)]) := by
 refine CtM.k Try.func64 rfl Try.ntmps64 (congrArg Array.toList Try.results64) (by simp) fun w0 ro may fx => ?_
 refine top_k fun zZ zhZ => ?_
 refine sd_k (id := 0) [9, 10, 11, 12, 13, 14, 15, 16, 17, 18, 19, 20, 21] [0, 0, 1, 7, 15, 0, 0, 32, 224, 480, 1023, 1, 4095, 8191] [] mixed (by kernel_rfl) (by simp only [go_sem]) fun zK zhK => ?_
 simp only [go_sem, Int.toNat_one]
 repeat' (first | apply And.intro | intro _)
 refine zhK _ _ trivial ?_
 refine draw_k (id := 1) [22, 23, 24, 25, 26, 27, 28, 29, 30, 31, 32, 33, 34, 35, 36, 37, 38] [0, 0, 0, 0, 4, 28, 60, 0, 0, 128, 896, 1920, 4092, 0, 16380, 1, 65535, 131071] [] mixed (by kernel_rfl) (by simp only [go_sem]) fun zK zhK => ?_
 simp only [go_sem, Int.toNat_one]
 repeat' (first | apply And.intro | intro _)
 all_goals refine call_draw (fun k => k) _ [] (fun _ _ => rfl) (by first | rfl | (simp only [go_sem, Int.toNat_one] <;> rfl)) ((rotl _ k hk).plain fun _ _ h => h) ?_ ?_
 all_goals try (refine And.intro ?_ (And.intro ?_ (And.intro ?_ ?_)) <;> first | rfl | simp only [go_sem])
 all_goals simp only [go_sem, Int.toNat_one]
 all_goals repeat' (first | apply And.intro | intro _)
 refine zhK _ _ trivial ?_
 refine zhZ _ _ ?_
 simp only [go_sem, Int.toNat_one]
 all_goals (first | exact ⟨rfl, rfl⟩ | (refine ⟨rfl, ?_⟩; simp))
set_option maxHeartbeats 800000 in
theorem turn_3_4_14 (x0 x1 x2 x3 x4 x5 x6 x7 x8 x9 x10 x11 x12 x13 x14 x15 : UInt32) (k : Nat) (hk : k = 16 ∨ k = 12 ∨ k = 8 ∨ k = 7) :
 CtM Try.prog 64 [.w (.one (.pl (.i 3))), .w (.one (.pl (.i 4))), .w (.one (.pl (.i 14))), .w (.one (.pl (.i (k : Int)))), .w (.one (.p 500001 []))] [(500001, ⟨false, [.p 500000 []]⟩), (500000, ⟨false, [.pl (.u32 x0), .pl (.u32 x1), .pl (.u32 x2), .pl (.u32 x3), .pl (.u32 x4), .pl (.u32 x5), .pl (.u32 x6), .pl (.u32 x7), .pl (.u32 x8), .pl (.u32 x9), .pl (.u32 x10), .pl (.u32 x11), .pl (.u32 x12), .pl (.u32 x13), .pl (.u32 x14), .pl (.u32 x15)]⟩)] (fun v m => v = .tup [] ∧ m = [(500001, ⟨false, [.p 500000 []]⟩), (500000, ⟨false, [.pl (.u32 x0), .pl (.u32 x1), .pl (.u32 x2), .pl (.u32 (x3 + x4)), .pl (.u32 x4), .pl (.u32 x5), .pl (.u32 x6), .pl (.u32 x7), .pl (.u32 x8), .pl (.u32 x9), .pl (.u32 x10), .pl (.u32 x11), .pl (.u32 x12), .pl (.u32 x13), .pl (.u32 (rot32 (x14 ^^^ (x3 + x4)) k)), .pl (.u32 x15)]⟩)]) := by
 refine CtM.k Try.func64 rfl Try.ntmps64 (congrArg Array.toList Try.results64) (by simp) fun w0 ro may fx => ?_
 refine top_k fun zZ zhZ => ?_
 refine sd_k (id := 0) [9, 10, 11, 12, 13, 14, 15, 16, 17, 18, 19, 20, 21] [0, 0, 1, 7, 15, 0, 0, 32, 224, 480, 1023, 1, 4095, 8191] [] mixed (by kernel_rfl) (by simp only [go_sem]) fun zK zhK => ?_
 simp only [go_sem, Int.toNat_one]
 repeat' (first | apply And.intro | intro _)
 refine zhK _ _ trivial ?_
 refine draw_k (id := 1) [22, 23, 24, 25, 26, 27, 28, 29, 30, 31, 32, 33, 34, 35, 36, 37, 38] [0, 0, 0, 0, 4, 28, 60, 0, 0, 128, 896, 1920, 4092, 0, 16380, 1, 65535, 131071] [] mixed (by kernel_rfl) (by simp only [go_sem]) fun zK zhK => ?_
 simp only [go_sem, Int.toNat_one]
 repeat' (first | apply And.intro | intro _)
 all_goals refine call_draw (fun k => k) _ [] (fun _ _ => rfl) (by first | rfl | (simp only [go_sem, Int.toNat_one] <;> rfl)) ((rotl _ k hk).plain fun _ _ h => h) ?_ ?_
 all_goals try (refine And.intro ?_ (And.intro ?_ (And.intro ?_ ?_)) <;> first | rfl | simp only [go_sem])
 all_goals simp only [go_sem, Int.toNat_one]
 all_goals repeat' (first | apply And.intro | intro _)
 refine zhK _ _ trivial ?_
 refine zhZ _ _ ?_
 simp only [go_sem, Int.toNat_one]
 all_goals (first | exact ⟨rfl, rfl⟩ | (refine ⟨rfl, ?_⟩; simp))
set_option maxHeartbeats 800000 in
theorem turn_9_14_4 (x0 x1 x2 x3 x4 x5 x6 x7 x8 x9 x10 x11 x12 x13 x14 x15 : UInt32) (k : Nat) (hk : k = 16 ∨ k = 12 ∨ k = 8 ∨ k = 7) :
 CtM Try.prog 64 [.w (.one (.pl (.i 9))), .w (.one (.pl (.i 14))), .w (.one (.pl (.i 4))), .w (.one (.pl (.i (k : Int)))), .w (.one (.p 500001 []))] [(500001, ⟨false, [.p 500000 []]⟩), (500000, ⟨false, [.pl (.u32 x0), .pl (.u32 x1), .pl (.u32 x2), .pl (.u32 x3), .pl (.u32 x4), .pl (.u32 x5), .pl (.u32 x6), .pl (.u32 x7), .pl (.u32 x8), .pl (.u32 x9), .pl (.u32 x10), .pl (.u32 x11), .pl (.u32 x12), .pl (.u32 x13), .pl (.u32 x14), .pl (.u32 x15)]⟩)] (fun v m => v = .tup [] ∧ m = [(500001, ⟨false, [.p 500000 []]⟩), (500000, ⟨false, [.pl (.u32 x0), .pl (.u32 x1), .pl (.u32 x2), .pl (.u32 x3), .pl (.u32 (rot32 (x4 ^^^ (x9 + x14)) k)), .pl (.u32 x5), .pl (.u32 x6), .pl (.u32 x7), .pl (.u32 x8), .pl (.u32 (x9 + x14)), .pl (.u32 x10), .pl (.u32 x11), .pl (.u32 x12), .pl (.u32 x13), .pl (.u32 x14), .pl (.u32 x15)]⟩)]) := by
 refine CtM.k Try.func64 rfl Try.ntmps64 (congrArg Array.toList Try.results64) (by simp) fun w0 ro may fx => ?_
 refine top_k fun zZ zhZ => ?_
 refine sd_k (id := 0) [9, 10, 11, 12, 13, 14, 15, 16, 17, 18, 19, 20, 21] [0, 0, 1, 7, 15, 0, 0, 32, 224, 480, 1023, 1, 4095, 8191] [] mixed (by kernel_rfl) (by simp only [go_sem]) fun zK zhK => ?_
 simp only [go_sem, Int.toNat_one]
 repeat' (first | apply And.intro | intro _)
 refine zhK _ _ trivial ?_
 refine draw_k (id := 1) [22, 23, 24, 25, 26, 27, 28, 29, 30, 31, 32, 33, 34, 35, 36, 37, 38] [0, 0, 0, 0, 4, 28, 60, 0, 0, 128, 896, 1920, 4092, 0, 16380, 1, 65535, 131071] [] mixed (by kernel_rfl) (by simp only [go_sem]) fun zK zhK => ?_
 simp only [go_sem, Int.toNat_one]
 repeat' (first | apply And.intro | intro _)
 all_goals refine call_draw (fun k => k) _ [] (fun _ _ => rfl) (by first | rfl | (simp only [go_sem, Int.toNat_one] <;> rfl)) ((rotl _ k hk).plain fun _ _ h => h) ?_ ?_
 all_goals try (refine And.intro ?_ (And.intro ?_ (And.intro ?_ ?_)) <;> first | rfl | simp only [go_sem])
 all_goals simp only [go_sem, Int.toNat_one]
 all_goals repeat' (first | apply And.intro | intro _)
 refine zhK _ _ trivial ?_
 refine zhZ _ _ ?_
 simp only [go_sem, Int.toNat_one]
 all_goals (first | exact ⟨rfl, rfl⟩ | (refine ⟨rfl, ?_⟩; simp))
end Go.Sy

