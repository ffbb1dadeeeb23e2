/- Walks: four words mixed. -/
import Derived.Test.YthcpkdhojokhdaaveC2
set_option linter.unusedVariables false
set_option linter.unusedSimpArgs false
namespace Go.Sy
open Go.Proofs
attribute [local irreducible] atCall HT runOps runD onC onE onO onG goV goA goS onSt onGuard
def qd1 (a b d : UInt32) : UInt32 := rot32 (d ^^^ (a + b)) 16
def qc1 (a b c d : UInt32) : UInt32 := c + qd1 a b d
def qb1 (a b c d : UInt32) : UInt32 := rot32 (b ^^^ qc1 a b c d) 12
def qA (a b c d : UInt32) : UInt32 := (a + b) + qb1 a b c d
def qD (a b c d : UInt32) : UInt32 := rot32 (qd1 a b d ^^^ qA a b c d) 8
def qC (a b c d : UInt32) : UInt32 := qc1 a b c d + qD a b c d
def qB (a b c d : UInt32) : UInt32 := rot32 (qb1 a b c d ^^^ qC a b c d) 7
theorem turnc_0_4_12 (x0 x1 x2 x3 x4 x5 x6 x7 x8 x9 x10 x11 x12 x13 x14 x15 : UInt32) (k : Nat) (hk : k = 16 ∨ k = 12 ∨ k = 8 ∨ k = 7) : CtM Try.prog 64 ([.w (.one (.pl (.i 0))), .w (.one (.pl (.i 4))), .w (.one (.pl (.i 12))), .w (.one (.pl (.i (k : Int))))] ++ [500001].map fun k => .w (.one (.p k []))) [(500001, ⟨false, [.p 500000 []]⟩), (500000, ⟨false, [.pl (.u32 x0), .pl (.u32 x1), .pl (.u32 x2), .pl (.u32 x3), .pl (.u32 x4), .pl (.u32 x5), .pl (.u32 x6), .pl (.u32 x7), .pl (.u32 x8), .pl (.u32 x9), .pl (.u32 x10), .pl (.u32 x11), .pl (.u32 x12), .pl (.u32 x13), .pl (.u32 x14), .pl (.u32 x15)]⟩)] (fun v m => v = .tup [] ∧ m = [(500001, ⟨false, [.p 500000 []]⟩), (500000, ⟨false, [.pl (.u32 (x0 + x4)), .pl (.u32 x1), .pl (.u32 x2), .pl (.u32 x3), .pl (.u32 x4), .pl (.u32 x5), .pl (.u32 x6), .pl (.u32 x7), .pl (.u32 x8), .pl (.u32 x9), .pl (.u32 x10), .pl (.u32 x11), .pl (.u32 (rot32 (x12 ^^^ (x0 + x4)) k)), .pl (.u32 x13), .pl (.u32 x14), .pl (.u32 x15)]⟩)]) := turn_0_4_12 x0 x1 x2 x3 x4 x5 x6 x7 x8 x9 x10 x11 x12 x13 x14 x15 k hk
theorem turnc_8_12_4 (x0 x1 x2 x3 x4 x5 x6 x7 x8 x9 x10 x11 x12 x13 x14 x15 : UInt32) (k : Nat) (hk : k = 16 ∨ k = 12 ∨ k = 8 ∨ k = 7) : CtM Try.prog 64 ([.w (.one (.pl (.i 8))), .w (.one (.pl (.i 12))), .w (.one (.pl (.i 4))), .w (.one (.pl (.i (k : Int))))] ++ [500001].map fun k => .w (.one (.p k []))) [(500001, ⟨false, [.p 500000 []]⟩), (500000, ⟨false, [.pl (.u32 x0), .pl (.u32 x1), .pl (.u32 x2), .pl (.u32 x3), .pl (.u32 x4), .pl (.u32 x5), .pl (.u32 x6), .pl (.u32 x7), .pl (.u32 x8), .pl (.u32 x9), .pl (.u32 x10), .pl (.u32 x11), .pl (.u32 x12), .pl (.u32 x13), .pl (.u32 x14), .pl (.u32 x15)]⟩)] (fun v m => v = .tup [] ∧ m = [(500001, ⟨false, [.p 500000 []]⟩), (500000, ⟨false, [.pl (.u32 x0), .pl (.u32 x1), .pl (.u32 x2), .pl (.u32 x3), .pl (.u32 (rot32 (x4 ^^^ (x8 + x12)) k)), .pl (.u32 x5), .pl (.u32 x6), .pl (.u32 x7), .pl (.u32 (x8 + x12)), .pl (.u32 x9), .pl (.u32 x10), .pl (.u32 x11), .pl (.u32 x12), .pl (.u32 x13), .pl (.u32 x14), .pl (.u32 x15)]⟩)]) := turn_8_12_4 x0 x1 x2 x3 x4 x5 x6 x7 x8 x9 x10 x11 x12 x13 x14 x15 k hk
theorem turnc_1_5_13 (x0 x1 x2 x3 x4 x5 x6 x7 x8 x9 x10 x11 x12 x13 x14 x15 : UInt32) (k : Nat) (hk : k = 16 ∨ k = 12 ∨ k = 8 ∨ k = 7) : CtM Try.prog 64 ([.w (.one (.pl (.i 1))), .w (.one (.pl (.i 5))), .w (.one (.pl (.i 13))), .w (.one (.pl (.i (k : Int))))] ++ [500001].map fun k => .w (.one (.p k []))) [(500001, ⟨false, [.p 500000 []]⟩), (500000, ⟨false, [.pl (.u32 x0), .pl (.u32 x1), .pl (.u32 x2), .pl (.u32 x3), .pl (.u32 x4), .pl (.u32 x5), .pl (.u32 x6), .pl (.u32 x7), .pl (.u32 x8), .pl (.u32 x9), .pl (.u32 x10), .pl (.u32 x11), .pl (.u32 x12), .pl (.u32 x13), .pl (.u32 x14), .pl (.u32 x15)]⟩)] (fun v m => v = .tup [] ∧ m = [(500001, ⟨false, [.p 500000 []]⟩), (500000, ⟨false, [.pl (.u32 x0), .pl (.u32 (x1 + x5)), .pl (.u32 x2), .pl (.u32 x3), .pl (.u32 x4), .pl (.u32 x5), .pl (.u32 x6), .pl (.u32 x7), .pl (.u32 x8), .pl (.u32 x9), .pl (.u32 x10), .pl (.u32 x11), .pl (.u32 x12), .pl (.u32 (rot32 (x13 ^^^ (x1 + x5)) k)), .pl (.u32 x14), .pl (.u32 x15)]⟩)]) := turn_1_5_13 x0 x1 x2 x3 x4 x5 x6 x7 x8 x9 x10 x11 x12 x13 x14 x15 k hk
theorem turnc_9_13_5 (x0 x1 x2 x3 x4 x5 x6 x7 x8 x9 x10 x11 x12 x13 x14 x15 : UInt32) (k : Nat) (hk : k = 16 ∨ k = 12 ∨ k = 8 ∨ k = 7) : CtM Try.prog 64 ([.w (.one (.pl (.i 9))), .w (.one (.pl (.i 13))), .w (.one (.pl (.i 5))), .w (.one (.pl (.i (k : Int))))] ++ [500001].map fun k => .w (.one (.p k []))) [(500001, ⟨false, [.p 500000 []]⟩), (500000, ⟨false, [.pl (.u32 x0), .pl (.u32 x1), .pl (.u32 x2), .pl (.u32 x3), .pl (.u32 x4), .pl (.u32 x5), .pl (.u32 x6), .pl (.u32 x7), .pl (.u32 x8), .pl (.u32 x9), .pl (.u32 x10), .pl (.u32 x11), .pl (.u32 x12), .pl (.u32 x13), .pl (.u32 x14), .pl (.u32 x15)]⟩)] (fun v m => v = .tup [] ∧ m = [(500001, ⟨false, [.p 500000 []]⟩), (500000, ⟨false, [.pl (.u32 x0), .pl (.u32 x1), .pl (.u32 x2), .pl (.u32 x3), .pl (.u32 x4), .pl (.u32 (rot32 (x5 ^^^ (x9 + x13)) k)), .pl (.u32 x6), .pl (.u32 x7), .pl (.u32 x8), .pl (.u32 (x9 + x13)), .pl (.u32 x10), .pl (.u32 x11), .pl (.u32 x12), .pl (.u32 x13), .pl (.u32 x14), .pl (.u32 x15)]⟩)]) := turn_9_13_5 x0 x1 x2 x3 x4 x5 x6 x7 x8 x9 x10 x11 x12 x13 x14 x15 k hk
theorem turnc_2_6_14 (x0 x1 x2 x3 x4 x5 x6 x7 x8 x9 x10 x11 x12 x13 x14 x15 : UInt32) (k : Nat) (hk : k = 16 ∨ k = 12 ∨ k = 8 ∨ k = 7) : CtM Try.prog 64 ([.w (.one (.pl (.i 2))), .w (.one (.pl (.i 6))), .w (.one (.pl (.i 14))), .w (.one (.pl (.i (k : Int))))] ++ [500001].map fun k => .w (.one (.p k []))) [(500001, ⟨false, [.p 500000 []]⟩), (500000, ⟨false, [.pl (.u32 x0), .pl (.u32 x1), .pl (.u32 x2), .pl (.u32 x3), .pl (.u32 x4), .pl (.u32 x5), .pl (.u32 x6), .pl (.u32 x7), .pl (.u32 x8), .pl (.u32 x9), .pl (.u32 x10), .pl (.u32 x11), .pl (.u32 x12), .pl (.u32 x13), .pl (.u32 x14), .pl (.u32 x15)]⟩)] (fun v m => v = .tup [] ∧ m = [(500001, ⟨false, [.p 500000 []]⟩), (500000, ⟨false, [.pl (.u32 x0), .pl (.u32 x1), .pl (.u32 (x2 + x6)), .pl (.u32 x3), .pl (.u32 x4), .pl (.u32 x5), .pl (.u32 x6), .pl (.u32 x7), .pl (.u32 x8), .pl (.u32 x9), .pl (.u32 x10), .pl (.u32 x11), .pl (.u32 x12), .pl (.u32 x13), .pl (.u32 (rot32 (x14 ^^^ (x2 + x6)) k)), .pl (.u32 x15)]⟩)]) := turn_2_6_14 x0 x1 x2 x3 x4 x5 x6 x7 x8 x9 x10 x11 x12 x13 x14 x15 k hk
theorem turnc_10_14_6 (x0 x1 x2 x3 x4 x5 x6 x7 x8 x9 x10 x11 x12 x13 x14 x15 : UInt32) (k : Nat) (hk : k = 16 ∨ k = 12 ∨ k = 8 ∨ k = 7) : CtM Try.prog 64 ([.w (.one (.pl (.i 10))), .w (.one (.pl (.i 14))), .w (.one (.pl (.i 6))), .w (.one (.pl (.i (k : Int))))] ++ [500001].map fun k => .w (.one (.p k []))) [(500001, ⟨false, [.p 500000 []]⟩), (500000, ⟨false, [.pl (.u32 x0), .pl (.u32 x1), .pl (.u32 x2), .pl (.u32 x3), .pl (.u32 x4), .pl (.u32 x5), .pl (.u32 x6), .pl (.u32 x7), .pl (.u32 x8), .pl (.u32 x9), .pl (.u32 x10), .pl (.u32 x11), .pl (.u32 x12), .pl (.u32 x13), .pl (.u32 x14), .pl (.u32 x15)]⟩)] (fun v m => v = .tup [] ∧ m = [(500001, ⟨false, [.p 500000 []]⟩), (500000, ⟨false, [.pl (.u32 x0), .pl (.u32 x1), .pl (.u32 x2), .pl (.u32 x3), .pl (.u32 x4), .pl (.u32 x5), .pl (.u32 (rot32 (x6 ^^^ (x10 + x14)) k)), .pl (.u32 x7), .pl (.u32 x8), .pl (.u32 x9), .pl (.u32 (x10 + x14)), .pl (.u32 x11), .pl (.u32 x12), .pl (.u32 x13), .pl (.u32 x14), .pl (.u32 x15)]⟩)]) := turn_10_14_6 x0 x1 x2 x3 x4 x5 x6 x7 x8 x9 x10 x11 x12 x13 x14 x15 k hk
theorem turnc_3_7_15 (x0 x1 x2 x3 x4 x5 x6 x7 x8 x9 x10 x11 x12 x13 x14 x15 : UInt32) (k : Nat) (hk : k = 16 ∨ k = 12 ∨ k = 8 ∨ k = 7) : CtM Try.prog 64 ([.w (.one (.pl (.i 3))), .w (.one (.pl (.i 7))), .w (.one (.pl (.i 15))), .w (.one (.pl (.i (k : Int))))] ++ [500001].map fun k => .w (.one (.p k []))) [(500001, ⟨false, [.p 500000 []]⟩), (500000, ⟨false, [.pl (.u32 x0), .pl (.u32 x1), .pl (.u32 x2), .pl (.u32 x3), .pl (.u32 x4), .pl (.u32 x5), .pl (.u32 x6), .pl (.u32 x7), .pl (.u32 x8), .pl (.u32 x9), .pl (.u32 x10), .pl (.u32 x11), .pl (.u32 x12), .pl (.u32 x13), .pl (.u32 x14), .pl (.u32 x15)]⟩)] (fun v m => v = .tup [] ∧ m = [(500001, ⟨false, [.p 500000 []]⟩), (500000, ⟨false, [.pl (.u32 x0), .pl (.u32 x1), .pl (.u32 x2), .pl (.u32 (x3 + x7)), .pl (.u32 x4), .pl (.u32 x5), .pl (.u32 x6), .pl (.u32 x7), .pl (.u32 x8), .pl (.u32 x9), .pl (.u32 x10), .pl (.u32 x11), .pl (.u32 x12), .pl (.u32 x13), .pl (.u32 x14), .pl (.u32 (rot32 (x15 ^^^ (x3 + x7)) k))]⟩)]) := turn_3_7_15 x0 x1 x2 x3 x4 x5 x6 x7 x8 x9 x10 x11 x12 x13 x14 x15 k hk
theorem turnc_11_15_7 (x0 x1 x2 x3 x4 x5 x6 x7 x8 x9 x10 x11 x12 x13 x14 x15 : UInt32) (k : Nat) (hk : k = 16 ∨ k = 12 ∨ k = 8 ∨ k = 7) : CtM Try.prog 64 ([.w (.one (.pl (.i 11))), .w (.one (.pl (.i 15))), .w (.one (.pl (.i 7))), .w (.one (.pl (.i (k : Int))))] ++ [500001].map fun k => .w (.one (.p k []))) [(500001, ⟨false, [.p 500000 []]⟩), (500000, ⟨false, [.pl (.u32 x0), .pl (.u32 x1), .pl (.u32 x2), .pl (.u32 x3), .pl (.u32 x4), .pl (.u32 x5), .pl (.u32 x6), .pl (.u32 x7), .pl (.u32 x8), .pl (.u32 x9), .pl (.u32 x10), .pl (.u32 x11), .pl (.u32 x12), .pl (.u32 x13), .pl (.u32 x14), .pl (.u32 x15)]⟩)] (fun v m => v = .tup [] ∧ m = [(500001, ⟨false, [.p 500000 []]⟩), (500000, ⟨false, [.pl (.u32 x0), .pl (.u32 x1), .pl (.u32 x2), .pl (.u32 x3), .pl (.u32 x4), .pl (.u32 x5), .pl (.u32 x6), .pl (.u32 (rot32 (x7 ^^^ (x11 + x15)) k)), .pl (.u32 x8), .pl (.u32 x9), .pl (.u32 x10), .pl (.u32 (x11 + x15)), .pl (.u32 x12), .pl (.u32 x13), .pl (.u32 x14), .pl (.u32 x15)]⟩)]) := turn_11_15_7 x0 x1 x2 x3 x4 x5 x6 x7 x8 x9 x10 x11 x12 x13 x14 x15 k hk
theorem turnc_0_5_15 (x0 x1 x2 x3 x4 x5 x6 x7 x8 x9 x10 x11 x12 x13 x14 x15 : UInt32) (k : Nat) (hk : k = 16 ∨ k = 12 ∨ k = 8 ∨ k = 7) : CtM Try.prog 64 ([.w (.one (.pl (.i 0))), .w (.one (.pl (.i 5))), .w (.one (.pl (.i 15))), .w (.one (.pl (.i (k : Int))))] ++ [500001].map fun k => .w (.one (.p k []))) [(500001, ⟨false, [.p 500000 []]⟩), (500000, ⟨false, [.pl (.u32 x0), .pl (.u32 x1), .pl (.u32 x2), .pl (.u32 x3), .pl (.u32 x4), .pl (.u32 x5), .pl (.u32 x6), .pl (.u32 x7), .pl (.u32 x8), .pl (.u32 x9), .pl (.u32 x10), .pl (.u32 x11), .pl (.u32 x12), .pl (.u32 x13), .pl (.u32 x14), .pl (.u32 x15)]⟩)] (fun v m => v = .tup [] ∧ m = [(500001, ⟨false, [.p 500000 []]⟩), (500000, ⟨false, [.pl (.u32 (x0 + x5)), .pl (.u32 x1), .pl (.u32 x2), .pl (.u32 x3), .pl (.u32 x4), .pl (.u32 x5), .pl (.u32 x6), .pl (.u32 x7), .pl (.u32 x8), .pl (.u32 x9), .pl (.u32 x10), .pl (.u32 x11), .pl (.u32 x12), .pl (.u32 x13), .pl (.u32 x14), .pl (.u32 (rot32 (x15 ^^^ (x0 + x5)) k))]⟩)]) := turn_0_5_15 x0 x1 x2 x3 x4 x5 x6 x7 x8 x9 x10 x11 x12 x13 x14 x15 k hk
theorem turnc_10_15_5 (x0 x1 x2 x3 x4 x5 x6 x7 x8 x9 x10 x11 x12 x13 x14 x15 : UInt32) (k : Nat) (hk : k = 16 ∨ k = 12 ∨ k = 8 ∨ k = 7) : CtM Try.prog 64 ([.w (.one (.pl (.i 10))), .w (.one (.pl (.i 15))), .w (.one (.pl (.i 5))), .w (.one (.pl (.i (k : Int))))] ++ [500001].map fun k => .w (.one (.p k []))) [(500001, ⟨false, [.p 500000 []]⟩), (500000, ⟨false, [.pl (.u32 x0), .pl (.u32 x1), .pl (.u32 x2), .pl (.u32 x3), .pl (.u32 x4), .pl (.u32 x5), .pl (.u32 x6), .pl (.u32 x7), .pl (.u32 x8), .pl (.u32 x9), .pl (.u32 x10), .pl (.u32 x11), .pl (.u32 x12), .pl (.u32 x13), .pl (.u32 x14), .pl (.u32 x15)]⟩)] (fun v m => v = .tup [] ∧ m = [(500001, ⟨false, [.p 500000 []]⟩), (500000, ⟨false, [.pl (.u32 x0), .pl (.u32 x1), .pl (.u32 x2), .pl (.u32 x3), .pl (.u32 x4), .pl (.u32 (rot32 (x5 ^^^ (x10 + x15)) k)), .pl (.u32 x6), .pl (.u32 x7), .pl (.u32 x8), .pl (.u32 x9), .pl (.u32 (x10 + x15)), .pl (.u32 x11), .pl (.u32 x12), .pl (.u32 x13), .pl (.u32 x14), .pl (.u32 x15)]⟩)]) := turn_10_15_5 x0 x1 x2 x3 x4 x5 x6 x7 x8 x9 x10 x11 x12 x13 x14 x15 k hk
theorem turnc_1_6_12 (x0 x1 x2 x3 x4 x5 x6 x7 x8 x9 x10 x11 x12 x13 x14 x15 : UInt32) (k : Nat) (hk : k = 16 ∨ k = 12 ∨ k = 8 ∨ k = 7) : CtM Try.prog 64 ([.w (.one (.pl (.i 1))), .w (.one (.pl (.i 6))), .w (.one (.pl (.i 12))), .w (.one (.pl (.i (k : Int))))] ++ [500001].map fun k => .w (.one (.p k []))) [(500001, ⟨false, [.p 500000 []]⟩), (500000, ⟨false, [.pl (.u32 x0), .pl (.u32 x1), .pl (.u32 x2), .pl (.u32 x3), .pl (.u32 x4), .pl (.u32 x5), .pl (.u32 x6), .pl (.u32 x7), .pl (.u32 x8), .pl (.u32 x9), .pl (.u32 x10), .pl (.u32 x11), .pl (.u32 x12), .pl (.u32 x13), .pl (.u32 x14), .pl (.u32 x15)]⟩)] (fun v m => v = .tup [] ∧ m = [(500001, ⟨false, [.p 500000 []]⟩), (500000, ⟨false, [.pl (.u32 x0), .pl (.u32 (x1 + x6)), .pl (.u32 x2), .pl (.u32 x3), .pl (.u32 x4), .pl (.u32 x5), .pl (.u32 x6), .pl (.u32 x7), .pl (.u32 x8), .pl (.u32 x9), .pl (.u32 x10), .pl (.u32 x11), .pl (.u32 (rot32 (x12 ^^^ (x1 + x6)) k)), .pl (.u32 x13), .pl (.u32 x14), .pl (.u32 x15)]⟩)]) := turn_1_6_12 x0 x1 x2 x3 x4 x5 x6 x7 x8 x9 x10 x11 x12 x13 x14 x15 k hk
theorem turnc_11_12_6 (x0 x1 x2 x3 x4 x5 x6 x7 x8 x9 x10 x11 x12 x13 x14 x15 : UInt32) (k : Nat) (hk : k = 16 ∨ k = 12 ∨ k = 8 ∨ k = 7) : CtM Try.prog 64 ([.w (.one (.pl (.i 11))), .w (.one (.pl (.i 12))), .w (.one (.pl (.i 6))), .w (.one (.pl (.i (k : Int))))] ++ [500001].map fun k => .w (.one (.p k []))) [(500001, ⟨false, [.p 500000 []]⟩), (500000, ⟨false, [.pl (.u32 x0), .pl (.u32 x1), .pl (.u32 x2), .pl (.u32 x3), .pl (.u32 x4), .pl (.u32 x5), .pl (.u32 x6), .pl (.u32 x7), .pl (.u32 x8), .pl (.u32 x9), .pl (.u32 x10), .pl (.u32 x11), .pl (.u32 x12), .pl (.u32 x13), .pl (.u32 x14), .pl (.u32 x15)]⟩)] (fun v m => v = .tup [] ∧ m = [(500001, ⟨false, [.p 500000 []]⟩), (500000, ⟨false, [.pl (.u32 x0), .pl (.u32 x1), .pl (.u32 x2), .pl (.u32 x3), .pl (.u32 x4), .pl (.u32 x5), .pl (.u32 (rot32 (x6 ^^^ (x11 + x12)) k)), .pl (.u32 x7), .pl (.u32 x8), .pl (.u32 x9), .pl (.u32 x10), .pl (.u32 (x11 + x12)), .pl (.u32 x12), .pl (.u32 x13), .pl (.u32 x14), .pl (.u32 x15)]⟩)]) := turn_11_12_6 x0 x1 x2 x3 x4 x5 x6 x7 x8 x9 x10 x11 x12 x13 x14 x15 k hk
theorem turnc_2_7_13 (x0 x1 x2 x3 x4 x5 x6 x7 x8 x9 x10 x11 x12 x13 x14 x15 : UInt32) (k : Nat) (hk : k = 16 ∨ k = 12 ∨ k = 8 ∨ k = 7) : CtM Try.prog 64 ([.w (.one (.pl (.i 2))), .w (.one (.pl (.i 7))), .w (.one (.pl (.i 13))), .w (.one (.pl (.i (k : Int))))] ++ [500001].map fun k => .w (.one (.p k []))) [(500001, ⟨false, [.p 500000 []]⟩), (500000, ⟨false, [.pl (.u32 x0), .pl (.u32 x1), .pl (.u32 x2), .pl (.u32 x3), .pl (.u32 x4), .pl (.u32 x5), .pl (.u32 x6), .pl (.u32 x7), .pl (.u32 x8), .pl (.u32 x9), .pl (.u32 x10), .pl (.u32 x11), .pl (.u32 x12), .pl (.u32 x13), .pl (.u32 x14), .pl (.u32 x15)]⟩)] (fun v m => v = .tup [] ∧ m = [(500001, ⟨false, [.p 500000 []]⟩), (500000, ⟨false, [.pl (.u32 x0), .pl (.u32 x1), .pl (.u32 (x2 + x7)), .pl (.u32 x3), .pl (.u32 x4), .pl (.u32 x5), .pl (.u32 x6), .pl (.u32 x7), .pl (.u32 x8), .pl (.u32 x9), .pl (.u32 x10), .pl (.u32 x11), .pl (.u32 x12), .pl (.u32 (rot32 (x13 ^^^ (x2 + x7)) k)), .pl (.u32 x14), .pl (.u32 x15)]⟩)]) := turn_2_7_13 x0 x1 x2 x3 x4 x5 x6 x7 x8 x9 x10 x11 x12 x13 x14 x15 k hk
theorem turnc_8_13_7 (x0 x1 x2 x3 x4 x5 x6 x7 x8 x9 x10 x11 x12 x13 x14 x15 : UInt32) (k : Nat) (hk : k = 16 ∨ k = 12 ∨ k = 8 ∨ k = 7) : CtM Try.prog 64 ([.w (.one (.pl (.i 8))), .w (.one (.pl (.i 13))), .w (.one (.pl (.i 7))), .w (.one (.pl (.i (k : Int))))] ++ [500001].map fun k => .w (.one (.p k []))) [(500001, ⟨false, [.p 500000 []]⟩), (500000, ⟨false, [.pl (.u32 x0), .pl (.u32 x1), .pl (.u32 x2), .pl (.u32 x3), .pl (.u32 x4), .pl (.u32 x5), .pl (.u32 x6), .pl (.u32 x7), .pl (.u32 x8), .pl (.u32 x9), .pl (.u32 x10), .pl (.u32 x11), .pl (.u32 x12), .pl (.u32 x13), .pl (.u32 x14), .pl (.u32 x15)]⟩)] (fun v m => v = .tup [] ∧ m = [(500001, ⟨false, [.p 500000 []]⟩), (500000, ⟨false, [.pl (.u32 x0), .pl (.u32 x1), .pl (.u32 x2), .pl (.u32 x3), .pl (.u32 x4), .pl (.u32 x5), .pl (.u32 x6), .pl (.u32 (rot32 (x7 ^^^ (x8 + x13)) k)), .pl (.u32 (x8 + x13)), .pl (.u32 x9), .pl (.u32 x10), .pl (.u32 x11), .pl (.u32 x12), .pl (.u32 x13), .pl (.u32 x14), .pl (.u32 x15)]⟩)]) := turn_8_13_7 x0 x1 x2 x3 x4 x5 x6 x7 x8 x9 x10 x11 x12 x13 x14 x15 k hk
theorem turnc_3_4_14 (x0 x1 x2 x3 x4 x5 x6 x7 x8 x9 x10 x11 x12 x13 x14 x15 : UInt32) (k : Nat) (hk : k = 16 ∨ k = 12 ∨ k = 8 ∨ k = 7) : CtM Try.prog 64 ([.w (.one (.pl (.i 3))), .w (.one (.pl (.i 4))), .w (.one (.pl (.i 14))), .w (.one (.pl (.i (k : Int))))] ++ [500001].map fun k => .w (.one (.p k []))) [(500001, ⟨false, [.p 500000 []]⟩), (500000, ⟨false, [.pl (.u32 x0), .pl (.u32 x1), .pl (.u32 x2), .pl (.u32 x3), .pl (.u32 x4), .pl (.u32 x5), .pl (.u32 x6), .pl (.u32 x7), .pl (.u32 x8), .pl (.u32 x9), .pl (.u32 x10), .pl (.u32 x11), .pl (.u32 x12), .pl (.u32 x13), .pl (.u32 x14), .pl (.u32 x15)]⟩)] (fun v m => v = .tup [] ∧ m = [(500001, ⟨false, [.p 500000 []]⟩), (500000, ⟨false, [.pl (.u32 x0), .pl (.u32 x1), .pl (.u32 x2), .pl (.u32 (x3 + x4)), .pl (.u32 x4), .pl (.u32 x5), .pl (.u32 x6), .pl (.u32 x7), .pl (.u32 x8), .pl (.u32 x9), .pl (.u32 x10), .pl (.u32 x11), .pl (.u32 x12), .pl (.u32 x13), .pl (.u32 (rot32 (x14 ^^^ (x3 + x4)) k)), .pl (.u32 x15)]⟩)]) := turn_3_4_14 x0 x1 x2 x3 x4 x5 x6 x7 x8 x9 x10 x11 x12 x13 x14 x15 k hk
theorem turnc_9_14_4 (x0 x1 x2 x3 x4 x5 x6 x7 x8 x9 x10 x11 x12 x13 x14 x15 : UInt32) (k : Nat) (hk : k = 16 ∨ k = 12 ∨ k = 8 ∨ k = 7) : CtM Try.prog 64 ([.w (.one (.pl (.i 9))), .w (.one (.pl (.i 14))), .w (.one (.pl (.i 4))), .w (.one (.pl (.i (k : Int))))] ++ [500001].map fun k => .w (.one (.p k []))) [(500001, ⟨false, [.p 500000 []]⟩), (500000, ⟨false, [.pl (.u32 x0), .pl (.u32 x1), .pl (.u32 x2), .pl (.u32 x3), .pl (.u32 x4), .pl (.u32 x5), .pl (.u32 x6), .pl (.u32 x7), .pl (.u32 x8), .pl (.u32 x9), .pl (.u32 x10), .pl (.u32 x11), .pl (.u32 x12), .pl (.u32 x13), .pl (.u32 x14), .pl (.u32 x15)]⟩)] (fun v m => v = .tup [] ∧ m = [(500001, ⟨false, [.p 500000 []]⟩), (500000, ⟨false, [.pl (.u32 x0), .pl (.u32 x1), .pl (.u32 x2), .pl (.u32 x3), .pl (.u32 (rot32 (x4 ^^^ (x9 + x14)) k)), .pl (.u32 x5), .pl (.u32 x6), .pl (.u32 x7), .pl (.u32 x8), .pl (.u32 (x9 + x14)), .pl (.u32 x10), .pl (.u32 x11), .pl (.u32 x12), .pl (.u32 x13), .pl (.u32 x14), .pl (.u32 x15)]⟩)]) := turn_9_14_4 x0 x1 x2 x3 x4 x5 x6 x7 x8 x9 x10 x11 x12 x13 x14 x15 k hk
set_option maxHeartbeats 800000 in
theorem quarter_0_ (x0 x1 x2 x3 x4 x5 x6 x7 x8 x9 x10 x11 x12 x13 x14 x15 : UInt32) :
 CtM Try.prog 48 [.w (.one (.p 500000 [])), .w (.one (.pl (.i 0))), .w (.one (.pl (.i 4))), .w (.one (.pl (.i 8))), .w (.one (.pl (.i 12)))] [(500000, ⟨false, [.pl (.u32 x0), .pl (.u32 x1), .pl (.u32 x2), .pl (.u32 x3), .pl (.u32 x4), .pl (.u32 x5), .pl (.u32 x6), .pl (.u32 x7), .pl (.u32 x8), .pl (.u32 x9), .pl (.u32 x10), .pl (.u32 x11), .pl (.u32 x12), .pl (.u32 x13), .pl (.u32 x14), .pl (.u32 x15)]⟩)] (Told (fun v m => v = .tup [] ∧ m = [(500000, ⟨false, [.pl (.u32 (qA x0 x4 x8 x12)), .pl (.u32 x1), .pl (.u32 x2), .pl (.u32 x3), .pl (.u32 (qB x0 x4 x8 x12)), .pl (.u32 x5), .pl (.u32 x6), .pl (.u32 x7), .pl (.u32 (qC x0 x4 x8 x12)), .pl (.u32 x9), .pl (.u32 x10), .pl (.u32 x11), .pl (.u32 (qD x0 x4 x8 x12)), .pl (.u32 x13), .pl (.u32 x14), .pl (.u32 x15)]⟩)])) := by
 refine CtM.k Try.func48 rfl Try.ntmps48 (congrArg Array.toList Try.results48) (by simp) fun w0 ro may fx => ?_
 refine top_k fun zZ zhZ => ?_
 refine sr_k fun zK zhK => ?_
 simp only [go_sem]
 repeat' (first | apply And.intro | intro _)
 refine zhK _ ?_
 refine sr_k fun zK zhK => ?_
 simp only [go_sem]
 repeat' (first | apply And.intro | intro _)
 refine zhK _ ?_
 refine sr_k fun zK zhK => ?_
 simp only [go_sem]
 repeat' (first | apply And.intro | intro _)
 all_goals (refine call_fn (caps := [5]) false [(500001, 5), (500000, 500000)] (fun k => k) ?_ ?_ (fun _ _ => rfl) ?_ (by decide) ?_ (turnc_0_4_12 x0 x1 x2 x3 x4 x5 x6 x7 x8 x9 x10 x11 x12 x13 x14 x15 16 (.inl rfl)) ?_; iterate 4 (focus (first | rfl | (simp only [go_sem] <;> first | done | rfl | simp))))
 all_goals (rintro v m ⟨hR, hm⟩; subst hR; subst hm)
 all_goals (refine And.intro ?_ (And.intro ?_ (And.intro ?_ ?_)); iterate 3 (focus (first | rfl | (simp only [go_sem]; done) | (simp [go_sem, look]; done))))
 all_goals (try simp only [go_sem])
 all_goals (try simp only [go_sem])
 all_goals repeat' (first | apply And.intro | intro _)
 refine zhK _ ?_
 refine sr_k fun zK zhK => ?_
 simp only [go_sem]
 repeat' (first | apply And.intro | intro _)
 all_goals (refine call_fn (caps := [5]) false [(500001, 5), (500000, 500000)] (fun k => k) ?_ ?_ (fun _ _ => rfl) ?_ (by decide) ?_ (turnc_8_12_4 (x0 + x4) x1 x2 x3 x4 x5 x6 x7 x8 x9 x10 x11 (rot32 (x12 ^^^ (x0 + x4)) 16) x13 x14 x15 12 (.inr (.inl rfl))) ?_; iterate 4 (focus (first | rfl | (simp only [go_sem] <;> first | done | rfl | simp))))
 all_goals (rintro v m ⟨hR, hm⟩; subst hR; subst hm)
 all_goals (refine And.intro ?_ (And.intro ?_ (And.intro ?_ ?_)); iterate 3 (focus (first | rfl | (simp only [go_sem]; done) | (simp [go_sem, look]; done))))
 all_goals (try simp only [go_sem])
 all_goals (try simp only [go_sem])
 all_goals repeat' (first | apply And.intro | intro _)
 refine zhK _ ?_
 refine sr_k fun zK zhK => ?_
 simp only [go_sem]
 repeat' (first | apply And.intro | intro _)
 all_goals (refine call_fn (caps := [5]) false [(500001, 5), (500000, 500000)] (fun k => k) ?_ ?_ (fun _ _ => rfl) ?_ (by decide) ?_ (turnc_0_4_12 (x0 + x4) x1 x2 x3 (rot32 (x4 ^^^ (x8 + (rot32 (x12 ^^^ (x0 + x4)) 16))) 12) x5 x6 x7 (x8 + (rot32 (x12 ^^^ (x0 + x4)) 16)) x9 x10 x11 (rot32 (x12 ^^^ (x0 + x4)) 16) x13 x14 x15 8 (.inr (.inr (.inl rfl)))) ?_; iterate 4 (focus (first | rfl | (simp only [go_sem] <;> first | done | rfl | simp))))
 all_goals (rintro v m ⟨hR, hm⟩; subst hR; subst hm)
 all_goals (refine And.intro ?_ (And.intro ?_ (And.intro ?_ ?_)); iterate 3 (focus (first | rfl | (simp only [go_sem]; done) | (simp [go_sem, look]; done))))
 all_goals (try simp only [go_sem])
 all_goals (try simp only [go_sem])
 all_goals repeat' (first | apply And.intro | intro _)
 refine zhK _ ?_
 refine region_k fun zK zhK => ?_
 simp only [go_sem]
 repeat' (first | apply And.intro | intro _)
 all_goals (refine call_fn (caps := [5]) false [(500001, 5), (500000, 500000)] (fun k => k) ?_ ?_ (fun _ _ => rfl) ?_ (by decide) ?_ (turnc_8_12_4 ((x0 + x4) + (rot32 (x4 ^^^ (x8 + (rot32 (x12 ^^^ (x0 + x4)) 16))) 12)) x1 x2 x3 (rot32 (x4 ^^^ (x8 + (rot32 (x12 ^^^ (x0 + x4)) 16))) 12) x5 x6 x7 (x8 + (rot32 (x12 ^^^ (x0 + x4)) 16)) x9 x10 x11 (rot32 ((rot32 (x12 ^^^ (x0 + x4)) 16) ^^^ ((x0 + x4) + (rot32 (x4 ^^^ (x8 + (rot32 (x12 ^^^ (x0 + x4)) 16))) 12))) 8) x13 x14 x15 7 (.inr (.inr (.inr rfl)))) ?_; iterate 4 (focus (first | rfl | (simp only [go_sem] <;> first | done | rfl | simp))))
 all_goals (rintro v m ⟨hR, hm⟩; subst hR; subst hm)
 all_goals (refine And.intro ?_ (And.intro ?_ (And.intro ?_ ?_)); iterate 3 (focus (first | rfl | (simp only [go_sem]; done) | (simp [go_sem, look]; done))))
 all_goals (try simp only [go_sem])
 all_goals (try simp only [go_sem])
 all_goals repeat' (first | apply And.intro | intro _)
 refine zhK _ ?_
 refine zhZ _ _ ?_
 simp only [go_sem]
 all_goals (exact told_keep rfl (keep_one (by simp [look]; try exact ⟨rfl, rfl, rfl, rfl⟩)) ⟨rfl, rfl⟩)
theorem quarter_0 (x0 x1 x2 x3 x4 x5 x6 x7 x8 x9 x10 x11 x12 x13 x14 x15 : UInt32) : CtM Try.prog 48 [.w (.one (.p 500000 [])), .w (.one (.pl (.i 0))), .w (.one (.pl (.i 4))), .w (.one (.pl (.i 8))), .w (.one (.pl (.i 12)))] [(500000, ⟨false, [.pl (.u32 x0), .pl (.u32 x1), .pl (.u32 x2), .pl (.u32 x3), .pl (.u32 x4), .pl (.u32 x5), .pl (.u32 x6), .pl (.u32 x7), .pl (.u32 x8), .pl (.u32 x9), .pl (.u32 x10), .pl (.u32 x11), .pl (.u32 x12), .pl (.u32 x13), .pl (.u32 x14), .pl (.u32 x15)]⟩)] (fun v m => v = .tup [] ∧ m = [(500000, ⟨false, [.pl (.u32 (qA x0 x4 x8 x12)), .pl (.u32 x1), .pl (.u32 x2), .pl (.u32 x3), .pl (.u32 (qB x0 x4 x8 x12)), .pl (.u32 x5), .pl (.u32 x6), .pl (.u32 x7), .pl (.u32 (qC x0 x4 x8 x12)), .pl (.u32 x9), .pl (.u32 x10), .pl (.u32 x11), .pl (.u32 (qD x0 x4 x8 x12)), .pl (.u32 x13), .pl (.u32 x14), .pl (.u32 x15)]⟩)]) := (quarter_0_ x0 x1 x2 x3 x4 x5 x6 x7 x8 x9 x10 x11 x12 x13 x14 x15).told
set_option maxHeartbeats 800000 in
theorem quarter_1_ (x0 x1 x2 x3 x4 x5 x6 x7 x8 x9 x10 x11 x12 x13 x14 x15 : UInt32) :
 CtM Try.prog 48 [.w (.one (.p 500000 [])), .w (.one (.pl (.i 1))), .w (.one (.pl (.i 5))), .w (.one (.pl (.i 9))), .w (.one (.pl (.i 13)))] [(500000, ⟨false, [.pl (.u32 x0), .pl (.u32 x1), .pl (.u32 x2), .pl (.u32 x3), .pl (.u32 x4), .pl (.u32 x5), .pl (.u32 x6), .pl (.u32 x7), .pl (.u32 x8), .pl (.u32 x9), .pl (.u32 x10), .pl (.u32 x11), .pl (.u32 x12), .pl (.u32 x13), .pl (.u32 x14), .pl (.u32 x15)]⟩)] (Told (fun v m => v = .tup [] ∧ m = [(500000, ⟨false, [.pl (.u32 x0), .pl (.u32 (qA x1 x5 x9 x13)), .pl (.u32 x2), .pl (.u32 x3), .pl (.u32 x4), .pl (.u32 (qB x1 x5 x9 x13)), .pl (.u32 x6), .pl (.u32 x7), .pl (.u32 x8), .pl (.u32 (qC x1 x5 x9 x13)), .pl (.u32 x10), .pl (.u32 x11), .pl (.u32 x12), .pl (.u32 (qD x1 x5 x9 x13)), .pl (.u32 x14), .pl (.u32 x15)]⟩)])) := by
 refine CtM.k Try.func48 rfl Try.ntmps48 (congrArg Array.toList Try.results48) (by simp) fun w0 ro may fx => ?_
 refine top_k fun zZ zhZ => ?_
 refine sr_k fun zK zhK => ?_
 simp only [go_sem]
 repeat' (first | apply And.intro | intro _)
 refine zhK _ ?_
 refine sr_k fun zK zhK => ?_
 simp only [go_sem]
 repeat' (first | apply And.intro | intro _)
 refine zhK _ ?_
 refine sr_k fun zK zhK => ?_
 simp only [go_sem]
 repeat' (first | apply And.intro | intro _)
 all_goals (refine call_fn (caps := [5]) false [(500001, 5), (500000, 500000)] (fun k => k) ?_ ?_ (fun _ _ => rfl) ?_ (by decide) ?_ (turnc_1_5_13 x0 x1 x2 x3 x4 x5 x6 x7 x8 x9 x10 x11 x12 x13 x14 x15 16 (.inl rfl)) ?_; iterate 4 (focus (first | rfl | (simp only [go_sem] <;> first | done | rfl | simp))))
 all_goals (rintro v m ⟨hR, hm⟩; subst hR; subst hm)
 all_goals (refine And.intro ?_ (And.intro ?_ (And.intro ?_ ?_)); iterate 3 (focus (first | rfl | (simp only [go_sem]; done) | (simp [go_sem, look]; done))))
 all_goals (try simp only [go_sem])
 all_goals (try simp only [go_sem])
 all_goals repeat' (first | apply And.intro | intro _)
 refine zhK _ ?_
 refine sr_k fun zK zhK => ?_
 simp only [go_sem]
 repeat' (first | apply And.intro | intro _)
 all_goals (refine call_fn (caps := [5]) false [(500001, 5), (500000, 500000)] (fun k => k) ?_ ?_ (fun _ _ => rfl) ?_ (by decide) ?_ (turnc_9_13_5 x0 (x1 + x5) x2 x3 x4 x5 x6 x7 x8 x9 x10 x11 x12 (rot32 (x13 ^^^ (x1 + x5)) 16) x14 x15 12 (.inr (.inl rfl))) ?_; iterate 4 (focus (first | rfl | (simp only [go_sem] <;> first | done | rfl | simp))))
 all_goals (rintro v m ⟨hR, hm⟩; subst hR; subst hm)
 all_goals (refine And.intro ?_ (And.intro ?_ (And.intro ?_ ?_)); iterate 3 (focus (first | rfl | (simp only [go_sem]; done) | (simp [go_sem, look]; done))))
 all_goals (try simp only [go_sem])
 all_goals (try simp only [go_sem])
 all_goals repeat' (first | apply And.intro | intro _)
 refine zhK _ ?_
 refine sr_k fun zK zhK => ?_
 simp only [go_sem]
 repeat' (first | apply And.intro | intro _)
 all_goals (refine call_fn (caps := [5]) false [(500001, 5), (500000, 500000)] (fun k => k) ?_ ?_ (fun _ _ => rfl) ?_ (by decide) ?_ (turnc_1_5_13 x0 (x1 + x5) x2 x3 x4 (rot32 (x5 ^^^ (x9 + (rot32 (x13 ^^^ (x1 + x5)) 16))) 12) x6 x7 x8 (x9 + (rot32 (x13 ^^^ (x1 + x5)) 16)) x10 x11 x12 (rot32 (x13 ^^^ (x1 + x5)) 16) x14 x15 8 (.inr (.inr (.inl rfl)))) ?_; iterate 4 (focus (first | rfl | (simp only [go_sem] <;> first | done | rfl | simp))))
 all_goals (rintro v m ⟨hR, hm⟩; subst hR; subst hm)
 all_goals (refine And.intro ?_ (And.intro ?_ (And.intro ?_ ?_)); iterate 3 (focus (first | rfl | (simp only [go_sem]; done) | (simp [go_sem, look]; done))))
 all_goals (try simp only [go_sem])
 all_goals (try simp only [go_sem])
 all_goals repeat' (first | apply And.intro | intro _)
 refine zhK _ ?_
 refine region_k fun zK zhK => ?_
 simp only [go_sem]
 repeat' (first | apply And.intro | intro _)
 all_goals (refine call_fn (caps := [5]) false [(500001, 5), (500000, 500000)] (fun k => k) ?_ ?_ (fun _ _ => rfl) ?_ (by decide) ?_ (turnc_9_13_5 x0 ((x1 + x5) + (rot32 (x5 ^^^ (x9 + (rot32 (x13 ^^^ (x1 + x5)) 16))) 12)) x2 x3 x4 (rot32 (x5 ^^^ (x9 + (rot32 (x13 ^^^ (x1 + x5)) 16))) 12) x6 x7 x8 (x9 + (rot32 (x13 ^^^ (x1 + x5)) 16)) x10 x11 x12 (rot32 ((rot32 (x13 ^^^ (x1 + x5)) 16) ^^^ ((x1 + x5) + (rot32 (x5 ^^^ (x9 + (rot32 (x13 ^^^ (x1 + x5)) 16))) 12))) 8) x14 x15 7 (.inr (.inr (.inr rfl)))) ?_; iterate 4 (focus (first | rfl | (simp only [go_sem] <;> first | done | rfl | simp))))
 all_goals (rintro v m ⟨hR, hm⟩; subst hR; subst hm)
 all_goals (refine And.intro ?_ (And.intro ?_ (And.intro ?_ ?_)); iterate 3 (focus (first | rfl | (simp only [go_sem]; done) | (simp [go_sem, look]; done))))
 all_goals (try simp only [go_sem])
 all_goals (try simp only [go_sem])
 all_goals repeat' (first | apply And.intro | intro _)
 refine zhK _ ?_
 refine zhZ _ _ ?_
 simp only [go_sem]
 all_goals (exact told_keep rfl (keep_one (by simp [look]; try exact ⟨rfl, rfl, rfl, rfl⟩)) ⟨rfl, rfl⟩)
theorem quarter_1 (x0 x1 x2 x3 x4 x5 x6 x7 x8 x9 x10 x11 x12 x13 x14 x15 : UInt32) : CtM Try.prog 48 [.w (.one (.p 500000 [])), .w (.one (.pl (.i 1))), .w (.one (.pl (.i 5))), .w (.one (.pl (.i 9))), .w (.one (.pl (.i 13)))] [(500000, ⟨false, [.pl (.u32 x0), .pl (.u32 x1), .pl (.u32 x2), .pl (.u32 x3), .pl (.u32 x4), .pl (.u32 x5), .pl (.u32 x6), .pl (.u32 x7), .pl (.u32 x8), .pl (.u32 x9), .pl (.u32 x10), .pl (.u32 x11), .pl (.u32 x12), .pl (.u32 x13), .pl (.u32 x14), .pl (.u32 x15)]⟩)] (fun v m => v = .tup [] ∧ m = [(500000, ⟨false, [.pl (.u32 x0), .pl (.u32 (qA x1 x5 x9 x13)), .pl (.u32 x2), .pl (.u32 x3), .pl (.u32 x4), .pl (.u32 (qB x1 x5 x9 x13)), .pl (.u32 x6), .pl (.u32 x7), .pl (.u32 x8), .pl (.u32 (qC x1 x5 x9 x13)), .pl (.u32 x10), .pl (.u32 x11), .pl (.u32 x12), .pl (.u32 (qD x1 x5 x9 x13)), .pl (.u32 x14), .pl (.u32 x15)]⟩)]) := (quarter_1_ x0 x1 x2 x3 x4 x5 x6 x7 x8 x9 x10 x11 x12 x13 x14 x15).told
set_option maxHeartbeats 800000 in
theorem quarter_2_ (x0 x1 x2 x3 x4 x5 x6 x7 x8 x9 x10 x11 x12 x13 x14 x15 : UInt32) :
 CtM Try.prog 48 [.w (.one (.p 500000 [])), .w (.one (.pl (.i 2))), .w (.one (.pl (.i 6))), .w (.one (.pl (.i 10))), .w (.one (.pl (.i 14)))] [(500000, ⟨false, [.pl (.u32 x0), .pl (.u32 x1), .pl (.u32 x2), .pl (.u32 x3), .pl (.u32 x4), .pl (.u32 x5), .pl (.u32 x6), .pl (.u32 x7), .pl (.u32 x8), .pl (.u32 x9), .pl (.u32 x10), .pl (.u32 x11), .pl (.u32 x12), .pl (.u32 x13), .pl (.u32 x14), .pl (.u32 x15)]⟩)] (Told (fun v m => v = .tup [] ∧ m = [(500000, ⟨false, [.pl (.u32 x0), .pl (.u32 x1), .pl (.u32 (qA x2 x6 x10 x14)), .pl (.u32 x3), .pl (.u32 x4), .pl (.u32 x5), .pl (.u32 (qB x2 x6 x10 x14)), .pl (.u32 x7), .pl (.u32 x8), .pl (.u32 x9), .pl (.u32 (qC x2 x6 x10 x14)), .pl (.u32 x11), .pl (.u32 x12), .pl (.u32 x13), .pl (.u32 (qD x2 x6 x10 x14)), .pl (.u32 x15)]⟩)])) := by
 refine CtM.k Try.func48 rfl Try.ntmps48 (congrArg Array.toList Try.results48) (by simp) fun w0 ro may fx => ?_
 refine top_k fun zZ zhZ => ?_
 refine sr_k fun zK zhK => ?_
 simp only [go_sem]
 repeat' (first | apply And.intro | intro _)
 refine zhK _ ?_
 refine sr_k fun zK zhK => ?_
 simp only [go_sem]
 repeat' (first | apply And.intro | intro _)
 refine zhK _ ?_
 refine sr_k fun zK zhK => ?_
 simp only [go_sem]
 repeat' (first | apply And.intro | intro _)
 all_goals (refine call_fn (caps := [5]) false [(500001, 5), (500000, 500000)] (fun k => k) ?_ ?_ (fun _ _ => rfl) ?_ (by decide) ?_ (turnc_2_6_14 x0 x1 x2 x3 x4 x5 x6 x7 x8 x9 x10 x11 x12 x13 x14 x15 16 (.inl rfl)) ?_; iterate 4 (focus (first | rfl | (simp only [go_sem] <;> first | done | rfl | simp))))
 all_goals (rintro v m ⟨hR, hm⟩; subst hR; subst hm)
 all_goals (refine And.intro ?_ (And.intro ?_ (And.intro ?_ ?_)); iterate 3 (focus (first | rfl | (simp only [go_sem]; done) | (simp [go_sem, look]; done))))
 all_goals (try simp only [go_sem])
 all_goals (try simp only [go_sem])
 all_goals repeat' (first | apply And.intro | intro _)
 refine zhK _ ?_
 refine sr_k fun zK zhK => ?_
 simp only [go_sem]
 repeat' (first | apply And.intro | intro _)
 all_goals (refine call_fn (caps := [5]) false [(500001, 5), (500000, 500000)] (fun k => k) ?_ ?_ (fun _ _ => rfl) ?_ (by decide) ?_ (turnc_10_14_6 x0 x1 (x2 + x6) x3 x4 x5 x6 x7 x8 x9 x10 x11 x12 x13 (rot32 (x14 ^^^ (x2 + x6)) 16) x15 12 (.inr (.inl rfl))) ?_; iterate 4 (focus (first | rfl | (simp only [go_sem] <;> first | done | rfl | simp))))
 all_goals (rintro v m ⟨hR, hm⟩; subst hR; subst hm)
 all_goals (refine And.intro ?_ (And.intro ?_ (And.intro ?_ ?_)); iterate 3 (focus (first | rfl | (simp only [go_sem]; done) | (simp [go_sem, look]; done))))
 all_goals (try simp only [go_sem])
 all_goals (try simp only [go_sem])
 all_goals repeat' (first | apply And.intro | intro _)
 refine zhK _ ?_
 refine sr_k fun zK zhK => ?_
 simp only [go_sem]
 repeat' (first | apply And.intro | intro _)
 all_goals (refine call_fn (caps := [5]) false [(500001, 5), (500000, 500000)] (fun k => k) ?_ ?_ (fun _ _ => rfl) ?_ (by decide) ?_ (turnc_2_6_14 x0 x1 (x2 + x6) x3 x4 x5 (rot32 (x6 ^^^ (x10 + (rot32 (x14 ^^^ (x2 + x6)) 16))) 12) x7 x8 x9 (x10 + (rot32 (x14 ^^^ (x2 + x6)) 16)) x11 x12 x13 (rot32 (x14 ^^^ (x2 + x6)) 16) x15 8 (.inr (.inr (.inl rfl)))) ?_; iterate 4 (focus (first | rfl | (simp only [go_sem] <;> first | done | rfl | simp))))
 all_goals (rintro v m ⟨hR, hm⟩; subst hR; subst hm)
 all_goals (refine And.intro ?_ (And.intro ?_ (And.intro ?_ ?_)); iterate 3 (focus (first | rfl | (simp only [go_sem]; done) | (simp [go_sem, look]; done))))
 all_goals (try simp only [go_sem])
 all_goals (try simp only [go_sem])
 all_goals repeat' (first | apply And.intro | intro _)
 refine zhK _ ?_
 refine region_k fun zK zhK => ?_
 simp only [go_sem]
 repeat' (first | apply And.intro | intro _)
 all_goals (refine call_fn (caps := [5]) false [(500001, 5), (500000, 500000)] (fun k => k) ?_ ?_ (fun _ _ => rfl) ?_ (by decide) ?_ (turnc_10_14_6 x0 x1 ((x2 + x6) + (rot32 (x6 ^^^ (x10 + (rot32 (x14 ^^^ (x2 + x6)) 16))) 12)) x3 x4 x5 (rot32 (x6 ^^^ (x10 + (rot32 (x14 ^^^ (x2 + x6)) 16))) 12) x7 x8 x9 (x10 + (rot32 (x14 ^^^ (x2 + x6)) 16)) x11 x12 x13 (rot32 ((rot32 (x14 ^^^ (x2 + x6)) 16) ^^^ ((x2 + x6) + (rot32 (x6 ^^^ (x10 + (rot32 (x14 ^^^ (x2 + x6)) 16))) 12))) 8) x15 7 (.inr (.inr (.inr rfl)))) ?_; iterate 4 (focus (first | rfl | (simp only [go_sem] <;> first | done | rfl | simp))))
 all_goals (rintro v m ⟨hR, hm⟩; subst hR; subst hm)
 all_goals (refine And.intro ?_ (And.intro ?_ (And.intro ?_ ?_)); iterate 3 (focus (first | rfl | (simp only [go_sem]; done) | (simp [go_sem, look]; done))))
 all_goals (try simp only [go_sem])
 all_goals (try simp only [go_sem])
 all_goals repeat' (first | apply And.intro | intro _)
 refine zhK _ ?_
 refine zhZ _ _ ?_
 simp only [go_sem]
 all_goals (exact told_keep rfl (keep_one (by simp [look]; try exact ⟨rfl, rfl, rfl, rfl⟩)) ⟨rfl, rfl⟩)
theorem quarter_2 (x0 x1 x2 x3 x4 x5 x6 x7 x8 x9 x10 x11 x12 x13 x14 x15 : UInt32) : CtM Try.prog 48 [.w (.one (.p 500000 [])), .w (.one (.pl (.i 2))), .w (.one (.pl (.i 6))), .w (.one (.pl (.i 10))), .w (.one (.pl (.i 14)))] [(500000, ⟨false, [.pl (.u32 x0), .pl (.u32 x1), .pl (.u32 x2), .pl (.u32 x3), .pl (.u32 x4), .pl (.u32 x5), .pl (.u32 x6), .pl (.u32 x7), .pl (.u32 x8), .pl (.u32 x9), .pl (.u32 x10), .pl (.u32 x11), .pl (.u32 x12), .pl (.u32 x13), .pl (.u32 x14), .pl (.u32 x15)]⟩)] (fun v m => v = .tup [] ∧ m = [(500000, ⟨false, [.pl (.u32 x0), .pl (.u32 x1), .pl (.u32 (qA x2 x6 x10 x14)), .pl (.u32 x3), .pl (.u32 x4), .pl (.u32 x5), .pl (.u32 (qB x2 x6 x10 x14)), .pl (.u32 x7), .pl (.u32 x8), .pl (.u32 x9), .pl (.u32 (qC x2 x6 x10 x14)), .pl (.u32 x11), .pl (.u32 x12), .pl (.u32 x13), .pl (.u32 (qD x2 x6 x10 x14)), .pl (.u32 x15)]⟩)]) := (quarter_2_ x0 x1 x2 x3 x4 x5 x6 x7 x8 x9 x10 x11 x12 x13 x14 x15).told
set_option maxHeartbeats 800000 in
theorem quarter_3_ (x0 x1 x2 x3 x4 x5 x6 x7 x8 x9 x10 x11 x12 x13 x14 x15 : UInt32) :
 CtM Try.prog 48 [.w (.one (.p 500000 [])), .w (.one (.pl (.i 3))), .w (.one (.pl (.i 7))), .w (.one (.pl (.i 11))), .w (.one (.pl (.i 15)))] [(500000, ⟨false, [.pl (.u32 x0), .pl (.u32 x1), .pl (.u32 x2), .pl (.u32 x3), .pl (.u32 x4), .pl (.u32 x5), .pl (.u32 x6), .pl (.u32 x7), .pl (.u32 x8), .pl (.u32 x9), .pl (.u32 x10), .pl (.u32 x11), .pl (.u32 x12), .pl (.u32 x13), .pl (.u32 x14), .pl (.u32 x15)]⟩)] (Told (fun v m => v = .tup [] ∧ m = [(500000, ⟨false, [.pl (.u32 x0), .pl (.u32 x1), .pl (.u32 x2), .pl (.u32 (qA x3 x7 x11 x15)), .pl (.u32 x4), .pl (.u32 x5), .pl (.u32 x6), .pl (.u32 (qB x3 x7 x11 x15)), .pl (.u32 x8), .pl (.u32 x9), .pl (.u32 x10), .pl (.u32 (qC x3 x7 x11 x15)), .pl (.u32 x12), .pl (.u32 x13), .pl (.u32 x14), .pl (.u32 (qD x3 x7 x11 x15))]⟩)])) := by
 refine CtM.k Try.func48 rfl Try.ntmps48 (congrArg Array.toList Try.results48) (by simp) fun w0 ro may fx => ?_
 refine top_k fun zZ zhZ => ?_
 refine sr_k fun zK zhK => ?_
 simp only [go_sem]
 repeat' (first | apply And.intro | intro _)
 refine zhK _ ?_
 refine sr_k fun zK zhK => ?_
 simp only [go_sem]
 repeat' (first | apply And.intro | intro _)
 refine zhK _ ?_
 refine sr_k fun zK zhK => ?_
 simp only [go_sem]
 repeat' (first | apply And.intro | intro _)
 all_goals (refine call_fn (caps := [5]) false [(500001, 5), (500000, 500000)] (fun k => k) ?_ ?_ (fun _ _ => rfl) ?_ (by decide) ?_ (turnc_3_7_15 x0 x1 x2 x3 x4 x5 x6 x7 x8 x9 x10 x11 x12 x13 x14 x15 16 (.inl rfl)) ?_; iterate 4 (focus (first | rfl | (simp only [go_sem] <;> first | done | rfl | simp))))
 all_goals (rintro v m ⟨hR, hm⟩; subst hR; subst hm)
 all_goals (refine And.intro ?_ (And.intro ?_ (And.intro ?_ ?_)); iterate 3 (focus (first | rfl | (simp only [go_sem]; done) | (simp [go_sem, look]; done))))
 all_goals (try simp only [go_sem])
 all_goals (try simp only [go_sem])
 all_goals repeat' (first | apply And.intro | intro _)
 refine zhK _ ?_
 refine sr_k fun zK zhK => ?_
 simp only [go_sem]
 repeat' (first | apply And.intro | intro _)
 all_goals (refine call_fn (caps := [5]) false [(500001, 5), (500000, 500000)] (fun k => k) ?_ ?_ (fun _ _ => rfl) ?_ (by decide) ?_ (turnc_11_15_7 x0 x1 x2 (x3 + x7) x4 x5 x6 x7 x8 x9 x10 x11 x12 x13 x14 (rot32 (x15 ^^^ (x3 + x7)) 16) 12 (.inr (.inl rfl))) ?_; iterate 4 (focus (first | rfl | (simp only [go_sem] <;> first | done | rfl | simp))))
 all_goals (rintro v m ⟨hR, hm⟩; subst hR; subst hm)
 all_goals (refine And.intro ?_ (And.intro ?_ (And.intro ?_ ?_)); iterate 3 (focus (first | rfl | (simp only [go_sem]; done) | (simp [go_sem, look]; done))))
 all_goals (try simp only [go_sem])
 all_goals (try simp only [go_sem])
 all_goals repeat' (first | apply And.intro | intro _)
 refine zhK _ ?_
 refine sr_k fun zK zhK => ?_
 simp only [go_sem]
 repeat' (first | apply And.intro | intro _)
 all_goals (refine call_fn (caps := [5]) false [(500001, 5), (500000, 500000)] (fun k => k) ?_ ?_ (fun _ _ => rfl) ?_ (by decide) ?_ (turnc_3_7_15 x0 x1 x2 (x3 + x7) x4 x5 x6 (rot32 (x7 ^^^ (x11 + (rot32 (x15 ^^^ (x3 + x7)) 16))) 12) x8 x9 x10 (x11 + (rot32 (x15 ^^^ (x3 + x7)) 16)) x12 x13 x14 (rot32 (x15 ^^^ (x3 + x7)) 16) 8 (.inr (.inr (.inl rfl)))) ?_; iterate 4 (focus (first | rfl | (simp only [go_sem] <;> first | done | rfl | simp))))
 all_goals (rintro v m ⟨hR, hm⟩; subst hR; subst hm)
 all_goals (refine And.intro ?_ (And.intro ?_ (And.intro ?_ ?_)); iterate 3 (focus (first | rfl | (simp only [go_sem]; done) | (simp [go_sem, look]; done))))
 all_goals (try simp only [go_sem])
 all_goals (try simp only [go_sem])
 all_goals repeat' (first | apply And.intro | intro _)
 refine zhK _ ?_
 refine region_k fun zK zhK => ?_
 simp only [go_sem]
 repeat' (first | apply And.intro | intro _)
 all_goals (refine call_fn (caps := [5]) false [(500001, 5), (500000, 500000)] (fun k => k) ?_ ?_ (fun _ _ => rfl) ?_ (by decide) ?_ (turnc_11_15_7 x0 x1 x2 ((x3 + x7) + (rot32 (x7 ^^^ (x11 + (rot32 (x15 ^^^ (x3 + x7)) 16))) 12)) x4 x5 x6 (rot32 (x7 ^^^ (x11 + (rot32 (x15 ^^^ (x3 + x7)) 16))) 12) x8 x9 x10 (x11 + (rot32 (x15 ^^^ (x3 + x7)) 16)) x12 x13 x14 (rot32 ((rot32 (x15 ^^^ (x3 + x7)) 16) ^^^ ((x3 + x7) + (rot32 (x7 ^^^ (x11 + (rot32 (x15 ^^^ (x3 + x7)) 16))) 12))) 8) 7 (.inr (.inr (.inr rfl)))) ?_; iterate 4 (focus (first | rfl | (simp only [go_sem] <;> first | done | rfl | simp))))
 all_goals (rintro v m ⟨hR, hm⟩; subst hR; subst hm)
 all_goals (refine And.intro ?_ (And.intro ?_ (And.intro ?_ ?_)); iterate 3 (focus (first | rfl | (simp only [go_sem]; done) | (simp [go_sem, look]; done))))
 all_goals (try simp only [go_sem])
 all_goals (try simp only [go_sem])
 all_goals repeat' (first | apply And.intro | intro _)
 refine zhK _ ?_
 refine zhZ _ _ ?_
 simp only [go_sem]
 all_goals (exact told_keep rfl (keep_one (by simp [look]; try exact ⟨rfl, rfl, rfl, rfl⟩)) ⟨rfl, rfl⟩)
theorem quarter_3 (x0 x1 x2 x3 x4 x5 x6 x7 x8 x9 x10 x11 x12 x13 x14 x15 : UInt32) : CtM Try.prog 48 [.w (.one (.p 500000 [])), .w (.one (.pl (.i 3))), .w (.one (.pl (.i 7))), .w (.one (.pl (.i 11))), .w (.one (.pl (.i 15)))] [(500000, ⟨false, [.pl (.u32 x0), .pl (.u32 x1), .pl (.u32 x2), .pl (.u32 x3), .pl (.u32 x4), .pl (.u32 x5), .pl (.u32 x6), .pl (.u32 x7), .pl (.u32 x8), .pl (.u32 x9), .pl (.u32 x10), .pl (.u32 x11), .pl (.u32 x12), .pl (.u32 x13), .pl (.u32 x14), .pl (.u32 x15)]⟩)] (fun v m => v = .tup [] ∧ m = [(500000, ⟨false, [.pl (.u32 x0), .pl (.u32 x1), .pl (.u32 x2), .pl (.u32 (qA x3 x7 x11 x15)), .pl (.u32 x4), .pl (.u32 x5), .pl (.u32 x6), .pl (.u32 (qB x3 x7 x11 x15)), .pl (.u32 x8), .pl (.u32 x9), .pl (.u32 x10), .pl (.u32 (qC x3 x7 x11 x15)), .pl (.u32 x12), .pl (.u32 x13), .pl (.u32 x14), .pl (.u32 (qD x3 x7 x11 x15))]⟩)]) := (quarter_3_ x0 x1 x2 x3 x4 x5 x6 x7 x8 x9 x10 x11 x12 x13 x14 x15).told
set_option maxHeartbeats 800000 in
theorem quarter_4_ (x0 x1 x2 x3 x4 x5 x6 x7 x8 x9 x10 x11 x12 x13 x14 x15 : UInt32) :
 CtM Try.prog 48 [.w (.one (.p 500000 [])), .w (.one (.pl (.i 0))), .w (.one (.pl (.i 5))), .w (.one (.pl (.i 10))), .w (.one (.pl (.i 15)))] [(500000, ⟨false, [.pl (.u32 x0), .pl (.u32 x1), .pl (.u32 x2), .pl (.u32 x3), .pl (.u32 x4), .pl (.u32 x5), .pl (.u32 x6), .pl (.u32 x7), .pl (.u32 x8), .pl (.u32 x9), .pl (.u32 x10), .pl (.u32 x11), .pl (.u32 x12), .pl (.u32 x13), .pl (.u32 x14), .pl (.u32 x15)]⟩)] (Told (fun v m => v = .tup [] ∧ m = [(500000, ⟨false, [.pl (.u32 (qA x0 x5 x10 x15)), .pl (.u32 x1), .pl (.u32 x2), .pl (.u32 x3), .pl (.u32 x4), .pl (.u32 (qB x0 x5 x10 x15)), .pl (.u32 x6), .pl (.u32 x7), .pl (.u32 x8), .pl (.u32 x9), .pl (.u32 (qC x0 x5 x10 x15)), .pl (.u32 x11), .pl (.u32 x12), .pl (.u32 x13), .pl (.u32 x14), .pl (.u32 (qD x0 x5 x10 x15))]⟩)])) := by
 refine CtM.k Try.func48 rfl Try.ntmps48 (congrArg Array.toList Try.results48) (by simp) fun w0 ro may fx => ?_
 refine top_k fun zZ zhZ => ?_
 refine sr_k fun zK zhK => ?_
 simp only [go_sem]
 repeat' (first | apply And.intro | intro _)
 refine zhK _ ?_
 refine sr_k fun zK zhK => ?_
 simp only [go_sem]
 repeat' (first | apply And.intro | intro _)
 refine zhK _ ?_
 refine sr_k fun zK zhK => ?_
 simp only [go_sem]
 repeat' (first | apply And.intro | intro _)
 all_goals (refine call_fn (caps := [5]) false [(500001, 5), (500000, 500000)] (fun k => k) ?_ ?_ (fun _ _ => rfl) ?_ (by decide) ?_ (turnc_0_5_15 x0 x1 x2 x3 x4 x5 x6 x7 x8 x9 x10 x11 x12 x13 x14 x15 16 (.inl rfl)) ?_; iterate 4 (focus (first | rfl | (simp only [go_sem] <;> first | done | rfl | simp))))
 all_goals (rintro v m ⟨hR, hm⟩; subst hR; subst hm)
 all_goals (refine And.intro ?_ (And.intro ?_ (And.intro ?_ ?_)); iterate 3 (focus (first | rfl | (simp only [go_sem]; done) | (simp [go_sem, look]; done))))
 all_goals (try simp only [go_sem])
 all_goals (try simp only [go_sem])
 all_goals repeat' (first | apply And.intro | intro _)
 refine zhK _ ?_
 refine sr_k fun zK zhK => ?_
 simp only [go_sem]
 repeat' (first | apply And.intro | intro _)
 all_goals (refine call_fn (caps := [5]) false [(500001, 5), (500000, 500000)] (fun k => k) ?_ ?_ (fun _ _ => rfl) ?_ (by decide) ?_ (turnc_10_15_5 (x0 + x5) x1 x2 x3 x4 x5 x6 x7 x8 x9 x10 x11 x12 x13 x14 (rot32 (x15 ^^^ (x0 + x5)) 16) 12 (.inr (.inl rfl))) ?_; iterate 4 (focus (first | rfl | (simp only [go_sem] <;> first | done | rfl | simp))))
 all_goals (rintro v m ⟨hR, hm⟩; subst hR; subst hm)
 all_goals (refine And.intro ?_ (And.intro ?_ (And.intro ?_ ?_)); iterate 3 (focus (first | rfl | (simp only [go_sem]; done) | (simp [go_sem, look]; done))))
 all_goals (try simp only [go_sem])
 all_goals (try simp only [go_sem])
 all_goals repeat' (first | apply And.intro | intro _)
 refine zhK _ ?_
 refine sr_k fun zK zhK => ?_
 simp only [go_sem]
 repeat' (first | apply And.intro | intro _)
 all_goals (refine call_fn (caps := [5]) false [(500001, 5), (500000, 500000)] (fun k => k) ?_ ?_ (fun _ _ => rfl) ?_ (by decide) ?_ (turnc_0_5_15 (x0 + x5) x1 x2 x3 x4 (rot32 (x5 ^^^ (x10 + (rot32 (x15 ^^^ (x0 + x5)) 16))) 12) x6 x7 x8 x9 (x10 + (rot32 (x15 ^^^ (x0 + x5)) 16)) x11 x12 x13 x14 (rot32 (x15 ^^^ (x0 + x5)) 16) 8 (.inr (.inr (.inl rfl)))) ?_; iterate 4 (focus (first | rfl | (simp only [go_sem] <;> first | done | rfl | simp))))
 all_goals (rintro v m ⟨hR, hm⟩; subst hR; subst hm)
 all_goals (refine And.intro ?_ (And.intro ?_ (And.intro ?_ ?_)); iterate 3 (focus (first | rfl | (simp only [go_sem]; done) | (simp [go_sem, look]; done))))
 all_goals (try simp only [go_sem])
 all_goals (try simp only [go_sem])
 all_goals repeat' (first | apply And.intro | intro _)
 refine zhK _ ?_
 refine region_k fun zK zhK => ?_
 simp only [go_sem]
 repeat' (first | apply And.intro | intro _)
 all_goals (refine call_fn (caps := [5]) false [(500001, 5), (500000, 500000)] (fun k => k) ?_ ?_ (fun _ _ => rfl) ?_ (by decide) ?_ (turnc_10_15_5 ((x0 + x5) + (rot32 (x5 ^^^ (x10 + (rot32 (x15 ^^^ (x0 + x5)) 16))) 12)) x1 x2 x3 x4 (rot32 (x5 ^^^ (x10 + (rot32 (x15 ^^^ (x0 + x5)) 16))) 12) x6 x7 x8 x9 (x10 + (rot32 (x15 ^^^ (x0 + x5)) 16)) x11 x12 x13 x14 (rot32 ((rot32 (x15 ^^^ (x0 + x5)) 16) ^^^ ((x0 + x5) + (rot32 (x5 ^^^ (x10 + (rot32 (x15 ^^^ (x0 + x5)) 16))) 12))) 8) 7 (.inr (.inr (.inr rfl)))) ?_; iterate 4 (focus (first | rfl | (simp only [go_sem] <;> first | done | rfl | simp))))
 all_goals (rintro v m ⟨hR, hm⟩; subst hR; subst hm)
 all_goals (refine And.intro ?_ (And.intro ?_ (And.intro ?_ ?_)); iterate 3 (focus (first | rfl | (simp only [go_sem]; done) | (simp [go_sem, look]; done))))
 all_goals (try simp only [go_sem])
 all_goals (try simp only [go_sem])
 all_goals repeat' (first | apply And.intro | intro _)
 refine zhK _ ?_
 refine zhZ _ _ ?_
 simp only [go_sem]
 all_goals (exact told_keep rfl (keep_one (by simp [look]; try exact ⟨rfl, rfl, rfl, rfl⟩)) ⟨rfl, rfl⟩)
theorem quarter_4 (x0 x1 x2 x3 x4 x5 x6 x7 x8 x9 x10 x11 x12 x13 x14 x15 : UInt32) : CtM Try.prog 48 [.w (.one (.p 500000 [])), .w (.one (.pl (.i 0))), .w (.one (.pl (.i 5))), .w (.one (.pl (.i 10))), .w (.one (.pl (.i 15)))] [(500000, ⟨false, [.pl (.u32 x0), .pl (.u32 x1), .pl (.u32 x2), .pl (.u32 x3), .pl (.u32 x4), .pl (.u32 x5), .pl (.u32 x6), .pl (.u32 x7), .pl (.u32 x8), .pl (.u32 x9), .pl (.u32 x10), .pl (.u32 x11), .pl (.u32 x12), .pl (.u32 x13), .pl (.u32 x14), .pl (.u32 x15)]⟩)] (fun v m => v = .tup [] ∧ m = [(500000, ⟨false, [.pl (.u32 (qA x0 x5 x10 x15)), .pl (.u32 x1), .pl (.u32 x2), .pl (.u32 x3), .pl (.u32 x4), .pl (.u32 (qB x0 x5 x10 x15)), .pl (.u32 x6), .pl (.u32 x7), .pl (.u32 x8), .pl (.u32 x9), .pl (.u32 (qC x0 x5 x10 x15)), .pl (.u32 x11), .pl (.u32 x12), .pl (.u32 x13), .pl (.u32 x14), .pl (.u32 (qD x0 x5 x10 x15))]⟩)]) := (quarter_4_ x0 x1 x2 x3 x4 x5 x6 x7 x8 x9 x10 x11 x12 x13 x14 x15).told
set_option maxHeartbeats 800000 in
theorem quarter_5_ (x0 x1 x2 x3 x4 x5 x6 x7 x8 x9 x10 x11 x12 x13 x14 x15 : UInt32) :
 CtM Try.prog 48 [.w (.one (.p 500000 [])), .w (.one (.pl (.i 1))), .w (.one (.pl (.i 6))), .w (.one (.pl (.i 11))), .w (.one (.pl (.i 12)))] [(500000, ⟨false, [.pl (.u32 x0), .pl (.u32 x1), .pl (.u32 x2), .pl (.u32 x3), .pl (.u32 x4), .pl (.u32 x5), .pl (.u32 x6), .pl (.u32 x7), .pl (.u32 x8), .pl (.u32 x9), .pl (.u32 x10), .pl (.u32 x11), .pl (.u32 x12), .pl (.u32 x13), .pl (.u32 x14), .pl (.u32 x15)]⟩)] (Told (fun v m => v = .tup [] ∧ m = [(500000, ⟨false, [.pl (.u32 x0), .pl (.u32 (qA x1 x6 x11 x12)), .pl (.u32 x2), .pl (.u32 x3), .pl (.u32 x4), .pl (.u32 x5), .pl (.u32 (qB x1 x6 x11 x12)), .pl (.u32 x7), .pl (.u32 x8), .pl (.u32 x9), .pl (.u32 x10), .pl (.u32 (qC x1 x6 x11 x12)), .pl (.u32 (qD x1 x6 x11 x12)), .pl (.u32 x13), .pl (.u32 x14), .pl (.u32 x15)]⟩)])) := by
 refine CtM.k Try.func48 rfl Try.ntmps48 (congrArg Array.toList Try.results48) (by simp) fun w0 ro may fx => ?_
 refine top_k fun zZ zhZ => ?_
 refine sr_k fun zK zhK => ?_
 simp only [go_sem]
 repeat' (first | apply And.intro | intro _)
 refine zhK _ ?_
 refine sr_k fun zK zhK => ?_
 simp only [go_sem]
 repeat' (first | apply And.intro | intro _)
 refine zhK _ ?_
 refine sr_k fun zK zhK => ?_
 simp only [go_sem]
 repeat' (first | apply And.intro | intro _)
 all_goals (refine call_fn (caps := [5]) false [(500001, 5), (500000, 500000)] (fun k => k) ?_ ?_ (fun _ _ => rfl) ?_ (by decide) ?_ (turnc_1_6_12 x0 x1 x2 x3 x4 x5 x6 x7 x8 x9 x10 x11 x12 x13 x14 x15 16 (.inl rfl)) ?_; iterate 4 (focus (first | rfl | (simp only [go_sem] <;> first | done | rfl | simp))))
 all_goals (rintro v m ⟨hR, hm⟩; subst hR; subst hm)
 all_goals (refine And.intro ?_ (And.intro ?_ (And.intro ?_ ?_)); iterate 3 (focus (first | rfl | (simp only [go_sem]; done) | (simp [go_sem, look]; done))))
 all_goals (try simp only [go_sem])
 all_goals (try simp only [go_sem])
 all_goals repeat' (first | apply And.intro | intro _)
 refine zhK _ ?_
 refine sr_k fun zK zhK => ?_
 simp only [go_sem]
 repeat' (first | apply And.intro | intro _)
 all_goals (refine call_fn (caps := [5]) false [(500001, 5), (500000, 500000)] (fun k => k) ?_ ?_ (fun _ _ => rfl) ?_ (by decide) ?_ (turnc_11_12_6 x0 (x1 + x6) x2 x3 x4 x5 x6 x7 x8 x9 x10 x11 (rot32 (x12 ^^^ (x1 + x6)) 16) x13 x14 x15 12 (.inr (.inl rfl))) ?_; iterate 4 (focus (first | rfl | (simp only [go_sem] <;> first | done | rfl | simp))))
 all_goals (rintro v m ⟨hR, hm⟩; subst hR; subst hm)
 all_goals (refine And.intro ?_ (And.intro ?_ (And.intro ?_ ?_)); iterate 3 (focus (first | rfl | (simp only [go_sem]; done) | (simp [go_sem, look]; done))))
 all_goals (try simp only [go_sem])
 all_goals (try simp only [go_sem])
 all_goals repeat' (first | apply And.intro | intro _)
 refine zhK _ ?_
 refine sr_k fun zK zhK => ?_
 simp only [go_sem]
 repeat' (first | apply And.intro | intro _)
 all_goals (refine call_fn (caps := [5]) false [(500001, 5), (500000, 500000)] (fun k => k) ?_ ?_ (fun _ _ => rfl) ?_ (by decide) ?_ (turnc_1_6_12 x0 (x1 + x6) x2 x3 x4 x5 (rot32 (x6 ^^^ (x11 + (rot32 (x12 ^^^ (x1 + x6)) 16))) 12) x7 x8 x9 x10 (x11 + (rot32 (x12 ^^^ (x1 + x6)) 16)) (rot32 (x12 ^^^ (x1 + x6)) 16) x13 x14 x15 8 (.inr (.inr (.inl rfl)))) ?_; iterate 4 (focus (first | rfl | (simp only [go_sem] <;> first | done | rfl | simp))))
 all_goals (rintro v m ⟨hR, hm⟩; subst hR; subst hm)
 all_goals (refine And.intro ?_ (And.intro ?_ (And.intro ?_ ?_)); iterate 3 (focus (first | rfl | (simp only [go_sem]; done) | (simp [go_sem, look]; done))))
 all_goals (try simp only [go_sem])
 all_goals (try simp only [go_sem])
 all_goals repeat' (first | apply And.intro | intro _)
 refine zhK _ ?_
 refine region_k fun zK zhK => ?_
 simp only [go_sem]
 repeat' (first | apply And.intro | intro _)
 all_goals (refine call_fn (caps := [5]) false [(500001, 5), (500000, 500000)] (fun k => k) ?_ ?_ (fun _ _ => rfl) ?_ (by decide) ?_ (turnc_11_12_6 x0 ((x1 + x6) + (rot32 (x6 ^^^ (x11 + (rot32 (x12 ^^^ (x1 + x6)) 16))) 12)) x2 x3 x4 x5 (rot32 (x6 ^^^ (x11 + (rot32 (x12 ^^^ (x1 + x6)) 16))) 12) x7 x8 x9 x10 (x11 + (rot32 (x12 ^^^ (x1 + x6)) 16)) (rot32 ((rot32 (x12 ^^^ (x1 + x6)) 16) ^^^ ((x1 + x6) + (rot32 (x6 ^^^ (x11 + (rot32 (x12 ^^^ (x1 + x6)) 16))) 12))) 8) x13 x14 x15 7 (.inr (.inr (.inr rfl)))) ?_; iterate 4 (focus (first | rfl | (simp only [go_sem] <;> first | done | rfl | simp))))
 all_goals (rintro v m ⟨hR, hm⟩; subst hR; subst hm)
 all_goals (refine And.intro ?_ (And.intro ?_ (And.intro ?_ ?_)); iterate 3 (focus (first | rfl | (simp only [go_sem]; done) | (simp [go_sem, look]; done))))
 all_goals (try simp only [go_sem])
 all_goals (try simp only [go_sem])
 all_goals repeat' (first | apply And.intro | intro _)
 refine zhK _ ?_
 refine zhZ _ _ ?_
 simp only [go_sem]
 all_goals (exact told_keep rfl (keep_one (by simp [look]; try exact ⟨rfl, rfl, rfl, rfl⟩)) ⟨rfl, rfl⟩)
theorem quarter_5 (x0 x1 x2 x3 x4 x5 x6 x7 x8 x9 x10 x11 x12 x13 x14 x15 : UInt32) : CtM Try.prog 48 [.w (.one (.p 500000 [])), .w (.one (.pl (.i 1))), .w (.one (.pl (.i 6))), .w (.one (.pl (.i 11))), .w (.one (.pl (.i 12)))] [(500000, ⟨false, [.pl (.u32 x0), .pl (.u32 x1), .pl (.u32 x2), .pl (.u32 x3), .pl (.u32 x4), .pl (.u32 x5), .pl (.u32 x6), .pl (.u32 x7), .pl (.u32 x8), .pl (.u32 x9), .pl (.u32 x10), .pl (.u32 x11), .pl (.u32 x12), .pl (.u32 x13), .pl (.u32 x14), .pl (.u32 x15)]⟩)] (fun v m => v = .tup [] ∧ m = [(500000, ⟨false, [.pl (.u32 x0), .pl (.u32 (qA x1 x6 x11 x12)), .pl (.u32 x2), .pl (.u32 x3), .pl (.u32 x4), .pl (.u32 x5), .pl (.u32 (qB x1 x6 x11 x12)), .pl (.u32 x7), .pl (.u32 x8), .pl (.u32 x9), .pl (.u32 x10), .pl (.u32 (qC x1 x6 x11 x12)), .pl (.u32 (qD x1 x6 x11 x12)), .pl (.u32 x13), .pl (.u32 x14), .pl (.u32 x15)]⟩)]) := (quarter_5_ x0 x1 x2 x3 x4 x5 x6 x7 x8 x9 x10 x11 x12 x13 x14 x15).told
set_option maxHeartbeats 800000 in
theorem quarter_6_ (x0 x1 x2 x3 x4 x5 x6 x7 x8 x9 x10 x11 x12 x13 x14 x15 : UInt32) :
 CtM Try.prog 48 [.w (.one (.p 500000 [])), .w (.one (.pl (.i 2))), .w (.one (.pl (.i 7))), .w (.one (.pl (.i 8))), .w (.one (.pl (.i 13)))] [(500000, ⟨false, [.pl (.u32 x0), .pl (.u32 x1), .pl (.u32 x2), .pl (.u32 x3), .pl (.u32 x4), .pl (.u32 x5), .pl (.u32 x6), .pl (.u32 x7), .pl (.u32 x8), .pl (.u32 x9), .pl (.u32 x10), .pl (.u32 x11), .pl (.u32 x12), .pl (.u32 x13), .pl (.u32 x14), .pl (.u32 x15)]⟩)] (Told (fun v m => v = .tup [] ∧ m = [(500000, ⟨false, [.pl (.u32 x0), .pl (.u32 x1), .pl (.u32 (qA x2 x7 x8 x13)), .pl (.u32 x3), .pl (.u32 x4), .pl (.u32 x5), .pl (.u32 x6), .pl (.u32 (qB x2 x7 x8 x13)), .pl (.u32 (qC x2 x7 x8 x13)), .pl (.u32 x9), .pl (.u32 x10), .pl (.u32 x11), .pl (.u32 x12), .pl (.u32 (qD x2 x7 x8 x13)), .pl (.u32 x14), .pl (.u32 x15)]⟩)])) := by
 refine CtM.k Try.func48 rfl Try.ntmps48 (congrArg Array.toList Try.results48) (by simp) fun w0 ro may fx => ?_
 refine top_k fun zZ zhZ => ?_
 refine sr_k fun zK zhK => ?_
 simp only [go_sem]
 repeat' (first | apply And.intro | intro _)
 refine zhK _ ?_
 refine sr_k fun zK zhK => ?_
 simp only [go_sem]
 repeat' (first | apply And.intro | intro _)
 refine zhK _ ?_
 refine sr_k fun zK zhK => ?_
 simp only [go_sem]
 repeat' (first | apply And.intro | intro _)
 all_goals (refine call_fn (caps := [5]) false [(500001, 5), (500000, 500000)] (fun k => k) ?_ ?_ (fun _ _ => rfl) ?_ (by decide) ?_ (turnc_2_7_13 x0 x1 x2 x3 x4 x5 x6 x7 x8 x9 x10 x11 x12 x13 x14 x15 16 (.inl rfl)) ?_; iterate 4 (focus (first | rfl | (simp only [go_sem] <;> first | done | rfl | simp))))
 all_goals (rintro v m ⟨hR, hm⟩; subst hR; subst hm)
 all_goals (refine And.intro ?_ (And.intro ?_ (And.intro ?_ ?_)); iterate 3 (focus (first | rfl | (simp only [go_sem]; done) | (simp [go_sem, look]; done))))
 all_goals (try simp only [go_sem])
 all_goals (try simp only [go_sem])
 all_goals repeat' (first | apply And.intro | intro _)
 refine zhK _ ?_
 refine sr_k fun zK zhK => ?_
 simp only [go_sem]
 repeat' (first | apply And.intro | intro _)
 all_goals (refine call_fn (caps := [5]) false [(500001, 5), (500000, 500000)] (fun k => k) ?_ ?_ (fun _ _ => rfl) ?_ (by decide) ?_ (turnc_8_13_7 x0 x1 (x2 + x7) x3 x4 x5 x6 x7 x8 x9 x10 x11 x12 (rot32 (x13 ^^^ (x2 + x7)) 16) x14 x15 12 (.inr (.inl rfl))) ?_; iterate 4 (focus (first | rfl | (simp only [go_sem] <;> first | done | rfl | simp))))
 all_goals (rintro v m ⟨hR, hm⟩; subst hR; subst hm)
 all_goals (refine And.intro ?_ (And.intro ?_ (And.intro ?_ ?_)); iterate 3 (focus (first | rfl | (simp only [go_sem]; done) | (simp [go_sem, look]; done))))
 all_goals (try simp only [go_sem])
 all_goals (try simp only [go_sem])
 all_goals repeat' (first | apply And.intro | intro _)
 refine zhK _ ?_
 refine sr_k fun zK zhK => ?_
 simp only [go_sem]
 repeat' (first | apply And.intro | intro _)
 all_goals (refine call_fn (caps := [5]) false [(500001, 5), (500000, 500000)] (fun k => k) ?_ ?_ (fun _ _ => rfl) ?_ (by decide) ?_ (turnc_2_7_13 x0 x1 (x2 + x7) x3 x4 x5 x6 (rot32 (x7 ^^^ (x8 + (rot32 (x13 ^^^ (x2 + x7)) 16))) 12) (x8 + (rot32 (x13 ^^^ (x2 + x7)) 16)) x9 x10 x11 x12 (rot32 (x13 ^^^ (x2 + x7)) 16) x14 x15 8 (.inr (.inr (.inl rfl)))) ?_; iterate 4 (focus (first | rfl | (simp only [go_sem] <;> first | done | rfl | simp))))
 all_goals (rintro v m ⟨hR, hm⟩; subst hR; subst hm)
 all_goals (refine And.intro ?_ (And.intro ?_ (And.intro ?_ ?_)); iterate 3 (focus (first | rfl | (simp only [go_sem]; done) | (simp [go_sem, look]; done))))
 all_goals (try simp only [go_sem])
 all_goals (try simp only [go_sem])
 all_goals repeat' (first | apply And.intro | intro _)
 refine zhK _ ?_
 refine region_k fun zK zhK => ?_
 simp only [go_sem]
 repeat' (first | apply And.intro | intro _)
 all_goals (refine call_fn (caps := [5]) false [(500001, 5), (500000, 500000)] (fun k => k) ?_ ?_ (fun _ _ => rfl) ?_ (by decide) ?_ (turnc_8_13_7 x0 x1 ((x2 + x7) + (rot32 (x7 ^^^ (x8 + (rot32 (x13 ^^^ (x2 + x7)) 16))) 12)) x3 x4 x5 x6 (rot32 (x7 ^^^ (x8 + (rot32 (x13 ^^^ (x2 + x7)) 16))) 12) (x8 + (rot32 (x13 ^^^ (x2 + x7)) 16)) x9 x10 x11 x12 (rot32 ((rot32 (x13 ^^^ (x2 + x7)) 16) ^^^ ((x2 + x7) + (rot32 (x7 ^^^ (x8 + (rot32 (x13 ^^^ (x2 + x7)) 16))) 12))) 8) x14 x15 7 (.inr (.inr (.inr rfl)))) ?_; iterate 4 (focus (first | rfl | (simp only [go_sem] <;> first | done | rfl | simp))))
 all_goals (rintro v m ⟨hR, hm⟩; subst hR; subst hm)
 all_goals (refine And.intro ?_ (And.intro ?_ (And.intro ?_ ?_)); iterate 3 (focus (first | rfl | (simp only [go_sem]; done) | (simp [go_sem, look]; done))))
 all_goals (try simp only [go_sem])
 all_goals (try simp only [go_sem])
 all_goals repeat' (first | apply And.intro | intro _)
 refine zhK _ ?_
 refine zhZ _ _ ?_
 simp only [go_sem]
 all_goals (exact told_keep rfl (keep_one (by simp [look]; try exact ⟨rfl, rfl, rfl, rfl⟩)) ⟨rfl, rfl⟩)
theorem quarter_6 (x0 x1 x2 x3 x4 x5 x6 x7 x8 x9 x10 x11 x12 x13 x14 x15 : UInt32) : CtM Try.prog 48 [.w (.one (.p 500000 [])), .w (.one (.pl (.i 2))), .w (.one (.pl (.i 7))), .w (.one (.pl (.i 8))), .w (.one (.pl (.i 13)))] [(500000, ⟨false, [.pl (.u32 x0), .pl (.u32 x1), .pl (.u32 x2), .pl (.u32 x3), .pl (.u32 x4), .pl (.u32 x5), .pl (.u32 x6), .pl (.u32 x7), .pl (.u32 x8), .pl (.u32 x9), .pl (.u32 x10), .pl (.u32 x11), .pl (.u32 x12), .pl (.u32 x13), .pl (.u32 x14), .pl (.u32 x15)]⟩)] (fun v m => v = .tup [] ∧ m = [(500000, ⟨false, [.pl (.u32 x0), .pl (.u32 x1), .pl (.u32 (qA x2 x7 x8 x13)), .pl (.u32 x3), .pl (.u32 x4), .pl (.u32 x5), .pl (.u32 x6), .pl (.u32 (qB x2 x7 x8 x13)), .pl (.u32 (qC x2 x7 x8 x13)), .pl (.u32 x9), .pl (.u32 x10), .pl (.u32 x11), .pl (.u32 x12), .pl (.u32 (qD x2 x7 x8 x13)), .pl (.u32 x14), .pl (.u32 x15)]⟩)]) := (quarter_6_ x0 x1 x2 x3 x4 x5 x6 x7 x8 x9 x10 x11 x12 x13 x14 x15).told
set_option maxHeartbeats 800000 in
theorem quarter_7_ (x0 x1 x2 x3 x4 x5 x6 x7 x8 x9 x10 x11 x12 x13 x14 x15 : UInt32) :
 CtM Try.prog 48 [.w (.one (.p 500000 [])), .w (.one (.pl (.i 3))), .w (.one (.pl (.i 4))), .w (.one (.pl (.i 9))), .w (.one (.pl (.i 14)))] [(500000, ⟨false, [.pl (.u32 x0), .pl (.u32 x1), .pl (.u32 x2), .pl (.u32 x3), .pl (.u32 x4), .pl (.u32 x5), .pl (.u32 x6), .pl (.u32 x7), .pl (.u32 x8), .pl (.u32 x9), .pl (.u32 x10), .pl (.u32 x11), .pl (.u32 x12), .pl (.u32 x13), .pl (.u32 x14), .pl (.u32 x15)]⟩)] (Told (fun v m => v = .tup [] ∧ m = [(500000, ⟨false, [.pl (.u32 x0), .pl (.u32 x1), .pl (.u32 x2), .pl (.u32 (qA x3 x4 x9 x14)), .pl (.u32 (qB x3 x4 x9 x14)), .pl (.u32 x5), .pl (.u32 x6), .pl (.u32 x7), .pl (.u32 x8), .pl (.u32 (qC x3 x4 x9 x14)), .pl (.u32 x10), .pl (.u32 x11), .pl (.u32 x12), .pl (.u32 x13), .pl (.u32 (qD x3 x4 x9 x14)), .pl (.u32 x15)]⟩)])) := by
 refine CtM.k Try.func48 rfl Try.ntmps48 (congrArg Array.toList Try.results48) (by simp) fun w0 ro may fx => ?_
 refine top_k fun zZ zhZ => ?_
 refine sr_k fun zK zhK => ?_
 simp only [go_sem]
 repeat' (first | apply And.intro | intro _)
 refine zhK _ ?_
 refine sr_k fun zK zhK => ?_
 simp only [go_sem]
 repeat' (first | apply And.intro | intro _)
 refine zhK _ ?_
 refine sr_k fun zK zhK => ?_
 simp only [go_sem]
 repeat' (first | apply And.intro | intro _)
 all_goals (refine call_fn (caps := [5]) false [(500001, 5), (500000, 500000)] (fun k => k) ?_ ?_ (fun _ _ => rfl) ?_ (by decide) ?_ (turnc_3_4_14 x0 x1 x2 x3 x4 x5 x6 x7 x8 x9 x10 x11 x12 x13 x14 x15 16 (.inl rfl)) ?_; iterate 4 (focus (first | rfl | (simp only [go_sem] <;> first | done | rfl | simp))))
 all_goals (rintro v m ⟨hR, hm⟩; subst hR; subst hm)
 all_goals (refine And.intro ?_ (And.intro ?_ (And.intro ?_ ?_)); iterate 3 (focus (first | rfl | (simp only [go_sem]; done) | (simp [go_sem, look]; done))))
 all_goals (try simp only [go_sem])
 all_goals (try simp only [go_sem])
 all_goals repeat' (first | apply And.intro | intro _)
 refine zhK _ ?_
 refine sr_k fun zK zhK => ?_
 simp only [go_sem]
 repeat' (first | apply And.intro | intro _)
 all_goals (refine call_fn (caps := [5]) false [(500001, 5), (500000, 500000)] (fun k => k) ?_ ?_ (fun _ _ => rfl) ?_ (by decide) ?_ (turnc_9_14_4 x0 x1 x2 (x3 + x4) x4 x5 x6 x7 x8 x9 x10 x11 x12 x13 (rot32 (x14 ^^^ (x3 + x4)) 16) x15 12 (.inr (.inl rfl))) ?_; iterate 4 (focus (first | rfl | (simp only [go_sem] <;> first | done | rfl | simp))))
 all_goals (rintro v m ⟨hR, hm⟩; subst hR; subst hm)
 all_goals (refine And.intro ?_ (And.intro ?_ (And.intro ?_ ?_)); iterate 3 (focus (first | rfl | (simp only [go_sem]; done) | (simp [go_sem, look]; done))))
 all_goals (try simp only [go_sem])
 all_goals (try simp only [go_sem])
 all_goals repeat' (first | apply And.intro | intro _)
 refine zhK _ ?_
 refine sr_k fun zK zhK => ?_
 simp only [go_sem]
 repeat' (first | apply And.intro | intro _)
 all_goals (refine call_fn (caps := [5]) false [(500001, 5), (500000, 500000)] (fun k => k) ?_ ?_ (fun _ _ => rfl) ?_ (by decide) ?_ (turnc_3_4_14 x0 x1 x2 (x3 + x4) (rot32 (x4 ^^^ (x9 + (rot32 (x14 ^^^ (x3 + x4)) 16))) 12) x5 x6 x7 x8 (x9 + (rot32 (x14 ^^^ (x3 + x4)) 16)) x10 x11 x12 x13 (rot32 (x14 ^^^ (x3 + x4)) 16) x15 8 (.inr (.inr (.inl rfl)))) ?_; iterate 4 (focus (first | rfl | (simp only [go_sem] <;> first | done | rfl | simp))))
 all_goals (rintro v m ⟨hR, hm⟩; subst hR; subst hm)
 all_goals (refine And.intro ?_ (And.intro ?_ (And.intro ?_ ?_)); iterate 3 (focus (first | rfl | (simp only [go_sem]; done) | (simp [go_sem, look]; done))))
 all_goals (try simp only [go_sem])
 all_goals (try simp only [go_sem])
 all_goals repeat' (first | apply And.intro | intro _)
 refine zhK _ ?_
 refine region_k fun zK zhK => ?_
 simp only [go_sem]
 repeat' (first | apply And.intro | intro _)
 all_goals (refine call_fn (caps := [5]) false [(500001, 5), (500000, 500000)] (fun k => k) ?_ ?_ (fun _ _ => rfl) ?_ (by decide) ?_ (turnc_9_14_4 x0 x1 x2 ((x3 + x4) + (rot32 (x4 ^^^ (x9 + (rot32 (x14 ^^^ (x3 + x4)) 16))) 12)) (rot32 (x4 ^^^ (x9 + (rot32 (x14 ^^^ (x3 + x4)) 16))) 12) x5 x6 x7 x8 (x9 + (rot32 (x14 ^^^ (x3 + x4)) 16)) x10 x11 x12 x13 (rot32 ((rot32 (x14 ^^^ (x3 + x4)) 16) ^^^ ((x3 + x4) + (rot32 (x4 ^^^ (x9 + (rot32 (x14 ^^^ (x3 + x4)) 16))) 12))) 8) x15 7 (.inr (.inr (.inr rfl)))) ?_; iterate 4 (focus (first | rfl | (simp only [go_sem] <;> first | done | rfl | simp))))
 all_goals (rintro v m ⟨hR, hm⟩; subst hR; subst hm)
 all_goals (refine And.intro ?_ (And.intro ?_ (And.intro ?_ ?_)); iterate 3 (focus (first | rfl | (simp only [go_sem]; done) | (simp [go_sem, look]; done))))
 all_goals (try simp only [go_sem])
 all_goals (try simp only [go_sem])
 all_goals repeat' (first | apply And.intro | intro _)
 refine zhK _ ?_
 refine zhZ _ _ ?_
 simp only [go_sem]
 all_goals (exact told_keep rfl (keep_one (by simp [look]; try exact ⟨rfl, rfl, rfl, rfl⟩)) ⟨rfl, rfl⟩)
theorem quarter_7 (x0 x1 x2 x3 x4 x5 x6 x7 x8 x9 x10 x11 x12 x13 x14 x15 : UInt32) : CtM Try.prog 48 [.w (.one (.p 500000 [])), .w (.one (.pl (.i 3))), .w (.one (.pl (.i 4))), .w (.one (.pl (.i 9))), .w (.one (.pl (.i 14)))] [(500000, ⟨false, [.pl (.u32 x0), .pl (.u32 x1), .pl (.u32 x2), .pl (.u32 x3), .pl (.u32 x4), .pl (.u32 x5), .pl (.u32 x6), .pl (.u32 x7), .pl (.u32 x8), .pl (.u32 x9), .pl (.u32 x10), .pl (.u32 x11), .pl (.u32 x12), .pl (.u32 x13), .pl (.u32 x14), .pl (.u32 x15)]⟩)] (fun v m => v = .tup [] ∧ m = [(500000, ⟨false, [.pl (.u32 x0), .pl (.u32 x1), .pl (.u32 x2), .pl (.u32 (qA x3 x4 x9 x14)), .pl (.u32 (qB x3 x4 x9 x14)), .pl (.u32 x5), .pl (.u32 x6), .pl (.u32 x7), .pl (.u32 x8), .pl (.u32 (qC x3 x4 x9 x14)), .pl (.u32 x10), .pl (.u32 x11), .pl (.u32 x12), .pl (.u32 x13), .pl (.u32 (qD x3 x4 x9 x14)), .pl (.u32 x15)]⟩)]) := (quarter_7_ x0 x1 x2 x3 x4 x5 x6 x7 x8 x9 x10 x11 x12 x13 x14 x15).told
end Go.Sy

