/- Numbers of bytes. -/
import Derived.Test.YthngiogkogeigaaDoorvhK8
import Derived.Test.YthngiogkogeigaaDoorvQ9
set_option linter.unusedVariables false
set_option linter.unusedSimpArgs false
namespace Go.Sy
open Go.Proofs
attribute [local irreducible] atCall HT runOps runD onC onE onO onG goV goA goS onSt onGuard
set_option maxHeartbeats 3200000 in
set_option maxRecDepth 100000 in
theorem from_x (x0 x1 x2 x3 x4 x5 x6 x7 x8 x9 x10 x11 x12 x13 x14 x15 x16 x17 x18 x19 x20 x21 x22 x23 x24 x25 x26 x27 x28 x29 x30 x31 : UInt8) :
 CtM Tryd.prog 11 [.w (.agg [.pl (.u8 x0), .pl (.u8 x1), .pl (.u8 x2), .pl (.u8 x3), .pl (.u8 x4), .pl (.u8 x5), .pl (.u8 x6), .pl (.u8 x7), .pl (.u8 x8), .pl (.u8 x9), .pl (.u8 x10), .pl (.u8 x11), .pl (.u8 x12), .pl (.u8 x13), .pl (.u8 x14), .pl (.u8 x15), .pl (.u8 x16), .pl (.u8 x17), .pl (.u8 x18), .pl (.u8 x19), .pl (.u8 x20), .pl (.u8 x21), .pl (.u8 x22), .pl (.u8 x23), .pl (.u8 x24), .pl (.u8 x25), .pl (.u8 x26), .pl (.u8 x27), .pl (.u8 x28), .pl (.u8 x29), .pl (.u8 x30), .pl (.u8 x31)])] [(1000001, ⟨false, [.pl (.u64 18446744073709551597), .pl (.u64 18446744073709551615), .pl (.u64 18446744073709551615), .pl (.u64 9223372036854775807)]⟩)] (Told (fun v m => v = .w (.agg (w4C (vQ (orW x0 x1 x2 x3 x4 x5 x6 x7) (orW x8 x9 x10 x11 x12 x13 x14 x15) (orW x16 x17 x18 x19 x20 x21 x22 x23) (orW x24 x25 x26 x27 x28 x29 x30 x31 &&& 9223372036854775807) % p25))) ∧ m = [])) := by
 obtain ⟨o0, ho0⟩ : ∃ z, orW x0 x1 x2 x3 x4 x5 x6 x7 = z := ⟨_, rfl⟩
 obtain ⟨o1, ho1⟩ : ∃ z, orW x8 x9 x10 x11 x12 x13 x14 x15 = z := ⟨_, rfl⟩
 obtain ⟨o2, ho2⟩ : ∃ z, orW x16 x17 x18 x19 x20 x21 x22 x23 = z := ⟨_, rfl⟩
 obtain ⟨o3, ho3⟩ : ∃ z, orW x24 x25 x26 x27 x28 x29 x30 x31 &&& 9223372036854775807 = z := ⟨_, rfl⟩
 have hw0 : (0 ||| shl64 (x0.toUInt64) 0 ||| shl64 (x1.toUInt64) 8 ||| shl64 (x2.toUInt64) 16 ||| shl64 (x3.toUInt64) 24 ||| shl64 (x4.toUInt64) 32 ||| shl64 (x5.toUInt64) 40 ||| shl64 (x6.toUInt64) 48 ||| shl64 (x7.toUInt64) 56) = o0 := ho0
 have hw1 : (0 ||| shl64 (x8.toUInt64) 0 ||| shl64 (x9.toUInt64) 8 ||| shl64 (x10.toUInt64) 16 ||| shl64 (x11.toUInt64) 24 ||| shl64 (x12.toUInt64) 32 ||| shl64 (x13.toUInt64) 40 ||| shl64 (x14.toUInt64) 48 ||| shl64 (x15.toUInt64) 56) = o1 := ho1
 have hw2 : (0 ||| shl64 (x16.toUInt64) 0 ||| shl64 (x17.toUInt64) 8 ||| shl64 (x18.toUInt64) 16 ||| shl64 (x19.toUInt64) 24 ||| shl64 (x20.toUInt64) 32 ||| shl64 (x21.toUInt64) 40 ||| shl64 (x22.toUInt64) 48 ||| shl64 (x23.toUInt64) 56) = o2 := ho2
 obtain ⟨o4, ho4⟩ : ∃ z, orW x24 x25 x26 x27 x28 x29 x30 x31 = z := ⟨_, rfl⟩
 have hw4 : (0 ||| shl64 (x24.toUInt64) 0 ||| shl64 (x25.toUInt64) 8 ||| shl64 (x26.toUInt64) 16 ||| shl64 (x27.toUInt64) 24 ||| shl64 (x28.toUInt64) 32 ||| shl64 (x29.toUInt64) 40 ||| shl64 (x30.toUInt64) 48 ||| shl64 (x31.toUInt64) 56) = o4 := ho4
 have hw3 : o4 &&& 9223372036854775807 = o3 := by rw [← ho3, ← ho4]
 rw [ho0, ho1, ho2, ho3]
 have hS := settled_ o0 o1 o2 o3
 obtain ⟨s0, s1, s2, s3, hs, hvs⟩ := w4_get (vQ o0 o1 o2 o3 % p25) (mod_m4 _)
 have hus : u64C [s0, s1, s2, s3] = [.pl (.u64 s0), .pl (.u64 s1), .pl (.u64 s2), .pl (.u64 s3)] := rfl
 simp only [w4C, hs, hus] at hS ⊢
 have F0 := And.intro hw0 <| And.intro hw1 <| And.intro hw2 <| And.intro hw3 <| hw4
 refine CtM.k Tryd.func11 rfl Tryd.ntmps11 (congrArg Array.toList Tryd.results11) (by simp) fun w0 ro may fx => ?_
 refine sr_k fun K1 hK1 => ?_
 simp only [go_sem, Int.toNat_one, Int.reduceTMod, Int.reduceTDiv, Int.mul_zero, F0]
 repeat' (first | apply And.intro | intro _)
 refine hK1 _ ?_
 refine sr_k fun K2 hK2 => ?_
 simp only [go_sem, Int.toNat_one, Int.reduceTMod, Int.reduceTDiv, Int.mul_zero, F0]
 repeat' (first | apply And.intro | intro _)
 refine hK2 _ ?_
 refine seq_k fun N3 M3 hN3 hM3 => ?_
 refine sr_k fun K4 hK4 => ?_
 simp only [go_sem, Int.toNat_one, Int.reduceTMod, Int.reduceTDiv, Int.mul_zero, F0]
 repeat' (first | apply And.intro | intro _)
 refine hK4 _ ?_
 refine block_k fun B5 bn5 bx5 br5 bi5 => ?_
 refine rounds_k 33 ?_
 refine rnd_k fun N7 M7 hN7 hM7 => ?_
 refine sr_k fun K8 hK8 => ?_
 simp only [go_sem, Int.toNat_one, Int.reduceTMod, Int.reduceTDiv, Int.mul_zero, F0]
 repeat' (first | apply And.intro | intro _)
 refine hK8 _ ?_
 refine seq_k fun N9 M9 hN9 hM9 => ?_
 refine condT_k (by first | rfl | (simp [go_sem, Int.toNat_one, Int.reduceTMod, Int.reduceTDiv, Int.mul_zero, F0]; done)) ?_
 refine skip_k ?_
 refine hN9 _ ?_
 refine seq_k fun N10 M10 hN10 hM10 => ?_
 refine block_k fun B11 bn11 bx11 br11 bi11 => ?_
 refine sr_k fun K12 hK12 => ?_
 simp only [go_sem, Int.toNat_one, Int.reduceTMod, Int.reduceTDiv, Int.mul_zero, F0]
 repeat' (first | apply And.intro | intro _)
 refine hK12 _ ?_
 refine draw_k [11, 12, 13, 14, 15, 16, 17, 18, 19, 20, 21, 22] [0, 1, 3, 7, 0, 16, 0, 64, 192, 496, 1023, 2047, 4095] [] mixed (by kernel_rfl) (by simp only [go_sem]) fun K13 hK13 => ?_
 simp only [go_sem, Int.toNat_one, Int.reduceTMod, Int.reduceTDiv, Int.mul_zero, F0]
 repeat' (first | apply And.intro | intro _)
 refine hK13 _ _ trivial ?_
 refine bn11 _ ?_
 refine hN10 _ ?_
 refine region_k fun K14 hK14 => ?_
 simp only [go_sem, Int.toNat_one, Int.reduceTMod, Int.reduceTDiv, Int.mul_zero, F0]
 repeat' (first | apply And.intro | intro _)
 refine hK14 _ ?_
 refine hN7 _ ?_
 refine rnd_forget [4, 5, 8, 9, 10, 11, 12, 13, 14, 15, 16, 17, 18, 19, 20, 21, 22, 23] ?_
 simp only [go_sem, St.forget, fgt]
 refine rnd_k fun N15 M15 hN15 hM15 => ?_
 refine sr_k fun K16 hK16 => ?_
 simp only [go_sem, Int.toNat_one, Int.reduceTMod, Int.reduceTDiv, Int.mul_zero, F0]
 repeat' (first | apply And.intro | intro _)
 refine hK16 _ ?_
 refine seq_k fun N17 M17 hN17 hM17 => ?_
 refine condT_k (by first | rfl | (simp [go_sem, Int.toNat_one, Int.reduceTMod, Int.reduceTDiv, Int.mul_zero, F0]; done)) ?_
 refine skip_k ?_
 refine hN17 _ ?_
 refine seq_k fun N18 M18 hN18 hM18 => ?_
 refine block_k fun B19 bn19 bx19 br19 bi19 => ?_
 refine sr_k fun K20 hK20 => ?_
 simp only [go_sem, Int.toNat_one, Int.reduceTMod, Int.reduceTDiv, Int.mul_zero, F0]
 repeat' (first | apply And.intro | intro _)
 refine hK20 _ ?_
 refine draw_k [11, 12, 13, 14, 15, 16, 17, 18, 19, 20, 21, 22] [0, 1, 3, 7, 0, 16, 0, 64, 192, 496, 1023, 2047, 4095] [] mixed (by kernel_rfl) (by simp only [go_sem]) fun K21 hK21 => ?_
 simp only [go_sem, Int.toNat_one, Int.reduceTMod, Int.reduceTDiv, Int.mul_zero, F0]
 repeat' (first | apply And.intro | intro _)
 refine hK21 _ _ trivial ?_
 refine bn19 _ ?_
 refine hN18 _ ?_
 refine region_k fun K22 hK22 => ?_
 simp only [go_sem, Int.toNat_one, Int.reduceTMod, Int.reduceTDiv, Int.mul_zero, F0]
 repeat' (first | apply And.intro | intro _)
 refine hK22 _ ?_
 refine hN15 _ ?_
 refine rnd_forget [4, 5, 8, 9, 10, 11, 12, 13, 14, 15, 16, 17, 18, 19, 20, 21, 22, 23] ?_
 simp only [go_sem, St.forget, fgt]
 refine rnd_k fun N23 M23 hN23 hM23 => ?_
 refine sr_k fun K24 hK24 => ?_
 simp only [go_sem, Int.toNat_one, Int.reduceTMod, Int.reduceTDiv, Int.mul_zero, F0]
 repeat' (first | apply And.intro | intro _)
 refine hK24 _ ?_
 refine seq_k fun N25 M25 hN25 hM25 => ?_
 refine condT_k (by first | rfl | (simp [go_sem, Int.toNat_one, Int.reduceTMod, Int.reduceTDiv, Int.mul_zero, F0]; done)) ?_
 refine skip_k ?_
 refine hN25 _ ?_
 refine seq_k fun N26 M26 hN26 hM26 => ?_
 refine block_k fun B27 bn27 bx27 br27 bi27 => ?_
 refine sr_k fun K28 hK28 => ?_
 simp only [go_sem, Int.toNat_one, Int.reduceTMod, Int.reduceTDiv, Int.mul_zero, F0]
 repeat' (first | apply And.intro | intro _)
 refine hK28 _ ?_
 refine draw_k [11, 12, 13, 14, 15, 16, 17, 18, 19, 20, 21, 22] [0, 1, 3, 7, 0, 16, 0, 64, 192, 496, 1023, 2047, 4095] [] mixed (by kernel_rfl) (by simp only [go_sem]) fun K29 hK29 => ?_
 simp only [go_sem, Int.toNat_one, Int.reduceTMod, Int.reduceTDiv, Int.mul_zero, F0]
 repeat' (first | apply And.intro | intro _)
 refine hK29 _ _ trivial ?_
 refine bn27 _ ?_
 refine hN26 _ ?_
 refine region_k fun K30 hK30 => ?_
 simp only [go_sem, Int.toNat_one, Int.reduceTMod, Int.reduceTDiv, Int.mul_zero, F0]
 repeat' (first | apply And.intro | intro _)
 refine hK30 _ ?_
 refine hN23 _ ?_
 refine rnd_forget [4, 5, 8, 9, 10, 11, 12, 13, 14, 15, 16, 17, 18, 19, 20, 21, 22, 23] ?_
 simp only [go_sem, St.forget, fgt]
 refine rnd_k fun N31 M31 hN31 hM31 => ?_
 refine sr_k fun K32 hK32 => ?_
 simp only [go_sem, Int.toNat_one, Int.reduceTMod, Int.reduceTDiv, Int.mul_zero, F0]
 repeat' (first | apply And.intro | intro _)
 refine hK32 _ ?_
 refine seq_k fun N33 M33 hN33 hM33 => ?_
 refine condT_k (by first | rfl | (simp [go_sem, Int.toNat_one, Int.reduceTMod, Int.reduceTDiv, Int.mul_zero, F0]; done)) ?_
 refine skip_k ?_
 refine hN33 _ ?_
 refine seq_k fun N34 M34 hN34 hM34 => ?_
 refine block_k fun B35 bn35 bx35 br35 bi35 => ?_
 refine sr_k fun K36 hK36 => ?_
 simp only [go_sem, Int.toNat_one, Int.reduceTMod, Int.reduceTDiv, Int.mul_zero, F0]
 repeat' (first | apply And.intro | intro _)
 refine hK36 _ ?_
 refine draw_k [11, 12, 13, 14, 15, 16, 17, 18, 19, 20, 21, 22] [0, 1, 3, 7, 0, 16, 0, 64, 192, 496, 1023, 2047, 4095] [] mixed (by kernel_rfl) (by simp only [go_sem]) fun K37 hK37 => ?_
 simp only [go_sem, Int.toNat_one, Int.reduceTMod, Int.reduceTDiv, Int.mul_zero, F0]
 repeat' (first | apply And.intro | intro _)
 refine hK37 _ _ trivial ?_
 refine bn35 _ ?_
 refine hN34 _ ?_
 refine region_k fun K38 hK38 => ?_
 simp only [go_sem, Int.toNat_one, Int.reduceTMod, Int.reduceTDiv, Int.mul_zero, F0]
 repeat' (first | apply And.intro | intro _)
 refine hK38 _ ?_
 refine hN31 _ ?_
 refine rnd_forget [4, 5, 8, 9, 10, 11, 12, 13, 14, 15, 16, 17, 18, 19, 20, 21, 22, 23] ?_
 simp only [go_sem, St.forget, fgt]
 refine rnd_k fun N39 M39 hN39 hM39 => ?_
 refine sr_k fun K40 hK40 => ?_
 simp only [go_sem, Int.toNat_one, Int.reduceTMod, Int.reduceTDiv, Int.mul_zero, F0]
 repeat' (first | apply And.intro | intro _)
 refine hK40 _ ?_
 refine seq_k fun N41 M41 hN41 hM41 => ?_
 refine condT_k (by first | rfl | (simp [go_sem, Int.toNat_one, Int.reduceTMod, Int.reduceTDiv, Int.mul_zero, F0]; done)) ?_
 refine skip_k ?_
 refine hN41 _ ?_
 refine seq_k fun N42 M42 hN42 hM42 => ?_
 refine block_k fun B43 bn43 bx43 br43 bi43 => ?_
 refine sr_k fun K44 hK44 => ?_
 simp only [go_sem, Int.toNat_one, Int.reduceTMod, Int.reduceTDiv, Int.mul_zero, F0]
 repeat' (first | apply And.intro | intro _)
 refine hK44 _ ?_
 refine draw_k [11, 12, 13, 14, 15, 16, 17, 18, 19, 20, 21, 22] [0, 1, 3, 7, 0, 16, 0, 64, 192, 496, 1023, 2047, 4095] [] mixed (by kernel_rfl) (by simp only [go_sem]) fun K45 hK45 => ?_
 simp only [go_sem, Int.toNat_one, Int.reduceTMod, Int.reduceTDiv, Int.mul_zero, F0]
 repeat' (first | apply And.intro | intro _)
 refine hK45 _ _ trivial ?_
 refine bn43 _ ?_
 refine hN42 _ ?_
 refine region_k fun K46 hK46 => ?_
 simp only [go_sem, Int.toNat_one, Int.reduceTMod, Int.reduceTDiv, Int.mul_zero, F0]
 repeat' (first | apply And.intro | intro _)
 refine hK46 _ ?_
 refine hN39 _ ?_
 refine rnd_forget [4, 5, 8, 9, 10, 11, 12, 13, 14, 15, 16, 17, 18, 19, 20, 21, 22, 23] ?_
 simp only [go_sem, St.forget, fgt]
 refine rnd_k fun N47 M47 hN47 hM47 => ?_
 refine sr_k fun K48 hK48 => ?_
 simp only [go_sem, Int.toNat_one, Int.reduceTMod, Int.reduceTDiv, Int.mul_zero, F0]
 repeat' (first | apply And.intro | intro _)
 refine hK48 _ ?_
 refine seq_k fun N49 M49 hN49 hM49 => ?_
 refine condT_k (by first | rfl | (simp [go_sem, Int.toNat_one, Int.reduceTMod, Int.reduceTDiv, Int.mul_zero, F0]; done)) ?_
 refine skip_k ?_
 refine hN49 _ ?_
 refine seq_k fun N50 M50 hN50 hM50 => ?_
 refine block_k fun B51 bn51 bx51 br51 bi51 => ?_
 refine sr_k fun K52 hK52 => ?_
 simp only [go_sem, Int.toNat_one, Int.reduceTMod, Int.reduceTDiv, Int.mul_zero, F0]
 repeat' (first | apply And.intro | intro _)
 refine hK52 _ ?_
 refine draw_k [11, 12, 13, 14, 15, 16, 17, 18, 19, 20, 21, 22] [0, 1, 3, 7, 0, 16, 0, 64, 192, 496, 1023, 2047, 4095] [] mixed (by kernel_rfl) (by simp only [go_sem]) fun K53 hK53 => ?_
 simp only [go_sem, Int.toNat_one, Int.reduceTMod, Int.reduceTDiv, Int.mul_zero, F0]
 repeat' (first | apply And.intro | intro _)
 refine hK53 _ _ trivial ?_
 refine bn51 _ ?_
 refine hN50 _ ?_
 refine region_k fun K54 hK54 => ?_
 simp only [go_sem, Int.toNat_one, Int.reduceTMod, Int.reduceTDiv, Int.mul_zero, F0]
 repeat' (first | apply And.intro | intro _)
 refine hK54 _ ?_
 refine hN47 _ ?_
 refine rnd_forget [4, 5, 8, 9, 10, 11, 12, 13, 14, 15, 16, 17, 18, 19, 20, 21, 22, 23] ?_
 simp only [go_sem, St.forget, fgt]
 refine rnd_k fun N55 M55 hN55 hM55 => ?_
 refine sr_k fun K56 hK56 => ?_
 simp only [go_sem, Int.toNat_one, Int.reduceTMod, Int.reduceTDiv, Int.mul_zero, F0]
 repeat' (first | apply And.intro | intro _)
 refine hK56 _ ?_
 refine seq_k fun N57 M57 hN57 hM57 => ?_
 refine condT_k (by first | rfl | (simp [go_sem, Int.toNat_one, Int.reduceTMod, Int.reduceTDiv, Int.mul_zero, F0]; done)) ?_
 refine skip_k ?_
 refine hN57 _ ?_
 refine seq_k fun N58 M58 hN58 hM58 => ?_
 refine block_k fun B59 bn59 bx59 br59 bi59 => ?_
 refine sr_k fun K60 hK60 => ?_
 simp only [go_sem, Int.toNat_one, Int.reduceTMod, Int.reduceTDiv, Int.mul_zero, F0]
 repeat' (first | apply And.intro | intro _)
 refine hK60 _ ?_
 refine draw_k [11, 12, 13, 14, 15, 16, 17, 18, 19, 20, 21, 22] [0, 1, 3, 7, 0, 16, 0, 64, 192, 496, 1023, 2047, 4095] [] mixed (by kernel_rfl) (by simp only [go_sem]) fun K61 hK61 => ?_
 simp only [go_sem, Int.toNat_one, Int.reduceTMod, Int.reduceTDiv, Int.mul_zero, F0]
 repeat' (first | apply And.intro | intro _)
 refine hK61 _ _ trivial ?_
 refine bn59 _ ?_
 refine hN58 _ ?_
 refine region_k fun K62 hK62 => ?_
 simp only [go_sem, Int.toNat_one, Int.reduceTMod, Int.reduceTDiv, Int.mul_zero, F0]
 repeat' (first | apply And.intro | intro _)
 refine hK62 _ ?_
 refine hN55 _ ?_
 refine rnd_forget [4, 5, 8, 9, 10, 11, 12, 13, 14, 15, 16, 17, 18, 19, 20, 21, 22, 23] ?_
 simp only [go_sem, St.forget, fgt]
 refine rnd_k fun N63 M63 hN63 hM63 => ?_
 refine sr_k fun K64 hK64 => ?_
 simp only [go_sem, Int.toNat_one, Int.reduceTMod, Int.reduceTDiv, Int.mul_zero, F0]
 repeat' (first | apply And.intro | intro _)
 refine hK64 _ ?_
 refine seq_k fun N65 M65 hN65 hM65 => ?_
 refine condT_k (by first | rfl | (simp [go_sem, Int.toNat_one, Int.reduceTMod, Int.reduceTDiv, Int.mul_zero, F0]; done)) ?_
 refine skip_k ?_
 refine hN65 _ ?_
 refine seq_k fun N66 M66 hN66 hM66 => ?_
 refine block_k fun B67 bn67 bx67 br67 bi67 => ?_
 refine sr_k fun K68 hK68 => ?_
 simp only [go_sem, Int.toNat_one, Int.reduceTMod, Int.reduceTDiv, Int.mul_zero, F0]
 repeat' (first | apply And.intro | intro _)
 refine hK68 _ ?_
 refine draw_k [11, 12, 13, 14, 15, 16, 17, 18, 19, 20, 21, 22] [0, 1, 3, 7, 0, 16, 0, 64, 192, 496, 1023, 2047, 4095] [] mixed (by kernel_rfl) (by simp only [go_sem]) fun K69 hK69 => ?_
 simp only [go_sem, Int.toNat_one, Int.reduceTMod, Int.reduceTDiv, Int.mul_zero, F0]
 repeat' (first | apply And.intro | intro _)
 refine hK69 _ _ trivial ?_
 refine bn67 _ ?_
 refine hN66 _ ?_
 refine region_k fun K70 hK70 => ?_
 simp only [go_sem, Int.toNat_one, Int.reduceTMod, Int.reduceTDiv, Int.mul_zero, F0]
 repeat' (first | apply And.intro | intro _)
 refine hK70 _ ?_
 refine hN63 _ ?_
 refine rnd_forget [4, 5, 8, 9, 10, 11, 12, 13, 14, 15, 16, 17, 18, 19, 20, 21, 22, 23] ?_
 simp only [go_sem, St.forget, fgt]
 refine rnd_k fun N71 M71 hN71 hM71 => ?_
 refine sr_k fun K72 hK72 => ?_
 simp only [go_sem, Int.toNat_one, Int.reduceTMod, Int.reduceTDiv, Int.mul_zero, F0]
 repeat' (first | apply And.intro | intro _)
 refine hK72 _ ?_
 refine seq_k fun N73 M73 hN73 hM73 => ?_
 refine condT_k (by first | rfl | (simp [go_sem, Int.toNat_one, Int.reduceTMod, Int.reduceTDiv, Int.mul_zero, F0]; done)) ?_
 refine skip_k ?_
 refine hN73 _ ?_
 refine seq_k fun N74 M74 hN74 hM74 => ?_
 refine block_k fun B75 bn75 bx75 br75 bi75 => ?_
 refine sr_k fun K76 hK76 => ?_
 simp only [go_sem, Int.toNat_one, Int.reduceTMod, Int.reduceTDiv, Int.mul_zero, F0]
 repeat' (first | apply And.intro | intro _)
 refine hK76 _ ?_
 refine draw_k [11, 12, 13, 14, 15, 16, 17, 18, 19, 20, 21, 22] [0, 1, 3, 7, 0, 16, 0, 64, 192, 496, 1023, 2047, 4095] [] mixed (by kernel_rfl) (by simp only [go_sem]) fun K77 hK77 => ?_
 simp only [go_sem, Int.toNat_one, Int.reduceTMod, Int.reduceTDiv, Int.mul_zero, F0]
 repeat' (first | apply And.intro | intro _)
 refine hK77 _ _ trivial ?_
 refine bn75 _ ?_
 refine hN74 _ ?_
 refine region_k fun K78 hK78 => ?_
 simp only [go_sem, Int.toNat_one, Int.reduceTMod, Int.reduceTDiv, Int.mul_zero, F0]
 repeat' (first | apply And.intro | intro _)
 refine hK78 _ ?_
 refine hN71 _ ?_
 refine rnd_forget [4, 5, 8, 9, 10, 11, 12, 13, 14, 15, 16, 17, 18, 19, 20, 21, 22, 23] ?_
 simp only [go_sem, St.forget, fgt]
 refine rnd_k fun N79 M79 hN79 hM79 => ?_
 refine sr_k fun K80 hK80 => ?_
 simp only [go_sem, Int.toNat_one, Int.reduceTMod, Int.reduceTDiv, Int.mul_zero, F0]
 repeat' (first | apply And.intro | intro _)
 refine hK80 _ ?_
 refine seq_k fun N81 M81 hN81 hM81 => ?_
 refine condT_k (by first | rfl | (simp [go_sem, Int.toNat_one, Int.reduceTMod, Int.reduceTDiv, Int.mul_zero, F0]; done)) ?_
 refine skip_k ?_
 refine hN81 _ ?_
 refine seq_k fun N82 M82 hN82 hM82 => ?_
 refine block_k fun B83 bn83 bx83 br83 bi83 => ?_
 refine sr_k fun K84 hK84 => ?_
 simp only [go_sem, Int.toNat_one, Int.reduceTMod, Int.reduceTDiv, Int.mul_zero, F0]
 repeat' (first | apply And.intro | intro _)
 refine hK84 _ ?_
 refine draw_k [11, 12, 13, 14, 15, 16, 17, 18, 19, 20, 21, 22] [0, 1, 3, 7, 0, 16, 0, 64, 192, 496, 1023, 2047, 4095] [] mixed (by kernel_rfl) (by simp only [go_sem]) fun K85 hK85 => ?_
 simp only [go_sem, Int.toNat_one, Int.reduceTMod, Int.reduceTDiv, Int.mul_zero, F0]
 repeat' (first | apply And.intro | intro _)
 refine hK85 _ _ trivial ?_
 refine bn83 _ ?_
 refine hN82 _ ?_
 refine region_k fun K86 hK86 => ?_
 simp only [go_sem, Int.toNat_one, Int.reduceTMod, Int.reduceTDiv, Int.mul_zero, F0]
 repeat' (first | apply And.intro | intro _)
 refine hK86 _ ?_
 refine hN79 _ ?_
 refine rnd_forget [4, 5, 8, 9, 10, 11, 12, 13, 14, 15, 16, 17, 18, 19, 20, 21, 22, 23] ?_
 simp only [go_sem, St.forget, fgt]
 refine rnd_k fun N87 M87 hN87 hM87 => ?_
 refine sr_k fun K88 hK88 => ?_
 simp only [go_sem, Int.toNat_one, Int.reduceTMod, Int.reduceTDiv, Int.mul_zero, F0]
 repeat' (first | apply And.intro | intro _)
 refine hK88 _ ?_
 refine seq_k fun N89 M89 hN89 hM89 => ?_
 refine condT_k (by first | rfl | (simp [go_sem, Int.toNat_one, Int.reduceTMod, Int.reduceTDiv, Int.mul_zero, F0]; done)) ?_
 refine skip_k ?_
 refine hN89 _ ?_
 refine seq_k fun N90 M90 hN90 hM90 => ?_
 refine block_k fun B91 bn91 bx91 br91 bi91 => ?_
 refine sr_k fun K92 hK92 => ?_
 simp only [go_sem, Int.toNat_one, Int.reduceTMod, Int.reduceTDiv, Int.mul_zero, F0]
 repeat' (first | apply And.intro | intro _)
 refine hK92 _ ?_
 refine draw_k [11, 12, 13, 14, 15, 16, 17, 18, 19, 20, 21, 22] [0, 1, 3, 7, 0, 16, 0, 64, 192, 496, 1023, 2047, 4095] [] mixed (by kernel_rfl) (by simp only [go_sem]) fun K93 hK93 => ?_
 simp only [go_sem, Int.toNat_one, Int.reduceTMod, Int.reduceTDiv, Int.mul_zero, F0]
 repeat' (first | apply And.intro | intro _)
 refine hK93 _ _ trivial ?_
 refine bn91 _ ?_
 refine hN90 _ ?_
 refine region_k fun K94 hK94 => ?_
 simp only [go_sem, Int.toNat_one, Int.reduceTMod, Int.reduceTDiv, Int.mul_zero, F0]
 repeat' (first | apply And.intro | intro _)
 refine hK94 _ ?_
 refine hN87 _ ?_
 refine rnd_forget [4, 5, 8, 9, 10, 11, 12, 13, 14, 15, 16, 17, 18, 19, 20, 21, 22, 23] ?_
 simp only [go_sem, St.forget, fgt]
 refine rnd_k fun N95 M95 hN95 hM95 => ?_
 refine sr_k fun K96 hK96 => ?_
 simp only [go_sem, Int.toNat_one, Int.reduceTMod, Int.reduceTDiv, Int.mul_zero, F0]
 repeat' (first | apply And.intro | intro _)
 refine hK96 _ ?_
 refine seq_k fun N97 M97 hN97 hM97 => ?_
 refine condT_k (by first | rfl | (simp [go_sem, Int.toNat_one, Int.reduceTMod, Int.reduceTDiv, Int.mul_zero, F0]; done)) ?_
 refine skip_k ?_
 refine hN97 _ ?_
 refine seq_k fun N98 M98 hN98 hM98 => ?_
 refine block_k fun B99 bn99 bx99 br99 bi99 => ?_
 refine sr_k fun K100 hK100 => ?_
 simp only [go_sem, Int.toNat_one, Int.reduceTMod, Int.reduceTDiv, Int.mul_zero, F0]
 repeat' (first | apply And.intro | intro _)
 refine hK100 _ ?_
 refine draw_k [11, 12, 13, 14, 15, 16, 17, 18, 19, 20, 21, 22] [0, 1, 3, 7, 0, 16, 0, 64, 192, 496, 1023, 2047, 4095] [] mixed (by kernel_rfl) (by simp only [go_sem]) fun K101 hK101 => ?_
 simp only [go_sem, Int.toNat_one, Int.reduceTMod, Int.reduceTDiv, Int.mul_zero, F0]
 repeat' (first | apply And.intro | intro _)
 refine hK101 _ _ trivial ?_
 refine bn99 _ ?_
 refine hN98 _ ?_
 refine region_k fun K102 hK102 => ?_
 simp only [go_sem, Int.toNat_one, Int.reduceTMod, Int.reduceTDiv, Int.mul_zero, F0]
 repeat' (first | apply And.intro | intro _)
 refine hK102 _ ?_
 refine hN95 _ ?_
 refine rnd_forget [4, 5, 8, 9, 10, 11, 12, 13, 14, 15, 16, 17, 18, 19, 20, 21, 22, 23] ?_
 simp only [go_sem, St.forget, fgt]
 refine rnd_k fun N103 M103 hN103 hM103 => ?_
 refine sr_k fun K104 hK104 => ?_
 simp only [go_sem, Int.toNat_one, Int.reduceTMod, Int.reduceTDiv, Int.mul_zero, F0]
 repeat' (first | apply And.intro | intro _)
 refine hK104 _ ?_
 refine seq_k fun N105 M105 hN105 hM105 => ?_
 refine condT_k (by first | rfl | (simp [go_sem, Int.toNat_one, Int.reduceTMod, Int.reduceTDiv, Int.mul_zero, F0]; done)) ?_
 refine skip_k ?_
 refine hN105 _ ?_
 refine seq_k fun N106 M106 hN106 hM106 => ?_
 refine block_k fun B107 bn107 bx107 br107 bi107 => ?_
 refine sr_k fun K108 hK108 => ?_
 simp only [go_sem, Int.toNat_one, Int.reduceTMod, Int.reduceTDiv, Int.mul_zero, F0]
 repeat' (first | apply And.intro | intro _)
 refine hK108 _ ?_
 refine draw_k [11, 12, 13, 14, 15, 16, 17, 18, 19, 20, 21, 22] [0, 1, 3, 7, 0, 16, 0, 64, 192, 496, 1023, 2047, 4095] [] mixed (by kernel_rfl) (by simp only [go_sem]) fun K109 hK109 => ?_
 simp only [go_sem, Int.toNat_one, Int.reduceTMod, Int.reduceTDiv, Int.mul_zero, F0]
 repeat' (first | apply And.intro | intro _)
 refine hK109 _ _ trivial ?_
 refine bn107 _ ?_
 refine hN106 _ ?_
 refine region_k fun K110 hK110 => ?_
 simp only [go_sem, Int.toNat_one, Int.reduceTMod, Int.reduceTDiv, Int.mul_zero, F0]
 repeat' (first | apply And.intro | intro _)
 refine hK110 _ ?_
 refine hN103 _ ?_
 refine rnd_forget [4, 5, 8, 9, 10, 11, 12, 13, 14, 15, 16, 17, 18, 19, 20, 21, 22, 23] ?_
 simp only [go_sem, St.forget, fgt]
 refine rnd_k fun N111 M111 hN111 hM111 => ?_
 refine sr_k fun K112 hK112 => ?_
 simp only [go_sem, Int.toNat_one, Int.reduceTMod, Int.reduceTDiv, Int.mul_zero, F0]
 repeat' (first | apply And.intro | intro _)
 refine hK112 _ ?_
 refine seq_k fun N113 M113 hN113 hM113 => ?_
 refine condT_k (by first | rfl | (simp [go_sem, Int.toNat_one, Int.reduceTMod, Int.reduceTDiv, Int.mul_zero, F0]; done)) ?_
 refine skip_k ?_
 refine hN113 _ ?_
 refine seq_k fun N114 M114 hN114 hM114 => ?_
 refine block_k fun B115 bn115 bx115 br115 bi115 => ?_
 refine sr_k fun K116 hK116 => ?_
 simp only [go_sem, Int.toNat_one, Int.reduceTMod, Int.reduceTDiv, Int.mul_zero, F0]
 repeat' (first | apply And.intro | intro _)
 refine hK116 _ ?_
 refine draw_k [11, 12, 13, 14, 15, 16, 17, 18, 19, 20, 21, 22] [0, 1, 3, 7, 0, 16, 0, 64, 192, 496, 1023, 2047, 4095] [] mixed (by kernel_rfl) (by simp only [go_sem]) fun K117 hK117 => ?_
 simp only [go_sem, Int.toNat_one, Int.reduceTMod, Int.reduceTDiv, Int.mul_zero, F0]
 repeat' (first | apply And.intro | intro _)
 refine hK117 _ _ trivial ?_
 refine bn115 _ ?_
 refine hN114 _ ?_
 refine region_k fun K118 hK118 => ?_
 simp only [go_sem, Int.toNat_one, Int.reduceTMod, Int.reduceTDiv, Int.mul_zero, F0]
 repeat' (first | apply And.intro | intro _)
 refine hK118 _ ?_
 refine hN111 _ ?_
 refine rnd_forget [4, 5, 8, 9, 10, 11, 12, 13, 14, 15, 16, 17, 18, 19, 20, 21, 22, 23] ?_
 simp only [go_sem, St.forget, fgt]
 refine rnd_k fun N119 M119 hN119 hM119 => ?_
 refine sr_k fun K120 hK120 => ?_
 simp only [go_sem, Int.toNat_one, Int.reduceTMod, Int.reduceTDiv, Int.mul_zero, F0]
 repeat' (first | apply And.intro | intro _)
 refine hK120 _ ?_
 refine seq_k fun N121 M121 hN121 hM121 => ?_
 refine condT_k (by first | rfl | (simp [go_sem, Int.toNat_one, Int.reduceTMod, Int.reduceTDiv, Int.mul_zero, F0]; done)) ?_
 refine skip_k ?_
 refine hN121 _ ?_
 refine seq_k fun N122 M122 hN122 hM122 => ?_
 refine block_k fun B123 bn123 bx123 br123 bi123 => ?_
 refine sr_k fun K124 hK124 => ?_
 simp only [go_sem, Int.toNat_one, Int.reduceTMod, Int.reduceTDiv, Int.mul_zero, F0]
 repeat' (first | apply And.intro | intro _)
 refine hK124 _ ?_
 refine draw_k [11, 12, 13, 14, 15, 16, 17, 18, 19, 20, 21, 22] [0, 1, 3, 7, 0, 16, 0, 64, 192, 496, 1023, 2047, 4095] [] mixed (by kernel_rfl) (by simp only [go_sem]) fun K125 hK125 => ?_
 simp only [go_sem, Int.toNat_one, Int.reduceTMod, Int.reduceTDiv, Int.mul_zero, F0]
 repeat' (first | apply And.intro | intro _)
 refine hK125 _ _ trivial ?_
 refine bn123 _ ?_
 refine hN122 _ ?_
 refine region_k fun K126 hK126 => ?_
 simp only [go_sem, Int.toNat_one, Int.reduceTMod, Int.reduceTDiv, Int.mul_zero, F0]
 repeat' (first | apply And.intro | intro _)
 refine hK126 _ ?_
 refine hN119 _ ?_
 refine rnd_forget [4, 5, 8, 9, 10, 11, 12, 13, 14, 15, 16, 17, 18, 19, 20, 21, 22, 23] ?_
 simp only [go_sem, St.forget, fgt]
 refine rnd_k fun N127 M127 hN127 hM127 => ?_
 refine sr_k fun K128 hK128 => ?_
 simp only [go_sem, Int.toNat_one, Int.reduceTMod, Int.reduceTDiv, Int.mul_zero, F0]
 repeat' (first | apply And.intro | intro _)
 refine hK128 _ ?_
 refine seq_k fun N129 M129 hN129 hM129 => ?_
 refine condT_k (by first | rfl | (simp [go_sem, Int.toNat_one, Int.reduceTMod, Int.reduceTDiv, Int.mul_zero, F0]; done)) ?_
 refine skip_k ?_
 refine hN129 _ ?_
 refine seq_k fun N130 M130 hN130 hM130 => ?_
 refine block_k fun B131 bn131 bx131 br131 bi131 => ?_
 refine sr_k fun K132 hK132 => ?_
 simp only [go_sem, Int.toNat_one, Int.reduceTMod, Int.reduceTDiv, Int.mul_zero, F0]
 repeat' (first | apply And.intro | intro _)
 refine hK132 _ ?_
 refine draw_k [11, 12, 13, 14, 15, 16, 17, 18, 19, 20, 21, 22] [0, 1, 3, 7, 0, 16, 0, 64, 192, 496, 1023, 2047, 4095] [] mixed (by kernel_rfl) (by simp only [go_sem]) fun K133 hK133 => ?_
 simp only [go_sem, Int.toNat_one, Int.reduceTMod, Int.reduceTDiv, Int.mul_zero, F0]
 repeat' (first | apply And.intro | intro _)
 refine hK133 _ _ trivial ?_
 refine bn131 _ ?_
 refine hN130 _ ?_
 refine region_k fun K134 hK134 => ?_
 simp only [go_sem, Int.toNat_one, Int.reduceTMod, Int.reduceTDiv, Int.mul_zero, F0]
 repeat' (first | apply And.intro | intro _)
 refine hK134 _ ?_
 refine hN127 _ ?_
 refine rnd_forget [4, 5, 8, 9, 10, 11, 12, 13, 14, 15, 16, 17, 18, 19, 20, 21, 22, 23] ?_
 simp only [go_sem, St.forget, fgt]
 refine rnd_k fun N135 M135 hN135 hM135 => ?_
 refine sr_k fun K136 hK136 => ?_
 simp only [go_sem, Int.toNat_one, Int.reduceTMod, Int.reduceTDiv, Int.mul_zero, F0]
 repeat' (first | apply And.intro | intro _)
 refine hK136 _ ?_
 refine seq_k fun N137 M137 hN137 hM137 => ?_
 refine condT_k (by first | rfl | (simp [go_sem, Int.toNat_one, Int.reduceTMod, Int.reduceTDiv, Int.mul_zero, F0]; done)) ?_
 refine skip_k ?_
 refine hN137 _ ?_
 refine seq_k fun N138 M138 hN138 hM138 => ?_
 refine block_k fun B139 bn139 bx139 br139 bi139 => ?_
 refine sr_k fun K140 hK140 => ?_
 simp only [go_sem, Int.toNat_one, Int.reduceTMod, Int.reduceTDiv, Int.mul_zero, F0]
 repeat' (first | apply And.intro | intro _)
 refine hK140 _ ?_
 refine draw_k [11, 12, 13, 14, 15, 16, 17, 18, 19, 20, 21, 22] [0, 1, 3, 7, 0, 16, 0, 64, 192, 496, 1023, 2047, 4095] [] mixed (by kernel_rfl) (by simp only [go_sem]) fun K141 hK141 => ?_
 simp only [go_sem, Int.toNat_one, Int.reduceTMod, Int.reduceTDiv, Int.mul_zero, F0]
 repeat' (first | apply And.intro | intro _)
 refine hK141 _ _ trivial ?_
 refine bn139 _ ?_
 refine hN138 _ ?_
 refine region_k fun K142 hK142 => ?_
 simp only [go_sem, Int.toNat_one, Int.reduceTMod, Int.reduceTDiv, Int.mul_zero, F0]
 repeat' (first | apply And.intro | intro _)
 refine hK142 _ ?_
 refine hN135 _ ?_
 refine rnd_forget [4, 5, 8, 9, 10, 11, 12, 13, 14, 15, 16, 17, 18, 19, 20, 21, 22, 23] ?_
 simp only [go_sem, St.forget, fgt]
 refine rnd_k fun N143 M143 hN143 hM143 => ?_
 refine sr_k fun K144 hK144 => ?_
 simp only [go_sem, Int.toNat_one, Int.reduceTMod, Int.reduceTDiv, Int.mul_zero, F0]
 repeat' (first | apply And.intro | intro _)
 refine hK144 _ ?_
 refine seq_k fun N145 M145 hN145 hM145 => ?_
 refine condT_k (by first | rfl | (simp [go_sem, Int.toNat_one, Int.reduceTMod, Int.reduceTDiv, Int.mul_zero, F0]; done)) ?_
 refine skip_k ?_
 refine hN145 _ ?_
 refine seq_k fun N146 M146 hN146 hM146 => ?_
 refine block_k fun B147 bn147 bx147 br147 bi147 => ?_
 refine sr_k fun K148 hK148 => ?_
 simp only [go_sem, Int.toNat_one, Int.reduceTMod, Int.reduceTDiv, Int.mul_zero, F0]
 repeat' (first | apply And.intro | intro _)
 refine hK148 _ ?_
 refine draw_k [11, 12, 13, 14, 15, 16, 17, 18, 19, 20, 21, 22] [0, 1, 3, 7, 0, 16, 0, 64, 192, 496, 1023, 2047, 4095] [] mixed (by kernel_rfl) (by simp only [go_sem]) fun K149 hK149 => ?_
 simp only [go_sem, Int.toNat_one, Int.reduceTMod, Int.reduceTDiv, Int.mul_zero, F0]
 repeat' (first | apply And.intro | intro _)
 refine hK149 _ _ trivial ?_
 refine bn147 _ ?_
 refine hN146 _ ?_
 refine region_k fun K150 hK150 => ?_
 simp only [go_sem, Int.toNat_one, Int.reduceTMod, Int.reduceTDiv, Int.mul_zero, F0]
 repeat' (first | apply And.intro | intro _)
 refine hK150 _ ?_
 refine hN143 _ ?_
 refine rnd_forget [4, 5, 8, 9, 10, 11, 12, 13, 14, 15, 16, 17, 18, 19, 20, 21, 22, 23] ?_
 simp only [go_sem, St.forget, fgt]
 refine rnd_k fun N151 M151 hN151 hM151 => ?_
 refine sr_k fun K152 hK152 => ?_
 simp only [go_sem, Int.toNat_one, Int.reduceTMod, Int.reduceTDiv, Int.mul_zero, F0]
 repeat' (first | apply And.intro | intro _)
 refine hK152 _ ?_
 refine seq_k fun N153 M153 hN153 hM153 => ?_
 refine condT_k (by first | rfl | (simp [go_sem, Int.toNat_one, Int.reduceTMod, Int.reduceTDiv, Int.mul_zero, F0]; done)) ?_
 refine skip_k ?_
 refine hN153 _ ?_
 refine seq_k fun N154 M154 hN154 hM154 => ?_
 refine block_k fun B155 bn155 bx155 br155 bi155 => ?_
 refine sr_k fun K156 hK156 => ?_
 simp only [go_sem, Int.toNat_one, Int.reduceTMod, Int.reduceTDiv, Int.mul_zero, F0]
 repeat' (first | apply And.intro | intro _)
 refine hK156 _ ?_
 refine draw_k [11, 12, 13, 14, 15, 16, 17, 18, 19, 20, 21, 22] [0, 1, 3, 7, 0, 16, 0, 64, 192, 496, 1023, 2047, 4095] [] mixed (by kernel_rfl) (by simp only [go_sem]) fun K157 hK157 => ?_
 simp only [go_sem, Int.toNat_one, Int.reduceTMod, Int.reduceTDiv, Int.mul_zero, F0]
 repeat' (first | apply And.intro | intro _)
 refine hK157 _ _ trivial ?_
 refine bn155 _ ?_
 refine hN154 _ ?_
 refine region_k fun K158 hK158 => ?_
 simp only [go_sem, Int.toNat_one, Int.reduceTMod, Int.reduceTDiv, Int.mul_zero, F0]
 repeat' (first | apply And.intro | intro _)
 refine hK158 _ ?_
 refine hN151 _ ?_
 refine rnd_forget [4, 5, 8, 9, 10, 11, 12, 13, 14, 15, 16, 17, 18, 19, 20, 21, 22, 23] ?_
 simp only [go_sem, St.forget, fgt]
 refine rnd_k fun N159 M159 hN159 hM159 => ?_
 refine sr_k fun K160 hK160 => ?_
 simp only [go_sem, Int.toNat_one, Int.reduceTMod, Int.reduceTDiv, Int.mul_zero, F0]
 repeat' (first | apply And.intro | intro _)
 refine hK160 _ ?_
 refine seq_k fun N161 M161 hN161 hM161 => ?_
 refine condT_k (by first | rfl | (simp [go_sem, Int.toNat_one, Int.reduceTMod, Int.reduceTDiv, Int.mul_zero, F0]; done)) ?_
 refine skip_k ?_
 refine hN161 _ ?_
 refine seq_k fun N162 M162 hN162 hM162 => ?_
 refine block_k fun B163 bn163 bx163 br163 bi163 => ?_
 refine sr_k fun K164 hK164 => ?_
 simp only [go_sem, Int.toNat_one, Int.reduceTMod, Int.reduceTDiv, Int.mul_zero, F0]
 repeat' (first | apply And.intro | intro _)
 refine hK164 _ ?_
 refine draw_k [11, 12, 13, 14, 15, 16, 17, 18, 19, 20, 21, 22] [0, 1, 3, 7, 0, 16, 0, 64, 192, 496, 1023, 2047, 4095] [] mixed (by kernel_rfl) (by simp only [go_sem]) fun K165 hK165 => ?_
 simp only [go_sem, Int.toNat_one, Int.reduceTMod, Int.reduceTDiv, Int.mul_zero, F0]
 repeat' (first | apply And.intro | intro _)
 refine hK165 _ _ trivial ?_
 refine bn163 _ ?_
 refine hN162 _ ?_
 refine region_k fun K166 hK166 => ?_
 simp only [go_sem, Int.toNat_one, Int.reduceTMod, Int.reduceTDiv, Int.mul_zero, F0]
 repeat' (first | apply And.intro | intro _)
 refine hK166 _ ?_
 refine hN159 _ ?_
 refine rnd_forget [4, 5, 8, 9, 10, 11, 12, 13, 14, 15, 16, 17, 18, 19, 20, 21, 22, 23] ?_
 simp only [go_sem, St.forget, fgt]
 refine rnd_k fun N167 M167 hN167 hM167 => ?_
 refine sr_k fun K168 hK168 => ?_
 simp only [go_sem, Int.toNat_one, Int.reduceTMod, Int.reduceTDiv, Int.mul_zero, F0]
 repeat' (first | apply And.intro | intro _)
 refine hK168 _ ?_
 refine seq_k fun N169 M169 hN169 hM169 => ?_
 refine condT_k (by first | rfl | (simp [go_sem, Int.toNat_one, Int.reduceTMod, Int.reduceTDiv, Int.mul_zero, F0]; done)) ?_
 refine skip_k ?_
 refine hN169 _ ?_
 refine seq_k fun N170 M170 hN170 hM170 => ?_
 refine block_k fun B171 bn171 bx171 br171 bi171 => ?_
 refine sr_k fun K172 hK172 => ?_
 simp only [go_sem, Int.toNat_one, Int.reduceTMod, Int.reduceTDiv, Int.mul_zero, F0]
 repeat' (first | apply And.intro | intro _)
 refine hK172 _ ?_
 refine draw_k [11, 12, 13, 14, 15, 16, 17, 18, 19, 20, 21, 22] [0, 1, 3, 7, 0, 16, 0, 64, 192, 496, 1023, 2047, 4095] [] mixed (by kernel_rfl) (by simp only [go_sem]) fun K173 hK173 => ?_
 simp only [go_sem, Int.toNat_one, Int.reduceTMod, Int.reduceTDiv, Int.mul_zero, F0]
 repeat' (first | apply And.intro | intro _)
 refine hK173 _ _ trivial ?_
 refine bn171 _ ?_
 refine hN170 _ ?_
 refine region_k fun K174 hK174 => ?_
 simp only [go_sem, Int.toNat_one, Int.reduceTMod, Int.reduceTDiv, Int.mul_zero, F0]
 repeat' (first | apply And.intro | intro _)
 refine hK174 _ ?_
 refine hN167 _ ?_
 refine rnd_forget [4, 5, 8, 9, 10, 11, 12, 13, 14, 15, 16, 17, 18, 19, 20, 21, 22, 23] ?_
 simp only [go_sem, St.forget, fgt]
 refine rnd_k fun N175 M175 hN175 hM175 => ?_
 refine sr_k fun K176 hK176 => ?_
 simp only [go_sem, Int.toNat_one, Int.reduceTMod, Int.reduceTDiv, Int.mul_zero, F0]
 repeat' (first | apply And.intro | intro _)
 refine hK176 _ ?_
 refine seq_k fun N177 M177 hN177 hM177 => ?_
 refine condT_k (by first | rfl | (simp [go_sem, Int.toNat_one, Int.reduceTMod, Int.reduceTDiv, Int.mul_zero, F0]; done)) ?_
 refine skip_k ?_
 refine hN177 _ ?_
 refine seq_k fun N178 M178 hN178 hM178 => ?_
 refine block_k fun B179 bn179 bx179 br179 bi179 => ?_
 refine sr_k fun K180 hK180 => ?_
 simp only [go_sem, Int.toNat_one, Int.reduceTMod, Int.reduceTDiv, Int.mul_zero, F0]
 repeat' (first | apply And.intro | intro _)
 refine hK180 _ ?_
 refine draw_k [11, 12, 13, 14, 15, 16, 17, 18, 19, 20, 21, 22] [0, 1, 3, 7, 0, 16, 0, 64, 192, 496, 1023, 2047, 4095] [] mixed (by kernel_rfl) (by simp only [go_sem]) fun K181 hK181 => ?_
 simp only [go_sem, Int.toNat_one, Int.reduceTMod, Int.reduceTDiv, Int.mul_zero, F0]
 repeat' (first | apply And.intro | intro _)
 refine hK181 _ _ trivial ?_
 refine bn179 _ ?_
 refine hN178 _ ?_
 refine region_k fun K182 hK182 => ?_
 simp only [go_sem, Int.toNat_one, Int.reduceTMod, Int.reduceTDiv, Int.mul_zero, F0]
 repeat' (first | apply And.intro | intro _)
 refine hK182 _ ?_
 refine hN175 _ ?_
 refine rnd_forget [4, 5, 8, 9, 10, 11, 12, 13, 14, 15, 16, 17, 18, 19, 20, 21, 22, 23] ?_
 simp only [go_sem, St.forget, fgt]
 refine rnd_k fun N183 M183 hN183 hM183 => ?_
 refine sr_k fun K184 hK184 => ?_
 simp only [go_sem, Int.toNat_one, Int.reduceTMod, Int.reduceTDiv, Int.mul_zero, F0]
 repeat' (first | apply And.intro | intro _)
 refine hK184 _ ?_
 refine seq_k fun N185 M185 hN185 hM185 => ?_
 refine condT_k (by first | rfl | (simp [go_sem, Int.toNat_one, Int.reduceTMod, Int.reduceTDiv, Int.mul_zero, F0]; done)) ?_
 refine skip_k ?_
 refine hN185 _ ?_
 refine seq_k fun N186 M186 hN186 hM186 => ?_
 refine block_k fun B187 bn187 bx187 br187 bi187 => ?_
 refine sr_k fun K188 hK188 => ?_
 simp only [go_sem, Int.toNat_one, Int.reduceTMod, Int.reduceTDiv, Int.mul_zero, F0]
 repeat' (first | apply And.intro | intro _)
 refine hK188 _ ?_
 refine draw_k [11, 12, 13, 14, 15, 16, 17, 18, 19, 20, 21, 22] [0, 1, 3, 7, 0, 16, 0, 64, 192, 496, 1023, 2047, 4095] [] mixed (by kernel_rfl) (by simp only [go_sem]) fun K189 hK189 => ?_
 simp only [go_sem, Int.toNat_one, Int.reduceTMod, Int.reduceTDiv, Int.mul_zero, F0]
 repeat' (first | apply And.intro | intro _)
 refine hK189 _ _ trivial ?_
 refine bn187 _ ?_
 refine hN186 _ ?_
 refine region_k fun K190 hK190 => ?_
 simp only [go_sem, Int.toNat_one, Int.reduceTMod, Int.reduceTDiv, Int.mul_zero, F0]
 repeat' (first | apply And.intro | intro _)
 refine hK190 _ ?_
 refine hN183 _ ?_
 refine rnd_forget [4, 5, 8, 9, 10, 11, 12, 13, 14, 15, 16, 17, 18, 19, 20, 21, 22, 23] ?_
 simp only [go_sem, St.forget, fgt]
 refine rnd_k fun N191 M191 hN191 hM191 => ?_
 refine sr_k fun K192 hK192 => ?_
 simp only [go_sem, Int.toNat_one, Int.reduceTMod, Int.reduceTDiv, Int.mul_zero, F0]
 repeat' (first | apply And.intro | intro _)
 refine hK192 _ ?_
 refine seq_k fun N193 M193 hN193 hM193 => ?_
 refine condT_k (by first | rfl | (simp [go_sem, Int.toNat_one, Int.reduceTMod, Int.reduceTDiv, Int.mul_zero, F0]; done)) ?_
 refine skip_k ?_
 refine hN193 _ ?_
 refine seq_k fun N194 M194 hN194 hM194 => ?_
 refine block_k fun B195 bn195 bx195 br195 bi195 => ?_
 refine sr_k fun K196 hK196 => ?_
 simp only [go_sem, Int.toNat_one, Int.reduceTMod, Int.reduceTDiv, Int.mul_zero, F0]
 repeat' (first | apply And.intro | intro _)
 refine hK196 _ ?_
 refine draw_k [11, 12, 13, 14, 15, 16, 17, 18, 19, 20, 21, 22] [0, 1, 3, 7, 0, 16, 0, 64, 192, 496, 1023, 2047, 4095] [] mixed (by kernel_rfl) (by simp only [go_sem]) fun K197 hK197 => ?_
 simp only [go_sem, Int.toNat_one, Int.reduceTMod, Int.reduceTDiv, Int.mul_zero, F0]
 repeat' (first | apply And.intro | intro _)
 refine hK197 _ _ trivial ?_
 refine bn195 _ ?_
 refine hN194 _ ?_
 refine region_k fun K198 hK198 => ?_
 simp only [go_sem, Int.toNat_one, Int.reduceTMod, Int.reduceTDiv, Int.mul_zero, F0]
 repeat' (first | apply And.intro | intro _)
 refine hK198 _ ?_
 refine hN191 _ ?_
 refine rnd_forget [4, 5, 8, 9, 10, 11, 12, 13, 14, 15, 16, 17, 18, 19, 20, 21, 22, 23] ?_
 simp only [go_sem, St.forget, fgt]
 refine rnd_k fun N199 M199 hN199 hM199 => ?_
 refine sr_k fun K200 hK200 => ?_
 simp only [go_sem, Int.toNat_one, Int.reduceTMod, Int.reduceTDiv, Int.mul_zero, F0]
 repeat' (first | apply And.intro | intro _)
 refine hK200 _ ?_
 refine seq_k fun N201 M201 hN201 hM201 => ?_
 refine condT_k (by first | rfl | (simp [go_sem, Int.toNat_one, Int.reduceTMod, Int.reduceTDiv, Int.mul_zero, F0]; done)) ?_
 refine skip_k ?_
 refine hN201 _ ?_
 refine seq_k fun N202 M202 hN202 hM202 => ?_
 refine block_k fun B203 bn203 bx203 br203 bi203 => ?_
 refine sr_k fun K204 hK204 => ?_
 simp only [go_sem, Int.toNat_one, Int.reduceTMod, Int.reduceTDiv, Int.mul_zero, F0]
 repeat' (first | apply And.intro | intro _)
 refine hK204 _ ?_
 refine draw_k [11, 12, 13, 14, 15, 16, 17, 18, 19, 20, 21, 22] [0, 1, 3, 7, 0, 16, 0, 64, 192, 496, 1023, 2047, 4095] [] mixed (by kernel_rfl) (by simp only [go_sem]) fun K205 hK205 => ?_
 simp only [go_sem, Int.toNat_one, Int.reduceTMod, Int.reduceTDiv, Int.mul_zero, F0]
 repeat' (first | apply And.intro | intro _)
 refine hK205 _ _ trivial ?_
 refine bn203 _ ?_
 refine hN202 _ ?_
 refine region_k fun K206 hK206 => ?_
 simp only [go_sem, Int.toNat_one, Int.reduceTMod, Int.reduceTDiv, Int.mul_zero, F0]
 repeat' (first | apply And.intro | intro _)
 refine hK206 _ ?_
 refine hN199 _ ?_
 refine rnd_forget [4, 5, 8, 9, 10, 11, 12, 13, 14, 15, 16, 17, 18, 19, 20, 21, 22, 23] ?_
 simp only [go_sem, St.forget, fgt]
 refine rnd_k fun N207 M207 hN207 hM207 => ?_
 refine sr_k fun K208 hK208 => ?_
 simp only [go_sem, Int.toNat_one, Int.reduceTMod, Int.reduceTDiv, Int.mul_zero, F0]
 repeat' (first | apply And.intro | intro _)
 refine hK208 _ ?_
 refine seq_k fun N209 M209 hN209 hM209 => ?_
 refine condT_k (by first | rfl | (simp [go_sem, Int.toNat_one, Int.reduceTMod, Int.reduceTDiv, Int.mul_zero, F0]; done)) ?_
 refine skip_k ?_
 refine hN209 _ ?_
 refine seq_k fun N210 M210 hN210 hM210 => ?_
 refine block_k fun B211 bn211 bx211 br211 bi211 => ?_
 refine sr_k fun K212 hK212 => ?_
 simp only [go_sem, Int.toNat_one, Int.reduceTMod, Int.reduceTDiv, Int.mul_zero, F0]
 repeat' (first | apply And.intro | intro _)
 refine hK212 _ ?_
 refine draw_k [11, 12, 13, 14, 15, 16, 17, 18, 19, 20, 21, 22] [0, 1, 3, 7, 0, 16, 0, 64, 192, 496, 1023, 2047, 4095] [] mixed (by kernel_rfl) (by simp only [go_sem]) fun K213 hK213 => ?_
 simp only [go_sem, Int.toNat_one, Int.reduceTMod, Int.reduceTDiv, Int.mul_zero, F0]
 repeat' (first | apply And.intro | intro _)
 refine hK213 _ _ trivial ?_
 refine bn211 _ ?_
 refine hN210 _ ?_
 refine region_k fun K214 hK214 => ?_
 simp only [go_sem, Int.toNat_one, Int.reduceTMod, Int.reduceTDiv, Int.mul_zero, F0]
 repeat' (first | apply And.intro | intro _)
 refine hK214 _ ?_
 refine hN207 _ ?_
 refine rnd_forget [4, 5, 8, 9, 10, 11, 12, 13, 14, 15, 16, 17, 18, 19, 20, 21, 22, 23] ?_
 simp only [go_sem, St.forget, fgt]
 refine rnd_k fun N215 M215 hN215 hM215 => ?_
 refine sr_k fun K216 hK216 => ?_
 simp only [go_sem, Int.toNat_one, Int.reduceTMod, Int.reduceTDiv, Int.mul_zero, F0]
 repeat' (first | apply And.intro | intro _)
 refine hK216 _ ?_
 refine seq_k fun N217 M217 hN217 hM217 => ?_
 refine condT_k (by first | rfl | (simp [go_sem, Int.toNat_one, Int.reduceTMod, Int.reduceTDiv, Int.mul_zero, F0]; done)) ?_
 refine skip_k ?_
 refine hN217 _ ?_
 refine seq_k fun N218 M218 hN218 hM218 => ?_
 refine block_k fun B219 bn219 bx219 br219 bi219 => ?_
 refine sr_k fun K220 hK220 => ?_
 simp only [go_sem, Int.toNat_one, Int.reduceTMod, Int.reduceTDiv, Int.mul_zero, F0]
 repeat' (first | apply And.intro | intro _)
 refine hK220 _ ?_
 refine draw_k [11, 12, 13, 14, 15, 16, 17, 18, 19, 20, 21, 22] [0, 1, 3, 7, 0, 16, 0, 64, 192, 496, 1023, 2047, 4095] [] mixed (by kernel_rfl) (by simp only [go_sem]) fun K221 hK221 => ?_
 simp only [go_sem, Int.toNat_one, Int.reduceTMod, Int.reduceTDiv, Int.mul_zero, F0]
 repeat' (first | apply And.intro | intro _)
 refine hK221 _ _ trivial ?_
 refine bn219 _ ?_
 refine hN218 _ ?_
 refine region_k fun K222 hK222 => ?_
 simp only [go_sem, Int.toNat_one, Int.reduceTMod, Int.reduceTDiv, Int.mul_zero, F0]
 repeat' (first | apply And.intro | intro _)
 refine hK222 _ ?_
 refine hN215 _ ?_
 refine rnd_forget [4, 5, 8, 9, 10, 11, 12, 13, 14, 15, 16, 17, 18, 19, 20, 21, 22, 23] ?_
 simp only [go_sem, St.forget, fgt]
 refine rnd_k fun N223 M223 hN223 hM223 => ?_
 refine sr_k fun K224 hK224 => ?_
 simp only [go_sem, Int.toNat_one, Int.reduceTMod, Int.reduceTDiv, Int.mul_zero, F0]
 repeat' (first | apply And.intro | intro _)
 refine hK224 _ ?_
 refine seq_k fun N225 M225 hN225 hM225 => ?_
 refine condT_k (by first | rfl | (simp [go_sem, Int.toNat_one, Int.reduceTMod, Int.reduceTDiv, Int.mul_zero, F0]; done)) ?_
 refine skip_k ?_
 refine hN225 _ ?_
 refine seq_k fun N226 M226 hN226 hM226 => ?_
 refine block_k fun B227 bn227 bx227 br227 bi227 => ?_
 refine sr_k fun K228 hK228 => ?_
 simp only [go_sem, Int.toNat_one, Int.reduceTMod, Int.reduceTDiv, Int.mul_zero, F0]
 repeat' (first | apply And.intro | intro _)
 refine hK228 _ ?_
 refine draw_k [11, 12, 13, 14, 15, 16, 17, 18, 19, 20, 21, 22] [0, 1, 3, 7, 0, 16, 0, 64, 192, 496, 1023, 2047, 4095] [] mixed (by kernel_rfl) (by simp only [go_sem]) fun K229 hK229 => ?_
 simp only [go_sem, Int.toNat_one, Int.reduceTMod, Int.reduceTDiv, Int.mul_zero, F0]
 repeat' (first | apply And.intro | intro _)
 refine hK229 _ _ trivial ?_
 refine bn227 _ ?_
 refine hN226 _ ?_
 refine region_k fun K230 hK230 => ?_
 simp only [go_sem, Int.toNat_one, Int.reduceTMod, Int.reduceTDiv, Int.mul_zero, F0]
 repeat' (first | apply And.intro | intro _)
 refine hK230 _ ?_
 refine hN223 _ ?_
 refine rnd_forget [4, 5, 8, 9, 10, 11, 12, 13, 14, 15, 16, 17, 18, 19, 20, 21, 22, 23] ?_
 simp only [go_sem, St.forget, fgt]
 refine rnd_k fun N231 M231 hN231 hM231 => ?_
 refine sr_k fun K232 hK232 => ?_
 simp only [go_sem, Int.toNat_one, Int.reduceTMod, Int.reduceTDiv, Int.mul_zero, F0]
 repeat' (first | apply And.intro | intro _)
 refine hK232 _ ?_
 refine seq_k fun N233 M233 hN233 hM233 => ?_
 refine condT_k (by first | rfl | (simp [go_sem, Int.toNat_one, Int.reduceTMod, Int.reduceTDiv, Int.mul_zero, F0]; done)) ?_
 refine skip_k ?_
 refine hN233 _ ?_
 refine seq_k fun N234 M234 hN234 hM234 => ?_
 refine block_k fun B235 bn235 bx235 br235 bi235 => ?_
 refine sr_k fun K236 hK236 => ?_
 simp only [go_sem, Int.toNat_one, Int.reduceTMod, Int.reduceTDiv, Int.mul_zero, F0]
 repeat' (first | apply And.intro | intro _)
 refine hK236 _ ?_
 refine draw_k [11, 12, 13, 14, 15, 16, 17, 18, 19, 20, 21, 22] [0, 1, 3, 7, 0, 16, 0, 64, 192, 496, 1023, 2047, 4095] [] mixed (by kernel_rfl) (by simp only [go_sem]) fun K237 hK237 => ?_
 simp only [go_sem, Int.toNat_one, Int.reduceTMod, Int.reduceTDiv, Int.mul_zero, F0]
 repeat' (first | apply And.intro | intro _)
 refine hK237 _ _ trivial ?_
 refine bn235 _ ?_
 refine hN234 _ ?_
 refine region_k fun K238 hK238 => ?_
 simp only [go_sem, Int.toNat_one, Int.reduceTMod, Int.reduceTDiv, Int.mul_zero, F0]
 repeat' (first | apply And.intro | intro _)
 refine hK238 _ ?_
 refine hN231 _ ?_
 refine rnd_forget [4, 5, 8, 9, 10, 11, 12, 13, 14, 15, 16, 17, 18, 19, 20, 21, 22, 23] ?_
 simp only [go_sem, St.forget, fgt]
 refine rnd_k fun N239 M239 hN239 hM239 => ?_
 refine sr_k fun K240 hK240 => ?_
 simp only [go_sem, Int.toNat_one, Int.reduceTMod, Int.reduceTDiv, Int.mul_zero, F0]
 repeat' (first | apply And.intro | intro _)
 refine hK240 _ ?_
 refine seq_k fun N241 M241 hN241 hM241 => ?_
 refine condT_k (by first | rfl | (simp [go_sem, Int.toNat_one, Int.reduceTMod, Int.reduceTDiv, Int.mul_zero, F0]; done)) ?_
 refine skip_k ?_
 refine hN241 _ ?_
 refine seq_k fun N242 M242 hN242 hM242 => ?_
 refine block_k fun B243 bn243 bx243 br243 bi243 => ?_
 refine sr_k fun K244 hK244 => ?_
 simp only [go_sem, Int.toNat_one, Int.reduceTMod, Int.reduceTDiv, Int.mul_zero, F0]
 repeat' (first | apply And.intro | intro _)
 refine hK244 _ ?_
 refine draw_k [11, 12, 13, 14, 15, 16, 17, 18, 19, 20, 21, 22] [0, 1, 3, 7, 0, 16, 0, 64, 192, 496, 1023, 2047, 4095] [] mixed (by kernel_rfl) (by simp only [go_sem]) fun K245 hK245 => ?_
 simp only [go_sem, Int.toNat_one, Int.reduceTMod, Int.reduceTDiv, Int.mul_zero, F0]
 repeat' (first | apply And.intro | intro _)
 refine hK245 _ _ trivial ?_
 refine bn243 _ ?_
 refine hN242 _ ?_
 refine region_k fun K246 hK246 => ?_
 simp only [go_sem, Int.toNat_one, Int.reduceTMod, Int.reduceTDiv, Int.mul_zero, F0]
 repeat' (first | apply And.intro | intro _)
 refine hK246 _ ?_
 refine hN239 _ ?_
 refine rnd_forget [4, 5, 8, 9, 10, 11, 12, 13, 14, 15, 16, 17, 18, 19, 20, 21, 22, 23] ?_
 simp only [go_sem, St.forget, fgt]
 refine rnd_k fun N247 M247 hN247 hM247 => ?_
 refine sr_k fun K248 hK248 => ?_
 simp only [go_sem, Int.toNat_one, Int.reduceTMod, Int.reduceTDiv, Int.mul_zero, F0]
 repeat' (first | apply And.intro | intro _)
 refine hK248 _ ?_
 refine seq_k fun N249 M249 hN249 hM249 => ?_
 refine condT_k (by first | rfl | (simp [go_sem, Int.toNat_one, Int.reduceTMod, Int.reduceTDiv, Int.mul_zero, F0]; done)) ?_
 refine skip_k ?_
 refine hN249 _ ?_
 refine seq_k fun N250 M250 hN250 hM250 => ?_
 refine block_k fun B251 bn251 bx251 br251 bi251 => ?_
 refine sr_k fun K252 hK252 => ?_
 simp only [go_sem, Int.toNat_one, Int.reduceTMod, Int.reduceTDiv, Int.mul_zero, F0]
 repeat' (first | apply And.intro | intro _)
 refine hK252 _ ?_
 refine draw_k [11, 12, 13, 14, 15, 16, 17, 18, 19, 20, 21, 22] [0, 1, 3, 7, 0, 16, 0, 64, 192, 496, 1023, 2047, 4095] [] mixed (by kernel_rfl) (by simp only [go_sem]) fun K253 hK253 => ?_
 simp only [go_sem, Int.toNat_one, Int.reduceTMod, Int.reduceTDiv, Int.mul_zero, F0]
 repeat' (first | apply And.intro | intro _)
 refine hK253 _ _ trivial ?_
 refine bn251 _ ?_
 refine hN250 _ ?_
 refine region_k fun K254 hK254 => ?_
 simp only [go_sem, Int.toNat_one, Int.reduceTMod, Int.reduceTDiv, Int.mul_zero, F0]
 repeat' (first | apply And.intro | intro _)
 refine hK254 _ ?_
 refine hN247 _ ?_
 refine rnd_forget [4, 5, 8, 9, 10, 11, 12, 13, 14, 15, 16, 17, 18, 19, 20, 21, 22, 23] ?_
 simp only [go_sem, St.forget, fgt]
 refine rnd_k fun N255 M255 hN255 hM255 => ?_
 refine sr_k fun K256 hK256 => ?_
 simp only [go_sem, Int.toNat_one, Int.reduceTMod, Int.reduceTDiv, Int.mul_zero, F0]
 repeat' (first | apply And.intro | intro _)
 refine hK256 _ ?_
 refine seq_k fun N257 M257 hN257 hM257 => ?_
 refine condT_k (by first | rfl | (simp [go_sem, Int.toNat_one, Int.reduceTMod, Int.reduceTDiv, Int.mul_zero, F0]; done)) ?_
 refine skip_k ?_
 refine hN257 _ ?_
 refine seq_k fun N258 M258 hN258 hM258 => ?_
 refine block_k fun B259 bn259 bx259 br259 bi259 => ?_
 refine sr_k fun K260 hK260 => ?_
 simp only [go_sem, Int.toNat_one, Int.reduceTMod, Int.reduceTDiv, Int.mul_zero, F0]
 repeat' (first | apply And.intro | intro _)
 refine hK260 _ ?_
 refine draw_k [11, 12, 13, 14, 15, 16, 17, 18, 19, 20, 21, 22] [0, 1, 3, 7, 0, 16, 0, 64, 192, 496, 1023, 2047, 4095] [] mixed (by kernel_rfl) (by simp only [go_sem]) fun K261 hK261 => ?_
 simp only [go_sem, Int.toNat_one, Int.reduceTMod, Int.reduceTDiv, Int.mul_zero, F0]
 repeat' (first | apply And.intro | intro _)
 refine hK261 _ _ trivial ?_
 refine bn259 _ ?_
 refine hN258 _ ?_
 refine region_k fun K262 hK262 => ?_
 simp only [go_sem, Int.toNat_one, Int.reduceTMod, Int.reduceTDiv, Int.mul_zero, F0]
 repeat' (first | apply And.intro | intro _)
 refine hK262 _ ?_
 refine hN255 _ ?_
 refine rnd_forget [4, 5, 8, 9, 10, 11, 12, 13, 14, 15, 16, 17, 18, 19, 20, 21, 22, 23] ?_
 simp only [go_sem, St.forget, fgt]
 refine rnd_k fun N263 M263 hN263 hM263 => ?_
 refine sr_k fun K264 hK264 => ?_
 simp only [go_sem, Int.toNat_one, Int.reduceTMod, Int.reduceTDiv, Int.mul_zero, F0]
 repeat' (first | apply And.intro | intro _)
 refine hK264 _ ?_
 refine seq_k fun N265 M265 hN265 hM265 => ?_
 refine condF_k (by first | rfl | (simp [go_sem, Int.toNat_one, Int.reduceTMod, Int.reduceTDiv, Int.mul_zero, F0]; done)) ?_
 refine exit_k ?_
 refine hM265 _ _ ?_
 refine hM263 _ _ ?_
 refine bx5 _ ?_
 refine hN3 _ ?_
 refine sr_k fun K266 hK266 => ?_
 simp only [go_sem, Int.toNat_one, Int.reduceTMod, Int.reduceTDiv, Int.mul_zero, F0]
 repeat' (first | apply And.intro | intro _)
 refine hK266 _ ?_
 refine sr_k fun K267 hK267 => ?_
 simp only [go_sem, Int.toNat_one, Int.reduceTMod, Int.reduceTDiv, Int.mul_zero, F0]
 repeat' (first | apply And.intro | intro _)
 all_goals (refine call_hand false [] (fun k => k) (fun _ _ => rfl) ?_ (by decide) ?_ hS.told ?_; iterate 2 (focus (first | rfl | (simp only [go_sem, Int.toNat_one, Int.reduceTMod, Int.reduceTDiv, Int.mul_zero, F0] <;> first | done | rfl | simp))))
 all_goals (rintro v m ⟨hR, hm⟩; subst hR; subst hm)
 all_goals (refine And.intro ?_ (And.intro ?_ (And.intro ?_ ?_)); iterate 3 (focus (first | rfl | (simp only [go_sem, Int.toNat_one, Int.reduceTMod, Int.reduceTDiv, Int.mul_zero, F0]; done) | (simp [go_sem, look, Int.toNat_one, Int.reduceTMod, Int.reduceTDiv, Int.mul_zero, F0]; done))))
 all_goals (try simp only [go_sem, Int.toNat_one, Int.reduceTMod, Int.reduceTDiv, Int.mul_zero, F0])
 all_goals (try simp only [go_sem, Int.toNat_one, Int.reduceTMod, Int.reduceTDiv, Int.mul_zero, F0])
 all_goals repeat' (first | apply And.intro | intro _)
 refine hK267 _ ?_
 refine ret_k ?_
 simp only [go_sem, Int.toNat_one, Int.reduceTMod, Int.reduceTDiv, Int.mul_zero, F0]
 all_goals (exact told_plain (by simp [plainV, plainW]) ⟨rfl, rfl⟩)
end Go.Sy

