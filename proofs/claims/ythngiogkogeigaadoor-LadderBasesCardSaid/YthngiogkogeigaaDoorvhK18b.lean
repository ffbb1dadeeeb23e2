/- Numbers of bytes, as the document tells them. -/
import Derived.Test.YthngiogkogeigaaDoorvhK8
import Derived.Test.YthngiogkogeigaaDoorvQ9
set_option linter.unusedVariables false
set_option linter.unusedSimpArgs false
namespace Go.Sy
open Go.Proofs
attribute [local irreducible] atCall HT runOps runD onC onE onO onG goV goA goS onSt onGuard
set_option maxHeartbeats 3200000 in
set_option maxRecDepth 100000 in
theorem rfrom_x (x0 x1 x2 x3 x4 x5 x6 x7 x8 x9 x10 x11 x12 x13 x14 x15 x16 x17 x18 x19 x20 x21 x22 x23 x24 x25 x26 x27 x28 x29 x30 x31 : UInt8) :
 CtM Tryd.prog 19 [.w (.agg [.pl (.u8 x0), .pl (.u8 x1), .pl (.u8 x2), .pl (.u8 x3), .pl (.u8 x4), .pl (.u8 x5), .pl (.u8 x6), .pl (.u8 x7), .pl (.u8 x8), .pl (.u8 x9), .pl (.u8 x10), .pl (.u8 x11), .pl (.u8 x12), .pl (.u8 x13), .pl (.u8 x14), .pl (.u8 x15), .pl (.u8 x16), .pl (.u8 x17), .pl (.u8 x18), .pl (.u8 x19), .pl (.u8 x20), .pl (.u8 x21), .pl (.u8 x22), .pl (.u8 x23), .pl (.u8 x24), .pl (.u8 x25), .pl (.u8 x26), .pl (.u8 x27), .pl (.u8 x28), .pl (.u8 x29), .pl (.u8 x30), .pl (.u8 x31)])] [(1000000, ⟨false, u64C prdL⟩)] (Told (fun v m => v = .w (.agg (w4C (vQ (orW x0 x1 x2 x3 x4 x5 x6 x7) (orW x8 x9 x10 x11 x12 x13 x14 x15) (orW x16 x17 x18 x19 x20 x21 x22 x23) (orW x24 x25 x26 x27 x28 x29 x30 x31 &&& 9223372036854775807) % p25))) ∧ m = [])) := by
 obtain ⟨o0, ho0⟩ : ∃ z, orW x0 x1 x2 x3 x4 x5 x6 x7 = z := ⟨_, rfl⟩
 obtain ⟨o1, ho1⟩ : ∃ z, orW x8 x9 x10 x11 x12 x13 x14 x15 = z := ⟨_, rfl⟩
 obtain ⟨o2, ho2⟩ : ∃ z, orW x16 x17 x18 x19 x20 x21 x22 x23 = z := ⟨_, rfl⟩
 obtain ⟨o3, ho3⟩ : ∃ z, orW x24 x25 x26 x27 x28 x29 x30 x31 &&& 9223372036854775807 = z := ⟨_, rfl⟩
 have hw0 : ((((((((0 * 256 + x7.toUInt64) * 256 + x6.toUInt64) * 256 + x5.toUInt64) * 256 + x4.toUInt64) * 256 + x3.toUInt64) * 256 + x2.toUInt64) * 256 + x1.toUInt64) * 256 + x0.toUInt64) = o0 := by
  rw [← ho0]
  refine UInt64.toNat_inj.mp ?_
  rw [orW_val]
  exact hoW_val _ _ _ _ _ _ _ (first_val x7) (x7.toNat_lt)
 have hw1 : ((((((((0 * 256 + x15.toUInt64) * 256 + x14.toUInt64) * 256 + x13.toUInt64) * 256 + x12.toUInt64) * 256 + x11.toUInt64) * 256 + x10.toUInt64) * 256 + x9.toUInt64) * 256 + x8.toUInt64) = o1 := by
  rw [← ho1]
  refine UInt64.toNat_inj.mp ?_
  rw [orW_val]
  exact hoW_val _ _ _ _ _ _ _ (first_val x15) (x15.toNat_lt)
 have hw2 : ((((((((0 * 256 + x23.toUInt64) * 256 + x22.toUInt64) * 256 + x21.toUInt64) * 256 + x20.toUInt64) * 256 + x19.toUInt64) * 256 + x18.toUInt64) * 256 + x17.toUInt64) * 256 + x16.toUInt64) = o2 := by
  rw [← ho2]
  refine UInt64.toNat_inj.mp ?_
  rw [orW_val]
  exact hoW_val _ _ _ _ _ _ _ (first_val x23) (x23.toNat_lt)
 have hw3 : ((((((((0 * 256 + (x31.toUInt64) % 128) * 256 + x30.toUInt64) * 256 + x29.toUInt64) * 256 + x28.toUInt64) * 256 + x27.toUInt64) * 256 + x26.toUInt64) * 256 + x25.toUInt64) * 256 + x24.toUInt64) = o3 := by
  rw [← ho3]
  refine UInt64.toNat_inj.mp ?_
  rw [top_val]
  exact hoW_val _ _ _ _ _ _ _ (first_mod x31) (by omega)
 rw [ho0, ho1, ho2, ho3]
 have hS := reduced_ o0 o1 o2 o3
 obtain ⟨s0, s1, s2, s3, hs, hvs⟩ := w4_get (vQ o0 o1 o2 o3 % p25) (mod_m4 _)
 have hus : u64C [s0, s1, s2, s3] = [.pl (.u64 s0), .pl (.u64 s1), .pl (.u64 s2), .pl (.u64 s3)] := rfl
 simp only [w4C, hs, hus] at hS ⊢
 have F0 := And.intro hw0 <| And.intro hw1 <| And.intro hw2 <| hw3
 refine CtM.k Tryd.func19 rfl Tryd.ntmps19 (congrArg Array.toList Tryd.results19) (by simp) fun w0 ro may fx => ?_
 refine sr_k fun K1 hK1 => ?_
 simp only [go_sem, Int.toNat_one, Int.reduceTMod, Int.reduceTDiv, Int.mul_zero, F0]
 repeat' (first | apply And.intro | intro _)
 refine hK1 _ ?_
 refine sr_k fun K2 hK2 => ?_
 simp only [go_sem, Int.toNat_one, Int.reduceTMod, Int.reduceTDiv, Int.mul_zero, F0]
 repeat' (first | apply And.intro | intro _)
 refine hK2 _ ?_
 refine seq_k fun N3 M3 hN3 hM3 => ?_
 refine sr_k fun K4 hK4 => ?_
 simp only [go_sem, Int.toNat_one, Int.reduceTMod, Int.reduceTDiv, Int.mul_zero, F0]
 repeat' (first | apply And.intro | intro _)
 refine hK4 _ ?_
 refine block_k fun B5 bn5 bx5 br5 bi5 => ?_
 refine rounds_k 33 ?_
 refine rnd_k fun N7 M7 hN7 hM7 => ?_
 refine seq_k fun N8 M8 hN8 hM8 => ?_
 refine sr_k fun K9 hK9 => ?_
 simp only [go_sem, Int.toNat_one, Int.reduceTMod, Int.reduceTDiv, Int.mul_zero, F0]
 repeat' (first | apply And.intro | intro _)
 refine hK9 _ ?_
 refine condT_k (by first | rfl | (simp [go_sem, Int.toNat_one, Int.reduceTMod, Int.reduceTDiv, Int.mul_zero, F0]; done)) ?_
 refine skip_k ?_
 refine hN8 _ ?_
 refine seq_k fun N10 M10 hN10 hM10 => ?_
 refine block_k fun B11 bn11 bx11 br11 bi11 => ?_
 refine sr_k fun K12 hK12 => ?_
 simp only [go_sem, Int.toNat_one, Int.reduceTMod, Int.reduceTDiv, Int.mul_zero, F0]
 repeat' (first | apply And.intro | intro _)
 refine hK12 _ ?_
 refine seq_k fun N13 M13 hN13 hM13 => ?_
 refine sr_k fun K14 hK14 => ?_
 simp only [go_sem, Int.toNat_one, Int.reduceTMod, Int.reduceTDiv, Int.mul_zero, F0]
 repeat' (first | apply And.intro | intro _)
 refine hK14 _ ?_
 refine condT_k (by first | rfl | (simp [go_sem, Int.toNat_one, Int.reduceTMod, Int.reduceTDiv, Int.mul_zero, F0]; done)) ?_
 refine region_k fun K15 hK15 => ?_
 simp only [go_sem, Int.toNat_one, Int.reduceTMod, Int.reduceTDiv, Int.mul_zero, F0]
 repeat' (first | apply And.intro | intro _)
 refine hK15 _ ?_
 refine hN13 _ ?_
 refine region_k fun K16 hK16 => ?_
 simp only [go_sem, Int.toNat_one, Int.reduceTMod, Int.reduceTDiv, Int.mul_zero, F0]
 repeat' (first | apply And.intro | intro _)
 refine hK16 _ ?_
 refine bn11 _ ?_
 refine hN10 _ ?_
 refine region_k fun K17 hK17 => ?_
 simp only [go_sem, Int.toNat_one, Int.reduceTMod, Int.reduceTDiv, Int.mul_zero, F0]
 repeat' (first | apply And.intro | intro _)
 refine hK17 _ ?_
 refine hN7 _ ?_
 refine rnd_forget [5, 6, 7, 8, 9, 10, 11, 12, 13, 14, 15, 16, 17, 18, 19, 20, 21, 22, 23, 24, 25, 26, 27] ?_
 simp only [go_sem, St.forget, fgt]
 refine rnd_k fun N18 M18 hN18 hM18 => ?_
 refine seq_k fun N19 M19 hN19 hM19 => ?_
 refine sr_k fun K20 hK20 => ?_
 simp only [go_sem, Int.toNat_one, Int.reduceTMod, Int.reduceTDiv, Int.mul_zero, F0]
 repeat' (first | apply And.intro | intro _)
 refine hK20 _ ?_
 refine condT_k (by first | rfl | (simp [go_sem, Int.toNat_one, Int.reduceTMod, Int.reduceTDiv, Int.mul_zero, F0]; done)) ?_
 refine skip_k ?_
 refine hN19 _ ?_
 refine seq_k fun N21 M21 hN21 hM21 => ?_
 refine block_k fun B22 bn22 bx22 br22 bi22 => ?_
 refine sr_k fun K23 hK23 => ?_
 simp only [go_sem, Int.toNat_one, Int.reduceTMod, Int.reduceTDiv, Int.mul_zero, F0]
 repeat' (first | apply And.intro | intro _)
 refine hK23 _ ?_
 refine seq_k fun N24 M24 hN24 hM24 => ?_
 refine sr_k fun K25 hK25 => ?_
 simp only [go_sem, Int.toNat_one, Int.reduceTMod, Int.reduceTDiv, Int.mul_zero, F0]
 repeat' (first | apply And.intro | intro _)
 refine hK25 _ ?_
 refine condF_k (by first | rfl | (simp [go_sem, Int.toNat_one, Int.reduceTMod, Int.reduceTDiv, Int.mul_zero, F0]; done)) ?_
 refine skip_k ?_
 refine hN24 _ ?_
 refine region_k fun K26 hK26 => ?_
 simp only [go_sem, Int.toNat_one, Int.reduceTMod, Int.reduceTDiv, Int.mul_zero, F0]
 repeat' (first | apply And.intro | intro _)
 refine hK26 _ ?_
 refine bn22 _ ?_
 refine hN21 _ ?_
 refine region_k fun K27 hK27 => ?_
 simp only [go_sem, Int.toNat_one, Int.reduceTMod, Int.reduceTDiv, Int.mul_zero, F0]
 repeat' (first | apply And.intro | intro _)
 refine hK27 _ ?_
 refine hN18 _ ?_
 refine rnd_forget [5, 6, 7, 8, 9, 10, 11, 12, 13, 14, 15, 16, 17, 18, 19, 20, 21, 22, 23, 24, 25, 26, 27] ?_
 simp only [go_sem, St.forget, fgt]
 refine rnd_k fun N28 M28 hN28 hM28 => ?_
 refine seq_k fun N29 M29 hN29 hM29 => ?_
 refine sr_k fun K30 hK30 => ?_
 simp only [go_sem, Int.toNat_one, Int.reduceTMod, Int.reduceTDiv, Int.mul_zero, F0]
 repeat' (first | apply And.intro | intro _)
 refine hK30 _ ?_
 refine condT_k (by first | rfl | (simp [go_sem, Int.toNat_one, Int.reduceTMod, Int.reduceTDiv, Int.mul_zero, F0]; done)) ?_
 refine skip_k ?_
 refine hN29 _ ?_
 refine seq_k fun N31 M31 hN31 hM31 => ?_
 refine block_k fun B32 bn32 bx32 br32 bi32 => ?_
 refine sr_k fun K33 hK33 => ?_
 simp only [go_sem, Int.toNat_one, Int.reduceTMod, Int.reduceTDiv, Int.mul_zero, F0]
 repeat' (first | apply And.intro | intro _)
 refine hK33 _ ?_
 refine seq_k fun N34 M34 hN34 hM34 => ?_
 refine sr_k fun K35 hK35 => ?_
 simp only [go_sem, Int.toNat_one, Int.reduceTMod, Int.reduceTDiv, Int.mul_zero, F0]
 repeat' (first | apply And.intro | intro _)
 refine hK35 _ ?_
 refine condF_k (by first | rfl | (simp [go_sem, Int.toNat_one, Int.reduceTMod, Int.reduceTDiv, Int.mul_zero, F0]; done)) ?_
 refine skip_k ?_
 refine hN34 _ ?_
 refine region_k fun K36 hK36 => ?_
 simp only [go_sem, Int.toNat_one, Int.reduceTMod, Int.reduceTDiv, Int.mul_zero, F0]
 repeat' (first | apply And.intro | intro _)
 refine hK36 _ ?_
 refine bn32 _ ?_
 refine hN31 _ ?_
 refine region_k fun K37 hK37 => ?_
 simp only [go_sem, Int.toNat_one, Int.reduceTMod, Int.reduceTDiv, Int.mul_zero, F0]
 repeat' (first | apply And.intro | intro _)
 refine hK37 _ ?_
 refine hN28 _ ?_
 refine rnd_forget [5, 6, 7, 8, 9, 10, 11, 12, 13, 14, 15, 16, 17, 18, 19, 20, 21, 22, 23, 24, 25, 26, 27] ?_
 simp only [go_sem, St.forget, fgt]
 refine rnd_k fun N38 M38 hN38 hM38 => ?_
 refine seq_k fun N39 M39 hN39 hM39 => ?_
 refine sr_k fun K40 hK40 => ?_
 simp only [go_sem, Int.toNat_one, Int.reduceTMod, Int.reduceTDiv, Int.mul_zero, F0]
 repeat' (first | apply And.intro | intro _)
 refine hK40 _ ?_
 refine condT_k (by first | rfl | (simp [go_sem, Int.toNat_one, Int.reduceTMod, Int.reduceTDiv, Int.mul_zero, F0]; done)) ?_
 refine skip_k ?_
 refine hN39 _ ?_
 refine seq_k fun N41 M41 hN41 hM41 => ?_
 refine block_k fun B42 bn42 bx42 br42 bi42 => ?_
 refine sr_k fun K43 hK43 => ?_
 simp only [go_sem, Int.toNat_one, Int.reduceTMod, Int.reduceTDiv, Int.mul_zero, F0]
 repeat' (first | apply And.intro | intro _)
 refine hK43 _ ?_
 refine seq_k fun N44 M44 hN44 hM44 => ?_
 refine sr_k fun K45 hK45 => ?_
 simp only [go_sem, Int.toNat_one, Int.reduceTMod, Int.reduceTDiv, Int.mul_zero, F0]
 repeat' (first | apply And.intro | intro _)
 refine hK45 _ ?_
 refine condF_k (by first | rfl | (simp [go_sem, Int.toNat_one, Int.reduceTMod, Int.reduceTDiv, Int.mul_zero, F0]; done)) ?_
 refine skip_k ?_
 refine hN44 _ ?_
 refine region_k fun K46 hK46 => ?_
 simp only [go_sem, Int.toNat_one, Int.reduceTMod, Int.reduceTDiv, Int.mul_zero, F0]
 repeat' (first | apply And.intro | intro _)
 refine hK46 _ ?_
 refine bn42 _ ?_
 refine hN41 _ ?_
 refine region_k fun K47 hK47 => ?_
 simp only [go_sem, Int.toNat_one, Int.reduceTMod, Int.reduceTDiv, Int.mul_zero, F0]
 repeat' (first | apply And.intro | intro _)
 refine hK47 _ ?_
 refine hN38 _ ?_
 refine rnd_forget [5, 6, 7, 8, 9, 10, 11, 12, 13, 14, 15, 16, 17, 18, 19, 20, 21, 22, 23, 24, 25, 26, 27] ?_
 simp only [go_sem, St.forget, fgt]
 refine rnd_k fun N48 M48 hN48 hM48 => ?_
 refine seq_k fun N49 M49 hN49 hM49 => ?_
 refine sr_k fun K50 hK50 => ?_
 simp only [go_sem, Int.toNat_one, Int.reduceTMod, Int.reduceTDiv, Int.mul_zero, F0]
 repeat' (first | apply And.intro | intro _)
 refine hK50 _ ?_
 refine condT_k (by first | rfl | (simp [go_sem, Int.toNat_one, Int.reduceTMod, Int.reduceTDiv, Int.mul_zero, F0]; done)) ?_
 refine skip_k ?_
 refine hN49 _ ?_
 refine seq_k fun N51 M51 hN51 hM51 => ?_
 refine block_k fun B52 bn52 bx52 br52 bi52 => ?_
 refine sr_k fun K53 hK53 => ?_
 simp only [go_sem, Int.toNat_one, Int.reduceTMod, Int.reduceTDiv, Int.mul_zero, F0]
 repeat' (first | apply And.intro | intro _)
 refine hK53 _ ?_
 refine seq_k fun N54 M54 hN54 hM54 => ?_
 refine sr_k fun K55 hK55 => ?_
 simp only [go_sem, Int.toNat_one, Int.reduceTMod, Int.reduceTDiv, Int.mul_zero, F0]
 repeat' (first | apply And.intro | intro _)
 refine hK55 _ ?_
 refine condF_k (by first | rfl | (simp [go_sem, Int.toNat_one, Int.reduceTMod, Int.reduceTDiv, Int.mul_zero, F0]; done)) ?_
 refine skip_k ?_
 refine hN54 _ ?_
 refine region_k fun K56 hK56 => ?_
 simp only [go_sem, Int.toNat_one, Int.reduceTMod, Int.reduceTDiv, Int.mul_zero, F0]
 repeat' (first | apply And.intro | intro _)
 refine hK56 _ ?_
 refine bn52 _ ?_
 refine hN51 _ ?_
 refine region_k fun K57 hK57 => ?_
 simp only [go_sem, Int.toNat_one, Int.reduceTMod, Int.reduceTDiv, Int.mul_zero, F0]
 repeat' (first | apply And.intro | intro _)
 refine hK57 _ ?_
 refine hN48 _ ?_
 refine rnd_forget [5, 6, 7, 8, 9, 10, 11, 12, 13, 14, 15, 16, 17, 18, 19, 20, 21, 22, 23, 24, 25, 26, 27] ?_
 simp only [go_sem, St.forget, fgt]
 refine rnd_k fun N58 M58 hN58 hM58 => ?_
 refine seq_k fun N59 M59 hN59 hM59 => ?_
 refine sr_k fun K60 hK60 => ?_
 simp only [go_sem, Int.toNat_one, Int.reduceTMod, Int.reduceTDiv, Int.mul_zero, F0]
 repeat' (first | apply And.intro | intro _)
 refine hK60 _ ?_
 refine condT_k (by first | rfl | (simp [go_sem, Int.toNat_one, Int.reduceTMod, Int.reduceTDiv, Int.mul_zero, F0]; done)) ?_
 refine skip_k ?_
 refine hN59 _ ?_
 refine seq_k fun N61 M61 hN61 hM61 => ?_
 refine block_k fun B62 bn62 bx62 br62 bi62 => ?_
 refine sr_k fun K63 hK63 => ?_
 simp only [go_sem, Int.toNat_one, Int.reduceTMod, Int.reduceTDiv, Int.mul_zero, F0]
 repeat' (first | apply And.intro | intro _)
 refine hK63 _ ?_
 refine seq_k fun N64 M64 hN64 hM64 => ?_
 refine sr_k fun K65 hK65 => ?_
 simp only [go_sem, Int.toNat_one, Int.reduceTMod, Int.reduceTDiv, Int.mul_zero, F0]
 repeat' (first | apply And.intro | intro _)
 refine hK65 _ ?_
 refine condF_k (by first | rfl | (simp [go_sem, Int.toNat_one, Int.reduceTMod, Int.reduceTDiv, Int.mul_zero, F0]; done)) ?_
 refine skip_k ?_
 refine hN64 _ ?_
 refine region_k fun K66 hK66 => ?_
 simp only [go_sem, Int.toNat_one, Int.reduceTMod, Int.reduceTDiv, Int.mul_zero, F0]
 repeat' (first | apply And.intro | intro _)
 refine hK66 _ ?_
 refine bn62 _ ?_
 refine hN61 _ ?_
 refine region_k fun K67 hK67 => ?_
 simp only [go_sem, Int.toNat_one, Int.reduceTMod, Int.reduceTDiv, Int.mul_zero, F0]
 repeat' (first | apply And.intro | intro _)
 refine hK67 _ ?_
 refine hN58 _ ?_
 refine rnd_forget [5, 6, 7, 8, 9, 10, 11, 12, 13, 14, 15, 16, 17, 18, 19, 20, 21, 22, 23, 24, 25, 26, 27] ?_
 simp only [go_sem, St.forget, fgt]
 refine rnd_k fun N68 M68 hN68 hM68 => ?_
 refine seq_k fun N69 M69 hN69 hM69 => ?_
 refine sr_k fun K70 hK70 => ?_
 simp only [go_sem, Int.toNat_one, Int.reduceTMod, Int.reduceTDiv, Int.mul_zero, F0]
 repeat' (first | apply And.intro | intro _)
 refine hK70 _ ?_
 refine condT_k (by first | rfl | (simp [go_sem, Int.toNat_one, Int.reduceTMod, Int.reduceTDiv, Int.mul_zero, F0]; done)) ?_
 refine skip_k ?_
 refine hN69 _ ?_
 refine seq_k fun N71 M71 hN71 hM71 => ?_
 refine block_k fun B72 bn72 bx72 br72 bi72 => ?_
 refine sr_k fun K73 hK73 => ?_
 simp only [go_sem, Int.toNat_one, Int.reduceTMod, Int.reduceTDiv, Int.mul_zero, F0]
 repeat' (first | apply And.intro | intro _)
 refine hK73 _ ?_
 refine seq_k fun N74 M74 hN74 hM74 => ?_
 refine sr_k fun K75 hK75 => ?_
 simp only [go_sem, Int.toNat_one, Int.reduceTMod, Int.reduceTDiv, Int.mul_zero, F0]
 repeat' (first | apply And.intro | intro _)
 refine hK75 _ ?_
 refine condF_k (by first | rfl | (simp [go_sem, Int.toNat_one, Int.reduceTMod, Int.reduceTDiv, Int.mul_zero, F0]; done)) ?_
 refine skip_k ?_
 refine hN74 _ ?_
 refine region_k fun K76 hK76 => ?_
 simp only [go_sem, Int.toNat_one, Int.reduceTMod, Int.reduceTDiv, Int.mul_zero, F0]
 repeat' (first | apply And.intro | intro _)
 refine hK76 _ ?_
 refine bn72 _ ?_
 refine hN71 _ ?_
 refine region_k fun K77 hK77 => ?_
 simp only [go_sem, Int.toNat_one, Int.reduceTMod, Int.reduceTDiv, Int.mul_zero, F0]
 repeat' (first | apply And.intro | intro _)
 refine hK77 _ ?_
 refine hN68 _ ?_
 refine rnd_forget [5, 6, 7, 8, 9, 10, 11, 12, 13, 14, 15, 16, 17, 18, 19, 20, 21, 22, 23, 24, 25, 26, 27] ?_
 simp only [go_sem, St.forget, fgt]
 refine rnd_k fun N78 M78 hN78 hM78 => ?_
 refine seq_k fun N79 M79 hN79 hM79 => ?_
 refine sr_k fun K80 hK80 => ?_
 simp only [go_sem, Int.toNat_one, Int.reduceTMod, Int.reduceTDiv, Int.mul_zero, F0]
 repeat' (first | apply And.intro | intro _)
 refine hK80 _ ?_
 refine condT_k (by first | rfl | (simp [go_sem, Int.toNat_one, Int.reduceTMod, Int.reduceTDiv, Int.mul_zero, F0]; done)) ?_
 refine skip_k ?_
 refine hN79 _ ?_
 refine seq_k fun N81 M81 hN81 hM81 => ?_
 refine block_k fun B82 bn82 bx82 br82 bi82 => ?_
 refine sr_k fun K83 hK83 => ?_
 simp only [go_sem, Int.toNat_one, Int.reduceTMod, Int.reduceTDiv, Int.mul_zero, F0]
 repeat' (first | apply And.intro | intro _)
 refine hK83 _ ?_
 refine seq_k fun N84 M84 hN84 hM84 => ?_
 refine sr_k fun K85 hK85 => ?_
 simp only [go_sem, Int.toNat_one, Int.reduceTMod, Int.reduceTDiv, Int.mul_zero, F0]
 repeat' (first | apply And.intro | intro _)
 refine hK85 _ ?_
 refine condF_k (by first | rfl | (simp [go_sem, Int.toNat_one, Int.reduceTMod, Int.reduceTDiv, Int.mul_zero, F0]; done)) ?_
 refine skip_k ?_
 refine hN84 _ ?_
 refine region_k fun K86 hK86 => ?_
 simp only [go_sem, Int.toNat_one, Int.reduceTMod, Int.reduceTDiv, Int.mul_zero, F0]
 repeat' (first | apply And.intro | intro _)
 refine hK86 _ ?_
 refine bn82 _ ?_
 refine hN81 _ ?_
 refine region_k fun K87 hK87 => ?_
 simp only [go_sem, Int.toNat_one, Int.reduceTMod, Int.reduceTDiv, Int.mul_zero, F0]
 repeat' (first | apply And.intro | intro _)
 refine hK87 _ ?_
 refine hN78 _ ?_
 refine rnd_forget [5, 6, 7, 8, 9, 10, 11, 12, 13, 14, 15, 16, 17, 18, 19, 20, 21, 22, 23, 24, 25, 26, 27] ?_
 simp only [go_sem, St.forget, fgt]
 refine rnd_k fun N88 M88 hN88 hM88 => ?_
 refine seq_k fun N89 M89 hN89 hM89 => ?_
 refine sr_k fun K90 hK90 => ?_
 simp only [go_sem, Int.toNat_one, Int.reduceTMod, Int.reduceTDiv, Int.mul_zero, F0]
 repeat' (first | apply And.intro | intro _)
 refine hK90 _ ?_
 refine condT_k (by first | rfl | (simp [go_sem, Int.toNat_one, Int.reduceTMod, Int.reduceTDiv, Int.mul_zero, F0]; done)) ?_
 refine skip_k ?_
 refine hN89 _ ?_
 refine seq_k fun N91 M91 hN91 hM91 => ?_
 refine block_k fun B92 bn92 bx92 br92 bi92 => ?_
 refine sr_k fun K93 hK93 => ?_
 simp only [go_sem, Int.toNat_one, Int.reduceTMod, Int.reduceTDiv, Int.mul_zero, F0]
 repeat' (first | apply And.intro | intro _)
 refine hK93 _ ?_
 refine seq_k fun N94 M94 hN94 hM94 => ?_
 refine sr_k fun K95 hK95 => ?_
 simp only [go_sem, Int.toNat_one, Int.reduceTMod, Int.reduceTDiv, Int.mul_zero, F0]
 repeat' (first | apply And.intro | intro _)
 refine hK95 _ ?_
 refine condF_k (by first | rfl | (simp [go_sem, Int.toNat_one, Int.reduceTMod, Int.reduceTDiv, Int.mul_zero, F0]; done)) ?_
 refine skip_k ?_
 refine hN94 _ ?_
 refine region_k fun K96 hK96 => ?_
 simp only [go_sem, Int.toNat_one, Int.reduceTMod, Int.reduceTDiv, Int.mul_zero, F0]
 repeat' (first | apply And.intro | intro _)
 refine hK96 _ ?_
 refine bn92 _ ?_
 refine hN91 _ ?_
 refine region_k fun K97 hK97 => ?_
 simp only [go_sem, Int.toNat_one, Int.reduceTMod, Int.reduceTDiv, Int.mul_zero, F0]
 repeat' (first | apply And.intro | intro _)
 refine hK97 _ ?_
 refine hN88 _ ?_
 refine rnd_forget [5, 6, 7, 8, 9, 10, 11, 12, 13, 14, 15, 16, 17, 18, 19, 20, 21, 22, 23, 24, 25, 26, 27] ?_
 simp only [go_sem, St.forget, fgt]
 refine rnd_k fun N98 M98 hN98 hM98 => ?_
 refine seq_k fun N99 M99 hN99 hM99 => ?_
 refine sr_k fun K100 hK100 => ?_
 simp only [go_sem, Int.toNat_one, Int.reduceTMod, Int.reduceTDiv, Int.mul_zero, F0]
 repeat' (first | apply And.intro | intro _)
 refine hK100 _ ?_
 refine condT_k (by first | rfl | (simp [go_sem, Int.toNat_one, Int.reduceTMod, Int.reduceTDiv, Int.mul_zero, F0]; done)) ?_
 refine skip_k ?_
 refine hN99 _ ?_
 refine seq_k fun N101 M101 hN101 hM101 => ?_
 refine block_k fun B102 bn102 bx102 br102 bi102 => ?_
 refine sr_k fun K103 hK103 => ?_
 simp only [go_sem, Int.toNat_one, Int.reduceTMod, Int.reduceTDiv, Int.mul_zero, F0]
 repeat' (first | apply And.intro | intro _)
 refine hK103 _ ?_
 refine seq_k fun N104 M104 hN104 hM104 => ?_
 refine sr_k fun K105 hK105 => ?_
 simp only [go_sem, Int.toNat_one, Int.reduceTMod, Int.reduceTDiv, Int.mul_zero, F0]
 repeat' (first | apply And.intro | intro _)
 refine hK105 _ ?_
 refine condF_k (by first | rfl | (simp [go_sem, Int.toNat_one, Int.reduceTMod, Int.reduceTDiv, Int.mul_zero, F0]; done)) ?_
 refine skip_k ?_
 refine hN104 _ ?_
 refine region_k fun K106 hK106 => ?_
 simp only [go_sem, Int.toNat_one, Int.reduceTMod, Int.reduceTDiv, Int.mul_zero, F0]
 repeat' (first | apply And.intro | intro _)
 refine hK106 _ ?_
 refine bn102 _ ?_
 refine hN101 _ ?_
 refine region_k fun K107 hK107 => ?_
 simp only [go_sem, Int.toNat_one, Int.reduceTMod, Int.reduceTDiv, Int.mul_zero, F0]
 repeat' (first | apply And.intro | intro _)
 refine hK107 _ ?_
 refine hN98 _ ?_
 refine rnd_forget [5, 6, 7, 8, 9, 10, 11, 12, 13, 14, 15, 16, 17, 18, 19, 20, 21, 22, 23, 24, 25, 26, 27] ?_
 simp only [go_sem, St.forget, fgt]
 refine rnd_k fun N108 M108 hN108 hM108 => ?_
 refine seq_k fun N109 M109 hN109 hM109 => ?_
 refine sr_k fun K110 hK110 => ?_
 simp only [go_sem, Int.toNat_one, Int.reduceTMod, Int.reduceTDiv, Int.mul_zero, F0]
 repeat' (first | apply And.intro | intro _)
 refine hK110 _ ?_
 refine condT_k (by first | rfl | (simp [go_sem, Int.toNat_one, Int.reduceTMod, Int.reduceTDiv, Int.mul_zero, F0]; done)) ?_
 refine skip_k ?_
 refine hN109 _ ?_
 refine seq_k fun N111 M111 hN111 hM111 => ?_
 refine block_k fun B112 bn112 bx112 br112 bi112 => ?_
 refine sr_k fun K113 hK113 => ?_
 simp only [go_sem, Int.toNat_one, Int.reduceTMod, Int.reduceTDiv, Int.mul_zero, F0]
 repeat' (first | apply And.intro | intro _)
 refine hK113 _ ?_
 refine seq_k fun N114 M114 hN114 hM114 => ?_
 refine sr_k fun K115 hK115 => ?_
 simp only [go_sem, Int.toNat_one, Int.reduceTMod, Int.reduceTDiv, Int.mul_zero, F0]
 repeat' (first | apply And.intro | intro _)
 refine hK115 _ ?_
 refine condF_k (by first | rfl | (simp [go_sem, Int.toNat_one, Int.reduceTMod, Int.reduceTDiv, Int.mul_zero, F0]; done)) ?_
 refine skip_k ?_
 refine hN114 _ ?_
 refine region_k fun K116 hK116 => ?_
 simp only [go_sem, Int.toNat_one, Int.reduceTMod, Int.reduceTDiv, Int.mul_zero, F0]
 repeat' (first | apply And.intro | intro _)
 refine hK116 _ ?_
 refine bn112 _ ?_
 refine hN111 _ ?_
 refine region_k fun K117 hK117 => ?_
 simp only [go_sem, Int.toNat_one, Int.reduceTMod, Int.reduceTDiv, Int.mul_zero, F0]
 repeat' (first | apply And.intro | intro _)
 refine hK117 _ ?_
 refine hN108 _ ?_
 refine rnd_forget [5, 6, 7, 8, 9, 10, 11, 12, 13, 14, 15, 16, 17, 18, 19, 20, 21, 22, 23, 24, 25, 26, 27] ?_
 simp only [go_sem, St.forget, fgt]
 refine rnd_k fun N118 M118 hN118 hM118 => ?_
 refine seq_k fun N119 M119 hN119 hM119 => ?_
 refine sr_k fun K120 hK120 => ?_
 simp only [go_sem, Int.toNat_one, Int.reduceTMod, Int.reduceTDiv, Int.mul_zero, F0]
 repeat' (first | apply And.intro | intro _)
 refine hK120 _ ?_
 refine condT_k (by first | rfl | (simp [go_sem, Int.toNat_one, Int.reduceTMod, Int.reduceTDiv, Int.mul_zero, F0]; done)) ?_
 refine skip_k ?_
 refine hN119 _ ?_
 refine seq_k fun N121 M121 hN121 hM121 => ?_
 refine block_k fun B122 bn122 bx122 br122 bi122 => ?_
 refine sr_k fun K123 hK123 => ?_
 simp only [go_sem, Int.toNat_one, Int.reduceTMod, Int.reduceTDiv, Int.mul_zero, F0]
 repeat' (first | apply And.intro | intro _)
 refine hK123 _ ?_
 refine seq_k fun N124 M124 hN124 hM124 => ?_
 refine sr_k fun K125 hK125 => ?_
 simp only [go_sem, Int.toNat_one, Int.reduceTMod, Int.reduceTDiv, Int.mul_zero, F0]
 repeat' (first | apply And.intro | intro _)
 refine hK125 _ ?_
 refine condF_k (by first | rfl | (simp [go_sem, Int.toNat_one, Int.reduceTMod, Int.reduceTDiv, Int.mul_zero, F0]; done)) ?_
 refine skip_k ?_
 refine hN124 _ ?_
 refine region_k fun K126 hK126 => ?_
 simp only [go_sem, Int.toNat_one, Int.reduceTMod, Int.reduceTDiv, Int.mul_zero, F0]
 repeat' (first | apply And.intro | intro _)
 refine hK126 _ ?_
 refine bn122 _ ?_
 refine hN121 _ ?_
 refine region_k fun K127 hK127 => ?_
 simp only [go_sem, Int.toNat_one, Int.reduceTMod, Int.reduceTDiv, Int.mul_zero, F0]
 repeat' (first | apply And.intro | intro _)
 refine hK127 _ ?_
 refine hN118 _ ?_
 refine rnd_forget [5, 6, 7, 8, 9, 10, 11, 12, 13, 14, 15, 16, 17, 18, 19, 20, 21, 22, 23, 24, 25, 26, 27] ?_
 simp only [go_sem, St.forget, fgt]
 refine rnd_k fun N128 M128 hN128 hM128 => ?_
 refine seq_k fun N129 M129 hN129 hM129 => ?_
 refine sr_k fun K130 hK130 => ?_
 simp only [go_sem, Int.toNat_one, Int.reduceTMod, Int.reduceTDiv, Int.mul_zero, F0]
 repeat' (first | apply And.intro | intro _)
 refine hK130 _ ?_
 refine condT_k (by first | rfl | (simp [go_sem, Int.toNat_one, Int.reduceTMod, Int.reduceTDiv, Int.mul_zero, F0]; done)) ?_
 refine skip_k ?_
 refine hN129 _ ?_
 refine seq_k fun N131 M131 hN131 hM131 => ?_
 refine block_k fun B132 bn132 bx132 br132 bi132 => ?_
 refine sr_k fun K133 hK133 => ?_
 simp only [go_sem, Int.toNat_one, Int.reduceTMod, Int.reduceTDiv, Int.mul_zero, F0]
 repeat' (first | apply And.intro | intro _)
 refine hK133 _ ?_
 refine seq_k fun N134 M134 hN134 hM134 => ?_
 refine sr_k fun K135 hK135 => ?_
 simp only [go_sem, Int.toNat_one, Int.reduceTMod, Int.reduceTDiv, Int.mul_zero, F0]
 repeat' (first | apply And.intro | intro _)
 refine hK135 _ ?_
 refine condF_k (by first | rfl | (simp [go_sem, Int.toNat_one, Int.reduceTMod, Int.reduceTDiv, Int.mul_zero, F0]; done)) ?_
 refine skip_k ?_
 refine hN134 _ ?_
 refine region_k fun K136 hK136 => ?_
 simp only [go_sem, Int.toNat_one, Int.reduceTMod, Int.reduceTDiv, Int.mul_zero, F0]
 repeat' (first | apply And.intro | intro _)
 refine hK136 _ ?_
 refine bn132 _ ?_
 refine hN131 _ ?_
 refine region_k fun K137 hK137 => ?_
 simp only [go_sem, Int.toNat_one, Int.reduceTMod, Int.reduceTDiv, Int.mul_zero, F0]
 repeat' (first | apply And.intro | intro _)
 refine hK137 _ ?_
 refine hN128 _ ?_
 refine rnd_forget [5, 6, 7, 8, 9, 10, 11, 12, 13, 14, 15, 16, 17, 18, 19, 20, 21, 22, 23, 24, 25, 26, 27] ?_
 simp only [go_sem, St.forget, fgt]
 refine rnd_k fun N138 M138 hN138 hM138 => ?_
 refine seq_k fun N139 M139 hN139 hM139 => ?_
 refine sr_k fun K140 hK140 => ?_
 simp only [go_sem, Int.toNat_one, Int.reduceTMod, Int.reduceTDiv, Int.mul_zero, F0]
 repeat' (first | apply And.intro | intro _)
 refine hK140 _ ?_
 refine condT_k (by first | rfl | (simp [go_sem, Int.toNat_one, Int.reduceTMod, Int.reduceTDiv, Int.mul_zero, F0]; done)) ?_
 refine skip_k ?_
 refine hN139 _ ?_
 refine seq_k fun N141 M141 hN141 hM141 => ?_
 refine block_k fun B142 bn142 bx142 br142 bi142 => ?_
 refine sr_k fun K143 hK143 => ?_
 simp only [go_sem, Int.toNat_one, Int.reduceTMod, Int.reduceTDiv, Int.mul_zero, F0]
 repeat' (first | apply And.intro | intro _)
 refine hK143 _ ?_
 refine seq_k fun N144 M144 hN144 hM144 => ?_
 refine sr_k fun K145 hK145 => ?_
 simp only [go_sem, Int.toNat_one, Int.reduceTMod, Int.reduceTDiv, Int.mul_zero, F0]
 repeat' (first | apply And.intro | intro _)
 refine hK145 _ ?_
 refine condF_k (by first | rfl | (simp [go_sem, Int.toNat_one, Int.reduceTMod, Int.reduceTDiv, Int.mul_zero, F0]; done)) ?_
 refine skip_k ?_
 refine hN144 _ ?_
 refine region_k fun K146 hK146 => ?_
 simp only [go_sem, Int.toNat_one, Int.reduceTMod, Int.reduceTDiv, Int.mul_zero, F0]
 repeat' (first | apply And.intro | intro _)
 refine hK146 _ ?_
 refine bn142 _ ?_
 refine hN141 _ ?_
 refine region_k fun K147 hK147 => ?_
 simp only [go_sem, Int.toNat_one, Int.reduceTMod, Int.reduceTDiv, Int.mul_zero, F0]
 repeat' (first | apply And.intro | intro _)
 refine hK147 _ ?_
 refine hN138 _ ?_
 refine rnd_forget [5, 6, 7, 8, 9, 10, 11, 12, 13, 14, 15, 16, 17, 18, 19, 20, 21, 22, 23, 24, 25, 26, 27] ?_
 simp only [go_sem, St.forget, fgt]
 refine rnd_k fun N148 M148 hN148 hM148 => ?_
 refine seq_k fun N149 M149 hN149 hM149 => ?_
 refine sr_k fun K150 hK150 => ?_
 simp only [go_sem, Int.toNat_one, Int.reduceTMod, Int.reduceTDiv, Int.mul_zero, F0]
 repeat' (first | apply And.intro | intro _)
 refine hK150 _ ?_
 refine condT_k (by first | rfl | (simp [go_sem, Int.toNat_one, Int.reduceTMod, Int.reduceTDiv, Int.mul_zero, F0]; done)) ?_
 refine skip_k ?_
 refine hN149 _ ?_
 refine seq_k fun N151 M151 hN151 hM151 => ?_
 refine block_k fun B152 bn152 bx152 br152 bi152 => ?_
 refine sr_k fun K153 hK153 => ?_
 simp only [go_sem, Int.toNat_one, Int.reduceTMod, Int.reduceTDiv, Int.mul_zero, F0]
 repeat' (first | apply And.intro | intro _)
 refine hK153 _ ?_
 refine seq_k fun N154 M154 hN154 hM154 => ?_
 refine sr_k fun K155 hK155 => ?_
 simp only [go_sem, Int.toNat_one, Int.reduceTMod, Int.reduceTDiv, Int.mul_zero, F0]
 repeat' (first | apply And.intro | intro _)
 refine hK155 _ ?_
 refine condF_k (by first | rfl | (simp [go_sem, Int.toNat_one, Int.reduceTMod, Int.reduceTDiv, Int.mul_zero, F0]; done)) ?_
 refine skip_k ?_
 refine hN154 _ ?_
 refine region_k fun K156 hK156 => ?_
 simp only [go_sem, Int.toNat_one, Int.reduceTMod, Int.reduceTDiv, Int.mul_zero, F0]
 repeat' (first | apply And.intro | intro _)
 refine hK156 _ ?_
 refine bn152 _ ?_
 refine hN151 _ ?_
 refine region_k fun K157 hK157 => ?_
 simp only [go_sem, Int.toNat_one, Int.reduceTMod, Int.reduceTDiv, Int.mul_zero, F0]
 repeat' (first | apply And.intro | intro _)
 refine hK157 _ ?_
 refine hN148 _ ?_
 refine rnd_forget [5, 6, 7, 8, 9, 10, 11, 12, 13, 14, 15, 16, 17, 18, 19, 20, 21, 22, 23, 24, 25, 26, 27] ?_
 simp only [go_sem, St.forget, fgt]
 refine rnd_k fun N158 M158 hN158 hM158 => ?_
 refine seq_k fun N159 M159 hN159 hM159 => ?_
 refine sr_k fun K160 hK160 => ?_
 simp only [go_sem, Int.toNat_one, Int.reduceTMod, Int.reduceTDiv, Int.mul_zero, F0]
 repeat' (first | apply And.intro | intro _)
 refine hK160 _ ?_
 refine condT_k (by first | rfl | (simp [go_sem, Int.toNat_one, Int.reduceTMod, Int.reduceTDiv, Int.mul_zero, F0]; done)) ?_
 refine skip_k ?_
 refine hN159 _ ?_
 refine seq_k fun N161 M161 hN161 hM161 => ?_
 refine block_k fun B162 bn162 bx162 br162 bi162 => ?_
 refine sr_k fun K163 hK163 => ?_
 simp only [go_sem, Int.toNat_one, Int.reduceTMod, Int.reduceTDiv, Int.mul_zero, F0]
 repeat' (first | apply And.intro | intro _)
 refine hK163 _ ?_
 refine seq_k fun N164 M164 hN164 hM164 => ?_
 refine sr_k fun K165 hK165 => ?_
 simp only [go_sem, Int.toNat_one, Int.reduceTMod, Int.reduceTDiv, Int.mul_zero, F0]
 repeat' (first | apply And.intro | intro _)
 refine hK165 _ ?_
 refine condF_k (by first | rfl | (simp [go_sem, Int.toNat_one, Int.reduceTMod, Int.reduceTDiv, Int.mul_zero, F0]; done)) ?_
 refine skip_k ?_
 refine hN164 _ ?_
 refine region_k fun K166 hK166 => ?_
 simp only [go_sem, Int.toNat_one, Int.reduceTMod, Int.reduceTDiv, Int.mul_zero, F0]
 repeat' (first | apply And.intro | intro _)
 refine hK166 _ ?_
 refine bn162 _ ?_
 refine hN161 _ ?_
 refine region_k fun K167 hK167 => ?_
 simp only [go_sem, Int.toNat_one, Int.reduceTMod, Int.reduceTDiv, Int.mul_zero, F0]
 repeat' (first | apply And.intro | intro _)
 refine hK167 _ ?_
 refine hN158 _ ?_
 refine rnd_forget [5, 6, 7, 8, 9, 10, 11, 12, 13, 14, 15, 16, 17, 18, 19, 20, 21, 22, 23, 24, 25, 26, 27] ?_
 simp only [go_sem, St.forget, fgt]
 refine rnd_k fun N168 M168 hN168 hM168 => ?_
 refine seq_k fun N169 M169 hN169 hM169 => ?_
 refine sr_k fun K170 hK170 => ?_
 simp only [go_sem, Int.toNat_one, Int.reduceTMod, Int.reduceTDiv, Int.mul_zero, F0]
 repeat' (first | apply And.intro | intro _)
 refine hK170 _ ?_
 refine condT_k (by first | rfl | (simp [go_sem, Int.toNat_one, Int.reduceTMod, Int.reduceTDiv, Int.mul_zero, F0]; done)) ?_
 refine skip_k ?_
 refine hN169 _ ?_
 refine seq_k fun N171 M171 hN171 hM171 => ?_
 refine block_k fun B172 bn172 bx172 br172 bi172 => ?_
 refine sr_k fun K173 hK173 => ?_
 simp only [go_sem, Int.toNat_one, Int.reduceTMod, Int.reduceTDiv, Int.mul_zero, F0]
 repeat' (first | apply And.intro | intro _)
 refine hK173 _ ?_
 refine seq_k fun N174 M174 hN174 hM174 => ?_
 refine sr_k fun K175 hK175 => ?_
 simp only [go_sem, Int.toNat_one, Int.reduceTMod, Int.reduceTDiv, Int.mul_zero, F0]
 repeat' (first | apply And.intro | intro _)
 refine hK175 _ ?_
 refine condF_k (by first | rfl | (simp [go_sem, Int.toNat_one, Int.reduceTMod, Int.reduceTDiv, Int.mul_zero, F0]; done)) ?_
 refine skip_k ?_
 refine hN174 _ ?_
 refine region_k fun K176 hK176 => ?_
 simp only [go_sem, Int.toNat_one, Int.reduceTMod, Int.reduceTDiv, Int.mul_zero, F0]
 repeat' (first | apply And.intro | intro _)
 refine hK176 _ ?_
 refine bn172 _ ?_
 refine hN171 _ ?_
 refine region_k fun K177 hK177 => ?_
 simp only [go_sem, Int.toNat_one, Int.reduceTMod, Int.reduceTDiv, Int.mul_zero, F0]
 repeat' (first | apply And.intro | intro _)
 refine hK177 _ ?_
 refine hN168 _ ?_
 refine rnd_forget [5, 6, 7, 8, 9, 10, 11, 12, 13, 14, 15, 16, 17, 18, 19, 20, 21, 22, 23, 24, 25, 26, 27] ?_
 simp only [go_sem, St.forget, fgt]
 refine rnd_k fun N178 M178 hN178 hM178 => ?_
 refine seq_k fun N179 M179 hN179 hM179 => ?_
 refine sr_k fun K180 hK180 => ?_
 simp only [go_sem, Int.toNat_one, Int.reduceTMod, Int.reduceTDiv, Int.mul_zero, F0]
 repeat' (first | apply And.intro | intro _)
 refine hK180 _ ?_
 refine condT_k (by first | rfl | (simp [go_sem, Int.toNat_one, Int.reduceTMod, Int.reduceTDiv, Int.mul_zero, F0]; done)) ?_
 refine skip_k ?_
 refine hN179 _ ?_
 refine seq_k fun N181 M181 hN181 hM181 => ?_
 refine block_k fun B182 bn182 bx182 br182 bi182 => ?_
 refine sr_k fun K183 hK183 => ?_
 simp only [go_sem, Int.toNat_one, Int.reduceTMod, Int.reduceTDiv, Int.mul_zero, F0]
 repeat' (first | apply And.intro | intro _)
 refine hK183 _ ?_
 refine seq_k fun N184 M184 hN184 hM184 => ?_
 refine sr_k fun K185 hK185 => ?_
 simp only [go_sem, Int.toNat_one, Int.reduceTMod, Int.reduceTDiv, Int.mul_zero, F0]
 repeat' (first | apply And.intro | intro _)
 refine hK185 _ ?_
 refine condF_k (by first | rfl | (simp [go_sem, Int.toNat_one, Int.reduceTMod, Int.reduceTDiv, Int.mul_zero, F0]; done)) ?_
 refine skip_k ?_
 refine hN184 _ ?_
 refine region_k fun K186 hK186 => ?_
 simp only [go_sem, Int.toNat_one, Int.reduceTMod, Int.reduceTDiv, Int.mul_zero, F0]
 repeat' (first | apply And.intro | intro _)
 refine hK186 _ ?_
 refine bn182 _ ?_
 refine hN181 _ ?_
 refine region_k fun K187 hK187 => ?_
 simp only [go_sem, Int.toNat_one, Int.reduceTMod, Int.reduceTDiv, Int.mul_zero, F0]
 repeat' (first | apply And.intro | intro _)
 refine hK187 _ ?_
 refine hN178 _ ?_
 refine rnd_forget [5, 6, 7, 8, 9, 10, 11, 12, 13, 14, 15, 16, 17, 18, 19, 20, 21, 22, 23, 24, 25, 26, 27] ?_
 simp only [go_sem, St.forget, fgt]
 refine rnd_k fun N188 M188 hN188 hM188 => ?_
 refine seq_k fun N189 M189 hN189 hM189 => ?_
 refine sr_k fun K190 hK190 => ?_
 simp only [go_sem, Int.toNat_one, Int.reduceTMod, Int.reduceTDiv, Int.mul_zero, F0]
 repeat' (first | apply And.intro | intro _)
 refine hK190 _ ?_
 refine condT_k (by first | rfl | (simp [go_sem, Int.toNat_one, Int.reduceTMod, Int.reduceTDiv, Int.mul_zero, F0]; done)) ?_
 refine skip_k ?_
 refine hN189 _ ?_
 refine seq_k fun N191 M191 hN191 hM191 => ?_
 refine block_k fun B192 bn192 bx192 br192 bi192 => ?_
 refine sr_k fun K193 hK193 => ?_
 simp only [go_sem, Int.toNat_one, Int.reduceTMod, Int.reduceTDiv, Int.mul_zero, F0]
 repeat' (first | apply And.intro | intro _)
 refine hK193 _ ?_
 refine seq_k fun N194 M194 hN194 hM194 => ?_
 refine sr_k fun K195 hK195 => ?_
 simp only [go_sem, Int.toNat_one, Int.reduceTMod, Int.reduceTDiv, Int.mul_zero, F0]
 repeat' (first | apply And.intro | intro _)
 refine hK195 _ ?_
 refine condF_k (by first | rfl | (simp [go_sem, Int.toNat_one, Int.reduceTMod, Int.reduceTDiv, Int.mul_zero, F0]; done)) ?_
 refine skip_k ?_
 refine hN194 _ ?_
 refine region_k fun K196 hK196 => ?_
 simp only [go_sem, Int.toNat_one, Int.reduceTMod, Int.reduceTDiv, Int.mul_zero, F0]
 repeat' (first | apply And.intro | intro _)
 refine hK196 _ ?_
 refine bn192 _ ?_
 refine hN191 _ ?_
 refine region_k fun K197 hK197 => ?_
 simp only [go_sem, Int.toNat_one, Int.reduceTMod, Int.reduceTDiv, Int.mul_zero, F0]
 repeat' (first | apply And.intro | intro _)
 refine hK197 _ ?_
 refine hN188 _ ?_
 refine rnd_forget [5, 6, 7, 8, 9, 10, 11, 12, 13, 14, 15, 16, 17, 18, 19, 20, 21, 22, 23, 24, 25, 26, 27] ?_
 simp only [go_sem, St.forget, fgt]
 refine rnd_k fun N198 M198 hN198 hM198 => ?_
 refine seq_k fun N199 M199 hN199 hM199 => ?_
 refine sr_k fun K200 hK200 => ?_
 simp only [go_sem, Int.toNat_one, Int.reduceTMod, Int.reduceTDiv, Int.mul_zero, F0]
 repeat' (first | apply And.intro | intro _)
 refine hK200 _ ?_
 refine condT_k (by first | rfl | (simp [go_sem, Int.toNat_one, Int.reduceTMod, Int.reduceTDiv, Int.mul_zero, F0]; done)) ?_
 refine skip_k ?_
 refine hN199 _ ?_
 refine seq_k fun N201 M201 hN201 hM201 => ?_
 refine block_k fun B202 bn202 bx202 br202 bi202 => ?_
 refine sr_k fun K203 hK203 => ?_
 simp only [go_sem, Int.toNat_one, Int.reduceTMod, Int.reduceTDiv, Int.mul_zero, F0]
 repeat' (first | apply And.intro | intro _)
 refine hK203 _ ?_
 refine seq_k fun N204 M204 hN204 hM204 => ?_
 refine sr_k fun K205 hK205 => ?_
 simp only [go_sem, Int.toNat_one, Int.reduceTMod, Int.reduceTDiv, Int.mul_zero, F0]
 repeat' (first | apply And.intro | intro _)
 refine hK205 _ ?_
 refine condF_k (by first | rfl | (simp [go_sem, Int.toNat_one, Int.reduceTMod, Int.reduceTDiv, Int.mul_zero, F0]; done)) ?_
 refine skip_k ?_
 refine hN204 _ ?_
 refine region_k fun K206 hK206 => ?_
 simp only [go_sem, Int.toNat_one, Int.reduceTMod, Int.reduceTDiv, Int.mul_zero, F0]
 repeat' (first | apply And.intro | intro _)
 refine hK206 _ ?_
 refine bn202 _ ?_
 refine hN201 _ ?_
 refine region_k fun K207 hK207 => ?_
 simp only [go_sem, Int.toNat_one, Int.reduceTMod, Int.reduceTDiv, Int.mul_zero, F0]
 repeat' (first | apply And.intro | intro _)
 refine hK207 _ ?_
 refine hN198 _ ?_
 refine rnd_forget [5, 6, 7, 8, 9, 10, 11, 12, 13, 14, 15, 16, 17, 18, 19, 20, 21, 22, 23, 24, 25, 26, 27] ?_
 simp only [go_sem, St.forget, fgt]
 refine rnd_k fun N208 M208 hN208 hM208 => ?_
 refine seq_k fun N209 M209 hN209 hM209 => ?_
 refine sr_k fun K210 hK210 => ?_
 simp only [go_sem, Int.toNat_one, Int.reduceTMod, Int.reduceTDiv, Int.mul_zero, F0]
 repeat' (first | apply And.intro | intro _)
 refine hK210 _ ?_
 refine condT_k (by first | rfl | (simp [go_sem, Int.toNat_one, Int.reduceTMod, Int.reduceTDiv, Int.mul_zero, F0]; done)) ?_
 refine skip_k ?_
 refine hN209 _ ?_
 refine seq_k fun N211 M211 hN211 hM211 => ?_
 refine block_k fun B212 bn212 bx212 br212 bi212 => ?_
 refine sr_k fun K213 hK213 => ?_
 simp only [go_sem, Int.toNat_one, Int.reduceTMod, Int.reduceTDiv, Int.mul_zero, F0]
 repeat' (first | apply And.intro | intro _)
 refine hK213 _ ?_
 refine seq_k fun N214 M214 hN214 hM214 => ?_
 refine sr_k fun K215 hK215 => ?_
 simp only [go_sem, Int.toNat_one, Int.reduceTMod, Int.reduceTDiv, Int.mul_zero, F0]
 repeat' (first | apply And.intro | intro _)
 refine hK215 _ ?_
 refine condF_k (by first | rfl | (simp [go_sem, Int.toNat_one, Int.reduceTMod, Int.reduceTDiv, Int.mul_zero, F0]; done)) ?_
 refine skip_k ?_
 refine hN214 _ ?_
 refine region_k fun K216 hK216 => ?_
 simp only [go_sem, Int.toNat_one, Int.reduceTMod, Int.reduceTDiv, Int.mul_zero, F0]
 repeat' (first | apply And.intro | intro _)
 refine hK216 _ ?_
 refine bn212 _ ?_
 refine hN211 _ ?_
 refine region_k fun K217 hK217 => ?_
 simp only [go_sem, Int.toNat_one, Int.reduceTMod, Int.reduceTDiv, Int.mul_zero, F0]
 repeat' (first | apply And.intro | intro _)
 refine hK217 _ ?_
 refine hN208 _ ?_
 refine rnd_forget [5, 6, 7, 8, 9, 10, 11, 12, 13, 14, 15, 16, 17, 18, 19, 20, 21, 22, 23, 24, 25, 26, 27] ?_
 simp only [go_sem, St.forget, fgt]
 refine rnd_k fun N218 M218 hN218 hM218 => ?_
 refine seq_k fun N219 M219 hN219 hM219 => ?_
 refine sr_k fun K220 hK220 => ?_
 simp only [go_sem, Int.toNat_one, Int.reduceTMod, Int.reduceTDiv, Int.mul_zero, F0]
 repeat' (first | apply And.intro | intro _)
 refine hK220 _ ?_
 refine condT_k (by first | rfl | (simp [go_sem, Int.toNat_one, Int.reduceTMod, Int.reduceTDiv, Int.mul_zero, F0]; done)) ?_
 refine skip_k ?_
 refine hN219 _ ?_
 refine seq_k fun N221 M221 hN221 hM221 => ?_
 refine block_k fun B222 bn222 bx222 br222 bi222 => ?_
 refine sr_k fun K223 hK223 => ?_
 simp only [go_sem, Int.toNat_one, Int.reduceTMod, Int.reduceTDiv, Int.mul_zero, F0]
 repeat' (first | apply And.intro | intro _)
 refine hK223 _ ?_
 refine seq_k fun N224 M224 hN224 hM224 => ?_
 refine sr_k fun K225 hK225 => ?_
 simp only [go_sem, Int.toNat_one, Int.reduceTMod, Int.reduceTDiv, Int.mul_zero, F0]
 repeat' (first | apply And.intro | intro _)
 refine hK225 _ ?_
 refine condF_k (by first | rfl | (simp [go_sem, Int.toNat_one, Int.reduceTMod, Int.reduceTDiv, Int.mul_zero, F0]; done)) ?_
 refine skip_k ?_
 refine hN224 _ ?_
 refine region_k fun K226 hK226 => ?_
 simp only [go_sem, Int.toNat_one, Int.reduceTMod, Int.reduceTDiv, Int.mul_zero, F0]
 repeat' (first | apply And.intro | intro _)
 refine hK226 _ ?_
 refine bn222 _ ?_
 refine hN221 _ ?_
 refine region_k fun K227 hK227 => ?_
 simp only [go_sem, Int.toNat_one, Int.reduceTMod, Int.reduceTDiv, Int.mul_zero, F0]
 repeat' (first | apply And.intro | intro _)
 refine hK227 _ ?_
 refine hN218 _ ?_
 refine rnd_forget [5, 6, 7, 8, 9, 10, 11, 12, 13, 14, 15, 16, 17, 18, 19, 20, 21, 22, 23, 24, 25, 26, 27] ?_
 simp only [go_sem, St.forget, fgt]
 refine rnd_k fun N228 M228 hN228 hM228 => ?_
 refine seq_k fun N229 M229 hN229 hM229 => ?_
 refine sr_k fun K230 hK230 => ?_
 simp only [go_sem, Int.toNat_one, Int.reduceTMod, Int.reduceTDiv, Int.mul_zero, F0]
 repeat' (first | apply And.intro | intro _)
 refine hK230 _ ?_
 refine condT_k (by first | rfl | (simp [go_sem, Int.toNat_one, Int.reduceTMod, Int.reduceTDiv, Int.mul_zero, F0]; done)) ?_
 refine skip_k ?_
 refine hN229 _ ?_
 refine seq_k fun N231 M231 hN231 hM231 => ?_
 refine block_k fun B232 bn232 bx232 br232 bi232 => ?_
 refine sr_k fun K233 hK233 => ?_
 simp only [go_sem, Int.toNat_one, Int.reduceTMod, Int.reduceTDiv, Int.mul_zero, F0]
 repeat' (first | apply And.intro | intro _)
 refine hK233 _ ?_
 refine seq_k fun N234 M234 hN234 hM234 => ?_
 refine sr_k fun K235 hK235 => ?_
 simp only [go_sem, Int.toNat_one, Int.reduceTMod, Int.reduceTDiv, Int.mul_zero, F0]
 repeat' (first | apply And.intro | intro _)
 refine hK235 _ ?_
 refine condF_k (by first | rfl | (simp [go_sem, Int.toNat_one, Int.reduceTMod, Int.reduceTDiv, Int.mul_zero, F0]; done)) ?_
 refine skip_k ?_
 refine hN234 _ ?_
 refine region_k fun K236 hK236 => ?_
 simp only [go_sem, Int.toNat_one, Int.reduceTMod, Int.reduceTDiv, Int.mul_zero, F0]
 repeat' (first | apply And.intro | intro _)
 refine hK236 _ ?_
 refine bn232 _ ?_
 refine hN231 _ ?_
 refine region_k fun K237 hK237 => ?_
 simp only [go_sem, Int.toNat_one, Int.reduceTMod, Int.reduceTDiv, Int.mul_zero, F0]
 repeat' (first | apply And.intro | intro _)
 refine hK237 _ ?_
 refine hN228 _ ?_
 refine rnd_forget [5, 6, 7, 8, 9, 10, 11, 12, 13, 14, 15, 16, 17, 18, 19, 20, 21, 22, 23, 24, 25, 26, 27] ?_
 simp only [go_sem, St.forget, fgt]
 refine rnd_k fun N238 M238 hN238 hM238 => ?_
 refine seq_k fun N239 M239 hN239 hM239 => ?_
 refine sr_k fun K240 hK240 => ?_
 simp only [go_sem, Int.toNat_one, Int.reduceTMod, Int.reduceTDiv, Int.mul_zero, F0]
 repeat' (first | apply And.intro | intro _)
 refine hK240 _ ?_
 refine condT_k (by first | rfl | (simp [go_sem, Int.toNat_one, Int.reduceTMod, Int.reduceTDiv, Int.mul_zero, F0]; done)) ?_
 refine skip_k ?_
 refine hN239 _ ?_
 refine seq_k fun N241 M241 hN241 hM241 => ?_
 refine block_k fun B242 bn242 bx242 br242 bi242 => ?_
 refine sr_k fun K243 hK243 => ?_
 simp only [go_sem, Int.toNat_one, Int.reduceTMod, Int.reduceTDiv, Int.mul_zero, F0]
 repeat' (first | apply And.intro | intro _)
 refine hK243 _ ?_
 refine seq_k fun N244 M244 hN244 hM244 => ?_
 refine sr_k fun K245 hK245 => ?_
 simp only [go_sem, Int.toNat_one, Int.reduceTMod, Int.reduceTDiv, Int.mul_zero, F0]
 repeat' (first | apply And.intro | intro _)
 refine hK245 _ ?_
 refine condF_k (by first | rfl | (simp [go_sem, Int.toNat_one, Int.reduceTMod, Int.reduceTDiv, Int.mul_zero, F0]; done)) ?_
 refine skip_k ?_
 refine hN244 _ ?_
 refine region_k fun K246 hK246 => ?_
 simp only [go_sem, Int.toNat_one, Int.reduceTMod, Int.reduceTDiv, Int.mul_zero, F0]
 repeat' (first | apply And.intro | intro _)
 refine hK246 _ ?_
 refine bn242 _ ?_
 refine hN241 _ ?_
 refine region_k fun K247 hK247 => ?_
 simp only [go_sem, Int.toNat_one, Int.reduceTMod, Int.reduceTDiv, Int.mul_zero, F0]
 repeat' (first | apply And.intro | intro _)
 refine hK247 _ ?_
 refine hN238 _ ?_
 refine rnd_forget [5, 6, 7, 8, 9, 10, 11, 12, 13, 14, 15, 16, 17, 18, 19, 20, 21, 22, 23, 24, 25, 26, 27] ?_
 simp only [go_sem, St.forget, fgt]
 refine rnd_k fun N248 M248 hN248 hM248 => ?_
 refine seq_k fun N249 M249 hN249 hM249 => ?_
 refine sr_k fun K250 hK250 => ?_
 simp only [go_sem, Int.toNat_one, Int.reduceTMod, Int.reduceTDiv, Int.mul_zero, F0]
 repeat' (first | apply And.intro | intro _)
 refine hK250 _ ?_
 refine condT_k (by first | rfl | (simp [go_sem, Int.toNat_one, Int.reduceTMod, Int.reduceTDiv, Int.mul_zero, F0]; done)) ?_
 refine skip_k ?_
 refine hN249 _ ?_
 refine seq_k fun N251 M251 hN251 hM251 => ?_
 refine block_k fun B252 bn252 bx252 br252 bi252 => ?_
 refine sr_k fun K253 hK253 => ?_
 simp only [go_sem, Int.toNat_one, Int.reduceTMod, Int.reduceTDiv, Int.mul_zero, F0]
 repeat' (first | apply And.intro | intro _)
 refine hK253 _ ?_
 refine seq_k fun N254 M254 hN254 hM254 => ?_
 refine sr_k fun K255 hK255 => ?_
 simp only [go_sem, Int.toNat_one, Int.reduceTMod, Int.reduceTDiv, Int.mul_zero, F0]
 repeat' (first | apply And.intro | intro _)
 refine hK255 _ ?_
 refine condF_k (by first | rfl | (simp [go_sem, Int.toNat_one, Int.reduceTMod, Int.reduceTDiv, Int.mul_zero, F0]; done)) ?_
 refine skip_k ?_
 refine hN254 _ ?_
 refine region_k fun K256 hK256 => ?_
 simp only [go_sem, Int.toNat_one, Int.reduceTMod, Int.reduceTDiv, Int.mul_zero, F0]
 repeat' (first | apply And.intro | intro _)
 refine hK256 _ ?_
 refine bn252 _ ?_
 refine hN251 _ ?_
 refine region_k fun K257 hK257 => ?_
 simp only [go_sem, Int.toNat_one, Int.reduceTMod, Int.reduceTDiv, Int.mul_zero, F0]
 repeat' (first | apply And.intro | intro _)
 refine hK257 _ ?_
 refine hN248 _ ?_
 refine rnd_forget [5, 6, 7, 8, 9, 10, 11, 12, 13, 14, 15, 16, 17, 18, 19, 20, 21, 22, 23, 24, 25, 26, 27] ?_
 simp only [go_sem, St.forget, fgt]
 refine rnd_k fun N258 M258 hN258 hM258 => ?_
 refine seq_k fun N259 M259 hN259 hM259 => ?_
 refine sr_k fun K260 hK260 => ?_
 simp only [go_sem, Int.toNat_one, Int.reduceTMod, Int.reduceTDiv, Int.mul_zero, F0]
 repeat' (first | apply And.intro | intro _)
 refine hK260 _ ?_
 refine condT_k (by first | rfl | (simp [go_sem, Int.toNat_one, Int.reduceTMod, Int.reduceTDiv, Int.mul_zero, F0]; done)) ?_
 refine skip_k ?_
 refine hN259 _ ?_
 refine seq_k fun N261 M261 hN261 hM261 => ?_
 refine block_k fun B262 bn262 bx262 br262 bi262 => ?_
 refine sr_k fun K263 hK263 => ?_
 simp only [go_sem, Int.toNat_one, Int.reduceTMod, Int.reduceTDiv, Int.mul_zero, F0]
 repeat' (first | apply And.intro | intro _)
 refine hK263 _ ?_
 refine seq_k fun N264 M264 hN264 hM264 => ?_
 refine sr_k fun K265 hK265 => ?_
 simp only [go_sem, Int.toNat_one, Int.reduceTMod, Int.reduceTDiv, Int.mul_zero, F0]
 repeat' (first | apply And.intro | intro _)
 refine hK265 _ ?_
 refine condF_k (by first | rfl | (simp [go_sem, Int.toNat_one, Int.reduceTMod, Int.reduceTDiv, Int.mul_zero, F0]; done)) ?_
 refine skip_k ?_
 refine hN264 _ ?_
 refine region_k fun K266 hK266 => ?_
 simp only [go_sem, Int.toNat_one, Int.reduceTMod, Int.reduceTDiv, Int.mul_zero, F0]
 repeat' (first | apply And.intro | intro _)
 refine hK266 _ ?_
 refine bn262 _ ?_
 refine hN261 _ ?_
 refine region_k fun K267 hK267 => ?_
 simp only [go_sem, Int.toNat_one, Int.reduceTMod, Int.reduceTDiv, Int.mul_zero, F0]
 repeat' (first | apply And.intro | intro _)
 refine hK267 _ ?_
 refine hN258 _ ?_
 refine rnd_forget [5, 6, 7, 8, 9, 10, 11, 12, 13, 14, 15, 16, 17, 18, 19, 20, 21, 22, 23, 24, 25, 26, 27] ?_
 simp only [go_sem, St.forget, fgt]
 refine rnd_k fun N268 M268 hN268 hM268 => ?_
 refine seq_k fun N269 M269 hN269 hM269 => ?_
 refine sr_k fun K270 hK270 => ?_
 simp only [go_sem, Int.toNat_one, Int.reduceTMod, Int.reduceTDiv, Int.mul_zero, F0]
 repeat' (first | apply And.intro | intro _)
 refine hK270 _ ?_
 refine condT_k (by first | rfl | (simp [go_sem, Int.toNat_one, Int.reduceTMod, Int.reduceTDiv, Int.mul_zero, F0]; done)) ?_
 refine skip_k ?_
 refine hN269 _ ?_
 refine seq_k fun N271 M271 hN271 hM271 => ?_
 refine block_k fun B272 bn272 bx272 br272 bi272 => ?_
 refine sr_k fun K273 hK273 => ?_
 simp only [go_sem, Int.toNat_one, Int.reduceTMod, Int.reduceTDiv, Int.mul_zero, F0]
 repeat' (first | apply And.intro | intro _)
 refine hK273 _ ?_
 refine seq_k fun N274 M274 hN274 hM274 => ?_
 refine sr_k fun K275 hK275 => ?_
 simp only [go_sem, Int.toNat_one, Int.reduceTMod, Int.reduceTDiv, Int.mul_zero, F0]
 repeat' (first | apply And.intro | intro _)
 refine hK275 _ ?_
 refine condF_k (by first | rfl | (simp [go_sem, Int.toNat_one, Int.reduceTMod, Int.reduceTDiv, Int.mul_zero, F0]; done)) ?_
 refine skip_k ?_
 refine hN274 _ ?_
 refine region_k fun K276 hK276 => ?_
 simp only [go_sem, Int.toNat_one, Int.reduceTMod, Int.reduceTDiv, Int.mul_zero, F0]
 repeat' (first | apply And.intro | intro _)
 refine hK276 _ ?_
 refine bn272 _ ?_
 refine hN271 _ ?_
 refine region_k fun K277 hK277 => ?_
 simp only [go_sem, Int.toNat_one, Int.reduceTMod, Int.reduceTDiv, Int.mul_zero, F0]
 repeat' (first | apply And.intro | intro _)
 refine hK277 _ ?_
 refine hN268 _ ?_
 refine rnd_forget [5, 6, 7, 8, 9, 10, 11, 12, 13, 14, 15, 16, 17, 18, 19, 20, 21, 22, 23, 24, 25, 26, 27] ?_
 simp only [go_sem, St.forget, fgt]
 refine rnd_k fun N278 M278 hN278 hM278 => ?_
 refine seq_k fun N279 M279 hN279 hM279 => ?_
 refine sr_k fun K280 hK280 => ?_
 simp only [go_sem, Int.toNat_one, Int.reduceTMod, Int.reduceTDiv, Int.mul_zero, F0]
 repeat' (first | apply And.intro | intro _)
 refine hK280 _ ?_
 refine condT_k (by first | rfl | (simp [go_sem, Int.toNat_one, Int.reduceTMod, Int.reduceTDiv, Int.mul_zero, F0]; done)) ?_
 refine skip_k ?_
 refine hN279 _ ?_
 refine seq_k fun N281 M281 hN281 hM281 => ?_
 refine block_k fun B282 bn282 bx282 br282 bi282 => ?_
 refine sr_k fun K283 hK283 => ?_
 simp only [go_sem, Int.toNat_one, Int.reduceTMod, Int.reduceTDiv, Int.mul_zero, F0]
 repeat' (first | apply And.intro | intro _)
 refine hK283 _ ?_
 refine seq_k fun N284 M284 hN284 hM284 => ?_
 refine sr_k fun K285 hK285 => ?_
 simp only [go_sem, Int.toNat_one, Int.reduceTMod, Int.reduceTDiv, Int.mul_zero, F0]
 repeat' (first | apply And.intro | intro _)
 refine hK285 _ ?_
 refine condF_k (by first | rfl | (simp [go_sem, Int.toNat_one, Int.reduceTMod, Int.reduceTDiv, Int.mul_zero, F0]; done)) ?_
 refine skip_k ?_
 refine hN284 _ ?_
 refine region_k fun K286 hK286 => ?_
 simp only [go_sem, Int.toNat_one, Int.reduceTMod, Int.reduceTDiv, Int.mul_zero, F0]
 repeat' (first | apply And.intro | intro _)
 refine hK286 _ ?_
 refine bn282 _ ?_
 refine hN281 _ ?_
 refine region_k fun K287 hK287 => ?_
 simp only [go_sem, Int.toNat_one, Int.reduceTMod, Int.reduceTDiv, Int.mul_zero, F0]
 repeat' (first | apply And.intro | intro _)
 refine hK287 _ ?_
 refine hN278 _ ?_
 refine rnd_forget [5, 6, 7, 8, 9, 10, 11, 12, 13, 14, 15, 16, 17, 18, 19, 20, 21, 22, 23, 24, 25, 26, 27] ?_
 simp only [go_sem, St.forget, fgt]
 refine rnd_k fun N288 M288 hN288 hM288 => ?_
 refine seq_k fun N289 M289 hN289 hM289 => ?_
 refine sr_k fun K290 hK290 => ?_
 simp only [go_sem, Int.toNat_one, Int.reduceTMod, Int.reduceTDiv, Int.mul_zero, F0]
 repeat' (first | apply And.intro | intro _)
 refine hK290 _ ?_
 refine condT_k (by first | rfl | (simp [go_sem, Int.toNat_one, Int.reduceTMod, Int.reduceTDiv, Int.mul_zero, F0]; done)) ?_
 refine skip_k ?_
 refine hN289 _ ?_
 refine seq_k fun N291 M291 hN291 hM291 => ?_
 refine block_k fun B292 bn292 bx292 br292 bi292 => ?_
 refine sr_k fun K293 hK293 => ?_
 simp only [go_sem, Int.toNat_one, Int.reduceTMod, Int.reduceTDiv, Int.mul_zero, F0]
 repeat' (first | apply And.intro | intro _)
 refine hK293 _ ?_
 refine seq_k fun N294 M294 hN294 hM294 => ?_
 refine sr_k fun K295 hK295 => ?_
 simp only [go_sem, Int.toNat_one, Int.reduceTMod, Int.reduceTDiv, Int.mul_zero, F0]
 repeat' (first | apply And.intro | intro _)
 refine hK295 _ ?_
 refine condF_k (by first | rfl | (simp [go_sem, Int.toNat_one, Int.reduceTMod, Int.reduceTDiv, Int.mul_zero, F0]; done)) ?_
 refine skip_k ?_
 refine hN294 _ ?_
 refine region_k fun K296 hK296 => ?_
 simp only [go_sem, Int.toNat_one, Int.reduceTMod, Int.reduceTDiv, Int.mul_zero, F0]
 repeat' (first | apply And.intro | intro _)
 refine hK296 _ ?_
 refine bn292 _ ?_
 refine hN291 _ ?_
 refine region_k fun K297 hK297 => ?_
 simp only [go_sem, Int.toNat_one, Int.reduceTMod, Int.reduceTDiv, Int.mul_zero, F0]
 repeat' (first | apply And.intro | intro _)
 refine hK297 _ ?_
 refine hN288 _ ?_
 refine rnd_forget [5, 6, 7, 8, 9, 10, 11, 12, 13, 14, 15, 16, 17, 18, 19, 20, 21, 22, 23, 24, 25, 26, 27] ?_
 simp only [go_sem, St.forget, fgt]
 refine rnd_k fun N298 M298 hN298 hM298 => ?_
 refine seq_k fun N299 M299 hN299 hM299 => ?_
 refine sr_k fun K300 hK300 => ?_
 simp only [go_sem, Int.toNat_one, Int.reduceTMod, Int.reduceTDiv, Int.mul_zero, F0]
 repeat' (first | apply And.intro | intro _)
 refine hK300 _ ?_
 refine condT_k (by first | rfl | (simp [go_sem, Int.toNat_one, Int.reduceTMod, Int.reduceTDiv, Int.mul_zero, F0]; done)) ?_
 refine skip_k ?_
 refine hN299 _ ?_
 refine seq_k fun N301 M301 hN301 hM301 => ?_
 refine block_k fun B302 bn302 bx302 br302 bi302 => ?_
 refine sr_k fun K303 hK303 => ?_
 simp only [go_sem, Int.toNat_one, Int.reduceTMod, Int.reduceTDiv, Int.mul_zero, F0]
 repeat' (first | apply And.intro | intro _)
 refine hK303 _ ?_
 refine seq_k fun N304 M304 hN304 hM304 => ?_
 refine sr_k fun K305 hK305 => ?_
 simp only [go_sem, Int.toNat_one, Int.reduceTMod, Int.reduceTDiv, Int.mul_zero, F0]
 repeat' (first | apply And.intro | intro _)
 refine hK305 _ ?_
 refine condF_k (by first | rfl | (simp [go_sem, Int.toNat_one, Int.reduceTMod, Int.reduceTDiv, Int.mul_zero, F0]; done)) ?_
 refine skip_k ?_
 refine hN304 _ ?_
 refine region_k fun K306 hK306 => ?_
 simp only [go_sem, Int.toNat_one, Int.reduceTMod, Int.reduceTDiv, Int.mul_zero, F0]
 repeat' (first | apply And.intro | intro _)
 refine hK306 _ ?_
 refine bn302 _ ?_
 refine hN301 _ ?_
 refine region_k fun K307 hK307 => ?_
 simp only [go_sem, Int.toNat_one, Int.reduceTMod, Int.reduceTDiv, Int.mul_zero, F0]
 repeat' (first | apply And.intro | intro _)
 refine hK307 _ ?_
 refine hN298 _ ?_
 refine rnd_forget [5, 6, 7, 8, 9, 10, 11, 12, 13, 14, 15, 16, 17, 18, 19, 20, 21, 22, 23, 24, 25, 26, 27] ?_
 simp only [go_sem, St.forget, fgt]
 refine rnd_k fun N308 M308 hN308 hM308 => ?_
 refine seq_k fun N309 M309 hN309 hM309 => ?_
 refine sr_k fun K310 hK310 => ?_
 simp only [go_sem, Int.toNat_one, Int.reduceTMod, Int.reduceTDiv, Int.mul_zero, F0]
 repeat' (first | apply And.intro | intro _)
 refine hK310 _ ?_
 refine condT_k (by first | rfl | (simp [go_sem, Int.toNat_one, Int.reduceTMod, Int.reduceTDiv, Int.mul_zero, F0]; done)) ?_
 refine skip_k ?_
 refine hN309 _ ?_
 refine seq_k fun N311 M311 hN311 hM311 => ?_
 refine block_k fun B312 bn312 bx312 br312 bi312 => ?_
 refine sr_k fun K313 hK313 => ?_
 simp only [go_sem, Int.toNat_one, Int.reduceTMod, Int.reduceTDiv, Int.mul_zero, F0]
 repeat' (first | apply And.intro | intro _)
 refine hK313 _ ?_
 refine seq_k fun N314 M314 hN314 hM314 => ?_
 refine sr_k fun K315 hK315 => ?_
 simp only [go_sem, Int.toNat_one, Int.reduceTMod, Int.reduceTDiv, Int.mul_zero, F0]
 repeat' (first | apply And.intro | intro _)
 refine hK315 _ ?_
 refine condF_k (by first | rfl | (simp [go_sem, Int.toNat_one, Int.reduceTMod, Int.reduceTDiv, Int.mul_zero, F0]; done)) ?_
 refine skip_k ?_
 refine hN314 _ ?_
 refine region_k fun K316 hK316 => ?_
 simp only [go_sem, Int.toNat_one, Int.reduceTMod, Int.reduceTDiv, Int.mul_zero, F0]
 repeat' (first | apply And.intro | intro _)
 refine hK316 _ ?_
 refine bn312 _ ?_
 refine hN311 _ ?_
 refine region_k fun K317 hK317 => ?_
 simp only [go_sem, Int.toNat_one, Int.reduceTMod, Int.reduceTDiv, Int.mul_zero, F0]
 repeat' (first | apply And.intro | intro _)
 refine hK317 _ ?_
 refine hN308 _ ?_
 refine rnd_forget [5, 6, 7, 8, 9, 10, 11, 12, 13, 14, 15, 16, 17, 18, 19, 20, 21, 22, 23, 24, 25, 26, 27] ?_
 simp only [go_sem, St.forget, fgt]
 refine rnd_k fun N318 M318 hN318 hM318 => ?_
 refine seq_k fun N319 M319 hN319 hM319 => ?_
 refine sr_k fun K320 hK320 => ?_
 simp only [go_sem, Int.toNat_one, Int.reduceTMod, Int.reduceTDiv, Int.mul_zero, F0]
 repeat' (first | apply And.intro | intro _)
 refine hK320 _ ?_
 refine condT_k (by first | rfl | (simp [go_sem, Int.toNat_one, Int.reduceTMod, Int.reduceTDiv, Int.mul_zero, F0]; done)) ?_
 refine skip_k ?_
 refine hN319 _ ?_
 refine seq_k fun N321 M321 hN321 hM321 => ?_
 refine block_k fun B322 bn322 bx322 br322 bi322 => ?_
 refine sr_k fun K323 hK323 => ?_
 simp only [go_sem, Int.toNat_one, Int.reduceTMod, Int.reduceTDiv, Int.mul_zero, F0]
 repeat' (first | apply And.intro | intro _)
 refine hK323 _ ?_
 refine seq_k fun N324 M324 hN324 hM324 => ?_
 refine sr_k fun K325 hK325 => ?_
 simp only [go_sem, Int.toNat_one, Int.reduceTMod, Int.reduceTDiv, Int.mul_zero, F0]
 repeat' (first | apply And.intro | intro _)
 refine hK325 _ ?_
 refine condF_k (by first | rfl | (simp [go_sem, Int.toNat_one, Int.reduceTMod, Int.reduceTDiv, Int.mul_zero, F0]; done)) ?_
 refine skip_k ?_
 refine hN324 _ ?_
 refine region_k fun K326 hK326 => ?_
 simp only [go_sem, Int.toNat_one, Int.reduceTMod, Int.reduceTDiv, Int.mul_zero, F0]
 repeat' (first | apply And.intro | intro _)
 refine hK326 _ ?_
 refine bn322 _ ?_
 refine hN321 _ ?_
 refine region_k fun K327 hK327 => ?_
 simp only [go_sem, Int.toNat_one, Int.reduceTMod, Int.reduceTDiv, Int.mul_zero, F0]
 repeat' (first | apply And.intro | intro _)
 refine hK327 _ ?_
 refine hN318 _ ?_
 refine rnd_forget [5, 6, 7, 8, 9, 10, 11, 12, 13, 14, 15, 16, 17, 18, 19, 20, 21, 22, 23, 24, 25, 26, 27] ?_
 simp only [go_sem, St.forget, fgt]
 refine rnd_k fun N328 M328 hN328 hM328 => ?_
 refine seq_k fun N329 M329 hN329 hM329 => ?_
 refine sr_k fun K330 hK330 => ?_
 simp only [go_sem, Int.toNat_one, Int.reduceTMod, Int.reduceTDiv, Int.mul_zero, F0]
 repeat' (first | apply And.intro | intro _)
 refine hK330 _ ?_
 refine condF_k (by first | rfl | (simp [go_sem, Int.toNat_one, Int.reduceTMod, Int.reduceTDiv, Int.mul_zero, F0]; done)) ?_
 refine exit_k ?_
 refine hM329 _ _ ?_
 refine hM328 _ _ ?_
 refine bx5 _ ?_
 refine hN3 _ ?_
 refine sr_k fun K331 hK331 => ?_
 simp only [go_sem, Int.toNat_one, Int.reduceTMod, Int.reduceTDiv, Int.mul_zero, F0]
 repeat' (first | apply And.intro | intro _)
 all_goals (refine call_hand false [] (fun k => k) (fun _ _ => rfl) ?_ (by decide) ?_ hS.told ?_; iterate 2 (focus (first | rfl | (simp only [go_sem, Int.toNat_one, Int.reduceTMod, Int.reduceTDiv, Int.mul_zero, F0] <;> first | done | rfl | simp))))
 all_goals (rintro v m ⟨hR, hm⟩; subst hR; subst hm)
 all_goals (refine And.intro ?_ (And.intro ?_ (And.intro ?_ ?_)); iterate 3 (focus (first | rfl | (simp only [go_sem, Int.toNat_one, Int.reduceTMod, Int.reduceTDiv, Int.mul_zero, F0]; done) | (simp [go_sem, look, Int.toNat_one, Int.reduceTMod, Int.reduceTDiv, Int.mul_zero, F0]; done))))
 all_goals (try simp only [go_sem, Int.toNat_one, Int.reduceTMod, Int.reduceTDiv, Int.mul_zero, F0])
 all_goals (try simp only [go_sem, Int.toNat_one, Int.reduceTMod, Int.reduceTDiv, Int.mul_zero, F0])
 all_goals repeat' (first | apply And.intro | intro _)
 refine hK331 _ ?_
 refine ret_k ?_
 simp only [go_sem, Int.toNat_one, Int.reduceTMod, Int.reduceTDiv, Int.mul_zero, F0]
 all_goals (exact told_plain (by simp [plainV, plainW]) ⟨rfl, rfl⟩)
end Go.Sy

