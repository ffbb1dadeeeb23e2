/- Secrets clamped; numbers of keys; a point so often. -/
import Derived.Test.YthngiogkogeigaaDoorvhL4
import Derived.Test.YthngiogkogeigaaDoorvhK18
import Derived.Test.YthngiogkogeigaaDoorvhK18b
import Derived.Test.YthngiogkogeigaaDoorvR2
set_option linter.unusedVariables false
set_option linter.unusedSimpArgs false
namespace Go.Sy
open Go.Proofs
attribute [local irreducible] atCall HT runOps runD onC onE onO onG goV goA goS onSt onGuard
theorem u8_one {q : List UInt8} {i : Nat} (h : i < q.length) : List.take 1 (List.drop i q) = [q.getD i 0] := by
 rw [List.drop_eq_getElem_cons h, List.take_succ_cons, List.take_zero]
 simp [List.getD, List.getElem?_eq_getElem h]
theorem bytesC_1 (x : UInt8) : bytesC [x] = [.pl (.u8 x)] := rfl
theorem nz8_8 : ((8 : UInt8) = 0) = False := eq_false (by decide)
theorem nz8_64 : ((64 : UInt8) = 0) = False := eq_false (by decide)
theorem nz8_2 : ((2 : UInt8) = 0) = False := eq_false (by decide)
set_option maxHeartbeats 800000 in
theorem clamp_x (x0 x1 x2 x3 x4 x5 x6 x7 x8 x9 x10 x11 x12 x13 x14 x15 x16 x17 x18 x19 x20 x21 x22 x23 x24 x25 x26 x27 x28 x29 x30 x31 : UInt8) :
 Ct Tryd.prog 5 [.w (.agg [.pl (.u8 x0), .pl (.u8 x1), .pl (.u8 x2), .pl (.u8 x3), .pl (.u8 x4), .pl (.u8 x5), .pl (.u8 x6), .pl (.u8 x7), .pl (.u8 x8), .pl (.u8 x9), .pl (.u8 x10), .pl (.u8 x11), .pl (.u8 x12), .pl (.u8 x13), .pl (.u8 x14), .pl (.u8 x15), .pl (.u8 x16), .pl (.u8 x17), .pl (.u8 x18), .pl (.u8 x19), .pl (.u8 x20), .pl (.u8 x21), .pl (.u8 x22), .pl (.u8 x23), .pl (.u8 x24), .pl (.u8 x25), .pl (.u8 x26), .pl (.u8 x27), .pl (.u8 x28), .pl (.u8 x29), .pl (.u8 x30), .pl (.u8 x31)])] (fun v m => v = .w (.agg [.pl (.u8 (x0 &&& 248)), .pl (.u8 x1), .pl (.u8 x2), .pl (.u8 x3), .pl (.u8 x4), .pl (.u8 x5), .pl (.u8 x6), .pl (.u8 x7), .pl (.u8 x8), .pl (.u8 x9), .pl (.u8 x10), .pl (.u8 x11), .pl (.u8 x12), .pl (.u8 x13), .pl (.u8 x14), .pl (.u8 x15), .pl (.u8 x16), .pl (.u8 x17), .pl (.u8 x18), .pl (.u8 x19), .pl (.u8 x20), .pl (.u8 x21), .pl (.u8 x22), .pl (.u8 x23), .pl (.u8 x24), .pl (.u8 x25), .pl (.u8 x26), .pl (.u8 x27), .pl (.u8 x28), .pl (.u8 x29), .pl (.u8 x30), .pl (.u8 (x31 &&& 127 ||| 64))])) := by
 refine Ct.k Tryd.func5 rfl Tryd.ntmps5 (congrArg Array.toList Tryd.results5) (by simp) fun w0 ro => ?_
 refine sr_k fun K1 hK1 => ?_
 simp only [go_sem]
 repeat' (first | apply And.intro | intro _)
 refine hK1 _ ?_
 refine sr_k fun K2 hK2 => ?_
 simp only [go_sem]
 repeat' (first | apply And.intro | intro _)
 refine hK2 _ ?_
 refine sr_k fun K3 hK3 => ?_
 simp only [go_sem]
 repeat' (first | apply And.intro | intro _)
 refine hK3 _ ?_
 refine sr_k fun K4 hK4 => ?_
 simp only [go_sem]
 repeat' (first | apply And.intro | intro _)
 refine hK4 _ ?_
 refine ret_k ?_
 simp only [go_sem]
 all_goals (rfl)
set_option maxHeartbeats 800000 in
theorem rclamp_x (x0 x1 x2 x3 x4 x5 x6 x7 x8 x9 x10 x11 x12 x13 x14 x15 x16 x17 x18 x19 x20 x21 x22 x23 x24 x25 x26 x27 x28 x29 x30 x31 : UInt8) :
 Ct Tryd.prog 7 [.w (.agg [.pl (.u8 x0), .pl (.u8 x1), .pl (.u8 x2), .pl (.u8 x3), .pl (.u8 x4), .pl (.u8 x5), .pl (.u8 x6), .pl (.u8 x7), .pl (.u8 x8), .pl (.u8 x9), .pl (.u8 x10), .pl (.u8 x11), .pl (.u8 x12), .pl (.u8 x13), .pl (.u8 x14), .pl (.u8 x15), .pl (.u8 x16), .pl (.u8 x17), .pl (.u8 x18), .pl (.u8 x19), .pl (.u8 x20), .pl (.u8 x21), .pl (.u8 x22), .pl (.u8 x23), .pl (.u8 x24), .pl (.u8 x25), .pl (.u8 x26), .pl (.u8 x27), .pl (.u8 x28), .pl (.u8 x29), .pl (.u8 x30), .pl (.u8 x31)])] (fun v m => v = .w (.agg [.pl (.u8 (x0 &&& 248)), .pl (.u8 x1), .pl (.u8 x2), .pl (.u8 x3), .pl (.u8 x4), .pl (.u8 x5), .pl (.u8 x6), .pl (.u8 x7), .pl (.u8 x8), .pl (.u8 x9), .pl (.u8 x10), .pl (.u8 x11), .pl (.u8 x12), .pl (.u8 x13), .pl (.u8 x14), .pl (.u8 x15), .pl (.u8 x16), .pl (.u8 x17), .pl (.u8 x18), .pl (.u8 x19), .pl (.u8 x20), .pl (.u8 x21), .pl (.u8 x22), .pl (.u8 x23), .pl (.u8 x24), .pl (.u8 x25), .pl (.u8 x26), .pl (.u8 x27), .pl (.u8 x28), .pl (.u8 x29), .pl (.u8 x30), .pl (.u8 (x31 &&& 127 ||| 64))])) := by
 refine Ct.k Tryd.func7 rfl Tryd.ntmps7 (congrArg Array.toList Tryd.results7) (by simp) fun w0 ro => ?_
 refine sr_k fun K1 hK1 => ?_
 simp only [go_sem, nz8_8, nz8_64]
 repeat' (first | apply And.intro | intro _)
 refine hK1 _ ?_
 refine sr_k fun K2 hK2 => ?_
 simp only [go_sem, nz8_8, nz8_64]
 repeat' (first | apply And.intro | intro _)
 refine hK2 _ ?_
 refine sr_k fun K3 hK3 => ?_
 simp only [go_sem, nz8_8, nz8_64]
 repeat' (first | apply And.intro | intro _)
 refine hK3 _ ?_
 refine sr_k fun K4 hK4 => ?_
 simp only [go_sem, nz8_8, nz8_64]
 repeat' (first | apply And.intro | intro _)
 refine hK4 _ ?_
 refine ret_k ?_
 simp only [go_sem, nz8_8, nz8_64]
 all_goals (rw [← clamp_lo, ← clamp_hi])
theorem clamp_ (l : List UInt8) (hl : l.length = 32) : Ct Tryd.prog 5 [.w (.agg (bytesC l))] (fun v m => v = .w (.agg (bytesC (clampB l)))) := by
 obtain ⟨x0, l0, rfl, e0⟩ := cons_of hl
 obtain ⟨x1, l1, rfl, e1⟩ := cons_of e0
 obtain ⟨x2, l2, rfl, e2⟩ := cons_of e1
 obtain ⟨x3, l3, rfl, e3⟩ := cons_of e2
 obtain ⟨x4, l4, rfl, e4⟩ := cons_of e3
 obtain ⟨x5, l5, rfl, e5⟩ := cons_of e4
 obtain ⟨x6, l6, rfl, e6⟩ := cons_of e5
 obtain ⟨x7, l7, rfl, e7⟩ := cons_of e6
 obtain ⟨x8, l8, rfl, e8⟩ := cons_of e7
 obtain ⟨x9, l9, rfl, e9⟩ := cons_of e8
 obtain ⟨x10, l10, rfl, e10⟩ := cons_of e9
 obtain ⟨x11, l11, rfl, e11⟩ := cons_of e10
 obtain ⟨x12, l12, rfl, e12⟩ := cons_of e11
 obtain ⟨x13, l13, rfl, e13⟩ := cons_of e12
 obtain ⟨x14, l14, rfl, e14⟩ := cons_of e13
 obtain ⟨x15, l15, rfl, e15⟩ := cons_of e14
 obtain ⟨x16, l16, rfl, e16⟩ := cons_of e15
 obtain ⟨x17, l17, rfl, e17⟩ := cons_of e16
 obtain ⟨x18, l18, rfl, e18⟩ := cons_of e17
 obtain ⟨x19, l19, rfl, e19⟩ := cons_of e18
 obtain ⟨x20, l20, rfl, e20⟩ := cons_of e19
 obtain ⟨x21, l21, rfl, e21⟩ := cons_of e20
 obtain ⟨x22, l22, rfl, e22⟩ := cons_of e21
 obtain ⟨x23, l23, rfl, e23⟩ := cons_of e22
 obtain ⟨x24, l24, rfl, e24⟩ := cons_of e23
 obtain ⟨x25, l25, rfl, e25⟩ := cons_of e24
 obtain ⟨x26, l26, rfl, e26⟩ := cons_of e25
 obtain ⟨x27, l27, rfl, e27⟩ := cons_of e26
 obtain ⟨x28, l28, rfl, e28⟩ := cons_of e27
 obtain ⟨x29, l29, rfl, e29⟩ := cons_of e28
 obtain ⟨x30, l30, rfl, e30⟩ := cons_of e29
 obtain ⟨x31, l31, rfl, e31⟩ := cons_of e30
 obtain rfl := List.eq_nil_of_length_eq_zero e31
 exact clamp_x x0 x1 x2 x3 x4 x5 x6 x7 x8 x9 x10 x11 x12 x13 x14 x15 x16 x17 x18 x19 x20 x21 x22 x23 x24 x25 x26 x27 x28 x29 x30 x31
theorem rclamp_ (l : List UInt8) (hl : l.length = 32) : Ct Tryd.prog 7 [.w (.agg (bytesC l))] (fun v m => v = .w (.agg (bytesC (clampB l)))) := by
 obtain ⟨x0, l0, rfl, e0⟩ := cons_of hl
 obtain ⟨x1, l1, rfl, e1⟩ := cons_of e0
 obtain ⟨x2, l2, rfl, e2⟩ := cons_of e1
 obtain ⟨x3, l3, rfl, e3⟩ := cons_of e2
 obtain ⟨x4, l4, rfl, e4⟩ := cons_of e3
 obtain ⟨x5, l5, rfl, e5⟩ := cons_of e4
 obtain ⟨x6, l6, rfl, e6⟩ := cons_of e5
 obtain ⟨x7, l7, rfl, e7⟩ := cons_of e6
 obtain ⟨x8, l8, rfl, e8⟩ := cons_of e7
 obtain ⟨x9, l9, rfl, e9⟩ := cons_of e8
 obtain ⟨x10, l10, rfl, e10⟩ := cons_of e9
 obtain ⟨x11, l11, rfl, e11⟩ := cons_of e10
 obtain ⟨x12, l12, rfl, e12⟩ := cons_of e11
 obtain ⟨x13, l13, rfl, e13⟩ := cons_of e12
 obtain ⟨x14, l14, rfl, e14⟩ := cons_of e13
 obtain ⟨x15, l15, rfl, e15⟩ := cons_of e14
 obtain ⟨x16, l16, rfl, e16⟩ := cons_of e15
 obtain ⟨x17, l17, rfl, e17⟩ := cons_of e16
 obtain ⟨x18, l18, rfl, e18⟩ := cons_of e17
 obtain ⟨x19, l19, rfl, e19⟩ := cons_of e18
 obtain ⟨x20, l20, rfl, e20⟩ := cons_of e19
 obtain ⟨x21, l21, rfl, e21⟩ := cons_of e20
 obtain ⟨x22, l22, rfl, e22⟩ := cons_of e21
 obtain ⟨x23, l23, rfl, e23⟩ := cons_of e22
 obtain ⟨x24, l24, rfl, e24⟩ := cons_of e23
 obtain ⟨x25, l25, rfl, e25⟩ := cons_of e24
 obtain ⟨x26, l26, rfl, e26⟩ := cons_of e25
 obtain ⟨x27, l27, rfl, e27⟩ := cons_of e26
 obtain ⟨x28, l28, rfl, e28⟩ := cons_of e27
 obtain ⟨x29, l29, rfl, e29⟩ := cons_of e28
 obtain ⟨x30, l30, rfl, e30⟩ := cons_of e29
 obtain ⟨x31, l31, rfl, e31⟩ := cons_of e30
 obtain rfl := List.eq_nil_of_length_eq_zero e31
 exact rclamp_x x0 x1 x2 x3 x4 x5 x6 x7 x8 x9 x10 x11 x12 x13 x14 x15 x16 x17 x18 x19 x20 x21 x22 x23 x24 x25 x26 x27 x28 x29 x30 x31
theorem from_ (l : List UInt8) (hl : l.length = 32) : CtM Tryd.prog 11 [.w (.agg (bytesC l))] [(1000001, ⟨false, [.pl (.u64 18446744073709551597), .pl (.u64 18446744073709551615), .pl (.u64 18446744073709551615), .pl (.u64 9223372036854775807)]⟩)] (Told (fun v m => v = .w (.agg (w4C (frN l))) ∧ m = [])) := by
 obtain ⟨x0, l0, rfl, e0⟩ := cons_of hl
 obtain ⟨x1, l1, rfl, e1⟩ := cons_of e0
 obtain ⟨x2, l2, rfl, e2⟩ := cons_of e1
 obtain ⟨x3, l3, rfl, e3⟩ := cons_of e2
 obtain ⟨x4, l4, rfl, e4⟩ := cons_of e3
 obtain ⟨x5, l5, rfl, e5⟩ := cons_of e4
 obtain ⟨x6, l6, rfl, e6⟩ := cons_of e5
 obtain ⟨x7, l7, rfl, e7⟩ := cons_of e6
 obtain ⟨x8, l8, rfl, e8⟩ := cons_of e7
 obtain ⟨x9, l9, rfl, e9⟩ := cons_of e8
 obtain ⟨x10, l10, rfl, e10⟩ := cons_of e9
 obtain ⟨x11, l11, rfl, e11⟩ := cons_of e10
 obtain ⟨x12, l12, rfl, e12⟩ := cons_of e11
 obtain ⟨x13, l13, rfl, e13⟩ := cons_of e12
 obtain ⟨x14, l14, rfl, e14⟩ := cons_of e13
 obtain ⟨x15, l15, rfl, e15⟩ := cons_of e14
 obtain ⟨x16, l16, rfl, e16⟩ := cons_of e15
 obtain ⟨x17, l17, rfl, e17⟩ := cons_of e16
 obtain ⟨x18, l18, rfl, e18⟩ := cons_of e17
 obtain ⟨x19, l19, rfl, e19⟩ := cons_of e18
 obtain ⟨x20, l20, rfl, e20⟩ := cons_of e19
 obtain ⟨x21, l21, rfl, e21⟩ := cons_of e20
 obtain ⟨x22, l22, rfl, e22⟩ := cons_of e21
 obtain ⟨x23, l23, rfl, e23⟩ := cons_of e22
 obtain ⟨x24, l24, rfl, e24⟩ := cons_of e23
 obtain ⟨x25, l25, rfl, e25⟩ := cons_of e24
 obtain ⟨x26, l26, rfl, e26⟩ := cons_of e25
 obtain ⟨x27, l27, rfl, e27⟩ := cons_of e26
 obtain ⟨x28, l28, rfl, e28⟩ := cons_of e27
 obtain ⟨x29, l29, rfl, e29⟩ := cons_of e28
 obtain ⟨x30, l30, rfl, e30⟩ := cons_of e29
 obtain ⟨x31, l31, rfl, e31⟩ := cons_of e30
 obtain rfl := List.eq_nil_of_length_eq_zero e31
 exact from_x x0 x1 x2 x3 x4 x5 x6 x7 x8 x9 x10 x11 x12 x13 x14 x15 x16 x17 x18 x19 x20 x21 x22 x23 x24 x25 x26 x27 x28 x29 x30 x31
theorem rfrom_ (l : List UInt8) (hl : l.length = 32) : CtM Tryd.prog 19 [.w (.agg (bytesC l))] [(1000000, ⟨false, u64C prdL⟩)] (Told (fun v m => v = .w (.agg (w4C (frN l))) ∧ m = [])) := by
 obtain ⟨x0, l0, rfl, e0⟩ := cons_of hl
 obtain ⟨x1, l1, rfl, e1⟩ := cons_of e0
 obtain ⟨x2, l2, rfl, e2⟩ := cons_of e1
 obtain ⟨x3, l3, rfl, e3⟩ := cons_of e2
 obtain ⟨x4, l4, rfl, e4⟩ := cons_of e3
 obtain ⟨x5, l5, rfl, e5⟩ := cons_of e4
 obtain ⟨x6, l6, rfl, e6⟩ := cons_of e5
 obtain ⟨x7, l7, rfl, e7⟩ := cons_of e6
 obtain ⟨x8, l8, rfl, e8⟩ := cons_of e7
 obtain ⟨x9, l9, rfl, e9⟩ := cons_of e8
 obtain ⟨x10, l10, rfl, e10⟩ := cons_of e9
 obtain ⟨x11, l11, rfl, e11⟩ := cons_of e10
 obtain ⟨x12, l12, rfl, e12⟩ := cons_of e11
 obtain ⟨x13, l13, rfl, e13⟩ := cons_of e12
 obtain ⟨x14, l14, rfl, e14⟩ := cons_of e13
 obtain ⟨x15, l15, rfl, e15⟩ := cons_of e14
 obtain ⟨x16, l16, rfl, e16⟩ := cons_of e15
 obtain ⟨x17, l17, rfl, e17⟩ := cons_of e16
 obtain ⟨x18, l18, rfl, e18⟩ := cons_of e17
 obtain ⟨x19, l19, rfl, e19⟩ := cons_of e18
 obtain ⟨x20, l20, rfl, e20⟩ := cons_of e19
 obtain ⟨x21, l21, rfl, e21⟩ := cons_of e20
 obtain ⟨x22, l22, rfl, e22⟩ := cons_of e21
 obtain ⟨x23, l23, rfl, e23⟩ := cons_of e22
 obtain ⟨x24, l24, rfl, e24⟩ := cons_of e23
 obtain ⟨x25, l25, rfl, e25⟩ := cons_of e24
 obtain ⟨x26, l26, rfl, e26⟩ := cons_of e25
 obtain ⟨x27, l27, rfl, e27⟩ := cons_of e26
 obtain ⟨x28, l28, rfl, e28⟩ := cons_of e27
 obtain ⟨x29, l29, rfl, e29⟩ := cons_of e28
 obtain ⟨x30, l30, rfl, e30⟩ := cons_of e29
 obtain ⟨x31, l31, rfl, e31⟩ := cons_of e30
 obtain rfl := List.eq_nil_of_length_eq_zero e31
 exact rfrom_x x0 x1 x2 x3 x4 x5 x6 x7 x8 x9 x10 x11 x12 x13 x14 x15 x16 x17 x18 x19 x20 x21 x22 x23 x24 x25 x26 x27 x28 x29 x30 x31
theorem d16_zero : u64C (D16 0) = [.pl (.u64 0), .pl (.u64 0), .pl (.u64 0), .pl (.u64 0), .pl (.u64 0), .pl (.u64 0), .pl (.u64 0), .pl (.u64 0), .pl (.u64 0), .pl (.u64 0), .pl (.u64 0), .pl (.u64 0), .pl (.u64 0), .pl (.u64 0), .pl (.u64 0), .pl (.u64 0)] := by rw [show D16 0 = [0, 0, 0, 0, 0, 0, 0, 0, 0, 0, 0, 0, 0, 0, 0, 0] from by decide +kernel]; rfl
set_option maxHeartbeats 1600000 in
set_option maxRecDepth 100000 in
theorem often_b (k : List UInt8) (hk : k.length = 32) (U : Nat) (hU : U < p25) :
 CtM Tryd.prog 17 [.w (.agg (bytesC k)), .w (.one (.pl (.i 255))), .w (.agg (u64C (D16 U)))] [(1000000, ⟨false, u64C prdL⟩)] (Told (fun v m => v = .tup [.agg (ptC ⟨1, 0⟩), .agg (ptC ⟨U, 1⟩)] ∧ m = [])) := by
 obtain ⟨u, hu⟩ : ∃ q, D16 U = q := ⟨_, rfl⟩
 have hul : u.length = 32 - 16 := by rw [← hu]; rfl
 simp only [ptC, hu, d16_one, d16_zero]
 refine CtM.k Tryd.func17 rfl Tryd.ntmps17 (congrArg Array.toList Tryd.results17) (by simp) fun w0 ro may fx => ?_
 refine sr_k fun K1 hK1 => ?_
 simp only [go_sem, hk, hul]
 repeat' (first | apply And.intro | intro _)
 refine hK1 _ ?_
 refine seq_k fun N2 M2 hN2 hM2 => ?_
 refine sr_k fun K3 hK3 => ?_
 simp only [go_sem, hk, hul]
 repeat' (first | apply And.intro | intro _)
 refine hK3 _ ?_
 refine condT_k (by first | rfl | (simp [go_sem, hk, hul]; done)) ?_
 refine sd_k [12, 13, 14, 15, 16] [0, 1, 0, 0, 12, 3, 63] [(2, 5), (3, 5), (4, 5)] mixed (by kernel_rfl) (by simp only [go_sem]) fun K4 hK4 => ?_
 simp only [go_sem, hk, hul]
 repeat' (first | apply And.intro | intro _)
 refine hK4 _ _ ?_ ?_
 · first | trivial | (simp only [go_sem]; done) | (simp only [go_sem]; simp; done) | (simp only [go_sem]; simp; simp only [go_sem])
 refine ret_k ?_
 refine hM2 _ _ ?_
 simp only [go_sem, hk, hul]
 all_goals (exact told_plain (by simp [plainV, plainW, u64C]) ⟨by first | rfl | simp, rfl⟩)
set_option maxHeartbeats 3200000 in
set_option maxRecDepth 100000 in
theorem often_1 (k : List UInt8) (hk : k.length = 32) (U : Nat) (hU : U < p25) (P1 P2 Q1 Q2 : Nat) (l0 : P1 < p25) (l1 : P2 < p25) (l2 : Q1 < p25) (l3 : Q2 < p25) (i : Nat) (hi : i < 255) (hrec : CtM Tryd.prog 17 [.w (.agg (bytesC k)), .w (.one (.pl (.i ((i + 1 : Nat) : Int)))), .w (.agg (u64C (D16 U)))] [(1000000, ⟨false, u64C prdL⟩)] (Told (fun v m => v = .tup [.agg (ptC ⟨P1, P2⟩), .agg (ptC ⟨Q1, Q2⟩)] ∧ m = []))) (hbit : bitB k i = 1) :
 CtM Tryd.prog 17 [.w (.agg (bytesC k)), .w (.one (.pl (.i ((i : Nat) : Int)))), .w (.agg (u64C (D16 U)))] [(1000000, ⟨false, u64C prdL⟩)] (Told (fun v m => v = .tup [.agg (ptC (withR ⟨P1, P2⟩ ⟨Q1, Q2⟩ U)), .agg (ptC (dblR ⟨Q1, Q2⟩))] ∧ m = [])) := by
 obtain ⟨lxx, lzz, lyy, lvv, luu⟩ : P1 < p25 ∧ P2 < p25 ∧ Q1 < p25 ∧ Q2 < p25 ∧ U < p25 := ⟨l0, l1, l2, l3, hU⟩
 have hW := rwith P1 P2 Q1 Q2 U l0 l1 l2 l3 hU
 have hD := rdouble Q1 Q2 l2 l3
 obtain ⟨⟨w1, w2⟩, hw⟩ : ∃ p, withR ⟨P1, P2⟩ ⟨Q1, Q2⟩ U = p := ⟨_, rfl⟩
 obtain ⟨⟨d1, d2⟩, hd⟩ : ∃ p, dblR ⟨Q1, Q2⟩ = p := ⟨_, rfl⟩
 rw [hw] at hW ⊢
 rw [hd] at hD ⊢
 obtain ⟨wx, hwx⟩ : ∃ q, D16 w1 = q := ⟨_, rfl⟩
 have hwxl : wx.length = 16 := by rw [← hwx]; rfl
 obtain ⟨wz, hwz⟩ : ∃ q, D16 w2 = q := ⟨_, rfl⟩
 have hwzl : wz.length = 16 := by rw [← hwz]; rfl
 obtain ⟨dx, hdx⟩ : ∃ q, D16 d1 = q := ⟨_, rfl⟩
 have hdxl : dx.length = 16 := by rw [← hdx]; rfl
 obtain ⟨dz, hdz⟩ : ∃ q, D16 d2 = q := ⟨_, rfl⟩
 have hdzl : dz.length = 16 := by rw [← hdz]; rfl
 obtain ⟨xx, hxx⟩ : ∃ q, D16 P1 = q := ⟨_, rfl⟩
 have hxxl : xx.length = 16 := by rw [← hxx]; rfl
 have hxxd : ∀ i, i < 16 → (fL xx i).toNat < 65536 := by rw [← hxx]; exact D16_lt _
 have hxxv : valB 65536 xx = P1 := by rw [← hxx]; exact D16_val (lt_m4 lxx)
 obtain ⟨zz, hzz⟩ : ∃ q, D16 P2 = q := ⟨_, rfl⟩
 have hzzl : zz.length = 16 := by rw [← hzz]; rfl
 have hzzd : ∀ i, i < 16 → (fL zz i).toNat < 65536 := by rw [← hzz]; exact D16_lt _
 have hzzv : valB 65536 zz = P2 := by rw [← hzz]; exact D16_val (lt_m4 lzz)
 obtain ⟨yy, hyy⟩ : ∃ q, D16 Q1 = q := ⟨_, rfl⟩
 have hyyl : yy.length = 16 := by rw [← hyy]; rfl
 have hyyd : ∀ i, i < 16 → (fL yy i).toNat < 65536 := by rw [← hyy]; exact D16_lt _
 have hyyv : valB 65536 yy = Q1 := by rw [← hyy]; exact D16_val (lt_m4 lyy)
 obtain ⟨vv, hvv⟩ : ∃ q, D16 Q2 = q := ⟨_, rfl⟩
 have hvvl : vv.length = 16 := by rw [← hvv]; rfl
 have hvvd : ∀ i, i < 16 → (fL vv i).toNat < 65536 := by rw [← hvv]; exact D16_lt _
 have hvvv : valB 65536 vv = Q2 := by rw [← hvv]; exact D16_val (lt_m4 lvv)
 obtain ⟨uu, huu⟩ : ∃ q, D16 U = q := ⟨_, rfl⟩
 have huul : uu.length = 16 := by rw [← huu]; rfl
 have huud : ∀ i, i < 16 → (fL uu i).toNat < 65536 := by rw [← huu]; exact D16_lt _
 have huuv : valB 65536 uu = U := by rw [← huu]; exact D16_val (lt_m4 luu)
 simp only [ptC, hxx, hzz, hyy, hvv, huu, hwx, hwz, hdx, hdz] at hrec hW hD ⊢
 have o1 := u8_one (q := k) (i := i / 8) (by omega)
 obtain ⟨b, hb⟩ : ∃ b, k.getD (i / 8) 0 = b := ⟨_, rfl⟩
 rw [hb] at o1
 have hbt : (shr8 b (i % 8) % 2 = 1) = True := by rw [← hb]; exact eq_true hbit
 have hn : (((i : Nat) : Int) = 255) = False := eq_false (by omega)
 have hj : (0 : Int) ≤ ((i / 8 : Nat) : Int) ∧ ((i / 8 : Nat) : Int) < 32 ∧ i / 8 + 1 ≤ 32 ∧ (0 : Int) ≤ ((i % 8 : Nat) : Int) := by omega
 have htd : ((i : Nat) : Int).tdiv 8 = ((i / 8 : Nat) : Int) := rfl
 have htm : ((i : Nat) : Int).tmod 8 = ((i % 8 : Nat) : Int) := rfl
 obtain ⟨hs1, hwd⟩ : Go.RowKit.wrap64 (((i : Nat) : Int) + 1) = ((i + 1 : Nat) : Int) ∧ Go.RowKit.wrap64 ((i / 8 : Nat) : Int) = ((i / 8 : Nat) : Int) := ⟨wnat (by omega) (by omega), wnat rfl (by omega)⟩
 have F0 := And.intro hk <| And.intro hxxl <| And.intro hzzl <| And.intro hyyl <| And.intro hvvl <| And.intro huul <| And.intro hwxl <| And.intro hwzl <| And.intro hdxl <| And.intro hdzl <| And.intro o1 <| And.intro hbt <| And.intro hn <| And.intro hj <| And.intro htd <| And.intro htm <| And.intro hs1 <| hwd
 refine CtM.k Tryd.func17 rfl Tryd.ntmps17 (congrArg Array.toList Tryd.results17) (by simp) fun w0 ro may fx => ?_
 refine sr_k fun K1 hK1 => ?_
 simp only [go_sem, bytesC_1, nz8_2, F0]
 repeat' (first | apply And.intro | intro _)
 refine hK1 _ ?_
 refine seq_k fun N2 M2 hN2 hM2 => ?_
 refine sr_k fun K3 hK3 => ?_
 simp only [go_sem, bytesC_1, nz8_2, F0]
 repeat' (first | apply And.intro | intro _)
 refine hK3 _ ?_
 refine condF_k (by first | rfl | (simp [go_sem, bytesC_1, nz8_2, F0]; done)) ?_
 refine skip_k ?_
 refine hN2 _ ?_
 refine sr_k fun K4 hK4 => ?_
 simp only [go_sem, bytesC_1, nz8_2, F0]
 repeat' (first | apply And.intro | intro _)
 all_goals (refine call_hand false [] (fun k => k) (fun _ _ => rfl) ?_ (by decide) ?_ hrec.told ?_; iterate 2 (focus (first | rfl | (simp only [go_sem, bytesC_1, nz8_2, F0] <;> first | done | rfl | simp))))
 all_goals (rintro v m ⟨hR, hm⟩; subst hR; subst hm)
 all_goals (refine And.intro ?_ (And.intro ?_ (And.intro ?_ ?_)); iterate 3 (focus (first | rfl | (simp only [go_sem, bytesC_1, nz8_2, F0]; done) | (simp [go_sem, look, bytesC_1, nz8_2, F0]; done))))
 all_goals (try simp only [go_sem, bytesC_1, nz8_2, F0])
 all_goals (try simp only [go_sem, bytesC_1, nz8_2, F0])
 all_goals repeat' (first | apply And.intro | intro _)
 refine hK4 _ ?_
 refine seq_k fun N5 M5 hN5 hM5 => ?_
 refine sr_k fun K6 hK6 => ?_
 simp only [go_sem, bytesC_1, nz8_2, F0]
 repeat' (first | apply And.intro | intro _)
 refine hK6 _ ?_
 refine condT_k (by first | rfl | (simp [go_sem, bytesC_1, nz8_2, F0]; done)) ?_
 refine seq_k fun N7 M7 hN7 hM7 => ?_
 refine dr_k mixed fun K8 hK8 => ?_
 refine dr_piece_k 5 [34, 35, 36, 37, 38] [0, 0, 0, 7, 0, 31, 63, 127] [] rfl (by kernel_rfl) rfl (by simp only [go_sem]) fun N9 K9 hN9 hK9 => ?_
 simp only [go_sem, bytesC_1, nz8_2, F0]
 repeat' (first | apply And.intro | intro _)
 all_goals (refine call_drawhand (fun k => k) (.w (.agg (u64C wx ++ u64C wz))) [] (fun _ _ => rfl) ?_ ?_ ?_ hW.told ?_ ?_; (iterate 2 (focus (first | rfl | (simp only [go_sem, bytesC_1, nz8_2, F0] <;> first | done | rfl | simp)))); (first | kernel_rfl | rfl | simp [fixO, fixL, pls]))
 all_goals try (refine And.intro ?_ (And.intro ?_ (And.intro ?_ ?_)) <;> (first | rfl | (simp only [go_sem, bytesC_1, nz8_2, F0]; done) | (simp [go_sem, look, bytesC_1, nz8_2, F0]; done)))
 all_goals (try simp only [go_sem, bytesC_1, nz8_2, F0])
 all_goals (try simp only [go_sem, bytesC_1, nz8_2, F0])
 all_goals repeat' (first | apply And.intro | intro _)
 all_goals
  refine hK9 _ _ trivial (hN9 _ ?_)
  refine dr_runs_k 3 8 rfl (by kernel_rfl) rfl rfl fun N10 hN10 => ?_
  simp only [go_sem, bytesC_1, nz8_2, F0]
  repeat' (first | apply And.intro | intro _)
  all_goals (refine call_hand false [] (fun k => k) (fun _ _ => rfl) ?_ (by decide) ?_ hD.told ?_; iterate 2 (focus (first | rfl | (simp only [go_sem, bytesC_1, nz8_2, F0] <;> first | done | rfl | simp))))
  all_goals (rintro v m ⟨hR, hm⟩; subst hR; subst hm)
  all_goals (refine And.intro ?_ (And.intro ?_ (And.intro ?_ ?_)); iterate 3 (focus (first | rfl | (simp only [go_sem, bytesC_1, nz8_2, F0]; done) | (simp [go_sem, look, bytesC_1, nz8_2, F0]; done))))
  all_goals (try simp only [go_sem, bytesC_1, nz8_2, F0])
  all_goals (try simp only [go_sem, bytesC_1, nz8_2, F0])
  all_goals repeat' (first | apply And.intro | intro _)
  all_goals
   refine hN10 _ ?_
   refine dr_end rfl (hK8 _ ?_)
   refine hN7 _ ?_
   refine ret_k ?_
   refine hM5 _ _ ?_
   simp only [go_sem, bytesC_1, nz8_2, F0]
   all_goals (exact told_plain (by simp [plainV, plainW, u64C]) ⟨by first | rfl | simp, rfl⟩)
set_option maxHeartbeats 3200000 in
set_option maxRecDepth 100000 in
theorem often_0 (k : List UInt8) (hk : k.length = 32) (U : Nat) (hU : U < p25) (P1 P2 Q1 Q2 : Nat) (l0 : P1 < p25) (l1 : P2 < p25) (l2 : Q1 < p25) (l3 : Q2 < p25) (i : Nat) (hi : i < 255) (hrec : CtM Tryd.prog 17 [.w (.agg (bytesC k)), .w (.one (.pl (.i ((i + 1 : Nat) : Int)))), .w (.agg (u64C (D16 U)))] [(1000000, ⟨false, u64C prdL⟩)] (Told (fun v m => v = .tup [.agg (ptC ⟨P1, P2⟩), .agg (ptC ⟨Q1, Q2⟩)] ∧ m = []))) (hbit : ¬ bitB k i = 1) :
 CtM Tryd.prog 17 [.w (.agg (bytesC k)), .w (.one (.pl (.i ((i : Nat) : Int)))), .w (.agg (u64C (D16 U)))] [(1000000, ⟨false, u64C prdL⟩)] (Told (fun v m => v = .tup [.agg (ptC (dblR ⟨P1, P2⟩)), .agg (ptC (withR ⟨P1, P2⟩ ⟨Q1, Q2⟩ U))] ∧ m = [])) := by
 obtain ⟨lxx, lzz, lyy, lvv, luu⟩ : P1 < p25 ∧ P2 < p25 ∧ Q1 < p25 ∧ Q2 < p25 ∧ U < p25 := ⟨l0, l1, l2, l3, hU⟩
 have hW := rwith P1 P2 Q1 Q2 U l0 l1 l2 l3 hU
 have hD := rdouble P1 P2 l0 l1
 obtain ⟨⟨w1, w2⟩, hw⟩ : ∃ p, withR ⟨P1, P2⟩ ⟨Q1, Q2⟩ U = p := ⟨_, rfl⟩
 obtain ⟨⟨d1, d2⟩, hd⟩ : ∃ p, dblR ⟨P1, P2⟩ = p := ⟨_, rfl⟩
 rw [hw] at hW ⊢
 rw [hd] at hD ⊢
 obtain ⟨wx, hwx⟩ : ∃ q, D16 w1 = q := ⟨_, rfl⟩
 have hwxl : wx.length = 16 := by rw [← hwx]; rfl
 obtain ⟨wz, hwz⟩ : ∃ q, D16 w2 = q := ⟨_, rfl⟩
 have hwzl : wz.length = 16 := by rw [← hwz]; rfl
 obtain ⟨dx, hdx⟩ : ∃ q, D16 d1 = q := ⟨_, rfl⟩
 have hdxl : dx.length = 16 := by rw [← hdx]; rfl
 obtain ⟨dz, hdz⟩ : ∃ q, D16 d2 = q := ⟨_, rfl⟩
 have hdzl : dz.length = 16 := by rw [← hdz]; rfl
 obtain ⟨xx, hxx⟩ : ∃ q, D16 P1 = q := ⟨_, rfl⟩
 have hxxl : xx.length = 16 := by rw [← hxx]; rfl
 have hxxd : ∀ i, i < 16 → (fL xx i).toNat < 65536 := by rw [← hxx]; exact D16_lt _
 have hxxv : valB 65536 xx = P1 := by rw [← hxx]; exact D16_val (lt_m4 lxx)
 obtain ⟨zz, hzz⟩ : ∃ q, D16 P2 = q := ⟨_, rfl⟩
 have hzzl : zz.length = 16 := by rw [← hzz]; rfl
 have hzzd : ∀ i, i < 16 → (fL zz i).toNat < 65536 := by rw [← hzz]; exact D16_lt _
 have hzzv : valB 65536 zz = P2 := by rw [← hzz]; exact D16_val (lt_m4 lzz)
 obtain ⟨yy, hyy⟩ : ∃ q, D16 Q1 = q := ⟨_, rfl⟩
 have hyyl : yy.length = 16 := by rw [← hyy]; rfl
 have hyyd : ∀ i, i < 16 → (fL yy i).toNat < 65536 := by rw [← hyy]; exact D16_lt _
 have hyyv : valB 65536 yy = Q1 := by rw [← hyy]; exact D16_val (lt_m4 lyy)
 obtain ⟨vv, hvv⟩ : ∃ q, D16 Q2 = q := ⟨_, rfl⟩
 have hvvl : vv.length = 16 := by rw [← hvv]; rfl
 have hvvd : ∀ i, i < 16 → (fL vv i).toNat < 65536 := by rw [← hvv]; exact D16_lt _
 have hvvv : valB 65536 vv = Q2 := by rw [← hvv]; exact D16_val (lt_m4 lvv)
 obtain ⟨uu, huu⟩ : ∃ q, D16 U = q := ⟨_, rfl⟩
 have huul : uu.length = 16 := by rw [← huu]; rfl
 have huud : ∀ i, i < 16 → (fL uu i).toNat < 65536 := by rw [← huu]; exact D16_lt _
 have huuv : valB 65536 uu = U := by rw [← huu]; exact D16_val (lt_m4 luu)
 simp only [ptC, hxx, hzz, hyy, hvv, huu, hwx, hwz, hdx, hdz] at hrec hW hD ⊢
 have o1 := u8_one (q := k) (i := i / 8) (by omega)
 obtain ⟨b, hb⟩ : ∃ b, k.getD (i / 8) 0 = b := ⟨_, rfl⟩
 rw [hb] at o1
 have hbt : (shr8 b (i % 8) % 2 = 1) = False := by rw [← hb]; exact eq_false hbit
 have hn : (((i : Nat) : Int) = 255) = False := eq_false (by omega)
 have hj : (0 : Int) ≤ ((i / 8 : Nat) : Int) ∧ ((i / 8 : Nat) : Int) < 32 ∧ i / 8 + 1 ≤ 32 ∧ (0 : Int) ≤ ((i % 8 : Nat) : Int) := by omega
 have htd : ((i : Nat) : Int).tdiv 8 = ((i / 8 : Nat) : Int) := rfl
 have htm : ((i : Nat) : Int).tmod 8 = ((i % 8 : Nat) : Int) := rfl
 obtain ⟨hs1, hwd⟩ : Go.RowKit.wrap64 (((i : Nat) : Int) + 1) = ((i + 1 : Nat) : Int) ∧ Go.RowKit.wrap64 ((i / 8 : Nat) : Int) = ((i / 8 : Nat) : Int) := ⟨wnat (by omega) (by omega), wnat rfl (by omega)⟩
 have F0 := And.intro hk <| And.intro hxxl <| And.intro hzzl <| And.intro hyyl <| And.intro hvvl <| And.intro huul <| And.intro hwxl <| And.intro hwzl <| And.intro hdxl <| And.intro hdzl <| And.intro o1 <| And.intro hbt <| And.intro hn <| And.intro hj <| And.intro htd <| And.intro htm <| And.intro hs1 <| hwd
 refine CtM.k Tryd.func17 rfl Tryd.ntmps17 (congrArg Array.toList Tryd.results17) (by simp) fun w0 ro may fx => ?_
 refine sr_k fun K1 hK1 => ?_
 simp only [go_sem, bytesC_1, nz8_2, F0]
 repeat' (first | apply And.intro | intro _)
 refine hK1 _ ?_
 refine seq_k fun N2 M2 hN2 hM2 => ?_
 refine sr_k fun K3 hK3 => ?_
 simp only [go_sem, bytesC_1, nz8_2, F0]
 repeat' (first | apply And.intro | intro _)
 refine hK3 _ ?_
 refine condF_k (by first | rfl | (simp [go_sem, bytesC_1, nz8_2, F0]; done)) ?_
 refine skip_k ?_
 refine hN2 _ ?_
 refine sr_k fun K4 hK4 => ?_
 simp only [go_sem, bytesC_1, nz8_2, F0]
 repeat' (first | apply And.intro | intro _)
 all_goals (refine call_hand false [] (fun k => k) (fun _ _ => rfl) ?_ (by decide) ?_ hrec.told ?_; iterate 2 (focus (first | rfl | (simp only [go_sem, bytesC_1, nz8_2, F0] <;> first | done | rfl | simp))))
 all_goals (rintro v m ⟨hR, hm⟩; subst hR; subst hm)
 all_goals (refine And.intro ?_ (And.intro ?_ (And.intro ?_ ?_)); iterate 3 (focus (first | rfl | (simp only [go_sem, bytesC_1, nz8_2, F0]; done) | (simp [go_sem, look, bytesC_1, nz8_2, F0]; done))))
 all_goals (try simp only [go_sem, bytesC_1, nz8_2, F0])
 all_goals (try simp only [go_sem, bytesC_1, nz8_2, F0])
 all_goals repeat' (first | apply And.intro | intro _)
 refine hK4 _ ?_
 refine seq_k fun N5 M5 hN5 hM5 => ?_
 refine sr_k fun K6 hK6 => ?_
 simp only [go_sem, bytesC_1, nz8_2, F0]
 repeat' (first | apply And.intro | intro _)
 refine hK6 _ ?_
 refine condF_k (by first | rfl | (simp [go_sem, bytesC_1, nz8_2, F0]; done)) ?_
 refine skip_k ?_
 refine hN5 _ ?_
 refine seq_k fun N7 M7 hN7 hM7 => ?_
 refine dr_k mixed fun K8 hK8 => ?_
 refine dr_piece_k 5 [40, 41, 42, 43, 44] [0, 1, 0, 0, 0, 31, 63, 127] [] rfl (by kernel_rfl) rfl (by simp only [go_sem]) fun N9 K9 hN9 hK9 => ?_
 simp only [go_sem, bytesC_1, nz8_2, F0]
 repeat' (first | apply And.intro | intro _)
 all_goals (refine call_drawhand (fun k => k) (.w (.agg (u64C dx ++ u64C dz))) [] (fun _ _ => rfl) ?_ ?_ ?_ hD.told ?_ ?_; (iterate 2 (focus (first | rfl | (simp only [go_sem, bytesC_1, nz8_2, F0] <;> first | done | rfl | simp)))); (first | kernel_rfl | rfl | simp [fixO, fixL, pls]))
 all_goals try (refine And.intro ?_ (And.intro ?_ (And.intro ?_ ?_)) <;> (first | rfl | (simp only [go_sem, bytesC_1, nz8_2, F0]; done) | (simp [go_sem, look, bytesC_1, nz8_2, F0]; done)))
 all_goals (try simp only [go_sem, bytesC_1, nz8_2, F0])
 all_goals (try simp only [go_sem, bytesC_1, nz8_2, F0])
 all_goals repeat' (first | apply And.intro | intro _)
 all_goals
  refine hK9 _ _ trivial (hN9 _ ?_)
  refine dr_runs_k 3 8 rfl (by kernel_rfl) rfl rfl fun N10 hN10 => ?_
  simp only [go_sem, bytesC_1, nz8_2, F0]
  repeat' (first | apply And.intro | intro _)
  all_goals (refine call_hand false [] (fun k => k) (fun _ _ => rfl) ?_ (by decide) ?_ hW.told ?_; iterate 2 (focus (first | rfl | (simp only [go_sem, bytesC_1, nz8_2, F0] <;> first | done | rfl | simp))))
  all_goals (rintro v m ⟨hR, hm⟩; subst hR; subst hm)
  all_goals (refine And.intro ?_ (And.intro ?_ (And.intro ?_ ?_)); iterate 3 (focus (first | rfl | (simp only [go_sem, bytesC_1, nz8_2, F0]; done) | (simp [go_sem, look, bytesC_1, nz8_2, F0]; done))))
  all_goals (try simp only [go_sem, bytesC_1, nz8_2, F0])
  all_goals (try simp only [go_sem, bytesC_1, nz8_2, F0])
  all_goals repeat' (first | apply And.intro | intro _)
  all_goals
   refine hN10 _ ?_
   refine dr_end rfl (hK8 _ ?_)
   refine hN7 _ ?_
   refine ret_k ?_
   simp only [go_sem, bytesC_1, nz8_2, F0]
   all_goals (exact told_plain (by simp [plainV, plainW, u64C]) ⟨by first | rfl | simp, rfl⟩)
theorem often_ (k : List UInt8) (hk : k.length = 32) (U : Nat) (hU : U < p25) : ∀ (s i : Nat), i + s = 255 → CtM Tryd.prog 17 [.w (.agg (bytesC k)), .w (.one (.pl (.i ((i : Nat) : Int)))), .w (.agg (u64C (D16 U)))] [(1000000, ⟨false, u64C prdL⟩)] (Told (fun v m => v = .tup [.agg (ptC (oft k U s).1), .agg (ptC (oft k U s).2)] ∧ m = []))
 | 0, i, h => by
  obtain rfl : i = 255 := by omega
  exact often_b k hk U hU
 | s + 1, i, h => by
  have hr := often_ k hk U hU s (i + 1) (by omega)
  obtain ⟨⟨a1, a2⟩, ⟨a3, a4⟩⟩ := oft_ok k hU s
  simp only [oft]
  obtain ⟨⟨P1, P2⟩, hP⟩ : ∃ p, (oft k U s).1 = p := ⟨_, rfl⟩
  obtain ⟨⟨Q1, Q2⟩, hQ⟩ : ∃ p, (oft k U s).2 = p := ⟨_, rfl⟩
  rw [hP] at hr a1 a2 ⊢
  rw [hQ] at hr a3 a4 ⊢
  obtain rfl : i = 254 - s := by omega
  by_cases hb : bitB k (254 - s) = 1
  · rw [if_pos hb]; exact often_1 k hk U hU P1 P2 Q1 Q2 a1 a2 a3 a4 _ (by omega) hr hb
  · rw [if_neg hb]; exact often_0 k hk U hU P1 P2 Q1 Q2 a1 a2 a3 a4 _ (by omega) hr hb
end Go.Sy

