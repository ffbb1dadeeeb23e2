/- Products below the prime. -/
import Derived.Test.YthngiogkogeigaaDoorvhK5
import Derived.Test.YthngiogkogeigaaDoorvQ6
set_option linter.unusedVariables false
set_option linter.unusedSimpArgs false
namespace Go.Sy
open Go.Proofs
attribute [local irreducible] atCall HT runOps runD onC onE onO onG goV goA goS onSt onGuard
set_option maxHeartbeats 400000 in
theorem mul64 (x y : UInt64) :
 Ct Tryd.prog 39 [.w (.one (.pl (.u64 x))), .w (.one (.pl (.u64 y)))] (fun v m => v = .tup [.one (.pl (.u64 (mulH x y))), .one (.pl (.u64 (x * y)))]) := by
 refine Ct.k Tryd.func39 rfl Tryd.ntmps39 (congrArg Array.toList Tryd.results39) (by simp) fun w0 ro => ?_
 refine sr_k fun K1 hK1 => ?_
 simp only [go_sem]
 repeat' (first | apply And.intro | intro _)
 refine hK1 _ ?_
 refine sr_k fun K2 hK2 => ?_
 simp only [go_sem]
 repeat' (first | apply And.intro | intro _)
 refine hK2 _ ?_
 refine sr_k fun K3 hK3 => ?_
 simp only [go_sem]
 repeat' (first | apply And.intro | intro _)
 refine hK3 _ ?_
 refine sr_k fun K4 hK4 => ?_
 simp only [go_sem]
 repeat' (first | apply And.intro | intro _)
 refine hK4 _ ?_
 refine sr_k fun K5 hK5 => ?_
 simp only [go_sem]
 repeat' (first | apply And.intro | intro _)
 refine hK5 _ ?_
 refine sr_k fun K6 hK6 => ?_
 simp only [go_sem]
 repeat' (first | apply And.intro | intro _)
 refine hK6 _ ?_
 refine sr_k fun K7 hK7 => ?_
 simp only [go_sem]
 repeat' (first | apply And.intro | intro _)
 refine hK7 _ ?_
 refine sr_k fun K8 hK8 => ?_
 simp only [go_sem]
 repeat' (first | apply And.intro | intro _)
 refine hK8 _ ?_
 refine sr_k fun K9 hK9 => ?_
 simp only [go_sem]
 repeat' (first | apply And.intro | intro _)
 refine hK9 _ ?_
 refine sr_k fun K10 hK10 => ?_
 simp only [go_sem]
 repeat' (first | apply And.intro | intro _)
 refine hK10 _ ?_
 refine sr_k fun K11 hK11 => ?_
 simp only [go_sem]
 repeat' (first | apply And.intro | intro _)
 refine hK11 _ ?_
 refine sr_k fun K12 hK12 => ?_
 simp only [go_sem]
 repeat' (first | apply And.intro | intro _)
 refine hK12 _ ?_
 refine ret_k ?_
 simp only [go_sem]
 all_goals (rfl)
theorem stp_row_r {x y0 y1 y2 y3 w0 w1 w2 w3 l0 l1 l2 l3 c0 c1 c2 c3 : UInt64} (h0 : Stp y0 x w0 0 l0 c0) (h1 : Stp y1 x w1 c0 l1 c1) (h2 : Stp y2 x w2 c1 l2 c2) (h3 : Stp y3 x w3 c2 l3 c3) :
 vQ l0 l1 l2 l3 + m4 * c3.toNat = x.toNat * vQ y0 y1 y2 y3 + vQ w0 w1 w2 w3 :=
 stp_row ⟨by rw [h0.e, Nat.mul_comm]⟩ ⟨by rw [h1.e, Nat.mul_comm]⟩ ⟨by rw [h2.e, Nat.mul_comm]⟩ ⟨by rw [h3.e, Nat.mul_comm]⟩
theorem mul_fold {s k : Nat} {t : Nat} (h : (s + m4 * k) % p25 = t % p25) : plusN s (38 * k) % p25 = t % p25 := by
 rw [fold_mod s k _ rfl, h]
set_option maxHeartbeats 6400000 in
set_option maxRecDepth 100000 in
theorem mul_ (a b c d e f g h : UInt64) :
 CtM Tryd.prog 29 [.w (.agg [.pl (.u64 a), .pl (.u64 b), .pl (.u64 c), .pl (.u64 d)]), .w (.agg [.pl (.u64 e), .pl (.u64 f), .pl (.u64 g), .pl (.u64 h)])] [(1000001, ⟨false, [.pl (.u64 18446744073709551597), .pl (.u64 18446744073709551615), .pl (.u64 18446744073709551615), .pl (.u64 9223372036854775807)]⟩)] (Told (fun v m => v = .w (.agg (w4C ((vQ a b c d * vQ e f g h) % p25))) ∧ m = [])) := by
 obtain ⟨p00, ep00⟩ : ∃ z, a * e = z := ⟨_, rfl⟩
 obtain ⟨h00, eh00⟩ : ∃ z, mulH a e = z := ⟨_, rfl⟩
 obtain ⟨s00, es00⟩ : ∃ z, adS p00 0 0 = z := ⟨_, rfl⟩
 obtain ⟨u00, eu00⟩ : ∃ z, adC p00 0 0 = z := ⟨_, rfl⟩
 obtain ⟨l00, el00⟩ : ∃ z, adS s00 0 0 = z := ⟨_, rfl⟩
 obtain ⟨v00, ev00⟩ : ∃ z, adC s00 0 0 = z := ⟨_, rfl⟩
 have st00 : Stp a e 0 0 l00 (h00 + u00 + v00) := stp ep00 eh00 es00 eu00 el00 ev00
 obtain ⟨k00, ek00⟩ : ∃ z, h00 + u00 + v00 = z := ⟨_, rfl⟩
 rw [ek00] at st00
 obtain ⟨p01, ep01⟩ : ∃ z, a * f = z := ⟨_, rfl⟩
 obtain ⟨h01, eh01⟩ : ∃ z, mulH a f = z := ⟨_, rfl⟩
 obtain ⟨s01, es01⟩ : ∃ z, adS p01 0 0 = z := ⟨_, rfl⟩
 obtain ⟨u01, eu01⟩ : ∃ z, adC p01 0 0 = z := ⟨_, rfl⟩
 obtain ⟨l01, el01⟩ : ∃ z, adS s01 k00 0 = z := ⟨_, rfl⟩
 obtain ⟨v01, ev01⟩ : ∃ z, adC s01 k00 0 = z := ⟨_, rfl⟩
 have st01 : Stp a f 0 k00 l01 (h01 + u01 + v01) := stp ep01 eh01 es01 eu01 el01 ev01
 obtain ⟨k01, ek01⟩ : ∃ z, h01 + u01 + v01 = z := ⟨_, rfl⟩
 rw [ek01] at st01
 obtain ⟨p02, ep02⟩ : ∃ z, a * g = z := ⟨_, rfl⟩
 obtain ⟨h02, eh02⟩ : ∃ z, mulH a g = z := ⟨_, rfl⟩
 obtain ⟨s02, es02⟩ : ∃ z, adS p02 0 0 = z := ⟨_, rfl⟩
 obtain ⟨u02, eu02⟩ : ∃ z, adC p02 0 0 = z := ⟨_, rfl⟩
 obtain ⟨l02, el02⟩ : ∃ z, adS s02 k01 0 = z := ⟨_, rfl⟩
 obtain ⟨v02, ev02⟩ : ∃ z, adC s02 k01 0 = z := ⟨_, rfl⟩
 have st02 : Stp a g 0 k01 l02 (h02 + u02 + v02) := stp ep02 eh02 es02 eu02 el02 ev02
 obtain ⟨k02, ek02⟩ : ∃ z, h02 + u02 + v02 = z := ⟨_, rfl⟩
 rw [ek02] at st02
 obtain ⟨p03, ep03⟩ : ∃ z, a * h = z := ⟨_, rfl⟩
 obtain ⟨h03, eh03⟩ : ∃ z, mulH a h = z := ⟨_, rfl⟩
 obtain ⟨s03, es03⟩ : ∃ z, adS p03 0 0 = z := ⟨_, rfl⟩
 obtain ⟨u03, eu03⟩ : ∃ z, adC p03 0 0 = z := ⟨_, rfl⟩
 obtain ⟨l03, el03⟩ : ∃ z, adS s03 k02 0 = z := ⟨_, rfl⟩
 obtain ⟨v03, ev03⟩ : ∃ z, adC s03 k02 0 = z := ⟨_, rfl⟩
 have st03 : Stp a h 0 k02 l03 (h03 + u03 + v03) := stp ep03 eh03 es03 eu03 el03 ev03
 obtain ⟨k03, ek03⟩ : ∃ z, h03 + u03 + v03 = z := ⟨_, rfl⟩
 rw [ek03] at st03
 have row0 := stp_row st00 st01 st02 st03
 obtain ⟨p10, ep10⟩ : ∃ z, b * e = z := ⟨_, rfl⟩
 obtain ⟨h10, eh10⟩ : ∃ z, mulH b e = z := ⟨_, rfl⟩
 obtain ⟨s10, es10⟩ : ∃ z, adS p10 l01 0 = z := ⟨_, rfl⟩
 obtain ⟨u10, eu10⟩ : ∃ z, adC p10 l01 0 = z := ⟨_, rfl⟩
 obtain ⟨l10, el10⟩ : ∃ z, adS s10 0 0 = z := ⟨_, rfl⟩
 obtain ⟨v10, ev10⟩ : ∃ z, adC s10 0 0 = z := ⟨_, rfl⟩
 have st10 : Stp b e l01 0 l10 (h10 + u10 + v10) := stp ep10 eh10 es10 eu10 el10 ev10
 obtain ⟨k10, ek10⟩ : ∃ z, h10 + u10 + v10 = z := ⟨_, rfl⟩
 rw [ek10] at st10
 obtain ⟨p11, ep11⟩ : ∃ z, b * f = z := ⟨_, rfl⟩
 obtain ⟨h11, eh11⟩ : ∃ z, mulH b f = z := ⟨_, rfl⟩
 obtain ⟨s11, es11⟩ : ∃ z, adS p11 l02 0 = z := ⟨_, rfl⟩
 obtain ⟨u11, eu11⟩ : ∃ z, adC p11 l02 0 = z := ⟨_, rfl⟩
 obtain ⟨l11, el11⟩ : ∃ z, adS s11 k10 0 = z := ⟨_, rfl⟩
 obtain ⟨v11, ev11⟩ : ∃ z, adC s11 k10 0 = z := ⟨_, rfl⟩
 have st11 : Stp b f l02 k10 l11 (h11 + u11 + v11) := stp ep11 eh11 es11 eu11 el11 ev11
 obtain ⟨k11, ek11⟩ : ∃ z, h11 + u11 + v11 = z := ⟨_, rfl⟩
 rw [ek11] at st11
 obtain ⟨p12, ep12⟩ : ∃ z, b * g = z := ⟨_, rfl⟩
 obtain ⟨h12, eh12⟩ : ∃ z, mulH b g = z := ⟨_, rfl⟩
 obtain ⟨s12, es12⟩ : ∃ z, adS p12 l03 0 = z := ⟨_, rfl⟩
 obtain ⟨u12, eu12⟩ : ∃ z, adC p12 l03 0 = z := ⟨_, rfl⟩
 obtain ⟨l12, el12⟩ : ∃ z, adS s12 k11 0 = z := ⟨_, rfl⟩
 obtain ⟨v12, ev12⟩ : ∃ z, adC s12 k11 0 = z := ⟨_, rfl⟩
 have st12 : Stp b g l03 k11 l12 (h12 + u12 + v12) := stp ep12 eh12 es12 eu12 el12 ev12
 obtain ⟨k12, ek12⟩ : ∃ z, h12 + u12 + v12 = z := ⟨_, rfl⟩
 rw [ek12] at st12
 obtain ⟨p13, ep13⟩ : ∃ z, b * h = z := ⟨_, rfl⟩
 obtain ⟨h13, eh13⟩ : ∃ z, mulH b h = z := ⟨_, rfl⟩
 obtain ⟨s13, es13⟩ : ∃ z, adS p13 k03 0 = z := ⟨_, rfl⟩
 obtain ⟨u13, eu13⟩ : ∃ z, adC p13 k03 0 = z := ⟨_, rfl⟩
 obtain ⟨l13, el13⟩ : ∃ z, adS s13 k12 0 = z := ⟨_, rfl⟩
 obtain ⟨v13, ev13⟩ : ∃ z, adC s13 k12 0 = z := ⟨_, rfl⟩
 have st13 : Stp b h k03 k12 l13 (h13 + u13 + v13) := stp ep13 eh13 es13 eu13 el13 ev13
 obtain ⟨k13, ek13⟩ : ∃ z, h13 + u13 + v13 = z := ⟨_, rfl⟩
 rw [ek13] at st13
 have row1 := stp_row st10 st11 st12 st13
 obtain ⟨p20, ep20⟩ : ∃ z, c * e = z := ⟨_, rfl⟩
 obtain ⟨h20, eh20⟩ : ∃ z, mulH c e = z := ⟨_, rfl⟩
 obtain ⟨s20, es20⟩ : ∃ z, adS p20 l11 0 = z := ⟨_, rfl⟩
 obtain ⟨u20, eu20⟩ : ∃ z, adC p20 l11 0 = z := ⟨_, rfl⟩
 obtain ⟨l20, el20⟩ : ∃ z, adS s20 0 0 = z := ⟨_, rfl⟩
 obtain ⟨v20, ev20⟩ : ∃ z, adC s20 0 0 = z := ⟨_, rfl⟩
 have st20 : Stp c e l11 0 l20 (h20 + u20 + v20) := stp ep20 eh20 es20 eu20 el20 ev20
 obtain ⟨k20, ek20⟩ : ∃ z, h20 + u20 + v20 = z := ⟨_, rfl⟩
 rw [ek20] at st20
 obtain ⟨p21, ep21⟩ : ∃ z, c * f = z := ⟨_, rfl⟩
 obtain ⟨h21, eh21⟩ : ∃ z, mulH c f = z := ⟨_, rfl⟩
 obtain ⟨s21, es21⟩ : ∃ z, adS p21 l12 0 = z := ⟨_, rfl⟩
 obtain ⟨u21, eu21⟩ : ∃ z, adC p21 l12 0 = z := ⟨_, rfl⟩
 obtain ⟨l21, el21⟩ : ∃ z, adS s21 k20 0 = z := ⟨_, rfl⟩
 obtain ⟨v21, ev21⟩ : ∃ z, adC s21 k20 0 = z := ⟨_, rfl⟩
 have st21 : Stp c f l12 k20 l21 (h21 + u21 + v21) := stp ep21 eh21 es21 eu21 el21 ev21
 obtain ⟨k21, ek21⟩ : ∃ z, h21 + u21 + v21 = z := ⟨_, rfl⟩
 rw [ek21] at st21
 obtain ⟨p22, ep22⟩ : ∃ z, c * g = z := ⟨_, rfl⟩
 obtain ⟨h22, eh22⟩ : ∃ z, mulH c g = z := ⟨_, rfl⟩
 obtain ⟨s22, es22⟩ : ∃ z, adS p22 l13 0 = z := ⟨_, rfl⟩
 obtain ⟨u22, eu22⟩ : ∃ z, adC p22 l13 0 = z := ⟨_, rfl⟩
 obtain ⟨l22, el22⟩ : ∃ z, adS s22 k21 0 = z := ⟨_, rfl⟩
 obtain ⟨v22, ev22⟩ : ∃ z, adC s22 k21 0 = z := ⟨_, rfl⟩
 have st22 : Stp c g l13 k21 l22 (h22 + u22 + v22) := stp ep22 eh22 es22 eu22 el22 ev22
 obtain ⟨k22, ek22⟩ : ∃ z, h22 + u22 + v22 = z := ⟨_, rfl⟩
 rw [ek22] at st22
 obtain ⟨p23, ep23⟩ : ∃ z, c * h = z := ⟨_, rfl⟩
 obtain ⟨h23, eh23⟩ : ∃ z, mulH c h = z := ⟨_, rfl⟩
 obtain ⟨s23, es23⟩ : ∃ z, adS p23 k13 0 = z := ⟨_, rfl⟩
 obtain ⟨u23, eu23⟩ : ∃ z, adC p23 k13 0 = z := ⟨_, rfl⟩
 obtain ⟨l23, el23⟩ : ∃ z, adS s23 k22 0 = z := ⟨_, rfl⟩
 obtain ⟨v23, ev23⟩ : ∃ z, adC s23 k22 0 = z := ⟨_, rfl⟩
 have st23 : Stp c h k13 k22 l23 (h23 + u23 + v23) := stp ep23 eh23 es23 eu23 el23 ev23
 obtain ⟨k23, ek23⟩ : ∃ z, h23 + u23 + v23 = z := ⟨_, rfl⟩
 rw [ek23] at st23
 have row2 := stp_row st20 st21 st22 st23
 obtain ⟨p30, ep30⟩ : ∃ z, d * e = z := ⟨_, rfl⟩
 obtain ⟨h30, eh30⟩ : ∃ z, mulH d e = z := ⟨_, rfl⟩
 obtain ⟨s30, es30⟩ : ∃ z, adS p30 l21 0 = z := ⟨_, rfl⟩
 obtain ⟨u30, eu30⟩ : ∃ z, adC p30 l21 0 = z := ⟨_, rfl⟩
 obtain ⟨l30, el30⟩ : ∃ z, adS s30 0 0 = z := ⟨_, rfl⟩
 obtain ⟨v30, ev30⟩ : ∃ z, adC s30 0 0 = z := ⟨_, rfl⟩
 have st30 : Stp d e l21 0 l30 (h30 + u30 + v30) := stp ep30 eh30 es30 eu30 el30 ev30
 obtain ⟨k30, ek30⟩ : ∃ z, h30 + u30 + v30 = z := ⟨_, rfl⟩
 rw [ek30] at st30
 obtain ⟨p31, ep31⟩ : ∃ z, d * f = z := ⟨_, rfl⟩
 obtain ⟨h31, eh31⟩ : ∃ z, mulH d f = z := ⟨_, rfl⟩
 obtain ⟨s31, es31⟩ : ∃ z, adS p31 l22 0 = z := ⟨_, rfl⟩
 obtain ⟨u31, eu31⟩ : ∃ z, adC p31 l22 0 = z := ⟨_, rfl⟩
 obtain ⟨l31, el31⟩ : ∃ z, adS s31 k30 0 = z := ⟨_, rfl⟩
 obtain ⟨v31, ev31⟩ : ∃ z, adC s31 k30 0 = z := ⟨_, rfl⟩
 have st31 : Stp d f l22 k30 l31 (h31 + u31 + v31) := stp ep31 eh31 es31 eu31 el31 ev31
 obtain ⟨k31, ek31⟩ : ∃ z, h31 + u31 + v31 = z := ⟨_, rfl⟩
 rw [ek31] at st31
 obtain ⟨p32, ep32⟩ : ∃ z, d * g = z := ⟨_, rfl⟩
 obtain ⟨h32, eh32⟩ : ∃ z, mulH d g = z := ⟨_, rfl⟩
 obtain ⟨s32, es32⟩ : ∃ z, adS p32 l23 0 = z := ⟨_, rfl⟩
 obtain ⟨u32, eu32⟩ : ∃ z, adC p32 l23 0 = z := ⟨_, rfl⟩
 obtain ⟨l32, el32⟩ : ∃ z, adS s32 k31 0 = z := ⟨_, rfl⟩
 obtain ⟨v32, ev32⟩ : ∃ z, adC s32 k31 0 = z := ⟨_, rfl⟩
 have st32 : Stp d g l23 k31 l32 (h32 + u32 + v32) := stp ep32 eh32 es32 eu32 el32 ev32
 obtain ⟨k32, ek32⟩ : ∃ z, h32 + u32 + v32 = z := ⟨_, rfl⟩
 rw [ek32] at st32
 obtain ⟨p33, ep33⟩ : ∃ z, d * h = z := ⟨_, rfl⟩
 obtain ⟨h33, eh33⟩ : ∃ z, mulH d h = z := ⟨_, rfl⟩
 obtain ⟨s33, es33⟩ : ∃ z, adS p33 k23 0 = z := ⟨_, rfl⟩
 obtain ⟨u33, eu33⟩ : ∃ z, adC p33 k23 0 = z := ⟨_, rfl⟩
 obtain ⟨l33, el33⟩ : ∃ z, adS s33 k32 0 = z := ⟨_, rfl⟩
 obtain ⟨v33, ev33⟩ : ∃ z, adC s33 k32 0 = z := ⟨_, rfl⟩
 have st33 : Stp d h k23 k32 l33 (h33 + u33 + v33) := stp ep33 eh33 es33 eu33 el33 ev33
 obtain ⟨k33, ek33⟩ : ∃ z, h33 + u33 + v33 = z := ⟨_, rfl⟩
 rw [ek33] at st33
 have row3 := stp_row st30 st31 st32 st33
 have hpv := prod_val row0 row1 row2 row3
 obtain ⟨pf0, epf0⟩ : ∃ z, l31 * 38 = z := ⟨_, rfl⟩
 obtain ⟨hf0, ehf0⟩ : ∃ z, mulH l31 38 = z := ⟨_, rfl⟩
 obtain ⟨sf0, esf0⟩ : ∃ z, adS pf0 l00 0 = z := ⟨_, rfl⟩
 obtain ⟨uf0, euf0⟩ : ∃ z, adC pf0 l00 0 = z := ⟨_, rfl⟩
 obtain ⟨lf0, elf0⟩ : ∃ z, adS sf0 0 0 = z := ⟨_, rfl⟩
 obtain ⟨vf0, evf0⟩ : ∃ z, adC sf0 0 0 = z := ⟨_, rfl⟩
 have stf0 : Stp l31 38 l00 0 lf0 (hf0 + uf0 + vf0) := stp epf0 ehf0 esf0 euf0 elf0 evf0
 obtain ⟨kf0, ekf0⟩ : ∃ z, hf0 + uf0 + vf0 = z := ⟨_, rfl⟩
 rw [ekf0] at stf0
 obtain ⟨pf1, epf1⟩ : ∃ z, l32 * 38 = z := ⟨_, rfl⟩
 obtain ⟨hf1, ehf1⟩ : ∃ z, mulH l32 38 = z := ⟨_, rfl⟩
 obtain ⟨sf1, esf1⟩ : ∃ z, adS pf1 l10 0 = z := ⟨_, rfl⟩
 obtain ⟨uf1, euf1⟩ : ∃ z, adC pf1 l10 0 = z := ⟨_, rfl⟩
 obtain ⟨lf1, elf1⟩ : ∃ z, adS sf1 kf0 0 = z := ⟨_, rfl⟩
 obtain ⟨vf1, evf1⟩ : ∃ z, adC sf1 kf0 0 = z := ⟨_, rfl⟩
 have stf1 : Stp l32 38 l10 kf0 lf1 (hf1 + uf1 + vf1) := stp epf1 ehf1 esf1 euf1 elf1 evf1
 obtain ⟨kf1, ekf1⟩ : ∃ z, hf1 + uf1 + vf1 = z := ⟨_, rfl⟩
 rw [ekf1] at stf1
 obtain ⟨pf2, epf2⟩ : ∃ z, l33 * 38 = z := ⟨_, rfl⟩
 obtain ⟨hf2, ehf2⟩ : ∃ z, mulH l33 38 = z := ⟨_, rfl⟩
 obtain ⟨sf2, esf2⟩ : ∃ z, adS pf2 l20 0 = z := ⟨_, rfl⟩
 obtain ⟨uf2, euf2⟩ : ∃ z, adC pf2 l20 0 = z := ⟨_, rfl⟩
 obtain ⟨lf2, elf2⟩ : ∃ z, adS sf2 kf1 0 = z := ⟨_, rfl⟩
 obtain ⟨vf2, evf2⟩ : ∃ z, adC sf2 kf1 0 = z := ⟨_, rfl⟩
 have stf2 : Stp l33 38 l20 kf1 lf2 (hf2 + uf2 + vf2) := stp epf2 ehf2 esf2 euf2 elf2 evf2
 obtain ⟨kf2, ekf2⟩ : ∃ z, hf2 + uf2 + vf2 = z := ⟨_, rfl⟩
 rw [ekf2] at stf2
 obtain ⟨pf3, epf3⟩ : ∃ z, k33 * 38 = z := ⟨_, rfl⟩
 obtain ⟨hf3, ehf3⟩ : ∃ z, mulH k33 38 = z := ⟨_, rfl⟩
 obtain ⟨sf3, esf3⟩ : ∃ z, adS pf3 l30 0 = z := ⟨_, rfl⟩
 obtain ⟨uf3, euf3⟩ : ∃ z, adC pf3 l30 0 = z := ⟨_, rfl⟩
 obtain ⟨lf3, elf3⟩ : ∃ z, adS sf3 kf2 0 = z := ⟨_, rfl⟩
 obtain ⟨vf3, evf3⟩ : ∃ z, adC sf3 kf2 0 = z := ⟨_, rfl⟩
 have stf3 : Stp k33 38 l30 kf2 lf3 (hf3 + uf3 + vf3) := stp epf3 ehf3 esf3 euf3 elf3 evf3
 obtain ⟨kf3, ekf3⟩ : ∃ z, hf3 + uf3 + vf3 = z := ⟨_, rfl⟩
 rw [ekf3] at stf3
 have rowf := stp_row_r stf0 stf1 stf2 stf3
 have h38 : (38 : UInt64).toNat = 38 := rfl
 rw [h38] at rowf
 have hk38 : kf3.toNat ≤ 38 := fold_le rowf (vQ_lt _ _ _ _) (vQ_lt _ _ _ _)
 have hfm := mul_fold (fold_val hpv rowf)
 have hP := plus_ lf0 lf1 lf2 lf3 (38 * kf3)
 rw [tn38 hk38] at hP
 obtain ⟨p0, p1, p2, p3, hp, hvp⟩ := w4_get (plusN (vQ lf0 lf1 lf2 lf3) (38 * kf3.toNat)) (plusN_lt (vQ_lt _ _ _ _) (by omega))
 simp only [w4C, hp] at hP
 have hS := settled_ p0 p1 p2 p3
 rw [hvp, hfm] at hS
 obtain ⟨q0, q1, q2, q3, hq, hvq⟩ := w4_get ((vQ a b c d * vQ e f g h) % p25) (mod_m4 _)
 simp only [w4C, hq] at hS ⊢
 refine CtM.k Tryd.func29 rfl Tryd.ntmps29 (congrArg Array.toList Tryd.results29) (by simp) fun w0 ro may fx => ?_
 refine sr_k fun K1 hK1 => ?_
 simp only [go_sem, u64C]
 repeat' (first | apply And.intro | intro _)
 refine hK1 _ ?_
 refine sr_k fun K2 hK2 => ?_
 simp only [go_sem, u64C]
 repeat' (first | apply And.intro | intro _)
 refine hK2 _ ?_
 refine seq_k fun N3 M3 hN3 hM3 => ?_
 refine sr_k fun K4 hK4 => ?_
 simp only [go_sem, u64C]
 repeat' (first | apply And.intro | intro _)
 refine hK4 _ ?_
 refine block_k fun B5 bn5 bx5 br5 bi5 => ?_
 refine rounds_k 5 ?_
 refine rnd_k fun N7 M7 hN7 hM7 => ?_
 refine sr_k fun K8 hK8 => ?_
 simp only [go_sem, u64C]
 repeat' (first | apply And.intro | intro _)
 refine hK8 _ ?_
 refine seq_k fun N9 M9 hN9 hM9 => ?_
 refine condT_k (by first | rfl | (simp [go_sem, u64C]; done)) ?_
 refine skip_k ?_
 refine hN9 _ ?_
 refine seq_k fun N10 M10 hN10 hM10 => ?_
 refine block_k fun B11 bn11 bx11 br11 bi11 => ?_
 refine sr_k fun K12 hK12 => ?_
 simp only [go_sem, u64C]
 repeat' (first | apply And.intro | intro _)
 refine hK12 _ ?_
 refine sr_k fun K13 hK13 => ?_
 simp only [go_sem, u64C]
 repeat' (first | apply And.intro | intro _)
 refine hK13 _ ?_
 refine seq_k fun N14 M14 hN14 hM14 => ?_
 refine sr_k fun K15 hK15 => ?_
 simp only [go_sem, u64C]
 repeat' (first | apply And.intro | intro _)
 refine hK15 _ ?_
 refine block_k fun B16 bn16 bx16 br16 bi16 => ?_
 refine rounds_k 5 ?_
 refine rnd_k fun N18 M18 hN18 hM18 => ?_
 refine sr_k fun K19 hK19 => ?_
 simp only [go_sem, u64C, ep00, eh00, es00, eu00, el00, ev00, ek00]
 repeat' (first | apply And.intro | intro _)
 refine hK19 _ ?_
 refine seq_k fun N20 M20 hN20 hM20 => ?_
 refine condT_k (by first | rfl | (simp [go_sem, u64C, ep00, eh00, es00, eu00, el00, ev00, ek00]; done)) ?_
 refine skip_k ?_
 refine hN20 _ ?_
 refine seq_k fun N21 M21 hN21 hM21 => ?_
 refine block_k fun B22 bn22 bx22 br22 bi22 => ?_
 refine sr_k fun K23 hK23 => ?_
 simp only [go_sem, u64C, ep00, eh00, es00, eu00, el00, ev00, ek00]
 repeat' (first | apply And.intro | intro _)
 refine hK23 _ ?_
 refine sr_k fun K24 hK24 => ?_
 simp only [go_sem, u64C, ep00, eh00, es00, eu00, el00, ev00, ek00]
 repeat' (first | apply And.intro | intro _)
 all_goals refine call_view (fun k => k) (fun _ _ => rfl) (by first | rfl | (simp only [go_sem, u64C, ep00, eh00, es00, eu00, el00, ev00, ek00] <;> rfl)) ((mul64 _ _).plain fun _ _ h => h) ?_
 all_goals (rintro v m ⟨hR, hm⟩; subst hR; subst hm)
 all_goals refine And.intro (by first | rfl | simp only [go_sem, u64C, ep00, eh00, es00, eu00, el00, ev00, ek00]) (And.intro (by first | rfl | simp only [go_sem, u64C, ep00, eh00, es00, eu00, el00, ev00, ek00]) ?_)
 all_goals simp only [go_sem, u64C, ep00, eh00, es00, eu00, el00, ev00, ek00]
 all_goals repeat' (first | apply And.intro | intro _)
 refine hK24 _ ?_
 refine sr_k fun K25 hK25 => ?_
 simp only [go_sem, u64C, ep00, eh00, es00, eu00, el00, ev00, ek00]
 repeat' (first | apply And.intro | intro _)
 all_goals refine call_now (by first | rfl | (simp only [go_sem, u64C, ep00, eh00, es00, eu00, el00, ev00, ek00] <;> rfl)) (now_add64 _ _ _ (by repeat' (first | assumption | decide | apply ad_le))) ?_
 all_goals simp only [go_sem, u64C, ep00, eh00, es00, eu00, el00, ev00, ek00]
 all_goals repeat' (first | apply And.intro | intro _)
 refine hK25 _ ?_
 refine sr_k fun K26 hK26 => ?_
 simp only [go_sem, u64C, ep00, eh00, es00, eu00, el00, ev00, ek00]
 repeat' (first | apply And.intro | intro _)
 refine hK26 _ ?_
 refine sr_k fun K27 hK27 => ?_
 simp only [go_sem, u64C, ep00, eh00, es00, eu00, el00, ev00, ek00]
 repeat' (first | apply And.intro | intro _)
 all_goals refine call_now (by first | rfl | (simp only [go_sem, u64C, ep00, eh00, es00, eu00, el00, ev00, ek00] <;> rfl)) (now_add64 _ _ _ (by repeat' (first | assumption | decide | apply ad_le))) ?_
 all_goals simp only [go_sem, u64C, ep00, eh00, es00, eu00, el00, ev00, ek00]
 all_goals repeat' (first | apply And.intro | intro _)
 refine hK27 _ ?_
 refine region_k fun K28 hK28 => ?_
 simp only [go_sem, u64C, ep00, eh00, es00, eu00, el00, ev00, ek00]
 repeat' (first | apply And.intro | intro _)
 refine hK28 _ ?_
 refine bn22 _ ?_
 refine hN21 _ ?_
 refine region_k fun K29 hK29 => ?_
 simp only [go_sem, u64C, ep00, eh00, es00, eu00, el00, ev00, ek00]
 repeat' (first | apply And.intro | intro _)
 refine hK29 _ ?_
 refine hN18 _ ?_
 refine rnd_forget [9, 10, 11, 12, 13, 27, 28, 29, 30, 31, 32, 33, 34, 35, 36, 37, 38, 39, 40, 41, 42, 43, 44, 45, 46, 47, 48, 49, 50, 51, 52, 53, 54, 55, 56, 57, 58, 59, 60, 61, 62, 63] ?_
 simp only [go_sem, St.forget, fgt]
 refine rnd_k fun N30 M30 hN30 hM30 => ?_
 refine sr_k fun K31 hK31 => ?_
 simp only [go_sem, u64C, ep01, eh01, es01, eu01, el01, ev01, ek01]
 repeat' (first | apply And.intro | intro _)
 refine hK31 _ ?_
 refine seq_k fun N32 M32 hN32 hM32 => ?_
 refine condT_k (by first | rfl | (simp [go_sem, u64C, ep01, eh01, es01, eu01, el01, ev01, ek01]; done)) ?_
 refine skip_k ?_
 refine hN32 _ ?_
 refine seq_k fun N33 M33 hN33 hM33 => ?_
 refine block_k fun B34 bn34 bx34 br34 bi34 => ?_
 refine sr_k fun K35 hK35 => ?_
 simp only [go_sem, u64C, ep01, eh01, es01, eu01, el01, ev01, ek01]
 repeat' (first | apply And.intro | intro _)
 refine hK35 _ ?_
 refine sr_k fun K36 hK36 => ?_
 simp only [go_sem, u64C, ep01, eh01, es01, eu01, el01, ev01, ek01]
 repeat' (first | apply And.intro | intro _)
 all_goals refine call_view (fun k => k) (fun _ _ => rfl) (by first | rfl | (simp only [go_sem, u64C, ep01, eh01, es01, eu01, el01, ev01, ek01] <;> rfl)) ((mul64 _ _).plain fun _ _ h => h) ?_
 all_goals (rintro v m ⟨hR, hm⟩; subst hR; subst hm)
 all_goals refine And.intro (by first | rfl | simp only [go_sem, u64C, ep01, eh01, es01, eu01, el01, ev01, ek01]) (And.intro (by first | rfl | simp only [go_sem, u64C, ep01, eh01, es01, eu01, el01, ev01, ek01]) ?_)
 all_goals simp only [go_sem, u64C, ep01, eh01, es01, eu01, el01, ev01, ek01]
 all_goals repeat' (first | apply And.intro | intro _)
 refine hK36 _ ?_
 refine sr_k fun K37 hK37 => ?_
 simp only [go_sem, u64C, ep01, eh01, es01, eu01, el01, ev01, ek01]
 repeat' (first | apply And.intro | intro _)
 all_goals refine call_now (by first | rfl | (simp only [go_sem, u64C, ep01, eh01, es01, eu01, el01, ev01, ek01] <;> rfl)) (now_add64 _ _ _ (by repeat' (first | assumption | decide | apply ad_le))) ?_
 all_goals simp only [go_sem, u64C, ep01, eh01, es01, eu01, el01, ev01, ek01]
 all_goals repeat' (first | apply And.intro | intro _)
 refine hK37 _ ?_
 refine sr_k fun K38 hK38 => ?_
 simp only [go_sem, u64C, ep01, eh01, es01, eu01, el01, ev01, ek01]
 repeat' (first | apply And.intro | intro _)
 refine hK38 _ ?_
 refine sr_k fun K39 hK39 => ?_
 simp only [go_sem, u64C, ep01, eh01, es01, eu01, el01, ev01, ek01]
 repeat' (first | apply And.intro | intro _)
 all_goals refine call_now (by first | rfl | (simp only [go_sem, u64C, ep01, eh01, es01, eu01, el01, ev01, ek01] <;> rfl)) (now_add64 _ _ _ (by repeat' (first | assumption | decide | apply ad_le))) ?_
 all_goals simp only [go_sem, u64C, ep01, eh01, es01, eu01, el01, ev01, ek01]
 all_goals repeat' (first | apply And.intro | intro _)
 refine hK39 _ ?_
 refine region_k fun K40 hK40 => ?_
 simp only [go_sem, u64C, ep01, eh01, es01, eu01, el01, ev01, ek01]
 repeat' (first | apply And.intro | intro _)
 refine hK40 _ ?_
 refine bn34 _ ?_
 refine hN33 _ ?_
 refine region_k fun K41 hK41 => ?_
 simp only [go_sem, u64C, ep01, eh01, es01, eu01, el01, ev01, ek01]
 repeat' (first | apply And.intro | intro _)
 refine hK41 _ ?_
 refine hN30 _ ?_
 refine rnd_forget [9, 10, 11, 12, 13, 27, 28, 29, 30, 31, 32, 33, 34, 35, 36, 37, 38, 39, 40, 41, 42, 43, 44, 45, 46, 47, 48, 49, 50, 51, 52, 53, 54, 55, 56, 57, 58, 59, 60, 61, 62, 63] ?_
 simp only [go_sem, St.forget, fgt]
 refine rnd_k fun N42 M42 hN42 hM42 => ?_
 refine sr_k fun K43 hK43 => ?_
 simp only [go_sem, u64C, ep02, eh02, es02, eu02, el02, ev02, ek02]
 repeat' (first | apply And.intro | intro _)
 refine hK43 _ ?_
 refine seq_k fun N44 M44 hN44 hM44 => ?_
 refine condT_k (by first | rfl | (simp [go_sem, u64C, ep02, eh02, es02, eu02, el02, ev02, ek02]; done)) ?_
 refine skip_k ?_
 refine hN44 _ ?_
 refine seq_k fun N45 M45 hN45 hM45 => ?_
 refine block_k fun B46 bn46 bx46 br46 bi46 => ?_
 refine sr_k fun K47 hK47 => ?_
 simp only [go_sem, u64C, ep02, eh02, es02, eu02, el02, ev02, ek02]
 repeat' (first | apply And.intro | intro _)
 refine hK47 _ ?_
 refine sr_k fun K48 hK48 => ?_
 simp only [go_sem, u64C, ep02, eh02, es02, eu02, el02, ev02, ek02]
 repeat' (first | apply And.intro | intro _)
 all_goals refine call_view (fun k => k) (fun _ _ => rfl) (by first | rfl | (simp only [go_sem, u64C, ep02, eh02, es02, eu02, el02, ev02, ek02] <;> rfl)) ((mul64 _ _).plain fun _ _ h => h) ?_
 all_goals (rintro v m ⟨hR, hm⟩; subst hR; subst hm)
 all_goals refine And.intro (by first | rfl | simp only [go_sem, u64C, ep02, eh02, es02, eu02, el02, ev02, ek02]) (And.intro (by first | rfl | simp only [go_sem, u64C, ep02, eh02, es02, eu02, el02, ev02, ek02]) ?_)
 all_goals simp only [go_sem, u64C, ep02, eh02, es02, eu02, el02, ev02, ek02]
 all_goals repeat' (first | apply And.intro | intro _)
 refine hK48 _ ?_
 refine sr_k fun K49 hK49 => ?_
 simp only [go_sem, u64C, ep02, eh02, es02, eu02, el02, ev02, ek02]
 repeat' (first | apply And.intro | intro _)
 all_goals refine call_now (by first | rfl | (simp only [go_sem, u64C, ep02, eh02, es02, eu02, el02, ev02, ek02] <;> rfl)) (now_add64 _ _ _ (by repeat' (first | assumption | decide | apply ad_le))) ?_
 all_goals simp only [go_sem, u64C, ep02, eh02, es02, eu02, el02, ev02, ek02]
 all_goals repeat' (first | apply And.intro | intro _)
 refine hK49 _ ?_
 refine sr_k fun K50 hK50 => ?_
 simp only [go_sem, u64C, ep02, eh02, es02, eu02, el02, ev02, ek02]
 repeat' (first | apply And.intro | intro _)
 refine hK50 _ ?_
 refine sr_k fun K51 hK51 => ?_
 simp only [go_sem, u64C, ep02, eh02, es02, eu02, el02, ev02, ek02]
 repeat' (first | apply And.intro | intro _)
 all_goals refine call_now (by first | rfl | (simp only [go_sem, u64C, ep02, eh02, es02, eu02, el02, ev02, ek02] <;> rfl)) (now_add64 _ _ _ (by repeat' (first | assumption | decide | apply ad_le))) ?_
 all_goals simp only [go_sem, u64C, ep02, eh02, es02, eu02, el02, ev02, ek02]
 all_goals repeat' (first | apply And.intro | intro _)
 refine hK51 _ ?_
 refine region_k fun K52 hK52 => ?_
 simp only [go_sem, u64C, ep02, eh02, es02, eu02, el02, ev02, ek02]
 repeat' (first | apply And.intro | intro _)
 refine hK52 _ ?_
 refine bn46 _ ?_
 refine hN45 _ ?_
 refine region_k fun K53 hK53 => ?_
 simp only [go_sem, u64C, ep02, eh02, es02, eu02, el02, ev02, ek02]
 repeat' (first | apply And.intro | intro _)
 refine hK53 _ ?_
 refine hN42 _ ?_
 refine rnd_forget [9, 10, 11, 12, 13, 27, 28, 29, 30, 31, 32, 33, 34, 35, 36, 37, 38, 39, 40, 41, 42, 43, 44, 45, 46, 47, 48, 49, 50, 51, 52, 53, 54, 55, 56, 57, 58, 59, 60, 61, 62, 63] ?_
 simp only [go_sem, St.forget, fgt]
 refine rnd_k fun N54 M54 hN54 hM54 => ?_
 refine sr_k fun K55 hK55 => ?_
 simp only [go_sem, u64C, ep03, eh03, es03, eu03, el03, ev03, ek03]
 repeat' (first | apply And.intro | intro _)
 refine hK55 _ ?_
 refine seq_k fun N56 M56 hN56 hM56 => ?_
 refine condT_k (by first | rfl | (simp [go_sem, u64C, ep03, eh03, es03, eu03, el03, ev03, ek03]; done)) ?_
 refine skip_k ?_
 refine hN56 _ ?_
 refine seq_k fun N57 M57 hN57 hM57 => ?_
 refine block_k fun B58 bn58 bx58 br58 bi58 => ?_
 refine sr_k fun K59 hK59 => ?_
 simp only [go_sem, u64C, ep03, eh03, es03, eu03, el03, ev03, ek03]
 repeat' (first | apply And.intro | intro _)
 refine hK59 _ ?_
 refine sr_k fun K60 hK60 => ?_
 simp only [go_sem, u64C, ep03, eh03, es03, eu03, el03, ev03, ek03]
 repeat' (first | apply And.intro | intro _)
 all_goals refine call_view (fun k => k) (fun _ _ => rfl) (by first | rfl | (simp only [go_sem, u64C, ep03, eh03, es03, eu03, el03, ev03, ek03] <;> rfl)) ((mul64 _ _).plain fun _ _ h => h) ?_
 all_goals (rintro v m ⟨hR, hm⟩; subst hR; subst hm)
 all_goals refine And.intro (by first | rfl | simp only [go_sem, u64C, ep03, eh03, es03, eu03, el03, ev03, ek03]) (And.intro (by first | rfl | simp only [go_sem, u64C, ep03, eh03, es03, eu03, el03, ev03, ek03]) ?_)
 all_goals simp only [go_sem, u64C, ep03, eh03, es03, eu03, el03, ev03, ek03]
 all_goals repeat' (first | apply And.intro | intro _)
 refine hK60 _ ?_
 refine sr_k fun K61 hK61 => ?_
 simp only [go_sem, u64C, ep03, eh03, es03, eu03, el03, ev03, ek03]
 repeat' (first | apply And.intro | intro _)
 all_goals refine call_now (by first | rfl | (simp only [go_sem, u64C, ep03, eh03, es03, eu03, el03, ev03, ek03] <;> rfl)) (now_add64 _ _ _ (by repeat' (first | assumption | decide | apply ad_le))) ?_
 all_goals simp only [go_sem, u64C, ep03, eh03, es03, eu03, el03, ev03, ek03]
 all_goals repeat' (first | apply And.intro | intro _)
 refine hK61 _ ?_
 refine sr_k fun K62 hK62 => ?_
 simp only [go_sem, u64C, ep03, eh03, es03, eu03, el03, ev03, ek03]
 repeat' (first | apply And.intro | intro _)
 refine hK62 _ ?_
 refine sr_k fun K63 hK63 => ?_
 simp only [go_sem, u64C, ep03, eh03, es03, eu03, el03, ev03, ek03]
 repeat' (first | apply And.intro | intro _)
 all_goals refine call_now (by first | rfl | (simp only [go_sem, u64C, ep03, eh03, es03, eu03, el03, ev03, ek03] <;> rfl)) (now_add64 _ _ _ (by repeat' (first | assumption | decide | apply ad_le))) ?_
 all_goals simp only [go_sem, u64C, ep03, eh03, es03, eu03, el03, ev03, ek03]
 all_goals repeat' (first | apply And.intro | intro _)
 refine hK63 _ ?_
 refine region_k fun K64 hK64 => ?_
 simp only [go_sem, u64C, ep03, eh03, es03, eu03, el03, ev03, ek03]
 repeat' (first | apply And.intro | intro _)
 refine hK64 _ ?_
 refine bn58 _ ?_
 refine hN57 _ ?_
 refine region_k fun K65 hK65 => ?_
 simp only [go_sem, u64C, ep03, eh03, es03, eu03, el03, ev03, ek03]
 repeat' (first | apply And.intro | intro _)
 refine hK65 _ ?_
 refine hN54 _ ?_
 refine rnd_forget [9, 10, 11, 12, 13, 27, 28, 29, 30, 31, 32, 33, 34, 35, 36, 37, 38, 39, 40, 41, 42, 43, 44, 45, 46, 47, 48, 49, 50, 51, 52, 53, 54, 55, 56, 57, 58, 59, 60, 61, 62, 63] ?_
 simp only [go_sem, St.forget, fgt]
 refine rnd_k fun N66 M66 hN66 hM66 => ?_
 refine sr_k fun K67 hK67 => ?_
 simp only [go_sem, u64C]
 repeat' (first | apply And.intro | intro _)
 refine hK67 _ ?_
 refine seq_k fun N68 M68 hN68 hM68 => ?_
 refine condF_k (by first | rfl | (simp [go_sem, u64C]; done)) ?_
 refine exit_k ?_
 refine hM68 _ _ ?_
 refine hM66 _ _ ?_
 refine bx16 _ ?_
 refine hN14 _ ?_
 refine region_k fun K69 hK69 => ?_
 simp only [go_sem, u64C]
 repeat' (first | apply And.intro | intro _)
 refine hK69 _ ?_
 refine bn11 _ ?_
 refine hN10 _ ?_
 refine region_k fun K70 hK70 => ?_
 simp only [go_sem, u64C]
 repeat' (first | apply And.intro | intro _)
 refine hK70 _ ?_
 refine hN7 _ ?_
 refine rnd_forget [6, 7, 8, 9, 10, 11, 12, 13, 22, 23, 24, 25, 26, 27, 28, 29, 30, 31, 32, 33, 34, 35, 36, 37, 38, 39, 40, 41, 42, 43, 44, 45, 46, 47, 48, 49, 50, 51, 52, 53, 54, 55, 56, 57, 58, 59, 60, 61, 62, 63, 64, 65, 66, 67, 68] ?_
 simp only [go_sem, St.forget, fgt]
 refine rnd_k fun N71 M71 hN71 hM71 => ?_
 refine sr_k fun K72 hK72 => ?_
 simp only [go_sem, u64C]
 repeat' (first | apply And.intro | intro _)
 refine hK72 _ ?_
 refine seq_k fun N73 M73 hN73 hM73 => ?_
 refine condT_k (by first | rfl | (simp [go_sem, u64C]; done)) ?_
 refine skip_k ?_
 refine hN73 _ ?_
 refine seq_k fun N74 M74 hN74 hM74 => ?_
 refine block_k fun B75 bn75 bx75 br75 bi75 => ?_
 refine sr_k fun K76 hK76 => ?_
 simp only [go_sem, u64C]
 repeat' (first | apply And.intro | intro _)
 refine hK76 _ ?_
 refine sr_k fun K77 hK77 => ?_
 simp only [go_sem, u64C]
 repeat' (first | apply And.intro | intro _)
 refine hK77 _ ?_
 refine seq_k fun N78 M78 hN78 hM78 => ?_
 refine sr_k fun K79 hK79 => ?_
 simp only [go_sem, u64C]
 repeat' (first | apply And.intro | intro _)
 refine hK79 _ ?_
 refine block_k fun B80 bn80 bx80 br80 bi80 => ?_
 refine rounds_k 5 ?_
 refine rnd_k fun N82 M82 hN82 hM82 => ?_
 refine sr_k fun K83 hK83 => ?_
 simp only [go_sem, u64C, ep10, eh10, es10, eu10, el10, ev10, ek10]
 repeat' (first | apply And.intro | intro _)
 refine hK83 _ ?_
 refine seq_k fun N84 M84 hN84 hM84 => ?_
 refine condT_k (by first | rfl | (simp [go_sem, u64C, ep10, eh10, es10, eu10, el10, ev10, ek10]; done)) ?_
 refine skip_k ?_
 refine hN84 _ ?_
 refine seq_k fun N85 M85 hN85 hM85 => ?_
 refine block_k fun B86 bn86 bx86 br86 bi86 => ?_
 refine sr_k fun K87 hK87 => ?_
 simp only [go_sem, u64C, ep10, eh10, es10, eu10, el10, ev10, ek10]
 repeat' (first | apply And.intro | intro _)
 refine hK87 _ ?_
 refine sr_k fun K88 hK88 => ?_
 simp only [go_sem, u64C, ep10, eh10, es10, eu10, el10, ev10, ek10]
 repeat' (first | apply And.intro | intro _)
 all_goals refine call_view (fun k => k) (fun _ _ => rfl) (by first | rfl | (simp only [go_sem, u64C, ep10, eh10, es10, eu10, el10, ev10, ek10] <;> rfl)) ((mul64 _ _).plain fun _ _ h => h) ?_
 all_goals (rintro v m ⟨hR, hm⟩; subst hR; subst hm)
 all_goals refine And.intro (by first | rfl | simp only [go_sem, u64C, ep10, eh10, es10, eu10, el10, ev10, ek10]) (And.intro (by first | rfl | simp only [go_sem, u64C, ep10, eh10, es10, eu10, el10, ev10, ek10]) ?_)
 all_goals simp only [go_sem, u64C, ep10, eh10, es10, eu10, el10, ev10, ek10]
 all_goals repeat' (first | apply And.intro | intro _)
 refine hK88 _ ?_
 refine sr_k fun K89 hK89 => ?_
 simp only [go_sem, u64C, ep10, eh10, es10, eu10, el10, ev10, ek10]
 repeat' (first | apply And.intro | intro _)
 all_goals refine call_now (by first | rfl | (simp only [go_sem, u64C, ep10, eh10, es10, eu10, el10, ev10, ek10] <;> rfl)) (now_add64 _ _ _ (by repeat' (first | assumption | decide | apply ad_le))) ?_
 all_goals simp only [go_sem, u64C, ep10, eh10, es10, eu10, el10, ev10, ek10]
 all_goals repeat' (first | apply And.intro | intro _)
 refine hK89 _ ?_
 refine sr_k fun K90 hK90 => ?_
 simp only [go_sem, u64C, ep10, eh10, es10, eu10, el10, ev10, ek10]
 repeat' (first | apply And.intro | intro _)
 refine hK90 _ ?_
 refine sr_k fun K91 hK91 => ?_
 simp only [go_sem, u64C, ep10, eh10, es10, eu10, el10, ev10, ek10]
 repeat' (first | apply And.intro | intro _)
 all_goals refine call_now (by first | rfl | (simp only [go_sem, u64C, ep10, eh10, es10, eu10, el10, ev10, ek10] <;> rfl)) (now_add64 _ _ _ (by repeat' (first | assumption | decide | apply ad_le))) ?_
 all_goals simp only [go_sem, u64C, ep10, eh10, es10, eu10, el10, ev10, ek10]
 all_goals repeat' (first | apply And.intro | intro _)
 refine hK91 _ ?_
 refine region_k fun K92 hK92 => ?_
 simp only [go_sem, u64C, ep10, eh10, es10, eu10, el10, ev10, ek10]
 repeat' (first | apply And.intro | intro _)
 refine hK92 _ ?_
 refine bn86 _ ?_
 refine hN85 _ ?_
 refine region_k fun K93 hK93 => ?_
 simp only [go_sem, u64C, ep10, eh10, es10, eu10, el10, ev10, ek10]
 repeat' (first | apply And.intro | intro _)
 refine hK93 _ ?_
 refine hN82 _ ?_
 refine rnd_forget [9, 10, 11, 12, 13, 27, 28, 29, 30, 31, 32, 33, 34, 35, 36, 37, 38, 39, 40, 41, 42, 43, 44, 45, 46, 47, 48, 49, 50, 51, 52, 53, 54, 55, 56, 57, 58, 59, 60, 61, 62, 63] ?_
 simp only [go_sem, St.forget, fgt]
 refine rnd_k fun N94 M94 hN94 hM94 => ?_
 refine sr_k fun K95 hK95 => ?_
 simp only [go_sem, u64C, ep11, eh11, es11, eu11, el11, ev11, ek11]
 repeat' (first | apply And.intro | intro _)
 refine hK95 _ ?_
 refine seq_k fun N96 M96 hN96 hM96 => ?_
 refine condT_k (by first | rfl | (simp [go_sem, u64C, ep11, eh11, es11, eu11, el11, ev11, ek11]; done)) ?_
 refine skip_k ?_
 refine hN96 _ ?_
 refine seq_k fun N97 M97 hN97 hM97 => ?_
 refine block_k fun B98 bn98 bx98 br98 bi98 => ?_
 refine sr_k fun K99 hK99 => ?_
 simp only [go_sem, u64C, ep11, eh11, es11, eu11, el11, ev11, ek11]
 repeat' (first | apply And.intro | intro _)
 refine hK99 _ ?_
 refine sr_k fun K100 hK100 => ?_
 simp only [go_sem, u64C, ep11, eh11, es11, eu11, el11, ev11, ek11]
 repeat' (first | apply And.intro | intro _)
 all_goals refine call_view (fun k => k) (fun _ _ => rfl) (by first | rfl | (simp only [go_sem, u64C, ep11, eh11, es11, eu11, el11, ev11, ek11] <;> rfl)) ((mul64 _ _).plain fun _ _ h => h) ?_
 all_goals (rintro v m ⟨hR, hm⟩; subst hR; subst hm)
 all_goals refine And.intro (by first | rfl | simp only [go_sem, u64C, ep11, eh11, es11, eu11, el11, ev11, ek11]) (And.intro (by first | rfl | simp only [go_sem, u64C, ep11, eh11, es11, eu11, el11, ev11, ek11]) ?_)
 all_goals simp only [go_sem, u64C, ep11, eh11, es11, eu11, el11, ev11, ek11]
 all_goals repeat' (first | apply And.intro | intro _)
 refine hK100 _ ?_
 refine sr_k fun K101 hK101 => ?_
 simp only [go_sem, u64C, ep11, eh11, es11, eu11, el11, ev11, ek11]
 repeat' (first | apply And.intro | intro _)
 all_goals refine call_now (by first | rfl | (simp only [go_sem, u64C, ep11, eh11, es11, eu11, el11, ev11, ek11] <;> rfl)) (now_add64 _ _ _ (by repeat' (first | assumption | decide | apply ad_le))) ?_
 all_goals simp only [go_sem, u64C, ep11, eh11, es11, eu11, el11, ev11, ek11]
 all_goals repeat' (first | apply And.intro | intro _)
 refine hK101 _ ?_
 refine sr_k fun K102 hK102 => ?_
 simp only [go_sem, u64C, ep11, eh11, es11, eu11, el11, ev11, ek11]
 repeat' (first | apply And.intro | intro _)
 refine hK102 _ ?_
 refine sr_k fun K103 hK103 => ?_
 simp only [go_sem, u64C, ep11, eh11, es11, eu11, el11, ev11, ek11]
 repeat' (first | apply And.intro | intro _)
 all_goals refine call_now (by first | rfl | (simp only [go_sem, u64C, ep11, eh11, es11, eu11, el11, ev11, ek11] <;> rfl)) (now_add64 _ _ _ (by repeat' (first | assumption | decide | apply ad_le))) ?_
 all_goals simp only [go_sem, u64C, ep11, eh11, es11, eu11, el11, ev11, ek11]
 all_goals repeat' (first | apply And.intro | intro _)
 refine hK103 _ ?_
 refine region_k fun K104 hK104 => ?_
 simp only [go_sem, u64C, ep11, eh11, es11, eu11, el11, ev11, ek11]
 repeat' (first | apply And.intro | intro _)
 refine hK104 _ ?_
 refine bn98 _ ?_
 refine hN97 _ ?_
 refine region_k fun K105 hK105 => ?_
 simp only [go_sem, u64C, ep11, eh11, es11, eu11, el11, ev11, ek11]
 repeat' (first | apply And.intro | intro _)
 refine hK105 _ ?_
 refine hN94 _ ?_
 refine rnd_forget [9, 10, 11, 12, 13, 27, 28, 29, 30, 31, 32, 33, 34, 35, 36, 37, 38, 39, 40, 41, 42, 43, 44, 45, 46, 47, 48, 49, 50, 51, 52, 53, 54, 55, 56, 57, 58, 59, 60, 61, 62, 63] ?_
 simp only [go_sem, St.forget, fgt]
 refine rnd_k fun N106 M106 hN106 hM106 => ?_
 refine sr_k fun K107 hK107 => ?_
 simp only [go_sem, u64C, ep12, eh12, es12, eu12, el12, ev12, ek12]
 repeat' (first | apply And.intro | intro _)
 refine hK107 _ ?_
 refine seq_k fun N108 M108 hN108 hM108 => ?_
 refine condT_k (by first | rfl | (simp [go_sem, u64C, ep12, eh12, es12, eu12, el12, ev12, ek12]; done)) ?_
 refine skip_k ?_
 refine hN108 _ ?_
 refine seq_k fun N109 M109 hN109 hM109 => ?_
 refine block_k fun B110 bn110 bx110 br110 bi110 => ?_
 refine sr_k fun K111 hK111 => ?_
 simp only [go_sem, u64C, ep12, eh12, es12, eu12, el12, ev12, ek12]
 repeat' (first | apply And.intro | intro _)
 refine hK111 _ ?_
 refine sr_k fun K112 hK112 => ?_
 simp only [go_sem, u64C, ep12, eh12, es12, eu12, el12, ev12, ek12]
 repeat' (first | apply And.intro | intro _)
 all_goals refine call_view (fun k => k) (fun _ _ => rfl) (by first | rfl | (simp only [go_sem, u64C, ep12, eh12, es12, eu12, el12, ev12, ek12] <;> rfl)) ((mul64 _ _).plain fun _ _ h => h) ?_
 all_goals (rintro v m ⟨hR, hm⟩; subst hR; subst hm)
 all_goals refine And.intro (by first | rfl | simp only [go_sem, u64C, ep12, eh12, es12, eu12, el12, ev12, ek12]) (And.intro (by first | rfl | simp only [go_sem, u64C, ep12, eh12, es12, eu12, el12, ev12, ek12]) ?_)
 all_goals simp only [go_sem, u64C, ep12, eh12, es12, eu12, el12, ev12, ek12]
 all_goals repeat' (first | apply And.intro | intro _)
 refine hK112 _ ?_
 refine sr_k fun K113 hK113 => ?_
 simp only [go_sem, u64C, ep12, eh12, es12, eu12, el12, ev12, ek12]
 repeat' (first | apply And.intro | intro _)
 all_goals refine call_now (by first | rfl | (simp only [go_sem, u64C, ep12, eh12, es12, eu12, el12, ev12, ek12] <;> rfl)) (now_add64 _ _ _ (by repeat' (first | assumption | decide | apply ad_le))) ?_
 all_goals simp only [go_sem, u64C, ep12, eh12, es12, eu12, el12, ev12, ek12]
 all_goals repeat' (first | apply And.intro | intro _)
 refine hK113 _ ?_
 refine sr_k fun K114 hK114 => ?_
 simp only [go_sem, u64C, ep12, eh12, es12, eu12, el12, ev12, ek12]
 repeat' (first | apply And.intro | intro _)
 refine hK114 _ ?_
 refine sr_k fun K115 hK115 => ?_
 simp only [go_sem, u64C, ep12, eh12, es12, eu12, el12, ev12, ek12]
 repeat' (first | apply And.intro | intro _)
 all_goals refine call_now (by first | rfl | (simp only [go_sem, u64C, ep12, eh12, es12, eu12, el12, ev12, ek12] <;> rfl)) (now_add64 _ _ _ (by repeat' (first | assumption | decide | apply ad_le))) ?_
 all_goals simp only [go_sem, u64C, ep12, eh12, es12, eu12, el12, ev12, ek12]
 all_goals repeat' (first | apply And.intro | intro _)
 refine hK115 _ ?_
 refine region_k fun K116 hK116 => ?_
 simp only [go_sem, u64C, ep12, eh12, es12, eu12, el12, ev12, ek12]
 repeat' (first | apply And.intro | intro _)
 refine hK116 _ ?_
 refine bn110 _ ?_
 refine hN109 _ ?_
 refine region_k fun K117 hK117 => ?_
 simp only [go_sem, u64C, ep12, eh12, es12, eu12, el12, ev12, ek12]
 repeat' (first | apply And.intro | intro _)
 refine hK117 _ ?_
 refine hN106 _ ?_
 refine rnd_forget [9, 10, 11, 12, 13, 27, 28, 29, 30, 31, 32, 33, 34, 35, 36, 37, 38, 39, 40, 41, 42, 43, 44, 45, 46, 47, 48, 49, 50, 51, 52, 53, 54, 55, 56, 57, 58, 59, 60, 61, 62, 63] ?_
 simp only [go_sem, St.forget, fgt]
 refine rnd_k fun N118 M118 hN118 hM118 => ?_
 refine sr_k fun K119 hK119 => ?_
 simp only [go_sem, u64C, ep13, eh13, es13, eu13, el13, ev13, ek13]
 repeat' (first | apply And.intro | intro _)
 refine hK119 _ ?_
 refine seq_k fun N120 M120 hN120 hM120 => ?_
 refine condT_k (by first | rfl | (simp [go_sem, u64C, ep13, eh13, es13, eu13, el13, ev13, ek13]; done)) ?_
 refine skip_k ?_
 refine hN120 _ ?_
 refine seq_k fun N121 M121 hN121 hM121 => ?_
 refine block_k fun B122 bn122 bx122 br122 bi122 => ?_
 refine sr_k fun K123 hK123 => ?_
 simp only [go_sem, u64C, ep13, eh13, es13, eu13, el13, ev13, ek13]
 repeat' (first | apply And.intro | intro _)
 refine hK123 _ ?_
 refine sr_k fun K124 hK124 => ?_
 simp only [go_sem, u64C, ep13, eh13, es13, eu13, el13, ev13, ek13]
 repeat' (first | apply And.intro | intro _)
 all_goals refine call_view (fun k => k) (fun _ _ => rfl) (by first | rfl | (simp only [go_sem, u64C, ep13, eh13, es13, eu13, el13, ev13, ek13] <;> rfl)) ((mul64 _ _).plain fun _ _ h => h) ?_
 all_goals (rintro v m ⟨hR, hm⟩; subst hR; subst hm)
 all_goals refine And.intro (by first | rfl | simp only [go_sem, u64C, ep13, eh13, es13, eu13, el13, ev13, ek13]) (And.intro (by first | rfl | simp only [go_sem, u64C, ep13, eh13, es13, eu13, el13, ev13, ek13]) ?_)
 all_goals simp only [go_sem, u64C, ep13, eh13, es13, eu13, el13, ev13, ek13]
 all_goals repeat' (first | apply And.intro | intro _)
 refine hK124 _ ?_
 refine sr_k fun K125 hK125 => ?_
 simp only [go_sem, u64C, ep13, eh13, es13, eu13, el13, ev13, ek13]
 repeat' (first | apply And.intro | intro _)
 all_goals refine call_now (by first | rfl | (simp only [go_sem, u64C, ep13, eh13, es13, eu13, el13, ev13, ek13] <;> rfl)) (now_add64 _ _ _ (by repeat' (first | assumption | decide | apply ad_le))) ?_
 all_goals simp only [go_sem, u64C, ep13, eh13, es13, eu13, el13, ev13, ek13]
 all_goals repeat' (first | apply And.intro | intro _)
 refine hK125 _ ?_
 refine sr_k fun K126 hK126 => ?_
 simp only [go_sem, u64C, ep13, eh13, es13, eu13, el13, ev13, ek13]
 repeat' (first | apply And.intro | intro _)
 refine hK126 _ ?_
 refine sr_k fun K127 hK127 => ?_
 simp only [go_sem, u64C, ep13, eh13, es13, eu13, el13, ev13, ek13]
 repeat' (first | apply And.intro | intro _)
 all_goals refine call_now (by first | rfl | (simp only [go_sem, u64C, ep13, eh13, es13, eu13, el13, ev13, ek13] <;> rfl)) (now_add64 _ _ _ (by repeat' (first | assumption | decide | apply ad_le))) ?_
 all_goals simp only [go_sem, u64C, ep13, eh13, es13, eu13, el13, ev13, ek13]
 all_goals repeat' (first | apply And.intro | intro _)
 refine hK127 _ ?_
 refine region_k fun K128 hK128 => ?_
 simp only [go_sem, u64C, ep13, eh13, es13, eu13, el13, ev13, ek13]
 repeat' (first | apply And.intro | intro _)
 refine hK128 _ ?_
 refine bn122 _ ?_
 refine hN121 _ ?_
 refine region_k fun K129 hK129 => ?_
 simp only [go_sem, u64C, ep13, eh13, es13, eu13, el13, ev13, ek13]
 repeat' (first | apply And.intro | intro _)
 refine hK129 _ ?_
 refine hN118 _ ?_
 refine rnd_forget [9, 10, 11, 12, 13, 27, 28, 29, 30, 31, 32, 33, 34, 35, 36, 37, 38, 39, 40, 41, 42, 43, 44, 45, 46, 47, 48, 49, 50, 51, 52, 53, 54, 55, 56, 57, 58, 59, 60, 61, 62, 63] ?_
 simp only [go_sem, St.forget, fgt]
 refine rnd_k fun N130 M130 hN130 hM130 => ?_
 refine sr_k fun K131 hK131 => ?_
 simp only [go_sem, u64C]
 repeat' (first | apply And.intro | intro _)
 refine hK131 _ ?_
 refine seq_k fun N132 M132 hN132 hM132 => ?_
 refine condF_k (by first | rfl | (simp [go_sem, u64C]; done)) ?_
 refine exit_k ?_
 refine hM132 _ _ ?_
 refine hM130 _ _ ?_
 refine bx80 _ ?_
 refine hN78 _ ?_
 refine region_k fun K133 hK133 => ?_
 simp only [go_sem, u64C]
 repeat' (first | apply And.intro | intro _)
 refine hK133 _ ?_
 refine bn75 _ ?_
 refine hN74 _ ?_
 refine region_k fun K134 hK134 => ?_
 simp only [go_sem, u64C]
 repeat' (first | apply And.intro | intro _)
 refine hK134 _ ?_
 refine hN71 _ ?_
 refine rnd_forget [6, 7, 8, 9, 10, 11, 12, 13, 22, 23, 24, 25, 26, 27, 28, 29, 30, 31, 32, 33, 34, 35, 36, 37, 38, 39, 40, 41, 42, 43, 44, 45, 46, 47, 48, 49, 50, 51, 52, 53, 54, 55, 56, 57, 58, 59, 60, 61, 62, 63, 64, 65, 66, 67, 68] ?_
 simp only [go_sem, St.forget, fgt]
 refine rnd_k fun N135 M135 hN135 hM135 => ?_
 refine sr_k fun K136 hK136 => ?_
 simp only [go_sem, u64C]
 repeat' (first | apply And.intro | intro _)
 refine hK136 _ ?_
 refine seq_k fun N137 M137 hN137 hM137 => ?_
 refine condT_k (by first | rfl | (simp [go_sem, u64C]; done)) ?_
 refine skip_k ?_
 refine hN137 _ ?_
 refine seq_k fun N138 M138 hN138 hM138 => ?_
 refine block_k fun B139 bn139 bx139 br139 bi139 => ?_
 refine sr_k fun K140 hK140 => ?_
 simp only [go_sem, u64C]
 repeat' (first | apply And.intro | intro _)
 refine hK140 _ ?_
 refine sr_k fun K141 hK141 => ?_
 simp only [go_sem, u64C]
 repeat' (first | apply And.intro | intro _)
 refine hK141 _ ?_
 refine seq_k fun N142 M142 hN142 hM142 => ?_
 refine sr_k fun K143 hK143 => ?_
 simp only [go_sem, u64C]
 repeat' (first | apply And.intro | intro _)
 refine hK143 _ ?_
 refine block_k fun B144 bn144 bx144 br144 bi144 => ?_
 refine rounds_k 5 ?_
 refine rnd_k fun N146 M146 hN146 hM146 => ?_
 refine sr_k fun K147 hK147 => ?_
 simp only [go_sem, u64C, ep20, eh20, es20, eu20, el20, ev20, ek20]
 repeat' (first | apply And.intro | intro _)
 refine hK147 _ ?_
 refine seq_k fun N148 M148 hN148 hM148 => ?_
 refine condT_k (by first | rfl | (simp [go_sem, u64C, ep20, eh20, es20, eu20, el20, ev20, ek20]; done)) ?_
 refine skip_k ?_
 refine hN148 _ ?_
 refine seq_k fun N149 M149 hN149 hM149 => ?_
 refine block_k fun B150 bn150 bx150 br150 bi150 => ?_
 refine sr_k fun K151 hK151 => ?_
 simp only [go_sem, u64C, ep20, eh20, es20, eu20, el20, ev20, ek20]
 repeat' (first | apply And.intro | intro _)
 refine hK151 _ ?_
 refine sr_k fun K152 hK152 => ?_
 simp only [go_sem, u64C, ep20, eh20, es20, eu20, el20, ev20, ek20]
 repeat' (first | apply And.intro | intro _)
 all_goals refine call_view (fun k => k) (fun _ _ => rfl) (by first | rfl | (simp only [go_sem, u64C, ep20, eh20, es20, eu20, el20, ev20, ek20] <;> rfl)) ((mul64 _ _).plain fun _ _ h => h) ?_
 all_goals (rintro v m ⟨hR, hm⟩; subst hR; subst hm)
 all_goals refine And.intro (by first | rfl | simp only [go_sem, u64C, ep20, eh20, es20, eu20, el20, ev20, ek20]) (And.intro (by first | rfl | simp only [go_sem, u64C, ep20, eh20, es20, eu20, el20, ev20, ek20]) ?_)
 all_goals simp only [go_sem, u64C, ep20, eh20, es20, eu20, el20, ev20, ek20]
 all_goals repeat' (first | apply And.intro | intro _)
 refine hK152 _ ?_
 refine sr_k fun K153 hK153 => ?_
 simp only [go_sem, u64C, ep20, eh20, es20, eu20, el20, ev20, ek20]
 repeat' (first | apply And.intro | intro _)
 all_goals refine call_now (by first | rfl | (simp only [go_sem, u64C, ep20, eh20, es20, eu20, el20, ev20, ek20] <;> rfl)) (now_add64 _ _ _ (by repeat' (first | assumption | decide | apply ad_le))) ?_
 all_goals simp only [go_sem, u64C, ep20, eh20, es20, eu20, el20, ev20, ek20]
 all_goals repeat' (first | apply And.intro | intro _)
 refine hK153 _ ?_
 refine sr_k fun K154 hK154 => ?_
 simp only [go_sem, u64C, ep20, eh20, es20, eu20, el20, ev20, ek20]
 repeat' (first | apply And.intro | intro _)
 refine hK154 _ ?_
 refine sr_k fun K155 hK155 => ?_
 simp only [go_sem, u64C, ep20, eh20, es20, eu20, el20, ev20, ek20]
 repeat' (first | apply And.intro | intro _)
 all_goals refine call_now (by first | rfl | (simp only [go_sem, u64C, ep20, eh20, es20, eu20, el20, ev20, ek20] <;> rfl)) (now_add64 _ _ _ (by repeat' (first | assumption | decide | apply ad_le))) ?_
 all_goals simp only [go_sem, u64C, ep20, eh20, es20, eu20, el20, ev20, ek20]
 all_goals repeat' (first | apply And.intro | intro _)
 refine hK155 _ ?_
 refine region_k fun K156 hK156 => ?_
 simp only [go_sem, u64C, ep20, eh20, es20, eu20, el20, ev20, ek20]
 repeat' (first | apply And.intro | intro _)
 refine hK156 _ ?_
 refine bn150 _ ?_
 refine hN149 _ ?_
 refine region_k fun K157 hK157 => ?_
 simp only [go_sem, u64C, ep20, eh20, es20, eu20, el20, ev20, ek20]
 repeat' (first | apply And.intro | intro _)
 refine hK157 _ ?_
 refine hN146 _ ?_
 refine rnd_forget [9, 10, 11, 12, 13, 27, 28, 29, 30, 31, 32, 33, 34, 35, 36, 37, 38, 39, 40, 41, 42, 43, 44, 45, 46, 47, 48, 49, 50, 51, 52, 53, 54, 55, 56, 57, 58, 59, 60, 61, 62, 63] ?_
 simp only [go_sem, St.forget, fgt]
 refine rnd_k fun N158 M158 hN158 hM158 => ?_
 refine sr_k fun K159 hK159 => ?_
 simp only [go_sem, u64C, ep21, eh21, es21, eu21, el21, ev21, ek21]
 repeat' (first | apply And.intro | intro _)
 refine hK159 _ ?_
 refine seq_k fun N160 M160 hN160 hM160 => ?_
 refine condT_k (by first | rfl | (simp [go_sem, u64C, ep21, eh21, es21, eu21, el21, ev21, ek21]; done)) ?_
 refine skip_k ?_
 refine hN160 _ ?_
 refine seq_k fun N161 M161 hN161 hM161 => ?_
 refine block_k fun B162 bn162 bx162 br162 bi162 => ?_
 refine sr_k fun K163 hK163 => ?_
 simp only [go_sem, u64C, ep21, eh21, es21, eu21, el21, ev21, ek21]
 repeat' (first | apply And.intro | intro _)
 refine hK163 _ ?_
 refine sr_k fun K164 hK164 => ?_
 simp only [go_sem, u64C, ep21, eh21, es21, eu21, el21, ev21, ek21]
 repeat' (first | apply And.intro | intro _)
 all_goals refine call_view (fun k => k) (fun _ _ => rfl) (by first | rfl | (simp only [go_sem, u64C, ep21, eh21, es21, eu21, el21, ev21, ek21] <;> rfl)) ((mul64 _ _).plain fun _ _ h => h) ?_
 all_goals (rintro v m ⟨hR, hm⟩; subst hR; subst hm)
 all_goals refine And.intro (by first | rfl | simp only [go_sem, u64C, ep21, eh21, es21, eu21, el21, ev21, ek21]) (And.intro (by first | rfl | simp only [go_sem, u64C, ep21, eh21, es21, eu21, el21, ev21, ek21]) ?_)
 all_goals simp only [go_sem, u64C, ep21, eh21, es21, eu21, el21, ev21, ek21]
 all_goals repeat' (first | apply And.intro | intro _)
 refine hK164 _ ?_
 refine sr_k fun K165 hK165 => ?_
 simp only [go_sem, u64C, ep21, eh21, es21, eu21, el21, ev21, ek21]
 repeat' (first | apply And.intro | intro _)
 all_goals refine call_now (by first | rfl | (simp only [go_sem, u64C, ep21, eh21, es21, eu21, el21, ev21, ek21] <;> rfl)) (now_add64 _ _ _ (by repeat' (first | assumption | decide | apply ad_le))) ?_
 all_goals simp only [go_sem, u64C, ep21, eh21, es21, eu21, el21, ev21, ek21]
 all_goals repeat' (first | apply And.intro | intro _)
 refine hK165 _ ?_
 refine sr_k fun K166 hK166 => ?_
 simp only [go_sem, u64C, ep21, eh21, es21, eu21, el21, ev21, ek21]
 repeat' (first | apply And.intro | intro _)
 refine hK166 _ ?_
 refine sr_k fun K167 hK167 => ?_
 simp only [go_sem, u64C, ep21, eh21, es21, eu21, el21, ev21, ek21]
 repeat' (first | apply And.intro | intro _)
 all_goals refine call_now (by first | rfl | (simp only [go_sem, u64C, ep21, eh21, es21, eu21, el21, ev21, ek21] <;> rfl)) (now_add64 _ _ _ (by repeat' (first | assumption | decide | apply ad_le))) ?_
 all_goals simp only [go_sem, u64C, ep21, eh21, es21, eu21, el21, ev21, ek21]
 all_goals repeat' (first | apply And.intro | intro _)
 refine hK167 _ ?_
 refine region_k fun K168 hK168 => ?_
 simp only [go_sem, u64C, ep21, eh21, es21, eu21, el21, ev21, ek21]
 repeat' (first | apply And.intro | intro _)
 refine hK168 _ ?_
 refine bn162 _ ?_
 refine hN161 _ ?_
 refine region_k fun K169 hK169 => ?_
 simp only [go_sem, u64C, ep21, eh21, es21, eu21, el21, ev21, ek21]
 repeat' (first | apply And.intro | intro _)
 refine hK169 _ ?_
 refine hN158 _ ?_
 refine rnd_forget [9, 10, 11, 12, 13, 27, 28, 29, 30, 31, 32, 33, 34, 35, 36, 37, 38, 39, 40, 41, 42, 43, 44, 45, 46, 47, 48, 49, 50, 51, 52, 53, 54, 55, 56, 57, 58, 59, 60, 61, 62, 63] ?_
 simp only [go_sem, St.forget, fgt]
 refine rnd_k fun N170 M170 hN170 hM170 => ?_
 refine sr_k fun K171 hK171 => ?_
 simp only [go_sem, u64C, ep22, eh22, es22, eu22, el22, ev22, ek22]
 repeat' (first | apply And.intro | intro _)
 refine hK171 _ ?_
 refine seq_k fun N172 M172 hN172 hM172 => ?_
 refine condT_k (by first | rfl | (simp [go_sem, u64C, ep22, eh22, es22, eu22, el22, ev22, ek22]; done)) ?_
 refine skip_k ?_
 refine hN172 _ ?_
 refine seq_k fun N173 M173 hN173 hM173 => ?_
 refine block_k fun B174 bn174 bx174 br174 bi174 => ?_
 refine sr_k fun K175 hK175 => ?_
 simp only [go_sem, u64C, ep22, eh22, es22, eu22, el22, ev22, ek22]
 repeat' (first | apply And.intro | intro _)
 refine hK175 _ ?_
 refine sr_k fun K176 hK176 => ?_
 simp only [go_sem, u64C, ep22, eh22, es22, eu22, el22, ev22, ek22]
 repeat' (first | apply And.intro | intro _)
 all_goals refine call_view (fun k => k) (fun _ _ => rfl) (by first | rfl | (simp only [go_sem, u64C, ep22, eh22, es22, eu22, el22, ev22, ek22] <;> rfl)) ((mul64 _ _).plain fun _ _ h => h) ?_
 all_goals (rintro v m ⟨hR, hm⟩; subst hR; subst hm)
 all_goals refine And.intro (by first | rfl | simp only [go_sem, u64C, ep22, eh22, es22, eu22, el22, ev22, ek22]) (And.intro (by first | rfl | simp only [go_sem, u64C, ep22, eh22, es22, eu22, el22, ev22, ek22]) ?_)
 all_goals simp only [go_sem, u64C, ep22, eh22, es22, eu22, el22, ev22, ek22]
 all_goals repeat' (first | apply And.intro | intro _)
 refine hK176 _ ?_
 refine sr_k fun K177 hK177 => ?_
 simp only [go_sem, u64C, ep22, eh22, es22, eu22, el22, ev22, ek22]
 repeat' (first | apply And.intro | intro _)
 all_goals refine call_now (by first | rfl | (simp only [go_sem, u64C, ep22, eh22, es22, eu22, el22, ev22, ek22] <;> rfl)) (now_add64 _ _ _ (by repeat' (first | assumption | decide | apply ad_le))) ?_
 all_goals simp only [go_sem, u64C, ep22, eh22, es22, eu22, el22, ev22, ek22]
 all_goals repeat' (first | apply And.intro | intro _)
 refine hK177 _ ?_
 refine sr_k fun K178 hK178 => ?_
 simp only [go_sem, u64C, ep22, eh22, es22, eu22, el22, ev22, ek22]
 repeat' (first | apply And.intro | intro _)
 refine hK178 _ ?_
 refine sr_k fun K179 hK179 => ?_
 simp only [go_sem, u64C, ep22, eh22, es22, eu22, el22, ev22, ek22]
 repeat' (first | apply And.intro | intro _)
 all_goals refine call_now (by first | rfl | (simp only [go_sem, u64C, ep22, eh22, es22, eu22, el22, ev22, ek22] <;> rfl)) (now_add64 _ _ _ (by repeat' (first | assumption | decide | apply ad_le))) ?_
 all_goals simp only [go_sem, u64C, ep22, eh22, es22, eu22, el22, ev22, ek22]
 all_goals repeat' (first | apply And.intro | intro _)
 refine hK179 _ ?_
 refine region_k fun K180 hK180 => ?_
 simp only [go_sem, u64C, ep22, eh22, es22, eu22, el22, ev22, ek22]
 repeat' (first | apply And.intro | intro _)
 refine hK180 _ ?_
 refine bn174 _ ?_
 refine hN173 _ ?_
 refine region_k fun K181 hK181 => ?_
 simp only [go_sem, u64C, ep22, eh22, es22, eu22, el22, ev22, ek22]
 repeat' (first | apply And.intro | intro _)
 refine hK181 _ ?_
 refine hN170 _ ?_
 refine rnd_forget [9, 10, 11, 12, 13, 27, 28, 29, 30, 31, 32, 33, 34, 35, 36, 37, 38, 39, 40, 41, 42, 43, 44, 45, 46, 47, 48, 49, 50, 51, 52, 53, 54, 55, 56, 57, 58, 59, 60, 61, 62, 63] ?_
 simp only [go_sem, St.forget, fgt]
 refine rnd_k fun N182 M182 hN182 hM182 => ?_
 refine sr_k fun K183 hK183 => ?_
 simp only [go_sem, u64C, ep23, eh23, es23, eu23, el23, ev23, ek23]
 repeat' (first | apply And.intro | intro _)
 refine hK183 _ ?_
 refine seq_k fun N184 M184 hN184 hM184 => ?_
 refine condT_k (by first | rfl | (simp [go_sem, u64C, ep23, eh23, es23, eu23, el23, ev23, ek23]; done)) ?_
 refine skip_k ?_
 refine hN184 _ ?_
 refine seq_k fun N185 M185 hN185 hM185 => ?_
 refine block_k fun B186 bn186 bx186 br186 bi186 => ?_
 refine sr_k fun K187 hK187 => ?_
 simp only [go_sem, u64C, ep23, eh23, es23, eu23, el23, ev23, ek23]
 repeat' (first | apply And.intro | intro _)
 refine hK187 _ ?_
 refine sr_k fun K188 hK188 => ?_
 simp only [go_sem, u64C, ep23, eh23, es23, eu23, el23, ev23, ek23]
 repeat' (first | apply And.intro | intro _)
 all_goals refine call_view (fun k => k) (fun _ _ => rfl) (by first | rfl | (simp only [go_sem, u64C, ep23, eh23, es23, eu23, el23, ev23, ek23] <;> rfl)) ((mul64 _ _).plain fun _ _ h => h) ?_
 all_goals (rintro v m ⟨hR, hm⟩; subst hR; subst hm)
 all_goals refine And.intro (by first | rfl | simp only [go_sem, u64C, ep23, eh23, es23, eu23, el23, ev23, ek23]) (And.intro (by first | rfl | simp only [go_sem, u64C, ep23, eh23, es23, eu23, el23, ev23, ek23]) ?_)
 all_goals simp only [go_sem, u64C, ep23, eh23, es23, eu23, el23, ev23, ek23]
 all_goals repeat' (first | apply And.intro | intro _)
 refine hK188 _ ?_
 refine sr_k fun K189 hK189 => ?_
 simp only [go_sem, u64C, ep23, eh23, es23, eu23, el23, ev23, ek23]
 repeat' (first | apply And.intro | intro _)
 all_goals refine call_now (by first | rfl | (simp only [go_sem, u64C, ep23, eh23, es23, eu23, el23, ev23, ek23] <;> rfl)) (now_add64 _ _ _ (by repeat' (first | assumption | decide | apply ad_le))) ?_
 all_goals simp only [go_sem, u64C, ep23, eh23, es23, eu23, el23, ev23, ek23]
 all_goals repeat' (first | apply And.intro | intro _)
 refine hK189 _ ?_
 refine sr_k fun K190 hK190 => ?_
 simp only [go_sem, u64C, ep23, eh23, es23, eu23, el23, ev23, ek23]
 repeat' (first | apply And.intro | intro _)
 refine hK190 _ ?_
 refine sr_k fun K191 hK191 => ?_
 simp only [go_sem, u64C, ep23, eh23, es23, eu23, el23, ev23, ek23]
 repeat' (first | apply And.intro | intro _)
 all_goals refine call_now (by first | rfl | (simp only [go_sem, u64C, ep23, eh23, es23, eu23, el23, ev23, ek23] <;> rfl)) (now_add64 _ _ _ (by repeat' (first | assumption | decide | apply ad_le))) ?_
 all_goals simp only [go_sem, u64C, ep23, eh23, es23, eu23, el23, ev23, ek23]
 all_goals repeat' (first | apply And.intro | intro _)
 refine hK191 _ ?_
 refine region_k fun K192 hK192 => ?_
 simp only [go_sem, u64C, ep23, eh23, es23, eu23, el23, ev23, ek23]
 repeat' (first | apply And.intro | intro _)
 refine hK192 _ ?_
 refine bn186 _ ?_
 refine hN185 _ ?_
 refine region_k fun K193 hK193 => ?_
 simp only [go_sem, u64C, ep23, eh23, es23, eu23, el23, ev23, ek23]
 repeat' (first | apply And.intro | intro _)
 refine hK193 _ ?_
 refine hN182 _ ?_
 refine rnd_forget [9, 10, 11, 12, 13, 27, 28, 29, 30, 31, 32, 33, 34, 35, 36, 37, 38, 39, 40, 41, 42, 43, 44, 45, 46, 47, 48, 49, 50, 51, 52, 53, 54, 55, 56, 57, 58, 59, 60, 61, 62, 63] ?_
 simp only [go_sem, St.forget, fgt]
 refine rnd_k fun N194 M194 hN194 hM194 => ?_
 refine sr_k fun K195 hK195 => ?_
 simp only [go_sem, u64C]
 repeat' (first | apply And.intro | intro _)
 refine hK195 _ ?_
 refine seq_k fun N196 M196 hN196 hM196 => ?_
 refine condF_k (by first | rfl | (simp [go_sem, u64C]; done)) ?_
 refine exit_k ?_
 refine hM196 _ _ ?_
 refine hM194 _ _ ?_
 refine bx144 _ ?_
 refine hN142 _ ?_
 refine region_k fun K197 hK197 => ?_
 simp only [go_sem, u64C]
 repeat' (first | apply And.intro | intro _)
 refine hK197 _ ?_
 refine bn139 _ ?_
 refine hN138 _ ?_
 refine region_k fun K198 hK198 => ?_
 simp only [go_sem, u64C]
 repeat' (first | apply And.intro | intro _)
 refine hK198 _ ?_
 refine hN135 _ ?_
 refine rnd_forget [6, 7, 8, 9, 10, 11, 12, 13, 22, 23, 24, 25, 26, 27, 28, 29, 30, 31, 32, 33, 34, 35, 36, 37, 38, 39, 40, 41, 42, 43, 44, 45, 46, 47, 48, 49, 50, 51, 52, 53, 54, 55, 56, 57, 58, 59, 60, 61, 62, 63, 64, 65, 66, 67, 68] ?_
 simp only [go_sem, St.forget, fgt]
 refine rnd_k fun N199 M199 hN199 hM199 => ?_
 refine sr_k fun K200 hK200 => ?_
 simp only [go_sem, u64C]
 repeat' (first | apply And.intro | intro _)
 refine hK200 _ ?_
 refine seq_k fun N201 M201 hN201 hM201 => ?_
 refine condT_k (by first | rfl | (simp [go_sem, u64C]; done)) ?_
 refine skip_k ?_
 refine hN201 _ ?_
 refine seq_k fun N202 M202 hN202 hM202 => ?_
 refine block_k fun B203 bn203 bx203 br203 bi203 => ?_
 refine sr_k fun K204 hK204 => ?_
 simp only [go_sem, u64C]
 repeat' (first | apply And.intro | intro _)
 refine hK204 _ ?_
 refine sr_k fun K205 hK205 => ?_
 simp only [go_sem, u64C]
 repeat' (first | apply And.intro | intro _)
 refine hK205 _ ?_
 refine seq_k fun N206 M206 hN206 hM206 => ?_
 refine sr_k fun K207 hK207 => ?_
 simp only [go_sem, u64C]
 repeat' (first | apply And.intro | intro _)
 refine hK207 _ ?_
 refine block_k fun B208 bn208 bx208 br208 bi208 => ?_
 refine rounds_k 5 ?_
 refine rnd_k fun N210 M210 hN210 hM210 => ?_
 refine sr_k fun K211 hK211 => ?_
 simp only [go_sem, u64C, ep30, eh30, es30, eu30, el30, ev30, ek30]
 repeat' (first | apply And.intro | intro _)
 refine hK211 _ ?_
 refine seq_k fun N212 M212 hN212 hM212 => ?_
 refine condT_k (by first | rfl | (simp [go_sem, u64C, ep30, eh30, es30, eu30, el30, ev30, ek30]; done)) ?_
 refine skip_k ?_
 refine hN212 _ ?_
 refine seq_k fun N213 M213 hN213 hM213 => ?_
 refine block_k fun B214 bn214 bx214 br214 bi214 => ?_
 refine sr_k fun K215 hK215 => ?_
 simp only [go_sem, u64C, ep30, eh30, es30, eu30, el30, ev30, ek30]
 repeat' (first | apply And.intro | intro _)
 refine hK215 _ ?_
 refine sr_k fun K216 hK216 => ?_
 simp only [go_sem, u64C, ep30, eh30, es30, eu30, el30, ev30, ek30]
 repeat' (first | apply And.intro | intro _)
 all_goals refine call_view (fun k => k) (fun _ _ => rfl) (by first | rfl | (simp only [go_sem, u64C, ep30, eh30, es30, eu30, el30, ev30, ek30] <;> rfl)) ((mul64 _ _).plain fun _ _ h => h) ?_
 all_goals (rintro v m ⟨hR, hm⟩; subst hR; subst hm)
 all_goals refine And.intro (by first | rfl | simp only [go_sem, u64C, ep30, eh30, es30, eu30, el30, ev30, ek30]) (And.intro (by first | rfl | simp only [go_sem, u64C, ep30, eh30, es30, eu30, el30, ev30, ek30]) ?_)
 all_goals simp only [go_sem, u64C, ep30, eh30, es30, eu30, el30, ev30, ek30]
 all_goals repeat' (first | apply And.intro | intro _)
 refine hK216 _ ?_
 refine sr_k fun K217 hK217 => ?_
 simp only [go_sem, u64C, ep30, eh30, es30, eu30, el30, ev30, ek30]
 repeat' (first | apply And.intro | intro _)
 all_goals refine call_now (by first | rfl | (simp only [go_sem, u64C, ep30, eh30, es30, eu30, el30, ev30, ek30] <;> rfl)) (now_add64 _ _ _ (by repeat' (first | assumption | decide | apply ad_le))) ?_
 all_goals simp only [go_sem, u64C, ep30, eh30, es30, eu30, el30, ev30, ek30]
 all_goals repeat' (first | apply And.intro | intro _)
 refine hK217 _ ?_
 refine sr_k fun K218 hK218 => ?_
 simp only [go_sem, u64C, ep30, eh30, es30, eu30, el30, ev30, ek30]
 repeat' (first | apply And.intro | intro _)
 refine hK218 _ ?_
 refine sr_k fun K219 hK219 => ?_
 simp only [go_sem, u64C, ep30, eh30, es30, eu30, el30, ev30, ek30]
 repeat' (first | apply And.intro | intro _)
 all_goals refine call_now (by first | rfl | (simp only [go_sem, u64C, ep30, eh30, es30, eu30, el30, ev30, ek30] <;> rfl)) (now_add64 _ _ _ (by repeat' (first | assumption | decide | apply ad_le))) ?_
 all_goals simp only [go_sem, u64C, ep30, eh30, es30, eu30, el30, ev30, ek30]
 all_goals repeat' (first | apply And.intro | intro _)
 refine hK219 _ ?_
 refine region_k fun K220 hK220 => ?_
 simp only [go_sem, u64C, ep30, eh30, es30, eu30, el30, ev30, ek30]
 repeat' (first | apply And.intro | intro _)
 refine hK220 _ ?_
 refine bn214 _ ?_
 refine hN213 _ ?_
 refine region_k fun K221 hK221 => ?_
 simp only [go_sem, u64C, ep30, eh30, es30, eu30, el30, ev30, ek30]
 repeat' (first | apply And.intro | intro _)
 refine hK221 _ ?_
 refine hN210 _ ?_
 refine rnd_forget [9, 10, 11, 12, 13, 27, 28, 29, 30, 31, 32, 33, 34, 35, 36, 37, 38, 39, 40, 41, 42, 43, 44, 45, 46, 47, 48, 49, 50, 51, 52, 53, 54, 55, 56, 57, 58, 59, 60, 61, 62, 63] ?_
 simp only [go_sem, St.forget, fgt]
 refine rnd_k fun N222 M222 hN222 hM222 => ?_
 refine sr_k fun K223 hK223 => ?_
 simp only [go_sem, u64C, ep31, eh31, es31, eu31, el31, ev31, ek31]
 repeat' (first | apply And.intro | intro _)
 refine hK223 _ ?_
 refine seq_k fun N224 M224 hN224 hM224 => ?_
 refine condT_k (by first | rfl | (simp [go_sem, u64C, ep31, eh31, es31, eu31, el31, ev31, ek31]; done)) ?_
 refine skip_k ?_
 refine hN224 _ ?_
 refine seq_k fun N225 M225 hN225 hM225 => ?_
 refine block_k fun B226 bn226 bx226 br226 bi226 => ?_
 refine sr_k fun K227 hK227 => ?_
 simp only [go_sem, u64C, ep31, eh31, es31, eu31, el31, ev31, ek31]
 repeat' (first | apply And.intro | intro _)
 refine hK227 _ ?_
 refine sr_k fun K228 hK228 => ?_
 simp only [go_sem, u64C, ep31, eh31, es31, eu31, el31, ev31, ek31]
 repeat' (first | apply And.intro | intro _)
 all_goals refine call_view (fun k => k) (fun _ _ => rfl) (by first | rfl | (simp only [go_sem, u64C, ep31, eh31, es31, eu31, el31, ev31, ek31] <;> rfl)) ((mul64 _ _).plain fun _ _ h => h) ?_
 all_goals (rintro v m ⟨hR, hm⟩; subst hR; subst hm)
 all_goals refine And.intro (by first | rfl | simp only [go_sem, u64C, ep31, eh31, es31, eu31, el31, ev31, ek31]) (And.intro (by first | rfl | simp only [go_sem, u64C, ep31, eh31, es31, eu31, el31, ev31, ek31]) ?_)
 all_goals simp only [go_sem, u64C, ep31, eh31, es31, eu31, el31, ev31, ek31]
 all_goals repeat' (first | apply And.intro | intro _)
 refine hK228 _ ?_
 refine sr_k fun K229 hK229 => ?_
 simp only [go_sem, u64C, ep31, eh31, es31, eu31, el31, ev31, ek31]
 repeat' (first | apply And.intro | intro _)
 all_goals refine call_now (by first | rfl | (simp only [go_sem, u64C, ep31, eh31, es31, eu31, el31, ev31, ek31] <;> rfl)) (now_add64 _ _ _ (by repeat' (first | assumption | decide | apply ad_le))) ?_
 all_goals simp only [go_sem, u64C, ep31, eh31, es31, eu31, el31, ev31, ek31]
 all_goals repeat' (first | apply And.intro | intro _)
 refine hK229 _ ?_
 refine sr_k fun K230 hK230 => ?_
 simp only [go_sem, u64C, ep31, eh31, es31, eu31, el31, ev31, ek31]
 repeat' (first | apply And.intro | intro _)
 refine hK230 _ ?_
 refine sr_k fun K231 hK231 => ?_
 simp only [go_sem, u64C, ep31, eh31, es31, eu31, el31, ev31, ek31]
 repeat' (first | apply And.intro | intro _)
 all_goals refine call_now (by first | rfl | (simp only [go_sem, u64C, ep31, eh31, es31, eu31, el31, ev31, ek31] <;> rfl)) (now_add64 _ _ _ (by repeat' (first | assumption | decide | apply ad_le))) ?_
 all_goals simp only [go_sem, u64C, ep31, eh31, es31, eu31, el31, ev31, ek31]
 all_goals repeat' (first | apply And.intro | intro _)
 refine hK231 _ ?_
 refine region_k fun K232 hK232 => ?_
 simp only [go_sem, u64C, ep31, eh31, es31, eu31, el31, ev31, ek31]
 repeat' (first | apply And.intro | intro _)
 refine hK232 _ ?_
 refine bn226 _ ?_
 refine hN225 _ ?_
 refine region_k fun K233 hK233 => ?_
 simp only [go_sem, u64C, ep31, eh31, es31, eu31, el31, ev31, ek31]
 repeat' (first | apply And.intro | intro _)
 refine hK233 _ ?_
 refine hN222 _ ?_
 refine rnd_forget [9, 10, 11, 12, 13, 27, 28, 29, 30, 31, 32, 33, 34, 35, 36, 37, 38, 39, 40, 41, 42, 43, 44, 45, 46, 47, 48, 49, 50, 51, 52, 53, 54, 55, 56, 57, 58, 59, 60, 61, 62, 63] ?_
 simp only [go_sem, St.forget, fgt]
 refine rnd_k fun N234 M234 hN234 hM234 => ?_
 refine sr_k fun K235 hK235 => ?_
 simp only [go_sem, u64C, ep32, eh32, es32, eu32, el32, ev32, ek32]
 repeat' (first | apply And.intro | intro _)
 refine hK235 _ ?_
 refine seq_k fun N236 M236 hN236 hM236 => ?_
 refine condT_k (by first | rfl | (simp [go_sem, u64C, ep32, eh32, es32, eu32, el32, ev32, ek32]; done)) ?_
 refine skip_k ?_
 refine hN236 _ ?_
 refine seq_k fun N237 M237 hN237 hM237 => ?_
 refine block_k fun B238 bn238 bx238 br238 bi238 => ?_
 refine sr_k fun K239 hK239 => ?_
 simp only [go_sem, u64C, ep32, eh32, es32, eu32, el32, ev32, ek32]
 repeat' (first | apply And.intro | intro _)
 refine hK239 _ ?_
 refine sr_k fun K240 hK240 => ?_
 simp only [go_sem, u64C, ep32, eh32, es32, eu32, el32, ev32, ek32]
 repeat' (first | apply And.intro | intro _)
 all_goals refine call_view (fun k => k) (fun _ _ => rfl) (by first | rfl | (simp only [go_sem, u64C, ep32, eh32, es32, eu32, el32, ev32, ek32] <;> rfl)) ((mul64 _ _).plain fun _ _ h => h) ?_
 all_goals (rintro v m ⟨hR, hm⟩; subst hR; subst hm)
 all_goals refine And.intro (by first | rfl | simp only [go_sem, u64C, ep32, eh32, es32, eu32, el32, ev32, ek32]) (And.intro (by first | rfl | simp only [go_sem, u64C, ep32, eh32, es32, eu32, el32, ev32, ek32]) ?_)
 all_goals simp only [go_sem, u64C, ep32, eh32, es32, eu32, el32, ev32, ek32]
 all_goals repeat' (first | apply And.intro | intro _)
 refine hK240 _ ?_
 refine sr_k fun K241 hK241 => ?_
 simp only [go_sem, u64C, ep32, eh32, es32, eu32, el32, ev32, ek32]
 repeat' (first | apply And.intro | intro _)
 all_goals refine call_now (by first | rfl | (simp only [go_sem, u64C, ep32, eh32, es32, eu32, el32, ev32, ek32] <;> rfl)) (now_add64 _ _ _ (by repeat' (first | assumption | decide | apply ad_le))) ?_
 all_goals simp only [go_sem, u64C, ep32, eh32, es32, eu32, el32, ev32, ek32]
 all_goals repeat' (first | apply And.intro | intro _)
 refine hK241 _ ?_
 refine sr_k fun K242 hK242 => ?_
 simp only [go_sem, u64C, ep32, eh32, es32, eu32, el32, ev32, ek32]
 repeat' (first | apply And.intro | intro _)
 refine hK242 _ ?_
 refine sr_k fun K243 hK243 => ?_
 simp only [go_sem, u64C, ep32, eh32, es32, eu32, el32, ev32, ek32]
 repeat' (first | apply And.intro | intro _)
 all_goals refine call_now (by first | rfl | (simp only [go_sem, u64C, ep32, eh32, es32, eu32, el32, ev32, ek32] <;> rfl)) (now_add64 _ _ _ (by repeat' (first | assumption | decide | apply ad_le))) ?_
 all_goals simp only [go_sem, u64C, ep32, eh32, es32, eu32, el32, ev32, ek32]
 all_goals repeat' (first | apply And.intro | intro _)
 refine hK243 _ ?_
 refine region_k fun K244 hK244 => ?_
 simp only [go_sem, u64C, ep32, eh32, es32, eu32, el32, ev32, ek32]
 repeat' (first | apply And.intro | intro _)
 refine hK244 _ ?_
 refine bn238 _ ?_
 refine hN237 _ ?_
 refine region_k fun K245 hK245 => ?_
 simp only [go_sem, u64C, ep32, eh32, es32, eu32, el32, ev32, ek32]
 repeat' (first | apply And.intro | intro _)
 refine hK245 _ ?_
 refine hN234 _ ?_
 refine rnd_forget [9, 10, 11, 12, 13, 27, 28, 29, 30, 31, 32, 33, 34, 35, 36, 37, 38, 39, 40, 41, 42, 43, 44, 45, 46, 47, 48, 49, 50, 51, 52, 53, 54, 55, 56, 57, 58, 59, 60, 61, 62, 63] ?_
 simp only [go_sem, St.forget, fgt]
 refine rnd_k fun N246 M246 hN246 hM246 => ?_
 refine sr_k fun K247 hK247 => ?_
 simp only [go_sem, u64C, ep33, eh33, es33, eu33, el33, ev33, ek33]
 repeat' (first | apply And.intro | intro _)
 refine hK247 _ ?_
 refine seq_k fun N248 M248 hN248 hM248 => ?_
 refine condT_k (by first | rfl | (simp [go_sem, u64C, ep33, eh33, es33, eu33, el33, ev33, ek33]; done)) ?_
 refine skip_k ?_
 refine hN248 _ ?_
 refine seq_k fun N249 M249 hN249 hM249 => ?_
 refine block_k fun B250 bn250 bx250 br250 bi250 => ?_
 refine sr_k fun K251 hK251 => ?_
 simp only [go_sem, u64C, ep33, eh33, es33, eu33, el33, ev33, ek33]
 repeat' (first | apply And.intro | intro _)
 refine hK251 _ ?_
 refine sr_k fun K252 hK252 => ?_
 simp only [go_sem, u64C, ep33, eh33, es33, eu33, el33, ev33, ek33]
 repeat' (first | apply And.intro | intro _)
 all_goals refine call_view (fun k => k) (fun _ _ => rfl) (by first | rfl | (simp only [go_sem, u64C, ep33, eh33, es33, eu33, el33, ev33, ek33] <;> rfl)) ((mul64 _ _).plain fun _ _ h => h) ?_
 all_goals (rintro v m ⟨hR, hm⟩; subst hR; subst hm)
 all_goals refine And.intro (by first | rfl | simp only [go_sem, u64C, ep33, eh33, es33, eu33, el33, ev33, ek33]) (And.intro (by first | rfl | simp only [go_sem, u64C, ep33, eh33, es33, eu33, el33, ev33, ek33]) ?_)
 all_goals simp only [go_sem, u64C, ep33, eh33, es33, eu33, el33, ev33, ek33]
 all_goals repeat' (first | apply And.intro | intro _)
 refine hK252 _ ?_
 refine sr_k fun K253 hK253 => ?_
 simp only [go_sem, u64C, ep33, eh33, es33, eu33, el33, ev33, ek33]
 repeat' (first | apply And.intro | intro _)
 all_goals refine call_now (by first | rfl | (simp only [go_sem, u64C, ep33, eh33, es33, eu33, el33, ev33, ek33] <;> rfl)) (now_add64 _ _ _ (by repeat' (first | assumption | decide | apply ad_le))) ?_
 all_goals simp only [go_sem, u64C, ep33, eh33, es33, eu33, el33, ev33, ek33]
 all_goals repeat' (first | apply And.intro | intro _)
 refine hK253 _ ?_
 refine sr_k fun K254 hK254 => ?_
 simp only [go_sem, u64C, ep33, eh33, es33, eu33, el33, ev33, ek33]
 repeat' (first | apply And.intro | intro _)
 refine hK254 _ ?_
 refine sr_k fun K255 hK255 => ?_
 simp only [go_sem, u64C, ep33, eh33, es33, eu33, el33, ev33, ek33]
 repeat' (first | apply And.intro | intro _)
 all_goals refine call_now (by first | rfl | (simp only [go_sem, u64C, ep33, eh33, es33, eu33, el33, ev33, ek33] <;> rfl)) (now_add64 _ _ _ (by repeat' (first | assumption | decide | apply ad_le))) ?_
 all_goals simp only [go_sem, u64C, ep33, eh33, es33, eu33, el33, ev33, ek33]
 all_goals repeat' (first | apply And.intro | intro _)
 refine hK255 _ ?_
 refine region_k fun K256 hK256 => ?_
 simp only [go_sem, u64C, ep33, eh33, es33, eu33, el33, ev33, ek33]
 repeat' (first | apply And.intro | intro _)
 refine hK256 _ ?_
 refine bn250 _ ?_
 refine hN249 _ ?_
 refine region_k fun K257 hK257 => ?_
 simp only [go_sem, u64C, ep33, eh33, es33, eu33, el33, ev33, ek33]
 repeat' (first | apply And.intro | intro _)
 refine hK257 _ ?_
 refine hN246 _ ?_
 refine rnd_forget [9, 10, 11, 12, 13, 27, 28, 29, 30, 31, 32, 33, 34, 35, 36, 37, 38, 39, 40, 41, 42, 43, 44, 45, 46, 47, 48, 49, 50, 51, 52, 53, 54, 55, 56, 57, 58, 59, 60, 61, 62, 63] ?_
 simp only [go_sem, St.forget, fgt]
 refine rnd_k fun N258 M258 hN258 hM258 => ?_
 refine sr_k fun K259 hK259 => ?_
 simp only [go_sem, u64C]
 repeat' (first | apply And.intro | intro _)
 refine hK259 _ ?_
 refine seq_k fun N260 M260 hN260 hM260 => ?_
 refine condF_k (by first | rfl | (simp [go_sem, u64C]; done)) ?_
 refine exit_k ?_
 refine hM260 _ _ ?_
 refine hM258 _ _ ?_
 refine bx208 _ ?_
 refine hN206 _ ?_
 refine region_k fun K261 hK261 => ?_
 simp only [go_sem, u64C]
 repeat' (first | apply And.intro | intro _)
 refine hK261 _ ?_
 refine bn203 _ ?_
 refine hN202 _ ?_
 refine region_k fun K262 hK262 => ?_
 simp only [go_sem, u64C]
 repeat' (first | apply And.intro | intro _)
 refine hK262 _ ?_
 refine hN199 _ ?_
 refine rnd_forget [6, 7, 8, 9, 10, 11, 12, 13, 22, 23, 24, 25, 26, 27, 28, 29, 30, 31, 32, 33, 34, 35, 36, 37, 38, 39, 40, 41, 42, 43, 44, 45, 46, 47, 48, 49, 50, 51, 52, 53, 54, 55, 56, 57, 58, 59, 60, 61, 62, 63, 64, 65, 66, 67, 68] ?_
 simp only [go_sem, St.forget, fgt]
 refine rnd_k fun N263 M263 hN263 hM263 => ?_
 refine sr_k fun K264 hK264 => ?_
 simp only [go_sem, u64C]
 repeat' (first | apply And.intro | intro _)
 refine hK264 _ ?_
 refine seq_k fun N265 M265 hN265 hM265 => ?_
 refine condF_k (by first | rfl | (simp [go_sem, u64C]; done)) ?_
 refine exit_k ?_
 refine hM265 _ _ ?_
 refine hM263 _ _ ?_
 refine bx5 _ ?_
 refine hN3 _ ?_
 refine sr_k fun K266 hK266 => ?_
 simp only [go_sem, u64C]
 repeat' (first | apply And.intro | intro _)
 refine hK266 _ ?_
 refine sr_k fun K267 hK267 => ?_
 simp only [go_sem, u64C]
 repeat' (first | apply And.intro | intro _)
 refine hK267 _ ?_
 refine seq_k fun N268 M268 hN268 hM268 => ?_
 refine sr_k fun K269 hK269 => ?_
 simp only [go_sem, u64C]
 repeat' (first | apply And.intro | intro _)
 refine hK269 _ ?_
 refine block_k fun B270 bn270 bx270 br270 bi270 => ?_
 refine rounds_k 5 ?_
 refine rnd_k fun N272 M272 hN272 hM272 => ?_
 refine sr_k fun K273 hK273 => ?_
 simp only [go_sem, u64C, epf0, ehf0, esf0, euf0, elf0, evf0, ekf0]
 repeat' (first | apply And.intro | intro _)
 refine hK273 _ ?_
 refine seq_k fun N274 M274 hN274 hM274 => ?_
 refine condT_k (by first | rfl | (simp [go_sem, u64C, epf0, ehf0, esf0, euf0, elf0, evf0, ekf0]; done)) ?_
 refine skip_k ?_
 refine hN274 _ ?_
 refine seq_k fun N275 M275 hN275 hM275 => ?_
 refine block_k fun B276 bn276 bx276 br276 bi276 => ?_
 refine sr_k fun K277 hK277 => ?_
 simp only [go_sem, u64C, epf0, ehf0, esf0, euf0, elf0, evf0, ekf0]
 repeat' (first | apply And.intro | intro _)
 refine hK277 _ ?_
 refine sr_k fun K278 hK278 => ?_
 simp only [go_sem, u64C, epf0, ehf0, esf0, euf0, elf0, evf0, ekf0]
 repeat' (first | apply And.intro | intro _)
 all_goals refine call_view (fun k => k) (fun _ _ => rfl) (by first | rfl | (simp only [go_sem, u64C, epf0, ehf0, esf0, euf0, elf0, evf0, ekf0] <;> rfl)) ((mul64 _ _).plain fun _ _ h => h) ?_
 all_goals (rintro v m ⟨hR, hm⟩; subst hR; subst hm)
 all_goals refine And.intro (by first | rfl | simp only [go_sem, u64C, epf0, ehf0, esf0, euf0, elf0, evf0, ekf0]) (And.intro (by first | rfl | simp only [go_sem, u64C, epf0, ehf0, esf0, euf0, elf0, evf0, ekf0]) ?_)
 all_goals simp only [go_sem, u64C, epf0, ehf0, esf0, euf0, elf0, evf0, ekf0]
 all_goals repeat' (first | apply And.intro | intro _)
 refine hK278 _ ?_
 refine sr_k fun K279 hK279 => ?_
 simp only [go_sem, u64C, epf0, ehf0, esf0, euf0, elf0, evf0, ekf0]
 repeat' (first | apply And.intro | intro _)
 all_goals refine call_now (by first | rfl | (simp only [go_sem, u64C, epf0, ehf0, esf0, euf0, elf0, evf0, ekf0] <;> rfl)) (now_add64 _ _ _ (by repeat' (first | assumption | decide | apply ad_le))) ?_
 all_goals simp only [go_sem, u64C, epf0, ehf0, esf0, euf0, elf0, evf0, ekf0]
 all_goals repeat' (first | apply And.intro | intro _)
 refine hK279 _ ?_
 refine sr_k fun K280 hK280 => ?_
 simp only [go_sem, u64C, epf0, ehf0, esf0, euf0, elf0, evf0, ekf0]
 repeat' (first | apply And.intro | intro _)
 refine hK280 _ ?_
 refine sr_k fun K281 hK281 => ?_
 simp only [go_sem, u64C, epf0, ehf0, esf0, euf0, elf0, evf0, ekf0]
 repeat' (first | apply And.intro | intro _)
 all_goals refine call_now (by first | rfl | (simp only [go_sem, u64C, epf0, ehf0, esf0, euf0, elf0, evf0, ekf0] <;> rfl)) (now_add64 _ _ _ (by repeat' (first | assumption | decide | apply ad_le))) ?_
 all_goals simp only [go_sem, u64C, epf0, ehf0, esf0, euf0, elf0, evf0, ekf0]
 all_goals repeat' (first | apply And.intro | intro _)
 refine hK281 _ ?_
 refine region_k fun K282 hK282 => ?_
 simp only [go_sem, u64C, epf0, ehf0, esf0, euf0, elf0, evf0, ekf0]
 repeat' (first | apply And.intro | intro _)
 refine hK282 _ ?_
 refine bn276 _ ?_
 refine hN275 _ ?_
 refine region_k fun K283 hK283 => ?_
 simp only [go_sem, u64C, epf0, ehf0, esf0, euf0, elf0, evf0, ekf0]
 repeat' (first | apply And.intro | intro _)
 refine hK283 _ ?_
 refine hN272 _ ?_
 refine rnd_forget [16, 17, 18, 19, 79, 80, 81, 82, 83, 84, 85, 86, 87, 88, 89, 90, 91, 92, 93, 94, 95, 96, 97, 98, 99, 100, 101, 102, 103, 104, 105, 106, 107, 108, 109, 110, 111, 112] ?_
 simp only [go_sem, St.forget, fgt]
 refine rnd_k fun N284 M284 hN284 hM284 => ?_
 refine sr_k fun K285 hK285 => ?_
 simp only [go_sem, u64C, epf1, ehf1, esf1, euf1, elf1, evf1, ekf1]
 repeat' (first | apply And.intro | intro _)
 refine hK285 _ ?_
 refine seq_k fun N286 M286 hN286 hM286 => ?_
 refine condT_k (by first | rfl | (simp [go_sem, u64C, epf1, ehf1, esf1, euf1, elf1, evf1, ekf1]; done)) ?_
 refine skip_k ?_
 refine hN286 _ ?_
 refine seq_k fun N287 M287 hN287 hM287 => ?_
 refine block_k fun B288 bn288 bx288 br288 bi288 => ?_
 refine sr_k fun K289 hK289 => ?_
 simp only [go_sem, u64C, epf1, ehf1, esf1, euf1, elf1, evf1, ekf1]
 repeat' (first | apply And.intro | intro _)
 refine hK289 _ ?_
 refine sr_k fun K290 hK290 => ?_
 simp only [go_sem, u64C, epf1, ehf1, esf1, euf1, elf1, evf1, ekf1]
 repeat' (first | apply And.intro | intro _)
 all_goals refine call_view (fun k => k) (fun _ _ => rfl) (by first | rfl | (simp only [go_sem, u64C, epf1, ehf1, esf1, euf1, elf1, evf1, ekf1] <;> rfl)) ((mul64 _ _).plain fun _ _ h => h) ?_
 all_goals (rintro v m ⟨hR, hm⟩; subst hR; subst hm)
 all_goals refine And.intro (by first | rfl | simp only [go_sem, u64C, epf1, ehf1, esf1, euf1, elf1, evf1, ekf1]) (And.intro (by first | rfl | simp only [go_sem, u64C, epf1, ehf1, esf1, euf1, elf1, evf1, ekf1]) ?_)
 all_goals simp only [go_sem, u64C, epf1, ehf1, esf1, euf1, elf1, evf1, ekf1]
 all_goals repeat' (first | apply And.intro | intro _)
 refine hK290 _ ?_
 refine sr_k fun K291 hK291 => ?_
 simp only [go_sem, u64C, epf1, ehf1, esf1, euf1, elf1, evf1, ekf1]
 repeat' (first | apply And.intro | intro _)
 all_goals refine call_now (by first | rfl | (simp only [go_sem, u64C, epf1, ehf1, esf1, euf1, elf1, evf1, ekf1] <;> rfl)) (now_add64 _ _ _ (by repeat' (first | assumption | decide | apply ad_le))) ?_
 all_goals simp only [go_sem, u64C, epf1, ehf1, esf1, euf1, elf1, evf1, ekf1]
 all_goals repeat' (first | apply And.intro | intro _)
 refine hK291 _ ?_
 refine sr_k fun K292 hK292 => ?_
 simp only [go_sem, u64C, epf1, ehf1, esf1, euf1, elf1, evf1, ekf1]
 repeat' (first | apply And.intro | intro _)
 refine hK292 _ ?_
 refine sr_k fun K293 hK293 => ?_
 simp only [go_sem, u64C, epf1, ehf1, esf1, euf1, elf1, evf1, ekf1]
 repeat' (first | apply And.intro | intro _)
 all_goals refine call_now (by first | rfl | (simp only [go_sem, u64C, epf1, ehf1, esf1, euf1, elf1, evf1, ekf1] <;> rfl)) (now_add64 _ _ _ (by repeat' (first | assumption | decide | apply ad_le))) ?_
 all_goals simp only [go_sem, u64C, epf1, ehf1, esf1, euf1, elf1, evf1, ekf1]
 all_goals repeat' (first | apply And.intro | intro _)
 refine hK293 _ ?_
 refine region_k fun K294 hK294 => ?_
 simp only [go_sem, u64C, epf1, ehf1, esf1, euf1, elf1, evf1, ekf1]
 repeat' (first | apply And.intro | intro _)
 refine hK294 _ ?_
 refine bn288 _ ?_
 refine hN287 _ ?_
 refine region_k fun K295 hK295 => ?_
 simp only [go_sem, u64C, epf1, ehf1, esf1, euf1, elf1, evf1, ekf1]
 repeat' (first | apply And.intro | intro _)
 refine hK295 _ ?_
 refine hN284 _ ?_
 refine rnd_forget [16, 17, 18, 19, 79, 80, 81, 82, 83, 84, 85, 86, 87, 88, 89, 90, 91, 92, 93, 94, 95, 96, 97, 98, 99, 100, 101, 102, 103, 104, 105, 106, 107, 108, 109, 110, 111, 112] ?_
 simp only [go_sem, St.forget, fgt]
 refine rnd_k fun N296 M296 hN296 hM296 => ?_
 refine sr_k fun K297 hK297 => ?_
 simp only [go_sem, u64C, epf2, ehf2, esf2, euf2, elf2, evf2, ekf2]
 repeat' (first | apply And.intro | intro _)
 refine hK297 _ ?_
 refine seq_k fun N298 M298 hN298 hM298 => ?_
 refine condT_k (by first | rfl | (simp [go_sem, u64C, epf2, ehf2, esf2, euf2, elf2, evf2, ekf2]; done)) ?_
 refine skip_k ?_
 refine hN298 _ ?_
 refine seq_k fun N299 M299 hN299 hM299 => ?_
 refine block_k fun B300 bn300 bx300 br300 bi300 => ?_
 refine sr_k fun K301 hK301 => ?_
 simp only [go_sem, u64C, epf2, ehf2, esf2, euf2, elf2, evf2, ekf2]
 repeat' (first | apply And.intro | intro _)
 refine hK301 _ ?_
 refine sr_k fun K302 hK302 => ?_
 simp only [go_sem, u64C, epf2, ehf2, esf2, euf2, elf2, evf2, ekf2]
 repeat' (first | apply And.intro | intro _)
 all_goals refine call_view (fun k => k) (fun _ _ => rfl) (by first | rfl | (simp only [go_sem, u64C, epf2, ehf2, esf2, euf2, elf2, evf2, ekf2] <;> rfl)) ((mul64 _ _).plain fun _ _ h => h) ?_
 all_goals (rintro v m ⟨hR, hm⟩; subst hR; subst hm)
 all_goals refine And.intro (by first | rfl | simp only [go_sem, u64C, epf2, ehf2, esf2, euf2, elf2, evf2, ekf2]) (And.intro (by first | rfl | simp only [go_sem, u64C, epf2, ehf2, esf2, euf2, elf2, evf2, ekf2]) ?_)
 all_goals simp only [go_sem, u64C, epf2, ehf2, esf2, euf2, elf2, evf2, ekf2]
 all_goals repeat' (first | apply And.intro | intro _)
 refine hK302 _ ?_
 refine sr_k fun K303 hK303 => ?_
 simp only [go_sem, u64C, epf2, ehf2, esf2, euf2, elf2, evf2, ekf2]
 repeat' (first | apply And.intro | intro _)
 all_goals refine call_now (by first | rfl | (simp only [go_sem, u64C, epf2, ehf2, esf2, euf2, elf2, evf2, ekf2] <;> rfl)) (now_add64 _ _ _ (by repeat' (first | assumption | decide | apply ad_le))) ?_
 all_goals simp only [go_sem, u64C, epf2, ehf2, esf2, euf2, elf2, evf2, ekf2]
 all_goals repeat' (first | apply And.intro | intro _)
 refine hK303 _ ?_
 refine sr_k fun K304 hK304 => ?_
 simp only [go_sem, u64C, epf2, ehf2, esf2, euf2, elf2, evf2, ekf2]
 repeat' (first | apply And.intro | intro _)
 refine hK304 _ ?_
 refine sr_k fun K305 hK305 => ?_
 simp only [go_sem, u64C, epf2, ehf2, esf2, euf2, elf2, evf2, ekf2]
 repeat' (first | apply And.intro | intro _)
 all_goals refine call_now (by first | rfl | (simp only [go_sem, u64C, epf2, ehf2, esf2, euf2, elf2, evf2, ekf2] <;> rfl)) (now_add64 _ _ _ (by repeat' (first | assumption | decide | apply ad_le))) ?_
 all_goals simp only [go_sem, u64C, epf2, ehf2, esf2, euf2, elf2, evf2, ekf2]
 all_goals repeat' (first | apply And.intro | intro _)
 refine hK305 _ ?_
 refine region_k fun K306 hK306 => ?_
 simp only [go_sem, u64C, epf2, ehf2, esf2, euf2, elf2, evf2, ekf2]
 repeat' (first | apply And.intro | intro _)
 refine hK306 _ ?_
 refine bn300 _ ?_
 refine hN299 _ ?_
 refine region_k fun K307 hK307 => ?_
 simp only [go_sem, u64C, epf2, ehf2, esf2, euf2, elf2, evf2, ekf2]
 repeat' (first | apply And.intro | intro _)
 refine hK307 _ ?_
 refine hN296 _ ?_
 refine rnd_forget [16, 17, 18, 19, 79, 80, 81, 82, 83, 84, 85, 86, 87, 88, 89, 90, 91, 92, 93, 94, 95, 96, 97, 98, 99, 100, 101, 102, 103, 104, 105, 106, 107, 108, 109, 110, 111, 112] ?_
 simp only [go_sem, St.forget, fgt]
 refine rnd_k fun N308 M308 hN308 hM308 => ?_
 refine sr_k fun K309 hK309 => ?_
 simp only [go_sem, u64C, epf3, ehf3, esf3, euf3, elf3, evf3, ekf3]
 repeat' (first | apply And.intro | intro _)
 refine hK309 _ ?_
 refine seq_k fun N310 M310 hN310 hM310 => ?_
 refine condT_k (by first | rfl | (simp [go_sem, u64C, epf3, ehf3, esf3, euf3, elf3, evf3, ekf3]; done)) ?_
 refine skip_k ?_
 refine hN310 _ ?_
 refine seq_k fun N311 M311 hN311 hM311 => ?_
 refine block_k fun B312 bn312 bx312 br312 bi312 => ?_
 refine sr_k fun K313 hK313 => ?_
 simp only [go_sem, u64C, epf3, ehf3, esf3, euf3, elf3, evf3, ekf3]
 repeat' (first | apply And.intro | intro _)
 refine hK313 _ ?_
 refine sr_k fun K314 hK314 => ?_
 simp only [go_sem, u64C, epf3, ehf3, esf3, euf3, elf3, evf3, ekf3]
 repeat' (first | apply And.intro | intro _)
 all_goals refine call_view (fun k => k) (fun _ _ => rfl) (by first | rfl | (simp only [go_sem, u64C, epf3, ehf3, esf3, euf3, elf3, evf3, ekf3] <;> rfl)) ((mul64 _ _).plain fun _ _ h => h) ?_
 all_goals (rintro v m ⟨hR, hm⟩; subst hR; subst hm)
 all_goals refine And.intro (by first | rfl | simp only [go_sem, u64C, epf3, ehf3, esf3, euf3, elf3, evf3, ekf3]) (And.intro (by first | rfl | simp only [go_sem, u64C, epf3, ehf3, esf3, euf3, elf3, evf3, ekf3]) ?_)
 all_goals simp only [go_sem, u64C, epf3, ehf3, esf3, euf3, elf3, evf3, ekf3]
 all_goals repeat' (first | apply And.intro | intro _)
 refine hK314 _ ?_
 refine sr_k fun K315 hK315 => ?_
 simp only [go_sem, u64C, epf3, ehf3, esf3, euf3, elf3, evf3, ekf3]
 repeat' (first | apply And.intro | intro _)
 all_goals refine call_now (by first | rfl | (simp only [go_sem, u64C, epf3, ehf3, esf3, euf3, elf3, evf3, ekf3] <;> rfl)) (now_add64 _ _ _ (by repeat' (first | assumption | decide | apply ad_le))) ?_
 all_goals simp only [go_sem, u64C, epf3, ehf3, esf3, euf3, elf3, evf3, ekf3]
 all_goals repeat' (first | apply And.intro | intro _)
 refine hK315 _ ?_
 refine sr_k fun K316 hK316 => ?_
 simp only [go_sem, u64C, epf3, ehf3, esf3, euf3, elf3, evf3, ekf3]
 repeat' (first | apply And.intro | intro _)
 refine hK316 _ ?_
 refine sr_k fun K317 hK317 => ?_
 simp only [go_sem, u64C, epf3, ehf3, esf3, euf3, elf3, evf3, ekf3]
 repeat' (first | apply And.intro | intro _)
 all_goals refine call_now (by first | rfl | (simp only [go_sem, u64C, epf3, ehf3, esf3, euf3, elf3, evf3, ekf3] <;> rfl)) (now_add64 _ _ _ (by repeat' (first | assumption | decide | apply ad_le))) ?_
 all_goals simp only [go_sem, u64C, epf3, ehf3, esf3, euf3, elf3, evf3, ekf3]
 all_goals repeat' (first | apply And.intro | intro _)
 refine hK317 _ ?_
 refine region_k fun K318 hK318 => ?_
 simp only [go_sem, u64C, epf3, ehf3, esf3, euf3, elf3, evf3, ekf3]
 repeat' (first | apply And.intro | intro _)
 refine hK318 _ ?_
 refine bn312 _ ?_
 refine hN311 _ ?_
 refine region_k fun K319 hK319 => ?_
 simp only [go_sem, u64C, epf3, ehf3, esf3, euf3, elf3, evf3, ekf3]
 repeat' (first | apply And.intro | intro _)
 refine hK319 _ ?_
 refine hN308 _ ?_
 refine rnd_forget [16, 17, 18, 19, 79, 80, 81, 82, 83, 84, 85, 86, 87, 88, 89, 90, 91, 92, 93, 94, 95, 96, 97, 98, 99, 100, 101, 102, 103, 104, 105, 106, 107, 108, 109, 110, 111, 112] ?_
 simp only [go_sem, St.forget, fgt]
 refine rnd_k fun N320 M320 hN320 hM320 => ?_
 refine sr_k fun K321 hK321 => ?_
 simp only [go_sem, u64C]
 repeat' (first | apply And.intro | intro _)
 refine hK321 _ ?_
 refine seq_k fun N322 M322 hN322 hM322 => ?_
 refine condF_k (by first | rfl | (simp [go_sem, u64C]; done)) ?_
 refine exit_k ?_
 refine hM322 _ _ ?_
 refine hM320 _ _ ?_
 refine bx270 _ ?_
 refine hN268 _ ?_
 refine sr_k fun K323 hK323 => ?_
 simp only [go_sem, u64C]
 repeat' (first | apply And.intro | intro _)
 all_goals refine call_view (fun k => k) (fun _ _ => rfl) (by first | rfl | (simp only [go_sem, u64C] <;> rfl)) ((hP).plain fun _ _ h => h) ?_
 all_goals (rintro v m ⟨hR, hm⟩; subst hR; subst hm)
 all_goals refine And.intro (by first | rfl | simp only [go_sem, u64C]) (And.intro (by first | rfl | simp only [go_sem, u64C]) ?_)
 all_goals simp only [go_sem, u64C]
 all_goals repeat' (first | apply And.intro | intro _)
 all_goals (refine call_hand false [] (fun k => k) (fun _ _ => rfl) ?_ (by decide) ?_ hS.told ?_; iterate 2 (focus (first | rfl | (simp only [go_sem, u64C] <;> first | done | rfl | simp))))
 all_goals (rintro v m ⟨hR, hm⟩; subst hR; subst hm)
 all_goals (refine And.intro ?_ (And.intro ?_ (And.intro ?_ ?_)); iterate 3 (focus (first | rfl | (simp only [go_sem, u64C]; done) | (simp [go_sem, look, u64C]; done))))
 all_goals (try simp only [go_sem, u64C])
 all_goals (try simp only [go_sem, u64C])
 all_goals repeat' (first | apply And.intro | intro _)
 refine hK323 _ ?_
 refine ret_k ?_
 simp only [go_sem, u64C]
 all_goals (exact told_plain (by simp [plainV, plainW]) ⟨rfl, rfl⟩)
end Go.Sy

