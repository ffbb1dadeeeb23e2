/- Walks and what they compute. CONDITIONS: those that each theorem names. -/
import Derived.Test.YtlmbdhfkdhjcfaaDoorvS13
import Derived.Test.YtlmbdhfkdhjcfaaDoorvS12
import Derived.Test.YtlmbdhfkdhjcfaaDoorvS19
import Derived.Test.YtlmbdhfkdhjcfaaDoorvE5
set_option linter.unusedVariables false
set_option linter.unusedSimpArgs false
set_option maxHeartbeats 6400000
set_option maxRecDepth 100000
namespace Go.Sy
structure Stp (x y w k l c:UInt64):Prop where
 e:l.toNat+c.toNat*18446744073709551616=x.toNat*y.toNat+w.toNat+k.toNat
theorem stp {x y w k p h s c1 l c2:UInt64} (hp:x*y=p) (hh:e0x x y=h) (hs:adS p w 0=s) (hc1:adC p w 0=c1) (hl:adS s k 0=l) (hc2:adC s k 0=c2):Stp x y w k l (h+c1+c2):=by
 have:=x1s x y w k
 simp only [stL,stK,hp,hh,hs,hc1,hl,hc2] at this
 exact ⟨this⟩
theorem k0n {x y0 y1 y2 y3 w0 w1 w2 w3 l0 l1 l2 l3 c0 c1 c2 c3:UInt64} (h0:Stp x y0 w0 0 l0 c0) (h1:Stp x y1 w1 c0 l1 c1) (h2:Stp x y2 w2 c1 l2 c2) (h3:Stp x y3 w3 c2 l3 c3):
  vQ l0 l1 l2 l3+m4*c3.toNat=x.toNat*vQ y0 y1 y2 y3+vQ w0 w1 w2 w3:=by
 obtain ⟨h0⟩:=h0
 obtain ⟨h1⟩:=h1
 obtain ⟨h2⟩:=h2
 obtain ⟨h3⟩:=h3
 have z:(0:UInt64).toNat=0:=rfl
 rw [z] at h0
 simp only [vQ]
 rw [show m4=18446744073709551616*(18446744073709551616*(18446744073709551616*18446744073709551616)) from rfl]
 generalize (18446744073709551616:Nat)=Q at*
 grind
theorem q1e :vQ 0 0 0 0=0:=rfl
theorem k1y {a b c d y0 y1 y2 y3:UInt64} {r00 r01 r02 r03 k0 r10 r11 r12 r13 k1 r20 r21 r22 r23 k2 r30 r31 r32 r33 k3:UInt64}
  (h0:vQ r00 r01 r02 r03+m4*k0.toNat=a.toNat*vQ y0 y1 y2 y3+vQ 0 0 0 0)
  (h1:vQ r10 r11 r12 r13+m4*k1.toNat=b.toNat*vQ y0 y1 y2 y3+vQ r01 r02 r03 k0)
  (h2:vQ r20 r21 r22 r23+m4*k2.toNat=c.toNat*vQ y0 y1 y2 y3+vQ r11 r12 r13 k1)
  (h3:vQ r30 r31 r32 r33+m4*k3.toNat=d.toNat*vQ y0 y1 y2 y3+vQ r21 r22 r23 k2):
  vQ r00 r10 r20 r30+m4*vQ r31 r32 r33 k3=vQ a b c d*vQ y0 y1 y2 y3:=by
 rw [q1e] at h0
 rw [show vQ a b c d=a.toNat+18446744073709551616*(b.toNat+18446744073709551616*(c.toNat+18446744073709551616*d.toNat)) from rfl]
 generalize vQ y0 y1 y2 y3=Y at*
 simp only [vQ] at*
 rw [show m4=18446744073709551616*(18446744073709551616*(18446744073709551616*18446744073709551616)) from rfl] at*
 generalize (18446744073709551616:Nat)=Q at*
 replace h1:=congrArg (Q* ·) h1
 replace h2:=congrArg (Q*Q* ·) h2
 replace h3:=congrArg (Q*Q*Q* ·) h3
 grind
theorem n1d {lo hi r k P:Nat} (h1:lo+m4*hi=P) (h2:r+m4*k=38*hi+lo):(r+m4*k)%p25=P%p25:=by
 have e:P=r+m4*k+2*p25*hi:=by rw [←h1,h2,a2d];grind
 rw [e,u0j]
theorem u1h {lo hi r k:Nat} (h2:r+m4*k=38*hi+lo) (hl:lo<m4) (hh:hi<m4):k≤38:=by
 have:=c0u
 rcases Nat.lt_or_ge 38 k with h|h
 ·have:=Nat.mul_le_mul_left m4 h
  omega
 ·exact h
end Go.Sy
namespace Go.Sy
namespace Lk
open Go.Proofs
attribute [local irreducible] Dv HT Cz Px onC onE onO onG goV goA goS Qx Dw
theorem a0r (x y:UInt64):
 Ct Tryd.prog 56 [.w (.one (.pl (.u64 x))),.w (.one (.pl (.u64 y)))] (fun v m=>v=.tup [.one (.pl (.u64 (e0x x y))),.one (.pl (.u64 (x*y)))]):=by
 refine Ct.k Tryd.func56 rfl Tryd.ntmps56 (congrArg Array.toList Tryd.results56) (by simp) fun w0 ro=>?_
 refine Dj fun zZ zhZ=>?_
 iterate 26 first
  |(refine Cx fun zK zhK=>?_;simp only [go_sem];(repeat' (first|apply And.intro|intro _)))
  |refine zhK _ ?_
  |refine Dx ?_
  |(refine zhZ _ _ ?_;simp only [go_sem];(all_goals (rfl)))
theorem d1p {x y0 y1 y2 y3 w0 w1 w2 w3 l0 l1 l2 l3 c0 c1 c2 c3:UInt64} (h0:Stp y0 x w0 0 l0 c0) (h1:Stp y1 x w1 c0 l1 c1) (h2:Stp y2 x w2 c1 l2 c2) (h3:Stp y3 x w3 c2 l3 c3):
 vQ l0 l1 l2 l3+m4*c3.toNat=x.toNat*vQ y0 y1 y2 y3+vQ w0 w1 w2 w3:=
 k0n ⟨by rw [h0.e,Nat.mul_comm]⟩ ⟨by rw [h1.e,Nat.mul_comm]⟩ ⟨by rw [h2.e,Nat.mul_comm]⟩ ⟨by rw [h3.e,Nat.mul_comm]⟩
theorem l1w {s k:Nat} {t:Nat} (h:(s+m4*k)%p25=t%p25):n0a s (38*k)%p25=t%p25:=by
 rw [z0g s k _ rfl,h]
theorem z1t (a b c d e f g h:UInt64):
 CtM Tryd.prog 42 [.w (.agg [.pl (.u64 a),.pl (.u64 b),.pl (.u64 c),.pl (.u64 d)]),.w (.agg [.pl (.u64 e),.pl (.u64 f),.pl (.u64 g),.pl (.u64 h)])] [(1000001,⟨false,[.pl (.u64 18446744073709551597),.pl (.u64 18446744073709551615),.pl (.u64 18446744073709551615),.pl (.u64 9223372036854775807)]⟩)] (Told (fun v m=>v=.w (.agg (w4C ((vQ a b c d*vQ e f g h)%p25)))∧m=[])):=by
 obtain ⟨p00,ep00⟩: ∃ z,a*e=z:=⟨_,rfl⟩
 obtain ⟨h00,eh00⟩: ∃ z,e0x a e=z:=⟨_,rfl⟩
 obtain ⟨s00,es00⟩: ∃ z,adS p00 0 0=z:=⟨_,rfl⟩
 obtain ⟨u00,eu00⟩: ∃ z,adC p00 0 0=z:=⟨_,rfl⟩
 obtain ⟨l00,el00⟩: ∃ z,adS s00 0 0=z:=⟨_,rfl⟩
 obtain ⟨v00,ev00⟩: ∃ z,adC s00 0 0=z:=⟨_,rfl⟩
 have st00:Stp a e 0 0 l00 (h00+u00+v00):=stp ep00 eh00 es00 eu00 el00 ev00
 obtain ⟨k00,ek00⟩: ∃ z,h00+u00+v00=z:=⟨_,rfl⟩
 rw [ek00] at st00
 obtain ⟨p01,ep01⟩: ∃ z,a*f=z:=⟨_,rfl⟩
 obtain ⟨h01,eh01⟩: ∃ z,e0x a f=z:=⟨_,rfl⟩
 obtain ⟨s01,es01⟩: ∃ z,adS p01 0 0=z:=⟨_,rfl⟩
 obtain ⟨u01,eu01⟩: ∃ z,adC p01 0 0=z:=⟨_,rfl⟩
 obtain ⟨l01,el01⟩: ∃ z,adS s01 k00 0=z:=⟨_,rfl⟩
 obtain ⟨v01,ev01⟩: ∃ z,adC s01 k00 0=z:=⟨_,rfl⟩
 have st01:Stp a f 0 k00 l01 (h01+u01+v01):=stp ep01 eh01 es01 eu01 el01 ev01
 obtain ⟨k01,ek01⟩: ∃ z,h01+u01+v01=z:=⟨_,rfl⟩
 rw [ek01] at st01
 obtain ⟨p02,ep02⟩: ∃ z,a*g=z:=⟨_,rfl⟩
 obtain ⟨h02,eh02⟩: ∃ z,e0x a g=z:=⟨_,rfl⟩
 obtain ⟨s02,es02⟩: ∃ z,adS p02 0 0=z:=⟨_,rfl⟩
 obtain ⟨u02,eu02⟩: ∃ z,adC p02 0 0=z:=⟨_,rfl⟩
 obtain ⟨l02,el02⟩: ∃ z,adS s02 k01 0=z:=⟨_,rfl⟩
 obtain ⟨v02,ev02⟩: ∃ z,adC s02 k01 0=z:=⟨_,rfl⟩
 have st02:Stp a g 0 k01 l02 (h02+u02+v02):=stp ep02 eh02 es02 eu02 el02 ev02
 obtain ⟨k02,ek02⟩: ∃ z,h02+u02+v02=z:=⟨_,rfl⟩
 rw [ek02] at st02
 obtain ⟨p03,ep03⟩: ∃ z,a*h=z:=⟨_,rfl⟩
 obtain ⟨h03,eh03⟩: ∃ z,e0x a h=z:=⟨_,rfl⟩
 obtain ⟨s03,es03⟩: ∃ z,adS p03 0 0=z:=⟨_,rfl⟩
 obtain ⟨u03,eu03⟩: ∃ z,adC p03 0 0=z:=⟨_,rfl⟩
 obtain ⟨l03,el03⟩: ∃ z,adS s03 k02 0=z:=⟨_,rfl⟩
 obtain ⟨v03,ev03⟩: ∃ z,adC s03 k02 0=z:=⟨_,rfl⟩
 have st03:Stp a h 0 k02 l03 (h03+u03+v03):=stp ep03 eh03 es03 eu03 el03 ev03
 obtain ⟨k03,ek03⟩: ∃ z,h03+u03+v03=z:=⟨_,rfl⟩
 rw [ek03] at st03
 have row0:=k0n st00 st01 st02 st03
 obtain ⟨p10,ep10⟩: ∃ z,b*e=z:=⟨_,rfl⟩
 obtain ⟨h10,eh10⟩: ∃ z,e0x b e=z:=⟨_,rfl⟩
 obtain ⟨s10,es10⟩: ∃ z,adS p10 l01 0=z:=⟨_,rfl⟩
 obtain ⟨u10,eu10⟩: ∃ z,adC p10 l01 0=z:=⟨_,rfl⟩
 obtain ⟨l10,el10⟩: ∃ z,adS s10 0 0=z:=⟨_,rfl⟩
 obtain ⟨v10,ev10⟩: ∃ z,adC s10 0 0=z:=⟨_,rfl⟩
 have st10:Stp b e l01 0 l10 (h10+u10+v10):=stp ep10 eh10 es10 eu10 el10 ev10
 obtain ⟨k10,ek10⟩: ∃ z,h10+u10+v10=z:=⟨_,rfl⟩
 rw [ek10] at st10
 obtain ⟨p11,ep11⟩: ∃ z,b*f=z:=⟨_,rfl⟩
 obtain ⟨h11,eh11⟩: ∃ z,e0x b f=z:=⟨_,rfl⟩
 obtain ⟨s11,es11⟩: ∃ z,adS p11 l02 0=z:=⟨_,rfl⟩
 obtain ⟨u11,eu11⟩: ∃ z,adC p11 l02 0=z:=⟨_,rfl⟩
 obtain ⟨l11,el11⟩: ∃ z,adS s11 k10 0=z:=⟨_,rfl⟩
 obtain ⟨v11,ev11⟩: ∃ z,adC s11 k10 0=z:=⟨_,rfl⟩
 have st11:Stp b f l02 k10 l11 (h11+u11+v11):=stp ep11 eh11 es11 eu11 el11 ev11
 obtain ⟨k11,ek11⟩: ∃ z,h11+u11+v11=z:=⟨_,rfl⟩
 rw [ek11] at st11
 obtain ⟨p12,ep12⟩: ∃ z,b*g=z:=⟨_,rfl⟩
 obtain ⟨h12,eh12⟩: ∃ z,e0x b g=z:=⟨_,rfl⟩
 obtain ⟨s12,es12⟩: ∃ z,adS p12 l03 0=z:=⟨_,rfl⟩
 obtain ⟨u12,eu12⟩: ∃ z,adC p12 l03 0=z:=⟨_,rfl⟩
 obtain ⟨l12,el12⟩: ∃ z,adS s12 k11 0=z:=⟨_,rfl⟩
 obtain ⟨v12,ev12⟩: ∃ z,adC s12 k11 0=z:=⟨_,rfl⟩
 have st12:Stp b g l03 k11 l12 (h12+u12+v12):=stp ep12 eh12 es12 eu12 el12 ev12
 obtain ⟨k12,ek12⟩: ∃ z,h12+u12+v12=z:=⟨_,rfl⟩
 rw [ek12] at st12
 obtain ⟨p13,ep13⟩: ∃ z,b*h=z:=⟨_,rfl⟩
 obtain ⟨h13,eh13⟩: ∃ z,e0x b h=z:=⟨_,rfl⟩
 obtain ⟨s13,es13⟩: ∃ z,adS p13 k03 0=z:=⟨_,rfl⟩
 obtain ⟨u13,eu13⟩: ∃ z,adC p13 k03 0=z:=⟨_,rfl⟩
 obtain ⟨l13,el13⟩: ∃ z,adS s13 k12 0=z:=⟨_,rfl⟩
 obtain ⟨v13,ev13⟩: ∃ z,adC s13 k12 0=z:=⟨_,rfl⟩
 have st13:Stp b h k03 k12 l13 (h13+u13+v13):=stp ep13 eh13 es13 eu13 el13 ev13
 obtain ⟨k13,ek13⟩: ∃ z,h13+u13+v13=z:=⟨_,rfl⟩
 rw [ek13] at st13
 have row1:=k0n st10 st11 st12 st13
 obtain ⟨p20,ep20⟩: ∃ z,c*e=z:=⟨_,rfl⟩
 obtain ⟨h20,eh20⟩: ∃ z,e0x c e=z:=⟨_,rfl⟩
 obtain ⟨s20,es20⟩: ∃ z,adS p20 l11 0=z:=⟨_,rfl⟩
 obtain ⟨u20,eu20⟩: ∃ z,adC p20 l11 0=z:=⟨_,rfl⟩
 obtain ⟨l20,el20⟩: ∃ z,adS s20 0 0=z:=⟨_,rfl⟩
 obtain ⟨v20,ev20⟩: ∃ z,adC s20 0 0=z:=⟨_,rfl⟩
 have st20:Stp c e l11 0 l20 (h20+u20+v20):=stp ep20 eh20 es20 eu20 el20 ev20
 obtain ⟨k20,ek20⟩: ∃ z,h20+u20+v20=z:=⟨_,rfl⟩
 rw [ek20] at st20
 obtain ⟨p21,ep21⟩: ∃ z,c*f=z:=⟨_,rfl⟩
 obtain ⟨h21,eh21⟩: ∃ z,e0x c f=z:=⟨_,rfl⟩
 obtain ⟨s21,es21⟩: ∃ z,adS p21 l12 0=z:=⟨_,rfl⟩
 obtain ⟨u21,eu21⟩: ∃ z,adC p21 l12 0=z:=⟨_,rfl⟩
 obtain ⟨l21,el21⟩: ∃ z,adS s21 k20 0=z:=⟨_,rfl⟩
 obtain ⟨v21,ev21⟩: ∃ z,adC s21 k20 0=z:=⟨_,rfl⟩
 have st21:Stp c f l12 k20 l21 (h21+u21+v21):=stp ep21 eh21 es21 eu21 el21 ev21
 obtain ⟨k21,ek21⟩: ∃ z,h21+u21+v21=z:=⟨_,rfl⟩
 rw [ek21] at st21
 obtain ⟨p22,ep22⟩: ∃ z,c*g=z:=⟨_,rfl⟩
 obtain ⟨h22,eh22⟩: ∃ z,e0x c g=z:=⟨_,rfl⟩
 obtain ⟨s22,es22⟩: ∃ z,adS p22 l13 0=z:=⟨_,rfl⟩
 obtain ⟨u22,eu22⟩: ∃ z,adC p22 l13 0=z:=⟨_,rfl⟩
 obtain ⟨l22,el22⟩: ∃ z,adS s22 k21 0=z:=⟨_,rfl⟩
 obtain ⟨v22,ev22⟩: ∃ z,adC s22 k21 0=z:=⟨_,rfl⟩
 have st22:Stp c g l13 k21 l22 (h22+u22+v22):=stp ep22 eh22 es22 eu22 el22 ev22
 obtain ⟨k22,ek22⟩: ∃ z,h22+u22+v22=z:=⟨_,rfl⟩
 rw [ek22] at st22
 obtain ⟨p23,ep23⟩: ∃ z,c*h=z:=⟨_,rfl⟩
 obtain ⟨h23,eh23⟩: ∃ z,e0x c h=z:=⟨_,rfl⟩
 obtain ⟨s23,es23⟩: ∃ z,adS p23 k13 0=z:=⟨_,rfl⟩
 obtain ⟨u23,eu23⟩: ∃ z,adC p23 k13 0=z:=⟨_,rfl⟩
 obtain ⟨l23,el23⟩: ∃ z,adS s23 k22 0=z:=⟨_,rfl⟩
 obtain ⟨v23,ev23⟩: ∃ z,adC s23 k22 0=z:=⟨_,rfl⟩
 have st23:Stp c h k13 k22 l23 (h23+u23+v23):=stp ep23 eh23 es23 eu23 el23 ev23
 obtain ⟨k23,ek23⟩: ∃ z,h23+u23+v23=z:=⟨_,rfl⟩
 rw [ek23] at st23
 have row2:=k0n st20 st21 st22 st23
 obtain ⟨p30,ep30⟩: ∃ z,d*e=z:=⟨_,rfl⟩
 obtain ⟨h30,eh30⟩: ∃ z,e0x d e=z:=⟨_,rfl⟩
 obtain ⟨s30,es30⟩: ∃ z,adS p30 l21 0=z:=⟨_,rfl⟩
 obtain ⟨u30,eu30⟩: ∃ z,adC p30 l21 0=z:=⟨_,rfl⟩
 obtain ⟨l30,el30⟩: ∃ z,adS s30 0 0=z:=⟨_,rfl⟩
 obtain ⟨v30,ev30⟩: ∃ z,adC s30 0 0=z:=⟨_,rfl⟩
 have st30:Stp d e l21 0 l30 (h30+u30+v30):=stp ep30 eh30 es30 eu30 el30 ev30
 obtain ⟨k30,ek30⟩: ∃ z,h30+u30+v30=z:=⟨_,rfl⟩
 rw [ek30] at st30
 obtain ⟨p31,ep31⟩: ∃ z,d*f=z:=⟨_,rfl⟩
 obtain ⟨h31,eh31⟩: ∃ z,e0x d f=z:=⟨_,rfl⟩
 obtain ⟨s31,es31⟩: ∃ z,adS p31 l22 0=z:=⟨_,rfl⟩
 obtain ⟨u31,eu31⟩: ∃ z,adC p31 l22 0=z:=⟨_,rfl⟩
 obtain ⟨l31,el31⟩: ∃ z,adS s31 k30 0=z:=⟨_,rfl⟩
 obtain ⟨v31,ev31⟩: ∃ z,adC s31 k30 0=z:=⟨_,rfl⟩
 have st31:Stp d f l22 k30 l31 (h31+u31+v31):=stp ep31 eh31 es31 eu31 el31 ev31
 obtain ⟨k31,ek31⟩: ∃ z,h31+u31+v31=z:=⟨_,rfl⟩
 rw [ek31] at st31
 obtain ⟨p32,ep32⟩: ∃ z,d*g=z:=⟨_,rfl⟩
 obtain ⟨h32,eh32⟩: ∃ z,e0x d g=z:=⟨_,rfl⟩
 obtain ⟨s32,es32⟩: ∃ z,adS p32 l23 0=z:=⟨_,rfl⟩
 obtain ⟨u32,eu32⟩: ∃ z,adC p32 l23 0=z:=⟨_,rfl⟩
 obtain ⟨l32,el32⟩: ∃ z,adS s32 k31 0=z:=⟨_,rfl⟩
 obtain ⟨v32,ev32⟩: ∃ z,adC s32 k31 0=z:=⟨_,rfl⟩
 have st32:Stp d g l23 k31 l32 (h32+u32+v32):=stp ep32 eh32 es32 eu32 el32 ev32
 obtain ⟨k32,ek32⟩: ∃ z,h32+u32+v32=z:=⟨_,rfl⟩
 rw [ek32] at st32
 obtain ⟨p33,ep33⟩: ∃ z,d*h=z:=⟨_,rfl⟩
 obtain ⟨h33,eh33⟩: ∃ z,e0x d h=z:=⟨_,rfl⟩
 obtain ⟨s33,es33⟩: ∃ z,adS p33 k23 0=z:=⟨_,rfl⟩
 obtain ⟨u33,eu33⟩: ∃ z,adC p33 k23 0=z:=⟨_,rfl⟩
 obtain ⟨l33,el33⟩: ∃ z,adS s33 k32 0=z:=⟨_,rfl⟩
 obtain ⟨v33,ev33⟩: ∃ z,adC s33 k32 0=z:=⟨_,rfl⟩
 have st33:Stp d h k23 k32 l33 (h33+u33+v33):=stp ep33 eh33 es33 eu33 el33 ev33
 obtain ⟨k33,ek33⟩: ∃ z,h33+u33+v33=z:=⟨_,rfl⟩
 rw [ek33] at st33
 have row3:=k0n st30 st31 st32 st33
 have hpv:=k1y row0 row1 row2 row3
 obtain ⟨pf0,epf0⟩: ∃ z,l31*38=z:=⟨_,rfl⟩
 obtain ⟨hf0,ehf0⟩: ∃ z,e0x l31 38=z:=⟨_,rfl⟩
 obtain ⟨sf0,esf0⟩: ∃ z,adS pf0 l00 0=z:=⟨_,rfl⟩
 obtain ⟨uf0,euf0⟩: ∃ z,adC pf0 l00 0=z:=⟨_,rfl⟩
 obtain ⟨lf0,elf0⟩: ∃ z,adS sf0 0 0=z:=⟨_,rfl⟩
 obtain ⟨vf0,evf0⟩: ∃ z,adC sf0 0 0=z:=⟨_,rfl⟩
 have stf0:Stp l31 38 l00 0 lf0 (hf0+uf0+vf0):=stp epf0 ehf0 esf0 euf0 elf0 evf0
 obtain ⟨kf0,ekf0⟩: ∃ z,hf0+uf0+vf0=z:=⟨_,rfl⟩
 rw [ekf0] at stf0
 obtain ⟨pf1,epf1⟩: ∃ z,l32*38=z:=⟨_,rfl⟩
 obtain ⟨hf1,ehf1⟩: ∃ z,e0x l32 38=z:=⟨_,rfl⟩
 obtain ⟨sf1,esf1⟩: ∃ z,adS pf1 l10 0=z:=⟨_,rfl⟩
 obtain ⟨uf1,euf1⟩: ∃ z,adC pf1 l10 0=z:=⟨_,rfl⟩
 obtain ⟨lf1,elf1⟩: ∃ z,adS sf1 kf0 0=z:=⟨_,rfl⟩
 obtain ⟨vf1,evf1⟩: ∃ z,adC sf1 kf0 0=z:=⟨_,rfl⟩
 have stf1:Stp l32 38 l10 kf0 lf1 (hf1+uf1+vf1):=stp epf1 ehf1 esf1 euf1 elf1 evf1
 obtain ⟨kf1,ekf1⟩: ∃ z,hf1+uf1+vf1=z:=⟨_,rfl⟩
 rw [ekf1] at stf1
 obtain ⟨pf2,epf2⟩: ∃ z,l33*38=z:=⟨_,rfl⟩
 obtain ⟨hf2,ehf2⟩: ∃ z,e0x l33 38=z:=⟨_,rfl⟩
 obtain ⟨sf2,esf2⟩: ∃ z,adS pf2 l20 0=z:=⟨_,rfl⟩
 obtain ⟨uf2,euf2⟩: ∃ z,adC pf2 l20 0=z:=⟨_,rfl⟩
 obtain ⟨lf2,elf2⟩: ∃ z,adS sf2 kf1 0=z:=⟨_,rfl⟩
 obtain ⟨vf2,evf2⟩: ∃ z,adC sf2 kf1 0=z:=⟨_,rfl⟩
 have stf2:Stp l33 38 l20 kf1 lf2 (hf2+uf2+vf2):=stp epf2 ehf2 esf2 euf2 elf2 evf2
 obtain ⟨kf2,ekf2⟩: ∃ z,hf2+uf2+vf2=z:=⟨_,rfl⟩
 rw [ekf2] at stf2
 obtain ⟨pf3,epf3⟩: ∃ z,k33*38=z:=⟨_,rfl⟩
 obtain ⟨hf3,ehf3⟩: ∃ z,e0x k33 38=z:=⟨_,rfl⟩
 obtain ⟨sf3,esf3⟩: ∃ z,adS pf3 l30 0=z:=⟨_,rfl⟩
 obtain ⟨uf3,euf3⟩: ∃ z,adC pf3 l30 0=z:=⟨_,rfl⟩
 obtain ⟨lf3,elf3⟩: ∃ z,adS sf3 kf2 0=z:=⟨_,rfl⟩
 obtain ⟨vf3,evf3⟩: ∃ z,adC sf3 kf2 0=z:=⟨_,rfl⟩
 have stf3:Stp k33 38 l30 kf2 lf3 (hf3+uf3+vf3):=stp epf3 ehf3 esf3 euf3 elf3 evf3
 obtain ⟨kf3,ekf3⟩: ∃ z,hf3+uf3+vf3=z:=⟨_,rfl⟩
 rw [ekf3] at stf3
 have rowf:=d1p stf0 stf1 stf2 stf3
 have h38:(38:UInt64).toNat=38:=rfl
 rw [h38] at rowf
 have hk38:kf3.toNat≤38:=u1h rowf (a0c _ _ _ _) (a0c _ _ _ _)
 have hfm:=l1w (n1d hpv rowf)
 have hP:=y1r lf0 lf1 lf2 lf3 (38*kf3)
 rw [d2v hk38] at hP
 obtain ⟨p0,p1,p2,p3,hp,hvp⟩:=Dz (n0a (vQ lf0 lf1 lf2 lf3) (38*kf3.toNat)) (y0l (a0c _ _ _ _) (by omega))
 simp only [w4C,hp] at hP
 have hS:=p0c p0 p1 p2 p3
 rw [hvp,hfm] at hS
 obtain ⟨q0,q1,q2,q3,hq,hvq⟩:=Dz ((vQ a b c d*vQ e f g h)%p25) (g0b _)
 simp only [w4C,hq] at hS ⊢
 refine CtM.k Tryd.func42 rfl Tryd.ntmps42 (congrArg Array.toList Tryd.results42) (by simp) fun w0 ro may fx=>?_
 refine Dj fun zZ zhZ=>?_
 refine Cx fun zK zhK=>?_
 simp only [go_sem,Aw]
 repeat' (first|apply And.intro|intro _)
 refine zhK _ ?_
 refine Cx fun zK zhK=>?_
 simp only [go_sem,Aw]
 repeat' (first|apply And.intro|intro _)
 refine zhK _ ?_
 refine Bz fun zN zM zhN zhM=>?_
 refine Cx fun zK zhK=>?_
 simp only [go_sem,Aw]
 repeat' (first|apply And.intro|intro _)
 refine zhK _ ?_
 refine Aj fun zB zbn zbx zbr zbi=>?_
 refine Fx (x:=.seq (.region 3 _ _) _) 5 ?_
 refine Fq fun zN zM zhN zhM=>?_
 refine Cx fun zK zhK=>?_
 simp only [go_sem,Aw]
 repeat' (first|apply And.intro|intro _)
 refine zhK _ ?_
 refine Bz fun zN zM zhN zhM=>?_
 (refine Bv ?_ ?_;focus (first|rfl|(simp [go_sem,Aw];done)))
 refine Cw ?_
 refine zhN _ ?_;clear zhN zhM
 refine Bz fun zN zM zhN zhM=>?_
 refine Aj fun zB zbn zbx zbr zbi=>?_
 refine Cx fun zK zhK=>?_
 simp only [go_sem,Aw]
 repeat' (first|apply And.intro|intro _)
 refine zhK _ ?_
 refine Cx fun zK zhK=>?_
 simp only [go_sem,Aw]
 repeat' (first|apply And.intro|intro _)
 refine zhK _ ?_
 refine Bz fun zN zM zhN zhM=>?_
 refine Cx fun zK zhK=>?_
 simp only [go_sem,Aw]
 repeat' (first|apply And.intro|intro _)
 refine zhK _ ?_
 refine Aj fun zB zbn zbx zbr zbi=>?_
 refine Fx (x:=.seq (.region 7 _ _) _) 5 ?_
 refine Fq fun zN zM zhN zhM=>?_
 refine Cx fun zK zhK=>?_
 simp only [go_sem,Aw,ep00,eh00,es00,eu00,el00,ev00,ek00]
 repeat' (first|apply And.intro|intro _)
 refine zhK _ ?_
 refine Bz fun zN zM zhN zhM=>?_
 (refine Bv ?_ ?_;focus (first|rfl|(simp [go_sem,Aw,ep00,eh00,es00,eu00,el00,ev00,ek00];done)))
 refine Cw ?_
 refine zhN _ ?_;clear zhN zhM
 refine Bz fun zN zM zhN zhM=>?_
 refine Aj fun zB zbn zbx zbr zbi=>?_
 refine Cx fun zK zhK=>?_
 simp only [go_sem,Aw,ep00,eh00,es00,eu00,el00,ev00,ek00]
 repeat' (first|apply And.intro|intro _)
 refine zhK _ ?_
 refine Cx fun zK zhK=>?_
 simp only [go_sem,Aw,ep00,eh00,es00,eu00,el00,ev00,ek00]
 repeat' (first|apply And.intro|intro _)
 all_goals refine Cq (fun k=>k) (fun _ _=>rfl) (by first|rfl|(simp only [go_sem,Aw,ep00,eh00,es00,eu00,el00,ev00,ek00]<;>rfl)) ((a0r _ _).plain fun _ _ h=>h) ?_
 all_goals (rintro v m ⟨hR,hm⟩;subst hR;subst hm)
 all_goals refine And.intro (by first|rfl|simp only [go_sem,Aw,ep00,eh00,es00,eu00,el00,ev00,ek00]) (And.intro (by first|rfl|simp only [go_sem,Aw,ep00,eh00,es00,eu00,el00,ev00,ek00]) ?_)
 all_goals simp only [go_sem,Aw,ep00,eh00,es00,eu00,el00,ev00,ek00]
 all_goals repeat' (first|apply And.intro|intro _)
 refine zhK _ ?_
 refine Cx fun zK zhK=>?_
 simp only [go_sem,Aw,ep00,eh00,es00,eu00,el00,ev00,ek00]
 repeat' (first|apply And.intro|intro _)
 all_goals refine Ez (by first|rfl|(simp only [go_sem,Aw,ep00,eh00,es00,eu00,el00,ev00,ek00]<;>rfl)) (Dy _ _ _ (by repeat' (first|assumption|decide|apply Iy))) ?_
 all_goals simp only [go_sem,Aw,ep00,eh00,es00,eu00,el00,ev00,ek00]
 all_goals repeat' (first|apply And.intro|intro _)
 refine zhK _ ?_
 refine Cx fun zK zhK=>?_
 simp only [go_sem,Aw,ep00,eh00,es00,eu00,el00,ev00,ek00]
 repeat' (first|apply And.intro|intro _)
 refine zhK _ ?_
 refine Cx fun zK zhK=>?_
 simp only [go_sem,Aw,ep00,eh00,es00,eu00,el00,ev00,ek00]
 repeat' (first|apply And.intro|intro _)
 all_goals refine Ez (by first|rfl|(simp only [go_sem,Aw,ep00,eh00,es00,eu00,el00,ev00,ek00]<;>rfl)) (Dy _ _ _ (by repeat' (first|assumption|decide|apply Iy))) ?_
 all_goals simp only [go_sem,Aw,ep00,eh00,es00,eu00,el00,ev00,ek00]
 all_goals repeat' (first|apply And.intro|intro _)
 refine zhK _ ?_
 refine Av fun zK zhK=>?_
 simp only [go_sem,Aw,ep00,eh00,es00,eu00,el00,ev00,ek00]
 repeat' (first|apply And.intro|intro _)
 refine zhK _ ?_
 refine zbn _ ?_;clear zbn zbx zbr zbi
 refine zhN _ ?_;clear zhN zhM
 refine Av fun zK zhK=>?_
 simp only [go_sem,Aw,ep00,eh00,es00,eu00,el00,ev00,ek00]
 repeat' (first|apply And.intro|intro _)
 refine zhK _ ?_
 refine zhN _ ?_;clear zhN zhM
 refine Cv (x:=.seq (.region 7 _ _) _) [9,10,11,12,13,27,28,29,30,31,32,33,34,35,36,37,38,39,40,41,42,43,44,45,46,47,48,49,50,51,52,53,54,55,56,57,58,59,60,61,62,63] ?_
 simp only [go_sem,St.forget,fgt]
 refine Fq fun zN zM zhN zhM=>?_
 refine Cx fun zK zhK=>?_
 simp only [go_sem,Aw,ep01,eh01,es01,eu01,el01,ev01,ek01]
 repeat' (first|apply And.intro|intro _)
 refine zhK _ ?_
 refine Bz fun zN zM zhN zhM=>?_
 (refine Bv ?_ ?_;focus (first|rfl|(simp [go_sem,Aw,ep01,eh01,es01,eu01,el01,ev01,ek01];done)))
 refine Cw ?_
 refine zhN _ ?_;clear zhN zhM
 refine Bz fun zN zM zhN zhM=>?_
 refine Aj fun zB zbn zbx zbr zbi=>?_
 refine Cx fun zK zhK=>?_
 simp only [go_sem,Aw,ep01,eh01,es01,eu01,el01,ev01,ek01]
 repeat' (first|apply And.intro|intro _)
 refine zhK _ ?_
 refine Cx fun zK zhK=>?_
 simp only [go_sem,Aw,ep01,eh01,es01,eu01,el01,ev01,ek01]
 repeat' (first|apply And.intro|intro _)
 all_goals refine Cq (fun k=>k) (fun _ _=>rfl) (by first|rfl|(simp only [go_sem,Aw,ep01,eh01,es01,eu01,el01,ev01,ek01]<;>rfl)) ((a0r _ _).plain fun _ _ h=>h) ?_
 all_goals (rintro v m ⟨hR,hm⟩;subst hR;subst hm)
 all_goals refine And.intro (by first|rfl|simp only [go_sem,Aw,ep01,eh01,es01,eu01,el01,ev01,ek01]) (And.intro (by first|rfl|simp only [go_sem,Aw,ep01,eh01,es01,eu01,el01,ev01,ek01]) ?_)
 all_goals simp only [go_sem,Aw,ep01,eh01,es01,eu01,el01,ev01,ek01]
 all_goals repeat' (first|apply And.intro|intro _)
 refine zhK _ ?_
 refine Cx fun zK zhK=>?_
 simp only [go_sem,Aw,ep01,eh01,es01,eu01,el01,ev01,ek01]
 repeat' (first|apply And.intro|intro _)
 all_goals refine Ez (by first|rfl|(simp only [go_sem,Aw,ep01,eh01,es01,eu01,el01,ev01,ek01]<;>rfl)) (Dy _ _ _ (by repeat' (first|assumption|decide|apply Iy))) ?_
 all_goals simp only [go_sem,Aw,ep01,eh01,es01,eu01,el01,ev01,ek01]
 all_goals repeat' (first|apply And.intro|intro _)
 refine zhK _ ?_
 refine Cx fun zK zhK=>?_
 simp only [go_sem,Aw,ep01,eh01,es01,eu01,el01,ev01,ek01]
 repeat' (first|apply And.intro|intro _)
 refine zhK _ ?_
 refine Cx fun zK zhK=>?_
 simp only [go_sem,Aw,ep01,eh01,es01,eu01,el01,ev01,ek01]
 repeat' (first|apply And.intro|intro _)
 all_goals refine Ez (by first|rfl|(simp only [go_sem,Aw,ep01,eh01,es01,eu01,el01,ev01,ek01]<;>rfl)) (Dy _ _ _ (by repeat' (first|assumption|decide|apply Iy))) ?_
 all_goals simp only [go_sem,Aw,ep01,eh01,es01,eu01,el01,ev01,ek01]
 all_goals repeat' (first|apply And.intro|intro _)
 refine zhK _ ?_
 refine Av fun zK zhK=>?_
 simp only [go_sem,Aw,ep01,eh01,es01,eu01,el01,ev01,ek01]
 repeat' (first|apply And.intro|intro _)
 refine zhK _ ?_
 refine zbn _ ?_;clear zbn zbx zbr zbi
 refine zhN _ ?_;clear zhN zhM
 refine Av fun zK zhK=>?_
 simp only [go_sem,Aw,ep01,eh01,es01,eu01,el01,ev01,ek01]
 repeat' (first|apply And.intro|intro _)
 refine zhK _ ?_
 refine zhN _ ?_;clear zhN zhM
 refine Cv (x:=.seq (.region 7 _ _) _) [9,10,11,12,13,27,28,29,30,31,32,33,34,35,36,37,38,39,40,41,42,43,44,45,46,47,48,49,50,51,52,53,54,55,56,57,58,59,60,61,62,63] ?_
 simp only [go_sem,St.forget,fgt]
 refine Fq fun zN zM zhN zhM=>?_
 refine Cx fun zK zhK=>?_
 simp only [go_sem,Aw,ep02,eh02,es02,eu02,el02,ev02,ek02]
 repeat' (first|apply And.intro|intro _)
 refine zhK _ ?_
 refine Bz fun zN zM zhN zhM=>?_
 (refine Bv ?_ ?_;focus (first|rfl|(simp [go_sem,Aw,ep02,eh02,es02,eu02,el02,ev02,ek02];done)))
 refine Cw ?_
 refine zhN _ ?_;clear zhN zhM
 refine Bz fun zN zM zhN zhM=>?_
 refine Aj fun zB zbn zbx zbr zbi=>?_
 refine Cx fun zK zhK=>?_
 simp only [go_sem,Aw,ep02,eh02,es02,eu02,el02,ev02,ek02]
 repeat' (first|apply And.intro|intro _)
 refine zhK _ ?_
 refine Cx fun zK zhK=>?_
 simp only [go_sem,Aw,ep02,eh02,es02,eu02,el02,ev02,ek02]
 repeat' (first|apply And.intro|intro _)
 all_goals refine Cq (fun k=>k) (fun _ _=>rfl) (by first|rfl|(simp only [go_sem,Aw,ep02,eh02,es02,eu02,el02,ev02,ek02]<;>rfl)) ((a0r _ _).plain fun _ _ h=>h) ?_
 all_goals (rintro v m ⟨hR,hm⟩;subst hR;subst hm)
 all_goals refine And.intro (by first|rfl|simp only [go_sem,Aw,ep02,eh02,es02,eu02,el02,ev02,ek02]) (And.intro (by first|rfl|simp only [go_sem,Aw,ep02,eh02,es02,eu02,el02,ev02,ek02]) ?_)
 all_goals simp only [go_sem,Aw,ep02,eh02,es02,eu02,el02,ev02,ek02]
 all_goals repeat' (first|apply And.intro|intro _)
 refine zhK _ ?_
 refine Cx fun zK zhK=>?_
 simp only [go_sem,Aw,ep02,eh02,es02,eu02,el02,ev02,ek02]
 repeat' (first|apply And.intro|intro _)
 all_goals refine Ez (by first|rfl|(simp only [go_sem,Aw,ep02,eh02,es02,eu02,el02,ev02,ek02]<;>rfl)) (Dy _ _ _ (by repeat' (first|assumption|decide|apply Iy))) ?_
 all_goals simp only [go_sem,Aw,ep02,eh02,es02,eu02,el02,ev02,ek02]
 all_goals repeat' (first|apply And.intro|intro _)
 refine zhK _ ?_
 refine Cx fun zK zhK=>?_
 simp only [go_sem,Aw,ep02,eh02,es02,eu02,el02,ev02,ek02]
 repeat' (first|apply And.intro|intro _)
 refine zhK _ ?_
 refine Cx fun zK zhK=>?_
 simp only [go_sem,Aw,ep02,eh02,es02,eu02,el02,ev02,ek02]
 repeat' (first|apply And.intro|intro _)
 all_goals refine Ez (by first|rfl|(simp only [go_sem,Aw,ep02,eh02,es02,eu02,el02,ev02,ek02]<;>rfl)) (Dy _ _ _ (by repeat' (first|assumption|decide|apply Iy))) ?_
 all_goals simp only [go_sem,Aw,ep02,eh02,es02,eu02,el02,ev02,ek02]
 all_goals repeat' (first|apply And.intro|intro _)
 refine zhK _ ?_
 refine Av fun zK zhK=>?_
 simp only [go_sem,Aw,ep02,eh02,es02,eu02,el02,ev02,ek02]
 repeat' (first|apply And.intro|intro _)
 refine zhK _ ?_
 refine zbn _ ?_;clear zbn zbx zbr zbi
 refine zhN _ ?_;clear zhN zhM
 refine Av fun zK zhK=>?_
 simp only [go_sem,Aw,ep02,eh02,es02,eu02,el02,ev02,ek02]
 repeat' (first|apply And.intro|intro _)
 refine zhK _ ?_
 refine zhN _ ?_;clear zhN zhM
 refine Cv (x:=.seq (.region 7 _ _) _) [9,10,11,12,13,27,28,29,30,31,32,33,34,35,36,37,38,39,40,41,42,43,44,45,46,47,48,49,50,51,52,53,54,55,56,57,58,59,60,61,62,63] ?_
 simp only [go_sem,St.forget,fgt]
 refine Fq fun zN zM zhN zhM=>?_
 refine Cx fun zK zhK=>?_
 simp only [go_sem,Aw,ep03,eh03,es03,eu03,el03,ev03,ek03]
 repeat' (first|apply And.intro|intro _)
 refine zhK _ ?_
 refine Bz fun zN zM zhN zhM=>?_
 (refine Bv ?_ ?_;focus (first|rfl|(simp [go_sem,Aw,ep03,eh03,es03,eu03,el03,ev03,ek03];done)))
 refine Cw ?_
 refine zhN _ ?_;clear zhN zhM
 refine Bz fun zN zM zhN zhM=>?_
 refine Aj fun zB zbn zbx zbr zbi=>?_
 refine Cx fun zK zhK=>?_
 simp only [go_sem,Aw,ep03,eh03,es03,eu03,el03,ev03,ek03]
 repeat' (first|apply And.intro|intro _)
 refine zhK _ ?_
 refine Cx fun zK zhK=>?_
 simp only [go_sem,Aw,ep03,eh03,es03,eu03,el03,ev03,ek03]
 repeat' (first|apply And.intro|intro _)
 all_goals refine Cq (fun k=>k) (fun _ _=>rfl) (by first|rfl|(simp only [go_sem,Aw,ep03,eh03,es03,eu03,el03,ev03,ek03]<;>rfl)) ((a0r _ _).plain fun _ _ h=>h) ?_
 all_goals (rintro v m ⟨hR,hm⟩;subst hR;subst hm)
 all_goals refine And.intro (by first|rfl|simp only [go_sem,Aw,ep03,eh03,es03,eu03,el03,ev03,ek03]) (And.intro (by first|rfl|simp only [go_sem,Aw,ep03,eh03,es03,eu03,el03,ev03,ek03]) ?_)
 all_goals simp only [go_sem,Aw,ep03,eh03,es03,eu03,el03,ev03,ek03]
 all_goals repeat' (first|apply And.intro|intro _)
 refine zhK _ ?_
 refine Cx fun zK zhK=>?_
 simp only [go_sem,Aw,ep03,eh03,es03,eu03,el03,ev03,ek03]
 repeat' (first|apply And.intro|intro _)
 all_goals refine Ez (by first|rfl|(simp only [go_sem,Aw,ep03,eh03,es03,eu03,el03,ev03,ek03]<;>rfl)) (Dy _ _ _ (by repeat' (first|assumption|decide|apply Iy))) ?_
 all_goals simp only [go_sem,Aw,ep03,eh03,es03,eu03,el03,ev03,ek03]
 all_goals repeat' (first|apply And.intro|intro _)
 refine zhK _ ?_
 refine Cx fun zK zhK=>?_
 simp only [go_sem,Aw,ep03,eh03,es03,eu03,el03,ev03,ek03]
 repeat' (first|apply And.intro|intro _)
 refine zhK _ ?_
 refine Cx fun zK zhK=>?_
 simp only [go_sem,Aw,ep03,eh03,es03,eu03,el03,ev03,ek03]
 repeat' (first|apply And.intro|intro _)
 all_goals refine Ez (by first|rfl|(simp only [go_sem,Aw,ep03,eh03,es03,eu03,el03,ev03,ek03]<;>rfl)) (Dy _ _ _ (by repeat' (first|assumption|decide|apply Iy))) ?_
 all_goals simp only [go_sem,Aw,ep03,eh03,es03,eu03,el03,ev03,ek03]
 all_goals repeat' (first|apply And.intro|intro _)
 refine zhK _ ?_
 refine Av fun zK zhK=>?_
 simp only [go_sem,Aw,ep03,eh03,es03,eu03,el03,ev03,ek03]
 repeat' (first|apply And.intro|intro _)
 refine zhK _ ?_
 refine zbn _ ?_;clear zbn zbx zbr zbi
 refine zhN _ ?_;clear zhN zhM
 refine Av fun zK zhK=>?_
 simp only [go_sem,Aw,ep03,eh03,es03,eu03,el03,ev03,ek03]
 repeat' (first|apply And.intro|intro _)
 refine zhK _ ?_
 refine zhN _ ?_;clear zhN zhM
 refine Cv (x:=.seq (.region 7 _ _) _) [9,10,11,12,13,27,28,29,30,31,32,33,34,35,36,37,38,39,40,41,42,43,44,45,46,47,48,49,50,51,52,53,54,55,56,57,58,59,60,61,62,63] ?_
 simp only [go_sem,St.forget,fgt]
 refine Fq fun zN zM zhN zhM=>?_
 refine Cx fun zK zhK=>?_
 simp only [go_sem,Aw]
 repeat' (first|apply And.intro|intro _)
 refine zhK _ ?_
 refine Bz fun zN zM zhN zhM=>?_
 (refine Cy ?_ ?_;focus (first|rfl|(simp [go_sem,Aw];done)))
 refine Ey ?_
 refine zhM _ _ ?_;clear zhN zhM
 refine zhM _ _ ?_;clear zhN zhM
 refine zbx _ ?_;clear zbn zbx zbr zbi
 refine zhN _ ?_;clear zhN zhM
 refine Av fun zK zhK=>?_
 simp only [go_sem,Aw]
 repeat' (first|apply And.intro|intro _)
 refine zhK _ ?_
 refine zbn _ ?_;clear zbn zbx zbr zbi
 refine zhN _ ?_;clear zhN zhM
 refine Av fun zK zhK=>?_
 simp only [go_sem,Aw]
 repeat' (first|apply And.intro|intro _)
 refine zhK _ ?_
 refine zhN _ ?_;clear zhN zhM
 refine Cv (x:=.seq (.region 3 _ _) _) [6,7,8,9,10,11,12,13,22,23,24,25,26,27,28,29,30,31,32,33,34,35,36,37,38,39,40,41,42,43,44,45,46,47,48,49,50,51,52,53,54,55,56,57,58,59,60,61,62,63,64,65,66,67,68] ?_
 simp only [go_sem,St.forget,fgt]
 refine Fq fun zN zM zhN zhM=>?_
 refine Cx fun zK zhK=>?_
 simp only [go_sem,Aw]
 repeat' (first|apply And.intro|intro _)
 refine zhK _ ?_
 refine Bz fun zN zM zhN zhM=>?_
 (refine Bv ?_ ?_;focus (first|rfl|(simp [go_sem,Aw];done)))
 refine Cw ?_
 refine zhN _ ?_;clear zhN zhM
 refine Bz fun zN zM zhN zhM=>?_
 refine Aj fun zB zbn zbx zbr zbi=>?_
 refine Cx fun zK zhK=>?_
 simp only [go_sem,Aw]
 repeat' (first|apply And.intro|intro _)
 refine zhK _ ?_
 refine Cx fun zK zhK=>?_
 simp only [go_sem,Aw]
 repeat' (first|apply And.intro|intro _)
 refine zhK _ ?_
 refine Bz fun zN zM zhN zhM=>?_
 refine Cx fun zK zhK=>?_
 simp only [go_sem,Aw]
 repeat' (first|apply And.intro|intro _)
 refine zhK _ ?_
 refine Aj fun zB zbn zbx zbr zbi=>?_
 refine Fx (x:=.seq (.region 7 _ _) _) 5 ?_
 refine Fq fun zN zM zhN zhM=>?_
 refine Cx fun zK zhK=>?_
 simp only [go_sem,Aw,ep10,eh10,es10,eu10,el10,ev10,ek10]
 repeat' (first|apply And.intro|intro _)
 refine zhK _ ?_
 refine Bz fun zN zM zhN zhM=>?_
 (refine Bv ?_ ?_;focus (first|rfl|(simp [go_sem,Aw,ep10,eh10,es10,eu10,el10,ev10,ek10];done)))
 refine Cw ?_
 refine zhN _ ?_;clear zhN zhM
 refine Bz fun zN zM zhN zhM=>?_
 refine Aj fun zB zbn zbx zbr zbi=>?_
 refine Cx fun zK zhK=>?_
 simp only [go_sem,Aw,ep10,eh10,es10,eu10,el10,ev10,ek10]
 repeat' (first|apply And.intro|intro _)
 refine zhK _ ?_
 refine Cx fun zK zhK=>?_
 simp only [go_sem,Aw,ep10,eh10,es10,eu10,el10,ev10,ek10]
 repeat' (first|apply And.intro|intro _)
 all_goals refine Cq (fun k=>k) (fun _ _=>rfl) (by first|rfl|(simp only [go_sem,Aw,ep10,eh10,es10,eu10,el10,ev10,ek10]<;>rfl)) ((a0r _ _).plain fun _ _ h=>h) ?_
 all_goals (rintro v m ⟨hR,hm⟩;subst hR;subst hm)
 all_goals refine And.intro (by first|rfl|simp only [go_sem,Aw,ep10,eh10,es10,eu10,el10,ev10,ek10]) (And.intro (by first|rfl|simp only [go_sem,Aw,ep10,eh10,es10,eu10,el10,ev10,ek10]) ?_)
 all_goals simp only [go_sem,Aw,ep10,eh10,es10,eu10,el10,ev10,ek10]
 all_goals repeat' (first|apply And.intro|intro _)
 refine zhK _ ?_
 refine Cx fun zK zhK=>?_
 simp only [go_sem,Aw,ep10,eh10,es10,eu10,el10,ev10,ek10]
 repeat' (first|apply And.intro|intro _)
 all_goals refine Ez (by first|rfl|(simp only [go_sem,Aw,ep10,eh10,es10,eu10,el10,ev10,ek10]<;>rfl)) (Dy _ _ _ (by repeat' (first|assumption|decide|apply Iy))) ?_
 all_goals simp only [go_sem,Aw,ep10,eh10,es10,eu10,el10,ev10,ek10]
 all_goals repeat' (first|apply And.intro|intro _)
 refine zhK _ ?_
 refine Cx fun zK zhK=>?_
 simp only [go_sem,Aw,ep10,eh10,es10,eu10,el10,ev10,ek10]
 repeat' (first|apply And.intro|intro _)
 refine zhK _ ?_
 refine Cx fun zK zhK=>?_
 simp only [go_sem,Aw,ep10,eh10,es10,eu10,el10,ev10,ek10]
 repeat' (first|apply And.intro|intro _)
 all_goals refine Ez (by first|rfl|(simp only [go_sem,Aw,ep10,eh10,es10,eu10,el10,ev10,ek10]<;>rfl)) (Dy _ _ _ (by repeat' (first|assumption|decide|apply Iy))) ?_
 all_goals simp only [go_sem,Aw,ep10,eh10,es10,eu10,el10,ev10,ek10]
 all_goals repeat' (first|apply And.intro|intro _)
 refine zhK _ ?_
 refine Av fun zK zhK=>?_
 simp only [go_sem,Aw,ep10,eh10,es10,eu10,el10,ev10,ek10]
 repeat' (first|apply And.intro|intro _)
 refine zhK _ ?_
 refine zbn _ ?_;clear zbn zbx zbr zbi
 refine zhN _ ?_;clear zhN zhM
 refine Av fun zK zhK=>?_
 simp only [go_sem,Aw,ep10,eh10,es10,eu10,el10,ev10,ek10]
 repeat' (first|apply And.intro|intro _)
 refine zhK _ ?_
 refine zhN _ ?_;clear zhN zhM
 refine Cv (x:=.seq (.region 7 _ _) _) [9,10,11,12,13,27,28,29,30,31,32,33,34,35,36,37,38,39,40,41,42,43,44,45,46,47,48,49,50,51,52,53,54,55,56,57,58,59,60,61,62,63] ?_
 simp only [go_sem,St.forget,fgt]
 refine Fq fun zN zM zhN zhM=>?_
 refine Cx fun zK zhK=>?_
 simp only [go_sem,Aw,ep11,eh11,es11,eu11,el11,ev11,ek11]
 repeat' (first|apply And.intro|intro _)
 refine zhK _ ?_
 refine Bz fun zN zM zhN zhM=>?_
 (refine Bv ?_ ?_;focus (first|rfl|(simp [go_sem,Aw,ep11,eh11,es11,eu11,el11,ev11,ek11];done)))
 refine Cw ?_
 refine zhN _ ?_;clear zhN zhM
 refine Bz fun zN zM zhN zhM=>?_
 refine Aj fun zB zbn zbx zbr zbi=>?_
 refine Cx fun zK zhK=>?_
 simp only [go_sem,Aw,ep11,eh11,es11,eu11,el11,ev11,ek11]
 repeat' (first|apply And.intro|intro _)
 refine zhK _ ?_
 refine Cx fun zK zhK=>?_
 simp only [go_sem,Aw,ep11,eh11,es11,eu11,el11,ev11,ek11]
 repeat' (first|apply And.intro|intro _)
 all_goals refine Cq (fun k=>k) (fun _ _=>rfl) (by first|rfl|(simp only [go_sem,Aw,ep11,eh11,es11,eu11,el11,ev11,ek11]<;>rfl)) ((a0r _ _).plain fun _ _ h=>h) ?_
 all_goals (rintro v m ⟨hR,hm⟩;subst hR;subst hm)
 all_goals refine And.intro (by first|rfl|simp only [go_sem,Aw,ep11,eh11,es11,eu11,el11,ev11,ek11]) (And.intro (by first|rfl|simp only [go_sem,Aw,ep11,eh11,es11,eu11,el11,ev11,ek11]) ?_)
 all_goals simp only [go_sem,Aw,ep11,eh11,es11,eu11,el11,ev11,ek11]
 all_goals repeat' (first|apply And.intro|intro _)
 refine zhK _ ?_
 refine Cx fun zK zhK=>?_
 simp only [go_sem,Aw,ep11,eh11,es11,eu11,el11,ev11,ek11]
 repeat' (first|apply And.intro|intro _)
 all_goals refine Ez (by first|rfl|(simp only [go_sem,Aw,ep11,eh11,es11,eu11,el11,ev11,ek11]<;>rfl)) (Dy _ _ _ (by repeat' (first|assumption|decide|apply Iy))) ?_
 all_goals simp only [go_sem,Aw,ep11,eh11,es11,eu11,el11,ev11,ek11]
 all_goals repeat' (first|apply And.intro|intro _)
 refine zhK _ ?_
 refine Cx fun zK zhK=>?_
 simp only [go_sem,Aw,ep11,eh11,es11,eu11,el11,ev11,ek11]
 repeat' (first|apply And.intro|intro _)
 refine zhK _ ?_
 refine Cx fun zK zhK=>?_
 simp only [go_sem,Aw,ep11,eh11,es11,eu11,el11,ev11,ek11]
 repeat' (first|apply And.intro|intro _)
 all_goals refine Ez (by first|rfl|(simp only [go_sem,Aw,ep11,eh11,es11,eu11,el11,ev11,ek11]<;>rfl)) (Dy _ _ _ (by repeat' (first|assumption|decide|apply Iy))) ?_
 all_goals simp only [go_sem,Aw,ep11,eh11,es11,eu11,el11,ev11,ek11]
 all_goals repeat' (first|apply And.intro|intro _)
 refine zhK _ ?_
 refine Av fun zK zhK=>?_
 simp only [go_sem,Aw,ep11,eh11,es11,eu11,el11,ev11,ek11]
 repeat' (first|apply And.intro|intro _)
 refine zhK _ ?_
 refine zbn _ ?_;clear zbn zbx zbr zbi
 refine zhN _ ?_;clear zhN zhM
 refine Av fun zK zhK=>?_
 simp only [go_sem,Aw,ep11,eh11,es11,eu11,el11,ev11,ek11]
 repeat' (first|apply And.intro|intro _)
 refine zhK _ ?_
 refine zhN _ ?_;clear zhN zhM
 refine Cv (x:=.seq (.region 7 _ _) _) [9,10,11,12,13,27,28,29,30,31,32,33,34,35,36,37,38,39,40,41,42,43,44,45,46,47,48,49,50,51,52,53,54,55,56,57,58,59,60,61,62,63] ?_
 simp only [go_sem,St.forget,fgt]
 refine Fq fun zN zM zhN zhM=>?_
 refine Cx fun zK zhK=>?_
 simp only [go_sem,Aw,ep12,eh12,es12,eu12,el12,ev12,ek12]
 repeat' (first|apply And.intro|intro _)
 refine zhK _ ?_
 refine Bz fun zN zM zhN zhM=>?_
 (refine Bv ?_ ?_;focus (first|rfl|(simp [go_sem,Aw,ep12,eh12,es12,eu12,el12,ev12,ek12];done)))
 refine Cw ?_
 refine zhN _ ?_;clear zhN zhM
 refine Bz fun zN zM zhN zhM=>?_
 refine Aj fun zB zbn zbx zbr zbi=>?_
 refine Cx fun zK zhK=>?_
 simp only [go_sem,Aw,ep12,eh12,es12,eu12,el12,ev12,ek12]
 repeat' (first|apply And.intro|intro _)
 refine zhK _ ?_
 refine Cx fun zK zhK=>?_
 simp only [go_sem,Aw,ep12,eh12,es12,eu12,el12,ev12,ek12]
 repeat' (first|apply And.intro|intro _)
 all_goals refine Cq (fun k=>k) (fun _ _=>rfl) (by first|rfl|(simp only [go_sem,Aw,ep12,eh12,es12,eu12,el12,ev12,ek12]<;>rfl)) ((a0r _ _).plain fun _ _ h=>h) ?_
 all_goals (rintro v m ⟨hR,hm⟩;subst hR;subst hm)
 all_goals refine And.intro (by first|rfl|simp only [go_sem,Aw,ep12,eh12,es12,eu12,el12,ev12,ek12]) (And.intro (by first|rfl|simp only [go_sem,Aw,ep12,eh12,es12,eu12,el12,ev12,ek12]) ?_)
 all_goals simp only [go_sem,Aw,ep12,eh12,es12,eu12,el12,ev12,ek12]
 all_goals repeat' (first|apply And.intro|intro _)
 refine zhK _ ?_
 refine Cx fun zK zhK=>?_
 simp only [go_sem,Aw,ep12,eh12,es12,eu12,el12,ev12,ek12]
 repeat' (first|apply And.intro|intro _)
 all_goals refine Ez (by first|rfl|(simp only [go_sem,Aw,ep12,eh12,es12,eu12,el12,ev12,ek12]<;>rfl)) (Dy _ _ _ (by repeat' (first|assumption|decide|apply Iy))) ?_
 all_goals simp only [go_sem,Aw,ep12,eh12,es12,eu12,el12,ev12,ek12]
 all_goals repeat' (first|apply And.intro|intro _)
 refine zhK _ ?_
 refine Cx fun zK zhK=>?_
 simp only [go_sem,Aw,ep12,eh12,es12,eu12,el12,ev12,ek12]
 repeat' (first|apply And.intro|intro _)
 refine zhK _ ?_
 refine Cx fun zK zhK=>?_
 simp only [go_sem,Aw,ep12,eh12,es12,eu12,el12,ev12,ek12]
 repeat' (first|apply And.intro|intro _)
 all_goals refine Ez (by first|rfl|(simp only [go_sem,Aw,ep12,eh12,es12,eu12,el12,ev12,ek12]<;>rfl)) (Dy _ _ _ (by repeat' (first|assumption|decide|apply Iy))) ?_
 all_goals simp only [go_sem,Aw,ep12,eh12,es12,eu12,el12,ev12,ek12]
 all_goals repeat' (first|apply And.intro|intro _)
 refine zhK _ ?_
 refine Av fun zK zhK=>?_
 simp only [go_sem,Aw,ep12,eh12,es12,eu12,el12,ev12,ek12]
 repeat' (first|apply And.intro|intro _)
 refine zhK _ ?_
 refine zbn _ ?_;clear zbn zbx zbr zbi
 refine zhN _ ?_;clear zhN zhM
 refine Av fun zK zhK=>?_
 simp only [go_sem,Aw,ep12,eh12,es12,eu12,el12,ev12,ek12]
 repeat' (first|apply And.intro|intro _)
 refine zhK _ ?_
 refine zhN _ ?_;clear zhN zhM
 refine Cv (x:=.seq (.region 7 _ _) _) [9,10,11,12,13,27,28,29,30,31,32,33,34,35,36,37,38,39,40,41,42,43,44,45,46,47,48,49,50,51,52,53,54,55,56,57,58,59,60,61,62,63] ?_
 simp only [go_sem,St.forget,fgt]
 refine Fq fun zN zM zhN zhM=>?_
 refine Cx fun zK zhK=>?_
 simp only [go_sem,Aw,ep13,eh13,es13,eu13,el13,ev13,ek13]
 repeat' (first|apply And.intro|intro _)
 refine zhK _ ?_
 refine Bz fun zN zM zhN zhM=>?_
 (refine Bv ?_ ?_;focus (first|rfl|(simp [go_sem,Aw,ep13,eh13,es13,eu13,el13,ev13,ek13];done)))
 refine Cw ?_
 refine zhN _ ?_;clear zhN zhM
 refine Bz fun zN zM zhN zhM=>?_
 refine Aj fun zB zbn zbx zbr zbi=>?_
 refine Cx fun zK zhK=>?_
 simp only [go_sem,Aw,ep13,eh13,es13,eu13,el13,ev13,ek13]
 repeat' (first|apply And.intro|intro _)
 refine zhK _ ?_
 refine Cx fun zK zhK=>?_
 simp only [go_sem,Aw,ep13,eh13,es13,eu13,el13,ev13,ek13]
 repeat' (first|apply And.intro|intro _)
 all_goals refine Cq (fun k=>k) (fun _ _=>rfl) (by first|rfl|(simp only [go_sem,Aw,ep13,eh13,es13,eu13,el13,ev13,ek13]<;>rfl)) ((a0r _ _).plain fun _ _ h=>h) ?_
 all_goals (rintro v m ⟨hR,hm⟩;subst hR;subst hm)
 all_goals refine And.intro (by first|rfl|simp only [go_sem,Aw,ep13,eh13,es13,eu13,el13,ev13,ek13]) (And.intro (by first|rfl|simp only [go_sem,Aw,ep13,eh13,es13,eu13,el13,ev13,ek13]) ?_)
 all_goals simp only [go_sem,Aw,ep13,eh13,es13,eu13,el13,ev13,ek13]
 all_goals repeat' (first|apply And.intro|intro _)
 refine zhK _ ?_
 refine Cx fun zK zhK=>?_
 simp only [go_sem,Aw,ep13,eh13,es13,eu13,el13,ev13,ek13]
 repeat' (first|apply And.intro|intro _)
 all_goals refine Ez (by first|rfl|(simp only [go_sem,Aw,ep13,eh13,es13,eu13,el13,ev13,ek13]<;>rfl)) (Dy _ _ _ (by repeat' (first|assumption|decide|apply Iy))) ?_
 all_goals simp only [go_sem,Aw,ep13,eh13,es13,eu13,el13,ev13,ek13]
 all_goals repeat' (first|apply And.intro|intro _)
 refine zhK _ ?_
 refine Cx fun zK zhK=>?_
 simp only [go_sem,Aw,ep13,eh13,es13,eu13,el13,ev13,ek13]
 repeat' (first|apply And.intro|intro _)
 refine zhK _ ?_
 refine Cx fun zK zhK=>?_
 simp only [go_sem,Aw,ep13,eh13,es13,eu13,el13,ev13,ek13]
 repeat' (first|apply And.intro|intro _)
 all_goals refine Ez (by first|rfl|(simp only [go_sem,Aw,ep13,eh13,es13,eu13,el13,ev13,ek13]<;>rfl)) (Dy _ _ _ (by repeat' (first|assumption|decide|apply Iy))) ?_
 all_goals simp only [go_sem,Aw,ep13,eh13,es13,eu13,el13,ev13,ek13]
 all_goals repeat' (first|apply And.intro|intro _)
 refine zhK _ ?_
 refine Av fun zK zhK=>?_
 simp only [go_sem,Aw,ep13,eh13,es13,eu13,el13,ev13,ek13]
 repeat' (first|apply And.intro|intro _)
 refine zhK _ ?_
 refine zbn _ ?_;clear zbn zbx zbr zbi
 refine zhN _ ?_;clear zhN zhM
 refine Av fun zK zhK=>?_
 simp only [go_sem,Aw,ep13,eh13,es13,eu13,el13,ev13,ek13]
 repeat' (first|apply And.intro|intro _)
 refine zhK _ ?_
 refine zhN _ ?_;clear zhN zhM
 refine Cv (x:=.seq (.region 7 _ _) _) [9,10,11,12,13,27,28,29,30,31,32,33,34,35,36,37,38,39,40,41,42,43,44,45,46,47,48,49,50,51,52,53,54,55,56,57,58,59,60,61,62,63] ?_
 simp only [go_sem,St.forget,fgt]
 refine Fq fun zN zM zhN zhM=>?_
 refine Cx fun zK zhK=>?_
 simp only [go_sem,Aw]
 repeat' (first|apply And.intro|intro _)
 refine zhK _ ?_
 refine Bz fun zN zM zhN zhM=>?_
 (refine Cy ?_ ?_;focus (first|rfl|(simp [go_sem,Aw];done)))
 refine Ey ?_
 refine zhM _ _ ?_;clear zhN zhM
 refine zhM _ _ ?_;clear zhN zhM
 refine zbx _ ?_;clear zbn zbx zbr zbi
 refine zhN _ ?_;clear zhN zhM
 refine Av fun zK zhK=>?_
 simp only [go_sem,Aw]
 repeat' (first|apply And.intro|intro _)
 refine zhK _ ?_
 refine zbn _ ?_;clear zbn zbx zbr zbi
 refine zhN _ ?_;clear zhN zhM
 refine Av fun zK zhK=>?_
 simp only [go_sem,Aw]
 repeat' (first|apply And.intro|intro _)
 refine zhK _ ?_
 refine zhN _ ?_;clear zhN zhM
 refine Cv (x:=.seq (.region 3 _ _) _) [6,7,8,9,10,11,12,13,22,23,24,25,26,27,28,29,30,31,32,33,34,35,36,37,38,39,40,41,42,43,44,45,46,47,48,49,50,51,52,53,54,55,56,57,58,59,60,61,62,63,64,65,66,67,68] ?_
 simp only [go_sem,St.forget,fgt]
 refine Fq fun zN zM zhN zhM=>?_
 refine Cx fun zK zhK=>?_
 simp only [go_sem,Aw]
 repeat' (first|apply And.intro|intro _)
 refine zhK _ ?_
 refine Bz fun zN zM zhN zhM=>?_
 (refine Bv ?_ ?_;focus (first|rfl|(simp [go_sem,Aw];done)))
 refine Cw ?_
 refine zhN _ ?_;clear zhN zhM
 refine Bz fun zN zM zhN zhM=>?_
 refine Aj fun zB zbn zbx zbr zbi=>?_
 refine Cx fun zK zhK=>?_
 simp only [go_sem,Aw]
 repeat' (first|apply And.intro|intro _)
 refine zhK _ ?_
 refine Cx fun zK zhK=>?_
 simp only [go_sem,Aw]
 repeat' (first|apply And.intro|intro _)
 refine zhK _ ?_
 refine Bz fun zN zM zhN zhM=>?_
 refine Cx fun zK zhK=>?_
 simp only [go_sem,Aw]
 repeat' (first|apply And.intro|intro _)
 refine zhK _ ?_
 refine Aj fun zB zbn zbx zbr zbi=>?_
 refine Fx (x:=.seq (.region 7 _ _) _) 5 ?_
 refine Fq fun zN zM zhN zhM=>?_
 refine Cx fun zK zhK=>?_
 simp only [go_sem,Aw,ep20,eh20,es20,eu20,el20,ev20,ek20]
 repeat' (first|apply And.intro|intro _)
 refine zhK _ ?_
 refine Bz fun zN zM zhN zhM=>?_
 (refine Bv ?_ ?_;focus (first|rfl|(simp [go_sem,Aw,ep20,eh20,es20,eu20,el20,ev20,ek20];done)))
 refine Cw ?_
 refine zhN _ ?_;clear zhN zhM
 refine Bz fun zN zM zhN zhM=>?_
 refine Aj fun zB zbn zbx zbr zbi=>?_
 refine Cx fun zK zhK=>?_
 simp only [go_sem,Aw,ep20,eh20,es20,eu20,el20,ev20,ek20]
 repeat' (first|apply And.intro|intro _)
 refine zhK _ ?_
 refine Cx fun zK zhK=>?_
 simp only [go_sem,Aw,ep20,eh20,es20,eu20,el20,ev20,ek20]
 repeat' (first|apply And.intro|intro _)
 all_goals refine Cq (fun k=>k) (fun _ _=>rfl) (by first|rfl|(simp only [go_sem,Aw,ep20,eh20,es20,eu20,el20,ev20,ek20]<;>rfl)) ((a0r _ _).plain fun _ _ h=>h) ?_
 all_goals (rintro v m ⟨hR,hm⟩;subst hR;subst hm)
 all_goals refine And.intro (by first|rfl|simp only [go_sem,Aw,ep20,eh20,es20,eu20,el20,ev20,ek20]) (And.intro (by first|rfl|simp only [go_sem,Aw,ep20,eh20,es20,eu20,el20,ev20,ek20]) ?_)
 all_goals simp only [go_sem,Aw,ep20,eh20,es20,eu20,el20,ev20,ek20]
 all_goals repeat' (first|apply And.intro|intro _)
 refine zhK _ ?_
 refine Cx fun zK zhK=>?_
 simp only [go_sem,Aw,ep20,eh20,es20,eu20,el20,ev20,ek20]
 repeat' (first|apply And.intro|intro _)
 all_goals refine Ez (by first|rfl|(simp only [go_sem,Aw,ep20,eh20,es20,eu20,el20,ev20,ek20]<;>rfl)) (Dy _ _ _ (by repeat' (first|assumption|decide|apply Iy))) ?_
 all_goals simp only [go_sem,Aw,ep20,eh20,es20,eu20,el20,ev20,ek20]
 all_goals repeat' (first|apply And.intro|intro _)
 refine zhK _ ?_
 refine Cx fun zK zhK=>?_
 simp only [go_sem,Aw,ep20,eh20,es20,eu20,el20,ev20,ek20]
 repeat' (first|apply And.intro|intro _)
 refine zhK _ ?_
 refine Cx fun zK zhK=>?_
 simp only [go_sem,Aw,ep20,eh20,es20,eu20,el20,ev20,ek20]
 repeat' (first|apply And.intro|intro _)
 all_goals refine Ez (by first|rfl|(simp only [go_sem,Aw,ep20,eh20,es20,eu20,el20,ev20,ek20]<;>rfl)) (Dy _ _ _ (by repeat' (first|assumption|decide|apply Iy))) ?_
 all_goals simp only [go_sem,Aw,ep20,eh20,es20,eu20,el20,ev20,ek20]
 all_goals repeat' (first|apply And.intro|intro _)
 refine zhK _ ?_
 refine Av fun zK zhK=>?_
 simp only [go_sem,Aw,ep20,eh20,es20,eu20,el20,ev20,ek20]
 repeat' (first|apply And.intro|intro _)
 refine zhK _ ?_
 refine zbn _ ?_;clear zbn zbx zbr zbi
 refine zhN _ ?_;clear zhN zhM
 refine Av fun zK zhK=>?_
 simp only [go_sem,Aw,ep20,eh20,es20,eu20,el20,ev20,ek20]
 repeat' (first|apply And.intro|intro _)
 refine zhK _ ?_
 refine zhN _ ?_;clear zhN zhM
 refine Cv (x:=.seq (.region 7 _ _) _) [9,10,11,12,13,27,28,29,30,31,32,33,34,35,36,37,38,39,40,41,42,43,44,45,46,47,48,49,50,51,52,53,54,55,56,57,58,59,60,61,62,63] ?_
 simp only [go_sem,St.forget,fgt]
 refine Fq fun zN zM zhN zhM=>?_
 refine Cx fun zK zhK=>?_
 simp only [go_sem,Aw,ep21,eh21,es21,eu21,el21,ev21,ek21]
 repeat' (first|apply And.intro|intro _)
 refine zhK _ ?_
 refine Bz fun zN zM zhN zhM=>?_
 (refine Bv ?_ ?_;focus (first|rfl|(simp [go_sem,Aw,ep21,eh21,es21,eu21,el21,ev21,ek21];done)))
 refine Cw ?_
 refine zhN _ ?_;clear zhN zhM
 refine Bz fun zN zM zhN zhM=>?_
 refine Aj fun zB zbn zbx zbr zbi=>?_
 refine Cx fun zK zhK=>?_
 simp only [go_sem,Aw,ep21,eh21,es21,eu21,el21,ev21,ek21]
 repeat' (first|apply And.intro|intro _)
 refine zhK _ ?_
 refine Cx fun zK zhK=>?_
 simp only [go_sem,Aw,ep21,eh21,es21,eu21,el21,ev21,ek21]
 repeat' (first|apply And.intro|intro _)
 all_goals refine Cq (fun k=>k) (fun _ _=>rfl) (by first|rfl|(simp only [go_sem,Aw,ep21,eh21,es21,eu21,el21,ev21,ek21]<;>rfl)) ((a0r _ _).plain fun _ _ h=>h) ?_
 all_goals (rintro v m ⟨hR,hm⟩;subst hR;subst hm)
 all_goals refine And.intro (by first|rfl|simp only [go_sem,Aw,ep21,eh21,es21,eu21,el21,ev21,ek21]) (And.intro (by first|rfl|simp only [go_sem,Aw,ep21,eh21,es21,eu21,el21,ev21,ek21]) ?_)
 all_goals simp only [go_sem,Aw,ep21,eh21,es21,eu21,el21,ev21,ek21]
 all_goals repeat' (first|apply And.intro|intro _)
 refine zhK _ ?_
 refine Cx fun zK zhK=>?_
 simp only [go_sem,Aw,ep21,eh21,es21,eu21,el21,ev21,ek21]
 repeat' (first|apply And.intro|intro _)
 all_goals refine Ez (by first|rfl|(simp only [go_sem,Aw,ep21,eh21,es21,eu21,el21,ev21,ek21]<;>rfl)) (Dy _ _ _ (by repeat' (first|assumption|decide|apply Iy))) ?_
 all_goals simp only [go_sem,Aw,ep21,eh21,es21,eu21,el21,ev21,ek21]
 all_goals repeat' (first|apply And.intro|intro _)
 refine zhK _ ?_
 refine Cx fun zK zhK=>?_
 simp only [go_sem,Aw,ep21,eh21,es21,eu21,el21,ev21,ek21]
 repeat' (first|apply And.intro|intro _)
 refine zhK _ ?_
 refine Cx fun zK zhK=>?_
 simp only [go_sem,Aw,ep21,eh21,es21,eu21,el21,ev21,ek21]
 repeat' (first|apply And.intro|intro _)
 all_goals refine Ez (by first|rfl|(simp only [go_sem,Aw,ep21,eh21,es21,eu21,el21,ev21,ek21]<;>rfl)) (Dy _ _ _ (by repeat' (first|assumption|decide|apply Iy))) ?_
 all_goals simp only [go_sem,Aw,ep21,eh21,es21,eu21,el21,ev21,ek21]
 all_goals repeat' (first|apply And.intro|intro _)
 refine zhK _ ?_
 refine Av fun zK zhK=>?_
 simp only [go_sem,Aw,ep21,eh21,es21,eu21,el21,ev21,ek21]
 repeat' (first|apply And.intro|intro _)
 refine zhK _ ?_
 refine zbn _ ?_;clear zbn zbx zbr zbi
 refine zhN _ ?_;clear zhN zhM
 refine Av fun zK zhK=>?_
 simp only [go_sem,Aw,ep21,eh21,es21,eu21,el21,ev21,ek21]
 repeat' (first|apply And.intro|intro _)
 refine zhK _ ?_
 refine zhN _ ?_;clear zhN zhM
 refine Cv (x:=.seq (.region 7 _ _) _) [9,10,11,12,13,27,28,29,30,31,32,33,34,35,36,37,38,39,40,41,42,43,44,45,46,47,48,49,50,51,52,53,54,55,56,57,58,59,60,61,62,63] ?_
 simp only [go_sem,St.forget,fgt]
 refine Fq fun zN zM zhN zhM=>?_
 refine Cx fun zK zhK=>?_
 simp only [go_sem,Aw,ep22,eh22,es22,eu22,el22,ev22,ek22]
 repeat' (first|apply And.intro|intro _)
 refine zhK _ ?_
 refine Bz fun zN zM zhN zhM=>?_
 (refine Bv ?_ ?_;focus (first|rfl|(simp [go_sem,Aw,ep22,eh22,es22,eu22,el22,ev22,ek22];done)))
 refine Cw ?_
 refine zhN _ ?_;clear zhN zhM
 refine Bz fun zN zM zhN zhM=>?_
 refine Aj fun zB zbn zbx zbr zbi=>?_
 refine Cx fun zK zhK=>?_
 simp only [go_sem,Aw,ep22,eh22,es22,eu22,el22,ev22,ek22]
 repeat' (first|apply And.intro|intro _)
 refine zhK _ ?_
 refine Cx fun zK zhK=>?_
 simp only [go_sem,Aw,ep22,eh22,es22,eu22,el22,ev22,ek22]
 repeat' (first|apply And.intro|intro _)
 all_goals refine Cq (fun k=>k) (fun _ _=>rfl) (by first|rfl|(simp only [go_sem,Aw,ep22,eh22,es22,eu22,el22,ev22,ek22]<;>rfl)) ((a0r _ _).plain fun _ _ h=>h) ?_
 all_goals (rintro v m ⟨hR,hm⟩;subst hR;subst hm)
 all_goals refine And.intro (by first|rfl|simp only [go_sem,Aw,ep22,eh22,es22,eu22,el22,ev22,ek22]) (And.intro (by first|rfl|simp only [go_sem,Aw,ep22,eh22,es22,eu22,el22,ev22,ek22]) ?_)
 all_goals simp only [go_sem,Aw,ep22,eh22,es22,eu22,el22,ev22,ek22]
 all_goals repeat' (first|apply And.intro|intro _)
 refine zhK _ ?_
 refine Cx fun zK zhK=>?_
 simp only [go_sem,Aw,ep22,eh22,es22,eu22,el22,ev22,ek22]
 repeat' (first|apply And.intro|intro _)
 all_goals refine Ez (by first|rfl|(simp only [go_sem,Aw,ep22,eh22,es22,eu22,el22,ev22,ek22]<;>rfl)) (Dy _ _ _ (by repeat' (first|assumption|decide|apply Iy))) ?_
 all_goals simp only [go_sem,Aw,ep22,eh22,es22,eu22,el22,ev22,ek22]
 all_goals repeat' (first|apply And.intro|intro _)
 refine zhK _ ?_
 refine Cx fun zK zhK=>?_
 simp only [go_sem,Aw,ep22,eh22,es22,eu22,el22,ev22,ek22]
 repeat' (first|apply And.intro|intro _)
 refine zhK _ ?_
 refine Cx fun zK zhK=>?_
 simp only [go_sem,Aw,ep22,eh22,es22,eu22,el22,ev22,ek22]
 repeat' (first|apply And.intro|intro _)
 all_goals refine Ez (by first|rfl|(simp only [go_sem,Aw,ep22,eh22,es22,eu22,el22,ev22,ek22]<;>rfl)) (Dy _ _ _ (by repeat' (first|assumption|decide|apply Iy))) ?_
 all_goals simp only [go_sem,Aw,ep22,eh22,es22,eu22,el22,ev22,ek22]
 all_goals repeat' (first|apply And.intro|intro _)
 refine zhK _ ?_
 refine Av fun zK zhK=>?_
 simp only [go_sem,Aw,ep22,eh22,es22,eu22,el22,ev22,ek22]
 repeat' (first|apply And.intro|intro _)
 refine zhK _ ?_
 refine zbn _ ?_;clear zbn zbx zbr zbi
 refine zhN _ ?_;clear zhN zhM
 refine Av fun zK zhK=>?_
 simp only [go_sem,Aw,ep22,eh22,es22,eu22,el22,ev22,ek22]
 repeat' (first|apply And.intro|intro _)
 refine zhK _ ?_
 refine zhN _ ?_;clear zhN zhM
 refine Cv (x:=.seq (.region 7 _ _) _) [9,10,11,12,13,27,28,29,30,31,32,33,34,35,36,37,38,39,40,41,42,43,44,45,46,47,48,49,50,51,52,53,54,55,56,57,58,59,60,61,62,63] ?_
 simp only [go_sem,St.forget,fgt]
 refine Fq fun zN zM zhN zhM=>?_
 refine Cx fun zK zhK=>?_
 simp only [go_sem,Aw,ep23,eh23,es23,eu23,el23,ev23,ek23]
 repeat' (first|apply And.intro|intro _)
 refine zhK _ ?_
 refine Bz fun zN zM zhN zhM=>?_
 (refine Bv ?_ ?_;focus (first|rfl|(simp [go_sem,Aw,ep23,eh23,es23,eu23,el23,ev23,ek23];done)))
 refine Cw ?_
 refine zhN _ ?_;clear zhN zhM
 refine Bz fun zN zM zhN zhM=>?_
 refine Aj fun zB zbn zbx zbr zbi=>?_
 refine Cx fun zK zhK=>?_
 simp only [go_sem,Aw,ep23,eh23,es23,eu23,el23,ev23,ek23]
 repeat' (first|apply And.intro|intro _)
 refine zhK _ ?_
 refine Cx fun zK zhK=>?_
 simp only [go_sem,Aw,ep23,eh23,es23,eu23,el23,ev23,ek23]
 repeat' (first|apply And.intro|intro _)
 all_goals refine Cq (fun k=>k) (fun _ _=>rfl) (by first|rfl|(simp only [go_sem,Aw,ep23,eh23,es23,eu23,el23,ev23,ek23]<;>rfl)) ((a0r _ _).plain fun _ _ h=>h) ?_
 all_goals (rintro v m ⟨hR,hm⟩;subst hR;subst hm)
 all_goals refine And.intro (by first|rfl|simp only [go_sem,Aw,ep23,eh23,es23,eu23,el23,ev23,ek23]) (And.intro (by first|rfl|simp only [go_sem,Aw,ep23,eh23,es23,eu23,el23,ev23,ek23]) ?_)
 all_goals simp only [go_sem,Aw,ep23,eh23,es23,eu23,el23,ev23,ek23]
 all_goals repeat' (first|apply And.intro|intro _)
 refine zhK _ ?_
 refine Cx fun zK zhK=>?_
 simp only [go_sem,Aw,ep23,eh23,es23,eu23,el23,ev23,ek23]
 repeat' (first|apply And.intro|intro _)
 all_goals refine Ez (by first|rfl|(simp only [go_sem,Aw,ep23,eh23,es23,eu23,el23,ev23,ek23]<;>rfl)) (Dy _ _ _ (by repeat' (first|assumption|decide|apply Iy))) ?_
 all_goals simp only [go_sem,Aw,ep23,eh23,es23,eu23,el23,ev23,ek23]
 all_goals repeat' (first|apply And.intro|intro _)
 refine zhK _ ?_
 refine Cx fun zK zhK=>?_
 simp only [go_sem,Aw,ep23,eh23,es23,eu23,el23,ev23,ek23]
 repeat' (first|apply And.intro|intro _)
 refine zhK _ ?_
 refine Cx fun zK zhK=>?_
 simp only [go_sem,Aw,ep23,eh23,es23,eu23,el23,ev23,ek23]
 repeat' (first|apply And.intro|intro _)
 all_goals refine Ez (by first|rfl|(simp only [go_sem,Aw,ep23,eh23,es23,eu23,el23,ev23,ek23]<;>rfl)) (Dy _ _ _ (by repeat' (first|assumption|decide|apply Iy))) ?_
 all_goals simp only [go_sem,Aw,ep23,eh23,es23,eu23,el23,ev23,ek23]
 all_goals repeat' (first|apply And.intro|intro _)
 refine zhK _ ?_
 refine Av fun zK zhK=>?_
 simp only [go_sem,Aw,ep23,eh23,es23,eu23,el23,ev23,ek23]
 repeat' (first|apply And.intro|intro _)
 refine zhK _ ?_
 refine zbn _ ?_;clear zbn zbx zbr zbi
 refine zhN _ ?_;clear zhN zhM
 refine Av fun zK zhK=>?_
 simp only [go_sem,Aw,ep23,eh23,es23,eu23,el23,ev23,ek23]
 repeat' (first|apply And.intro|intro _)
 refine zhK _ ?_
 refine zhN _ ?_;clear zhN zhM
 refine Cv (x:=.seq (.region 7 _ _) _) [9,10,11,12,13,27,28,29,30,31,32,33,34,35,36,37,38,39,40,41,42,43,44,45,46,47,48,49,50,51,52,53,54,55,56,57,58,59,60,61,62,63] ?_
 simp only [go_sem,St.forget,fgt]
 refine Fq fun zN zM zhN zhM=>?_
 refine Cx fun zK zhK=>?_
 simp only [go_sem,Aw]
 repeat' (first|apply And.intro|intro _)
 refine zhK _ ?_
 refine Bz fun zN zM zhN zhM=>?_
 (refine Cy ?_ ?_;focus (first|rfl|(simp [go_sem,Aw];done)))
 refine Ey ?_
 refine zhM _ _ ?_;clear zhN zhM
 refine zhM _ _ ?_;clear zhN zhM
 refine zbx _ ?_;clear zbn zbx zbr zbi
 refine zhN _ ?_;clear zhN zhM
 refine Av fun zK zhK=>?_
 simp only [go_sem,Aw]
 repeat' (first|apply And.intro|intro _)
 refine zhK _ ?_
 refine zbn _ ?_;clear zbn zbx zbr zbi
 refine zhN _ ?_;clear zhN zhM
 refine Av fun zK zhK=>?_
 simp only [go_sem,Aw]
 repeat' (first|apply And.intro|intro _)
 refine zhK _ ?_
 refine zhN _ ?_;clear zhN zhM
 refine Cv (x:=.seq (.region 3 _ _) _) [6,7,8,9,10,11,12,13,22,23,24,25,26,27,28,29,30,31,32,33,34,35,36,37,38,39,40,41,42,43,44,45,46,47,48,49,50,51,52,53,54,55,56,57,58,59,60,61,62,63,64,65,66,67,68] ?_
 simp only [go_sem,St.forget,fgt]
 refine Fq fun zN zM zhN zhM=>?_
 refine Cx fun zK zhK=>?_
 simp only [go_sem,Aw]
 repeat' (first|apply And.intro|intro _)
 refine zhK _ ?_
 refine Bz fun zN zM zhN zhM=>?_
 (refine Bv ?_ ?_;focus (first|rfl|(simp [go_sem,Aw];done)))
 refine Cw ?_
 refine zhN _ ?_;clear zhN zhM
 refine Bz fun zN zM zhN zhM=>?_
 refine Aj fun zB zbn zbx zbr zbi=>?_
 refine Cx fun zK zhK=>?_
 simp only [go_sem,Aw]
 repeat' (first|apply And.intro|intro _)
 refine zhK _ ?_
 refine Cx fun zK zhK=>?_
 simp only [go_sem,Aw]
 repeat' (first|apply And.intro|intro _)
 refine zhK _ ?_
 refine Bz fun zN zM zhN zhM=>?_
 refine Cx fun zK zhK=>?_
 simp only [go_sem,Aw]
 repeat' (first|apply And.intro|intro _)
 refine zhK _ ?_
 refine Aj fun zB zbn zbx zbr zbi=>?_
 refine Fx (x:=.seq (.region 7 _ _) _) 5 ?_
 refine Fq fun zN zM zhN zhM=>?_
 refine Cx fun zK zhK=>?_
 simp only [go_sem,Aw,ep30,eh30,es30,eu30,el30,ev30,ek30]
 repeat' (first|apply And.intro|intro _)
 refine zhK _ ?_
 refine Bz fun zN zM zhN zhM=>?_
 (refine Bv ?_ ?_;focus (first|rfl|(simp [go_sem,Aw,ep30,eh30,es30,eu30,el30,ev30,ek30];done)))
 refine Cw ?_
 refine zhN _ ?_;clear zhN zhM
 refine Bz fun zN zM zhN zhM=>?_
 refine Aj fun zB zbn zbx zbr zbi=>?_
 refine Cx fun zK zhK=>?_
 simp only [go_sem,Aw,ep30,eh30,es30,eu30,el30,ev30,ek30]
 repeat' (first|apply And.intro|intro _)
 refine zhK _ ?_
 refine Cx fun zK zhK=>?_
 simp only [go_sem,Aw,ep30,eh30,es30,eu30,el30,ev30,ek30]
 repeat' (first|apply And.intro|intro _)
 all_goals refine Cq (fun k=>k) (fun _ _=>rfl) (by first|rfl|(simp only [go_sem,Aw,ep30,eh30,es30,eu30,el30,ev30,ek30]<;>rfl)) ((a0r _ _).plain fun _ _ h=>h) ?_
 all_goals (rintro v m ⟨hR,hm⟩;subst hR;subst hm)
 all_goals refine And.intro (by first|rfl|simp only [go_sem,Aw,ep30,eh30,es30,eu30,el30,ev30,ek30]) (And.intro (by first|rfl|simp only [go_sem,Aw,ep30,eh30,es30,eu30,el30,ev30,ek30]) ?_)
 all_goals simp only [go_sem,Aw,ep30,eh30,es30,eu30,el30,ev30,ek30]
 all_goals repeat' (first|apply And.intro|intro _)
 refine zhK _ ?_
 refine Cx fun zK zhK=>?_
 simp only [go_sem,Aw,ep30,eh30,es30,eu30,el30,ev30,ek30]
 repeat' (first|apply And.intro|intro _)
 all_goals refine Ez (by first|rfl|(simp only [go_sem,Aw,ep30,eh30,es30,eu30,el30,ev30,ek30]<;>rfl)) (Dy _ _ _ (by repeat' (first|assumption|decide|apply Iy))) ?_
 all_goals simp only [go_sem,Aw,ep30,eh30,es30,eu30,el30,ev30,ek30]
 all_goals repeat' (first|apply And.intro|intro _)
 refine zhK _ ?_
 refine Cx fun zK zhK=>?_
 simp only [go_sem,Aw,ep30,eh30,es30,eu30,el30,ev30,ek30]
 repeat' (first|apply And.intro|intro _)
 refine zhK _ ?_
 refine Cx fun zK zhK=>?_
 simp only [go_sem,Aw,ep30,eh30,es30,eu30,el30,ev30,ek30]
 repeat' (first|apply And.intro|intro _)
 all_goals refine Ez (by first|rfl|(simp only [go_sem,Aw,ep30,eh30,es30,eu30,el30,ev30,ek30]<;>rfl)) (Dy _ _ _ (by repeat' (first|assumption|decide|apply Iy))) ?_
 all_goals simp only [go_sem,Aw,ep30,eh30,es30,eu30,el30,ev30,ek30]
 all_goals repeat' (first|apply And.intro|intro _)
 refine zhK _ ?_
 refine Av fun zK zhK=>?_
 simp only [go_sem,Aw,ep30,eh30,es30,eu30,el30,ev30,ek30]
 repeat' (first|apply And.intro|intro _)
 refine zhK _ ?_
 refine zbn _ ?_;clear zbn zbx zbr zbi
 refine zhN _ ?_;clear zhN zhM
 refine Av fun zK zhK=>?_
 simp only [go_sem,Aw,ep30,eh30,es30,eu30,el30,ev30,ek30]
 repeat' (first|apply And.intro|intro _)
 refine zhK _ ?_
 refine zhN _ ?_;clear zhN zhM
 refine Cv (x:=.seq (.region 7 _ _) _) [9,10,11,12,13,27,28,29,30,31,32,33,34,35,36,37,38,39,40,41,42,43,44,45,46,47,48,49,50,51,52,53,54,55,56,57,58,59,60,61,62,63] ?_
 simp only [go_sem,St.forget,fgt]
 refine Fq fun zN zM zhN zhM=>?_
 refine Cx fun zK zhK=>?_
 simp only [go_sem,Aw,ep31,eh31,es31,eu31,el31,ev31,ek31]
 repeat' (first|apply And.intro|intro _)
 refine zhK _ ?_
 refine Bz fun zN zM zhN zhM=>?_
 (refine Bv ?_ ?_;focus (first|rfl|(simp [go_sem,Aw,ep31,eh31,es31,eu31,el31,ev31,ek31];done)))
 refine Cw ?_
 refine zhN _ ?_;clear zhN zhM
 refine Bz fun zN zM zhN zhM=>?_
 refine Aj fun zB zbn zbx zbr zbi=>?_
 refine Cx fun zK zhK=>?_
 simp only [go_sem,Aw,ep31,eh31,es31,eu31,el31,ev31,ek31]
 repeat' (first|apply And.intro|intro _)
 refine zhK _ ?_
 refine Cx fun zK zhK=>?_
 simp only [go_sem,Aw,ep31,eh31,es31,eu31,el31,ev31,ek31]
 repeat' (first|apply And.intro|intro _)
 all_goals refine Cq (fun k=>k) (fun _ _=>rfl) (by first|rfl|(simp only [go_sem,Aw,ep31,eh31,es31,eu31,el31,ev31,ek31]<;>rfl)) ((a0r _ _).plain fun _ _ h=>h) ?_
 all_goals (rintro v m ⟨hR,hm⟩;subst hR;subst hm)
 all_goals refine And.intro (by first|rfl|simp only [go_sem,Aw,ep31,eh31,es31,eu31,el31,ev31,ek31]) (And.intro (by first|rfl|simp only [go_sem,Aw,ep31,eh31,es31,eu31,el31,ev31,ek31]) ?_)
 all_goals simp only [go_sem,Aw,ep31,eh31,es31,eu31,el31,ev31,ek31]
 all_goals repeat' (first|apply And.intro|intro _)
 refine zhK _ ?_
 refine Cx fun zK zhK=>?_
 simp only [go_sem,Aw,ep31,eh31,es31,eu31,el31,ev31,ek31]
 repeat' (first|apply And.intro|intro _)
 all_goals refine Ez (by first|rfl|(simp only [go_sem,Aw,ep31,eh31,es31,eu31,el31,ev31,ek31]<;>rfl)) (Dy _ _ _ (by repeat' (first|assumption|decide|apply Iy))) ?_
 all_goals simp only [go_sem,Aw,ep31,eh31,es31,eu31,el31,ev31,ek31]
 all_goals repeat' (first|apply And.intro|intro _)
 refine zhK _ ?_
 refine Cx fun zK zhK=>?_
 simp only [go_sem,Aw,ep31,eh31,es31,eu31,el31,ev31,ek31]
 repeat' (first|apply And.intro|intro _)
 refine zhK _ ?_
 refine Cx fun zK zhK=>?_
 simp only [go_sem,Aw,ep31,eh31,es31,eu31,el31,ev31,ek31]
 repeat' (first|apply And.intro|intro _)
 all_goals refine Ez (by first|rfl|(simp only [go_sem,Aw,ep31,eh31,es31,eu31,el31,ev31,ek31]<;>rfl)) (Dy _ _ _ (by repeat' (first|assumption|decide|apply Iy))) ?_
 all_goals simp only [go_sem,Aw,ep31,eh31,es31,eu31,el31,ev31,ek31]
 all_goals repeat' (first|apply And.intro|intro _)
 refine zhK _ ?_
 refine Av fun zK zhK=>?_
 simp only [go_sem,Aw,ep31,eh31,es31,eu31,el31,ev31,ek31]
 repeat' (first|apply And.intro|intro _)
 refine zhK _ ?_
 refine zbn _ ?_;clear zbn zbx zbr zbi
 refine zhN _ ?_;clear zhN zhM
 refine Av fun zK zhK=>?_
 simp only [go_sem,Aw,ep31,eh31,es31,eu31,el31,ev31,ek31]
 repeat' (first|apply And.intro|intro _)
 refine zhK _ ?_
 refine zhN _ ?_;clear zhN zhM
 refine Cv (x:=.seq (.region 7 _ _) _) [9,10,11,12,13,27,28,29,30,31,32,33,34,35,36,37,38,39,40,41,42,43,44,45,46,47,48,49,50,51,52,53,54,55,56,57,58,59,60,61,62,63] ?_
 simp only [go_sem,St.forget,fgt]
 refine Fq fun zN zM zhN zhM=>?_
 refine Cx fun zK zhK=>?_
 simp only [go_sem,Aw,ep32,eh32,es32,eu32,el32,ev32,ek32]
 repeat' (first|apply And.intro|intro _)
 refine zhK _ ?_
 refine Bz fun zN zM zhN zhM=>?_
 (refine Bv ?_ ?_;focus (first|rfl|(simp [go_sem,Aw,ep32,eh32,es32,eu32,el32,ev32,ek32];done)))
 refine Cw ?_
 refine zhN _ ?_;clear zhN zhM
 refine Bz fun zN zM zhN zhM=>?_
 refine Aj fun zB zbn zbx zbr zbi=>?_
 refine Cx fun zK zhK=>?_
 simp only [go_sem,Aw,ep32,eh32,es32,eu32,el32,ev32,ek32]
 repeat' (first|apply And.intro|intro _)
 refine zhK _ ?_
 refine Cx fun zK zhK=>?_
 simp only [go_sem,Aw,ep32,eh32,es32,eu32,el32,ev32,ek32]
 repeat' (first|apply And.intro|intro _)
 all_goals refine Cq (fun k=>k) (fun _ _=>rfl) (by first|rfl|(simp only [go_sem,Aw,ep32,eh32,es32,eu32,el32,ev32,ek32]<;>rfl)) ((a0r _ _).plain fun _ _ h=>h) ?_
 all_goals (rintro v m ⟨hR,hm⟩;subst hR;subst hm)
 all_goals refine And.intro (by first|rfl|simp only [go_sem,Aw,ep32,eh32,es32,eu32,el32,ev32,ek32]) (And.intro (by first|rfl|simp only [go_sem,Aw,ep32,eh32,es32,eu32,el32,ev32,ek32]) ?_)
 all_goals simp only [go_sem,Aw,ep32,eh32,es32,eu32,el32,ev32,ek32]
 all_goals repeat' (first|apply And.intro|intro _)
 refine zhK _ ?_
 refine Cx fun zK zhK=>?_
 simp only [go_sem,Aw,ep32,eh32,es32,eu32,el32,ev32,ek32]
 repeat' (first|apply And.intro|intro _)
 all_goals refine Ez (by first|rfl|(simp only [go_sem,Aw,ep32,eh32,es32,eu32,el32,ev32,ek32]<;>rfl)) (Dy _ _ _ (by repeat' (first|assumption|decide|apply Iy))) ?_
 all_goals simp only [go_sem,Aw,ep32,eh32,es32,eu32,el32,ev32,ek32]
 all_goals repeat' (first|apply And.intro|intro _)
 refine zhK _ ?_
 refine Cx fun zK zhK=>?_
 simp only [go_sem,Aw,ep32,eh32,es32,eu32,el32,ev32,ek32]
 repeat' (first|apply And.intro|intro _)
 refine zhK _ ?_
 refine Cx fun zK zhK=>?_
 simp only [go_sem,Aw,ep32,eh32,es32,eu32,el32,ev32,ek32]
 repeat' (first|apply And.intro|intro _)
 all_goals refine Ez (by first|rfl|(simp only [go_sem,Aw,ep32,eh32,es32,eu32,el32,ev32,ek32]<;>rfl)) (Dy _ _ _ (by repeat' (first|assumption|decide|apply Iy))) ?_
 all_goals simp only [go_sem,Aw,ep32,eh32,es32,eu32,el32,ev32,ek32]
 all_goals repeat' (first|apply And.intro|intro _)
 refine zhK _ ?_
 refine Av fun zK zhK=>?_
 simp only [go_sem,Aw,ep32,eh32,es32,eu32,el32,ev32,ek32]
 repeat' (first|apply And.intro|intro _)
 refine zhK _ ?_
 refine zbn _ ?_;clear zbn zbx zbr zbi
 refine zhN _ ?_;clear zhN zhM
 refine Av fun zK zhK=>?_
 simp only [go_sem,Aw,ep32,eh32,es32,eu32,el32,ev32,ek32]
 repeat' (first|apply And.intro|intro _)
 refine zhK _ ?_
 refine zhN _ ?_;clear zhN zhM
 refine Cv (x:=.seq (.region 7 _ _) _) [9,10,11,12,13,27,28,29,30,31,32,33,34,35,36,37,38,39,40,41,42,43,44,45,46,47,48,49,50,51,52,53,54,55,56,57,58,59,60,61,62,63] ?_
 simp only [go_sem,St.forget,fgt]
 refine Fq fun zN zM zhN zhM=>?_
 refine Cx fun zK zhK=>?_
 simp only [go_sem,Aw,ep33,eh33,es33,eu33,el33,ev33,ek33]
 repeat' (first|apply And.intro|intro _)
 refine zhK _ ?_
 refine Bz fun zN zM zhN zhM=>?_
 (refine Bv ?_ ?_;focus (first|rfl|(simp [go_sem,Aw,ep33,eh33,es33,eu33,el33,ev33,ek33];done)))
 refine Cw ?_
 refine zhN _ ?_;clear zhN zhM
 refine Bz fun zN zM zhN zhM=>?_
 refine Aj fun zB zbn zbx zbr zbi=>?_
 refine Cx fun zK zhK=>?_
 simp only [go_sem,Aw,ep33,eh33,es33,eu33,el33,ev33,ek33]
 repeat' (first|apply And.intro|intro _)
 refine zhK _ ?_
 refine Cx fun zK zhK=>?_
 simp only [go_sem,Aw,ep33,eh33,es33,eu33,el33,ev33,ek33]
 repeat' (first|apply And.intro|intro _)
 all_goals refine Cq (fun k=>k) (fun _ _=>rfl) (by first|rfl|(simp only [go_sem,Aw,ep33,eh33,es33,eu33,el33,ev33,ek33]<;>rfl)) ((a0r _ _).plain fun _ _ h=>h) ?_
 all_goals (rintro v m ⟨hR,hm⟩;subst hR;subst hm)
 all_goals refine And.intro (by first|rfl|simp only [go_sem,Aw,ep33,eh33,es33,eu33,el33,ev33,ek33]) (And.intro (by first|rfl|simp only [go_sem,Aw,ep33,eh33,es33,eu33,el33,ev33,ek33]) ?_)
 all_goals simp only [go_sem,Aw,ep33,eh33,es33,eu33,el33,ev33,ek33]
 all_goals repeat' (first|apply And.intro|intro _)
 refine zhK _ ?_
 refine Cx fun zK zhK=>?_
 simp only [go_sem,Aw,ep33,eh33,es33,eu33,el33,ev33,ek33]
 repeat' (first|apply And.intro|intro _)
 all_goals refine Ez (by first|rfl|(simp only [go_sem,Aw,ep33,eh33,es33,eu33,el33,ev33,ek33]<;>rfl)) (Dy _ _ _ (by repeat' (first|assumption|decide|apply Iy))) ?_
 all_goals simp only [go_sem,Aw,ep33,eh33,es33,eu33,el33,ev33,ek33]
 all_goals repeat' (first|apply And.intro|intro _)
 refine zhK _ ?_
 refine Cx fun zK zhK=>?_
 simp only [go_sem,Aw,ep33,eh33,es33,eu33,el33,ev33,ek33]
 repeat' (first|apply And.intro|intro _)
 refine zhK _ ?_
 refine Cx fun zK zhK=>?_
 simp only [go_sem,Aw,ep33,eh33,es33,eu33,el33,ev33,ek33]
 repeat' (first|apply And.intro|intro _)
 all_goals refine Ez (by first|rfl|(simp only [go_sem,Aw,ep33,eh33,es33,eu33,el33,ev33,ek33]<;>rfl)) (Dy _ _ _ (by repeat' (first|assumption|decide|apply Iy))) ?_
 all_goals simp only [go_sem,Aw,ep33,eh33,es33,eu33,el33,ev33,ek33]
 all_goals repeat' (first|apply And.intro|intro _)
 refine zhK _ ?_
 refine Av fun zK zhK=>?_
 simp only [go_sem,Aw,ep33,eh33,es33,eu33,el33,ev33,ek33]
 repeat' (first|apply And.intro|intro _)
 refine zhK _ ?_
 refine zbn _ ?_;clear zbn zbx zbr zbi
 refine zhN _ ?_;clear zhN zhM
 refine Av fun zK zhK=>?_
 simp only [go_sem,Aw,ep33,eh33,es33,eu33,el33,ev33,ek33]
 repeat' (first|apply And.intro|intro _)
 refine zhK _ ?_
 refine zhN _ ?_;clear zhN zhM
 refine Cv (x:=.seq (.region 7 _ _) _) [9,10,11,12,13,27,28,29,30,31,32,33,34,35,36,37,38,39,40,41,42,43,44,45,46,47,48,49,50,51,52,53,54,55,56,57,58,59,60,61,62,63] ?_
 simp only [go_sem,St.forget,fgt]
 refine Fq fun zN zM zhN zhM=>?_
 refine Cx fun zK zhK=>?_
 simp only [go_sem,Aw]
 repeat' (first|apply And.intro|intro _)
 refine zhK _ ?_
 refine Bz fun zN zM zhN zhM=>?_
 (refine Cy ?_ ?_;focus (first|rfl|(simp [go_sem,Aw];done)))
 refine Ey ?_
 refine zhM _ _ ?_;clear zhN zhM
 refine zhM _ _ ?_;clear zhN zhM
 refine zbx _ ?_;clear zbn zbx zbr zbi
 refine zhN _ ?_;clear zhN zhM
 refine Av fun zK zhK=>?_
 simp only [go_sem,Aw]
 repeat' (first|apply And.intro|intro _)
 refine zhK _ ?_
 refine zbn _ ?_;clear zbn zbx zbr zbi
 refine zhN _ ?_;clear zhN zhM
 refine Av fun zK zhK=>?_
 simp only [go_sem,Aw]
 repeat' (first|apply And.intro|intro _)
 refine zhK _ ?_
 refine zhN _ ?_;clear zhN zhM
 refine Cv (x:=.seq (.region 3 _ _) _) [6,7,8,9,10,11,12,13,22,23,24,25,26,27,28,29,30,31,32,33,34,35,36,37,38,39,40,41,42,43,44,45,46,47,48,49,50,51,52,53,54,55,56,57,58,59,60,61,62,63,64,65,66,67,68] ?_
 simp only [go_sem,St.forget,fgt]
 refine Fq fun zN zM zhN zhM=>?_
 refine Cx fun zK zhK=>?_
 simp only [go_sem,Aw]
 repeat' (first|apply And.intro|intro _)
 refine zhK _ ?_
 refine Bz fun zN zM zhN zhM=>?_
 (refine Cy ?_ ?_;focus (first|rfl|(simp [go_sem,Aw];done)))
 refine Ey ?_
 refine zhM _ _ ?_;clear zhN zhM
 refine zhM _ _ ?_;clear zhN zhM
 refine zbx _ ?_;clear zbn zbx zbr zbi
 refine zhN _ ?_;clear zhN zhM
 refine Cx fun zK zhK=>?_
 simp only [go_sem,Aw]
 repeat' (first|apply And.intro|intro _)
 refine zhK _ ?_
 refine Cx fun zK zhK=>?_
 simp only [go_sem,Aw]
 repeat' (first|apply And.intro|intro _)
 refine zhK _ ?_
 refine Bz fun zN zM zhN zhM=>?_
 refine Cx fun zK zhK=>?_
 simp only [go_sem,Aw]
 repeat' (first|apply And.intro|intro _)
 refine zhK _ ?_
 refine Aj fun zB zbn zbx zbr zbi=>?_
 refine Fx (x:=.seq (.region 20 _ _) _) 5 ?_
 refine Fq fun zN zM zhN zhM=>?_
 refine Cx fun zK zhK=>?_
 simp only [go_sem,Aw,epf0,ehf0,esf0,euf0,elf0,evf0,ekf0]
 repeat' (first|apply And.intro|intro _)
 refine zhK _ ?_
 refine Bz fun zN zM zhN zhM=>?_
 (refine Bv ?_ ?_;focus (first|rfl|(simp [go_sem,Aw,epf0,ehf0,esf0,euf0,elf0,evf0,ekf0];done)))
 refine Cw ?_
 refine zhN _ ?_;clear zhN zhM
 refine Bz fun zN zM zhN zhM=>?_
 refine Aj fun zB zbn zbx zbr zbi=>?_
 refine Cx fun zK zhK=>?_
 simp only [go_sem,Aw,epf0,ehf0,esf0,euf0,elf0,evf0,ekf0]
 repeat' (first|apply And.intro|intro _)
 refine zhK _ ?_
 refine Cx fun zK zhK=>?_
 simp only [go_sem,Aw,epf0,ehf0,esf0,euf0,elf0,evf0,ekf0]
 repeat' (first|apply And.intro|intro _)
 all_goals refine Cq (fun k=>k) (fun _ _=>rfl) (by first|rfl|(simp only [go_sem,Aw,epf0,ehf0,esf0,euf0,elf0,evf0,ekf0]<;>rfl)) ((a0r _ _).plain fun _ _ h=>h) ?_
 all_goals (rintro v m ⟨hR,hm⟩;subst hR;subst hm)
 all_goals refine And.intro (by first|rfl|simp only [go_sem,Aw,epf0,ehf0,esf0,euf0,elf0,evf0,ekf0]) (And.intro (by first|rfl|simp only [go_sem,Aw,epf0,ehf0,esf0,euf0,elf0,evf0,ekf0]) ?_)
 all_goals simp only [go_sem,Aw,epf0,ehf0,esf0,euf0,elf0,evf0,ekf0]
 all_goals repeat' (first|apply And.intro|intro _)
 refine zhK _ ?_
 refine Cx fun zK zhK=>?_
 simp only [go_sem,Aw,epf0,ehf0,esf0,euf0,elf0,evf0,ekf0]
 repeat' (first|apply And.intro|intro _)
 all_goals refine Ez (by first|rfl|(simp only [go_sem,Aw,epf0,ehf0,esf0,euf0,elf0,evf0,ekf0]<;>rfl)) (Dy _ _ _ (by repeat' (first|assumption|decide|apply Iy))) ?_
 all_goals simp only [go_sem,Aw,epf0,ehf0,esf0,euf0,elf0,evf0,ekf0]
 all_goals repeat' (first|apply And.intro|intro _)
 refine zhK _ ?_
 refine Cx fun zK zhK=>?_
 simp only [go_sem,Aw,epf0,ehf0,esf0,euf0,elf0,evf0,ekf0]
 repeat' (first|apply And.intro|intro _)
 refine zhK _ ?_
 refine Cx fun zK zhK=>?_
 simp only [go_sem,Aw,epf0,ehf0,esf0,euf0,elf0,evf0,ekf0]
 repeat' (first|apply And.intro|intro _)
 all_goals refine Ez (by first|rfl|(simp only [go_sem,Aw,epf0,ehf0,esf0,euf0,elf0,evf0,ekf0]<;>rfl)) (Dy _ _ _ (by repeat' (first|assumption|decide|apply Iy))) ?_
 all_goals simp only [go_sem,Aw,epf0,ehf0,esf0,euf0,elf0,evf0,ekf0]
 all_goals repeat' (first|apply And.intro|intro _)
 refine zhK _ ?_
 refine Av fun zK zhK=>?_
 simp only [go_sem,Aw,epf0,ehf0,esf0,euf0,elf0,evf0,ekf0]
 repeat' (first|apply And.intro|intro _)
 refine zhK _ ?_
 refine zbn _ ?_;clear zbn zbx zbr zbi
 refine zhN _ ?_;clear zhN zhM
 refine Av fun zK zhK=>?_
 simp only [go_sem,Aw,epf0,ehf0,esf0,euf0,elf0,evf0,ekf0]
 repeat' (first|apply And.intro|intro _)
 refine zhK _ ?_
 refine zhN _ ?_;clear zhN zhM
 refine Cv (x:=.seq (.region 20 _ _) _) [16,17,18,19,79,80,81,82,83,84,85,86,87,88,89,90,91,92,93,94,95,96,97,98,99,100,101,102,103,104,105,106,107,108,109,110,111,112] ?_
 simp only [go_sem,St.forget,fgt]
 refine Fq fun zN zM zhN zhM=>?_
 refine Cx fun zK zhK=>?_
 simp only [go_sem,Aw,epf1,ehf1,esf1,euf1,elf1,evf1,ekf1]
 repeat' (first|apply And.intro|intro _)
 refine zhK _ ?_
 refine Bz fun zN zM zhN zhM=>?_
 (refine Bv ?_ ?_;focus (first|rfl|(simp [go_sem,Aw,epf1,ehf1,esf1,euf1,elf1,evf1,ekf1];done)))
 refine Cw ?_
 refine zhN _ ?_;clear zhN zhM
 refine Bz fun zN zM zhN zhM=>?_
 refine Aj fun zB zbn zbx zbr zbi=>?_
 refine Cx fun zK zhK=>?_
 simp only [go_sem,Aw,epf1,ehf1,esf1,euf1,elf1,evf1,ekf1]
 repeat' (first|apply And.intro|intro _)
 refine zhK _ ?_
 refine Cx fun zK zhK=>?_
 simp only [go_sem,Aw,epf1,ehf1,esf1,euf1,elf1,evf1,ekf1]
 repeat' (first|apply And.intro|intro _)
 all_goals refine Cq (fun k=>k) (fun _ _=>rfl) (by first|rfl|(simp only [go_sem,Aw,epf1,ehf1,esf1,euf1,elf1,evf1,ekf1]<;>rfl)) ((a0r _ _).plain fun _ _ h=>h) ?_
 all_goals (rintro v m ⟨hR,hm⟩;subst hR;subst hm)
 all_goals refine And.intro (by first|rfl|simp only [go_sem,Aw,epf1,ehf1,esf1,euf1,elf1,evf1,ekf1]) (And.intro (by first|rfl|simp only [go_sem,Aw,epf1,ehf1,esf1,euf1,elf1,evf1,ekf1]) ?_)
 all_goals simp only [go_sem,Aw,epf1,ehf1,esf1,euf1,elf1,evf1,ekf1]
 all_goals repeat' (first|apply And.intro|intro _)
 refine zhK _ ?_
 refine Cx fun zK zhK=>?_
 simp only [go_sem,Aw,epf1,ehf1,esf1,euf1,elf1,evf1,ekf1]
 repeat' (first|apply And.intro|intro _)
 all_goals refine Ez (by first|rfl|(simp only [go_sem,Aw,epf1,ehf1,esf1,euf1,elf1,evf1,ekf1]<;>rfl)) (Dy _ _ _ (by repeat' (first|assumption|decide|apply Iy))) ?_
 all_goals simp only [go_sem,Aw,epf1,ehf1,esf1,euf1,elf1,evf1,ekf1]
 all_goals repeat' (first|apply And.intro|intro _)
 refine zhK _ ?_
 refine Cx fun zK zhK=>?_
 simp only [go_sem,Aw,epf1,ehf1,esf1,euf1,elf1,evf1,ekf1]
 repeat' (first|apply And.intro|intro _)
 refine zhK _ ?_
 refine Cx fun zK zhK=>?_
 simp only [go_sem,Aw,epf1,ehf1,esf1,euf1,elf1,evf1,ekf1]
 repeat' (first|apply And.intro|intro _)
 all_goals refine Ez (by first|rfl|(simp only [go_sem,Aw,epf1,ehf1,esf1,euf1,elf1,evf1,ekf1]<;>rfl)) (Dy _ _ _ (by repeat' (first|assumption|decide|apply Iy))) ?_
 all_goals simp only [go_sem,Aw,epf1,ehf1,esf1,euf1,elf1,evf1,ekf1]
 all_goals repeat' (first|apply And.intro|intro _)
 refine zhK _ ?_
 refine Av fun zK zhK=>?_
 simp only [go_sem,Aw,epf1,ehf1,esf1,euf1,elf1,evf1,ekf1]
 repeat' (first|apply And.intro|intro _)
 refine zhK _ ?_
 refine zbn _ ?_;clear zbn zbx zbr zbi
 refine zhN _ ?_;clear zhN zhM
 refine Av fun zK zhK=>?_
 simp only [go_sem,Aw,epf1,ehf1,esf1,euf1,elf1,evf1,ekf1]
 repeat' (first|apply And.intro|intro _)
 refine zhK _ ?_
 refine zhN _ ?_;clear zhN zhM
 refine Cv (x:=.seq (.region 20 _ _) _) [16,17,18,19,79,80,81,82,83,84,85,86,87,88,89,90,91,92,93,94,95,96,97,98,99,100,101,102,103,104,105,106,107,108,109,110,111,112] ?_
 simp only [go_sem,St.forget,fgt]
 refine Fq fun zN zM zhN zhM=>?_
 refine Cx fun zK zhK=>?_
 simp only [go_sem,Aw,epf2,ehf2,esf2,euf2,elf2,evf2,ekf2]
 repeat' (first|apply And.intro|intro _)
 refine zhK _ ?_
 refine Bz fun zN zM zhN zhM=>?_
 (refine Bv ?_ ?_;focus (first|rfl|(simp [go_sem,Aw,epf2,ehf2,esf2,euf2,elf2,evf2,ekf2];done)))
 refine Cw ?_
 refine zhN _ ?_;clear zhN zhM
 refine Bz fun zN zM zhN zhM=>?_
 refine Aj fun zB zbn zbx zbr zbi=>?_
 refine Cx fun zK zhK=>?_
 simp only [go_sem,Aw,epf2,ehf2,esf2,euf2,elf2,evf2,ekf2]
 repeat' (first|apply And.intro|intro _)
 refine zhK _ ?_
 refine Cx fun zK zhK=>?_
 simp only [go_sem,Aw,epf2,ehf2,esf2,euf2,elf2,evf2,ekf2]
 repeat' (first|apply And.intro|intro _)
 all_goals refine Cq (fun k=>k) (fun _ _=>rfl) (by first|rfl|(simp only [go_sem,Aw,epf2,ehf2,esf2,euf2,elf2,evf2,ekf2]<;>rfl)) ((a0r _ _).plain fun _ _ h=>h) ?_
 all_goals (rintro v m ⟨hR,hm⟩;subst hR;subst hm)
 all_goals refine And.intro (by first|rfl|simp only [go_sem,Aw,epf2,ehf2,esf2,euf2,elf2,evf2,ekf2]) (And.intro (by first|rfl|simp only [go_sem,Aw,epf2,ehf2,esf2,euf2,elf2,evf2,ekf2]) ?_)
 all_goals simp only [go_sem,Aw,epf2,ehf2,esf2,euf2,elf2,evf2,ekf2]
 all_goals repeat' (first|apply And.intro|intro _)
 refine zhK _ ?_
 refine Cx fun zK zhK=>?_
 simp only [go_sem,Aw,epf2,ehf2,esf2,euf2,elf2,evf2,ekf2]
 repeat' (first|apply And.intro|intro _)
 all_goals refine Ez (by first|rfl|(simp only [go_sem,Aw,epf2,ehf2,esf2,euf2,elf2,evf2,ekf2]<;>rfl)) (Dy _ _ _ (by repeat' (first|assumption|decide|apply Iy))) ?_
 all_goals simp only [go_sem,Aw,epf2,ehf2,esf2,euf2,elf2,evf2,ekf2]
 all_goals repeat' (first|apply And.intro|intro _)
 refine zhK _ ?_
 refine Cx fun zK zhK=>?_
 simp only [go_sem,Aw,epf2,ehf2,esf2,euf2,elf2,evf2,ekf2]
 repeat' (first|apply And.intro|intro _)
 refine zhK _ ?_
 refine Cx fun zK zhK=>?_
 simp only [go_sem,Aw,epf2,ehf2,esf2,euf2,elf2,evf2,ekf2]
 repeat' (first|apply And.intro|intro _)
 all_goals refine Ez (by first|rfl|(simp only [go_sem,Aw,epf2,ehf2,esf2,euf2,elf2,evf2,ekf2]<;>rfl)) (Dy _ _ _ (by repeat' (first|assumption|decide|apply Iy))) ?_
 all_goals simp only [go_sem,Aw,epf2,ehf2,esf2,euf2,elf2,evf2,ekf2]
 all_goals repeat' (first|apply And.intro|intro _)
 refine zhK _ ?_
 refine Av fun zK zhK=>?_
 simp only [go_sem,Aw,epf2,ehf2,esf2,euf2,elf2,evf2,ekf2]
 repeat' (first|apply And.intro|intro _)
 refine zhK _ ?_
 refine zbn _ ?_;clear zbn zbx zbr zbi
 refine zhN _ ?_;clear zhN zhM
 refine Av fun zK zhK=>?_
 simp only [go_sem,Aw,epf2,ehf2,esf2,euf2,elf2,evf2,ekf2]
 repeat' (first|apply And.intro|intro _)
 refine zhK _ ?_
 refine zhN _ ?_;clear zhN zhM
 refine Cv (x:=.seq (.region 20 _ _) _) [16,17,18,19,79,80,81,82,83,84,85,86,87,88,89,90,91,92,93,94,95,96,97,98,99,100,101,102,103,104,105,106,107,108,109,110,111,112] ?_
 simp only [go_sem,St.forget,fgt]
 refine Fq fun zN zM zhN zhM=>?_
 refine Cx fun zK zhK=>?_
 simp only [go_sem,Aw,epf3,ehf3,esf3,euf3,elf3,evf3,ekf3]
 repeat' (first|apply And.intro|intro _)
 refine zhK _ ?_
 refine Bz fun zN zM zhN zhM=>?_
 (refine Bv ?_ ?_;focus (first|rfl|(simp [go_sem,Aw,epf3,ehf3,esf3,euf3,elf3,evf3,ekf3];done)))
 refine Cw ?_
 refine zhN _ ?_;clear zhN zhM
 refine Bz fun zN zM zhN zhM=>?_
 refine Aj fun zB zbn zbx zbr zbi=>?_
 refine Cx fun zK zhK=>?_
 simp only [go_sem,Aw,epf3,ehf3,esf3,euf3,elf3,evf3,ekf3]
 repeat' (first|apply And.intro|intro _)
 refine zhK _ ?_
 refine Cx fun zK zhK=>?_
 simp only [go_sem,Aw,epf3,ehf3,esf3,euf3,elf3,evf3,ekf3]
 repeat' (first|apply And.intro|intro _)
 all_goals refine Cq (fun k=>k) (fun _ _=>rfl) (by first|rfl|(simp only [go_sem,Aw,epf3,ehf3,esf3,euf3,elf3,evf3,ekf3]<;>rfl)) ((a0r _ _).plain fun _ _ h=>h) ?_
 all_goals (rintro v m ⟨hR,hm⟩;subst hR;subst hm)
 all_goals refine And.intro (by first|rfl|simp only [go_sem,Aw,epf3,ehf3,esf3,euf3,elf3,evf3,ekf3]) (And.intro (by first|rfl|simp only [go_sem,Aw,epf3,ehf3,esf3,euf3,elf3,evf3,ekf3]) ?_)
 all_goals simp only [go_sem,Aw,epf3,ehf3,esf3,euf3,elf3,evf3,ekf3]
 all_goals repeat' (first|apply And.intro|intro _)
 refine zhK _ ?_
 refine Cx fun zK zhK=>?_
 simp only [go_sem,Aw,epf3,ehf3,esf3,euf3,elf3,evf3,ekf3]
 repeat' (first|apply And.intro|intro _)
 all_goals refine Ez (by first|rfl|(simp only [go_sem,Aw,epf3,ehf3,esf3,euf3,elf3,evf3,ekf3]<;>rfl)) (Dy _ _ _ (by repeat' (first|assumption|decide|apply Iy))) ?_
 all_goals simp only [go_sem,Aw,epf3,ehf3,esf3,euf3,elf3,evf3,ekf3]
 all_goals repeat' (first|apply And.intro|intro _)
 refine zhK _ ?_
 refine Cx fun zK zhK=>?_
 simp only [go_sem,Aw,epf3,ehf3,esf3,euf3,elf3,evf3,ekf3]
 repeat' (first|apply And.intro|intro _)
 refine zhK _ ?_
 refine Cx fun zK zhK=>?_
 simp only [go_sem,Aw,epf3,ehf3,esf3,euf3,elf3,evf3,ekf3]
 repeat' (first|apply And.intro|intro _)
 all_goals refine Ez (by first|rfl|(simp only [go_sem,Aw,epf3,ehf3,esf3,euf3,elf3,evf3,ekf3]<;>rfl)) (Dy _ _ _ (by repeat' (first|assumption|decide|apply Iy))) ?_
 all_goals simp only [go_sem,Aw,epf3,ehf3,esf3,euf3,elf3,evf3,ekf3]
 all_goals repeat' (first|apply And.intro|intro _)
 refine zhK _ ?_
 refine Av fun zK zhK=>?_
 simp only [go_sem,Aw,epf3,ehf3,esf3,euf3,elf3,evf3,ekf3]
 repeat' (first|apply And.intro|intro _)
 refine zhK _ ?_
 refine zbn _ ?_;clear zbn zbx zbr zbi
 refine zhN _ ?_;clear zhN zhM
 refine Av fun zK zhK=>?_
 simp only [go_sem,Aw,epf3,ehf3,esf3,euf3,elf3,evf3,ekf3]
 repeat' (first|apply And.intro|intro _)
 refine zhK _ ?_
 refine zhN _ ?_;clear zhN zhM
 refine Cv (x:=.seq (.region 20 _ _) _) [16,17,18,19,79,80,81,82,83,84,85,86,87,88,89,90,91,92,93,94,95,96,97,98,99,100,101,102,103,104,105,106,107,108,109,110,111,112] ?_
 simp only [go_sem,St.forget,fgt]
 refine Fq fun zN zM zhN zhM=>?_
 refine Cx fun zK zhK=>?_
 simp only [go_sem,Aw]
 repeat' (first|apply And.intro|intro _)
 refine zhK _ ?_
 refine Bz fun zN zM zhN zhM=>?_
 (refine Cy ?_ ?_;focus (first|rfl|(simp [go_sem,Aw];done)))
 refine Ey ?_
 refine zhM _ _ ?_;clear zhN zhM
 refine zhM _ _ ?_;clear zhN zhM
 refine zbx _ ?_;clear zbn zbx zbr zbi
 refine zhN _ ?_;clear zhN zhM
 refine Cx fun zK zhK=>?_
 simp only [go_sem,Aw]
 repeat' (first|apply And.intro|intro _)
 all_goals (refine Cq (fun k=>k) (fun _ _=>rfl) ?_ ((hP).plain fun _ _ h=>h) ?_;focus (first|rfl|(simp only [go_sem,Aw]<;>rfl)))
 all_goals (rintro v m ⟨hR,hm⟩;subst hR;subst hm)
 all_goals refine And.intro (by first|rfl|simp only [go_sem,Aw]) (And.intro (by first|rfl|simp only [go_sem,Aw]) ?_)
 all_goals simp only [go_sem,Aw]
 all_goals repeat' (first|apply And.intro|intro _)
 all_goals (refine Bq false [] (fun k=>k) (fun _ _=>rfl) ?_ (by decide) ?_ hS.told ?_;iterate 2 (focus (first|rfl|(simp only [go_sem,Aw]<;>first|done|rfl|simp))))
 all_goals (rintro v m ⟨hR,hm⟩;subst hR;subst hm)
 all_goals (refine And.intro ?_ (And.intro ?_ (And.intro ?_ ?_));iterate 3 (focus (first|rfl|(simp only [go_sem,Aw];done)|(simp [go_sem,look,Aw];done))))
 all_goals (try simp only [go_sem,Aw])
 all_goals (try simp only [go_sem,Aw])
 all_goals repeat' (first|apply And.intro|intro _)
 refine zhK _ ?_
 refine Dx ?_
 refine zhZ _ _ ?_
 simp only [go_sem,Aw]
 all_goals (exact told_plain (by simp [Fj,Hz]) ⟨rfl,rfl⟩)
end Lk
end Go.Sy
namespace Go.Sy
namespace Lk
open Go.Proofs
attribute [local irreducible] Dv HT Cz Px onC onE onO onG goV goA goS Qx Dw
theorem b2j (a b c d e f g h:UInt64) (h1:vQ a b c d<p25) (h2:vQ e f g h<p25):
 CtM Tryd.prog 43 [.w (.agg [.pl (.u64 a),.pl (.u64 b),.pl (.u64 c),.pl (.u64 d)]),.w (.agg [.pl (.u64 e),.pl (.u64 f),.pl (.u64 g),.pl (.u64 h)])] [(1000001,⟨false,[.pl (.u64 18446744073709551597),.pl (.u64 18446744073709551615),.pl (.u64 18446744073709551615),.pl (.u64 9223372036854775807)]⟩)] (Told (fun v m=>v=.tup [.agg (w4C ((vQ a b c d*vQ e f g h)%p25)),.one (.pl (.i 0))]∧m=[])):=by
 have hb:=b2b a b c d e f g h h1 h2 ((vQ a b c d*vQ e f g h)%p25) (Nat.mod_lt _ (by decide)) (z1t a b c d e f g h)
 obtain ⟨q0,q1,q2,q3,hq,hvq⟩:=Dz ((vQ a b c d*vQ e f g h)%p25) (g0b _)
 simp only [w4C,hq] at hb ⊢
 refine CtM.k Tryd.func43 rfl Tryd.ntmps43 (congrArg Array.toList Tryd.results43) (by simp) fun w0 ro may fx=>?_
 refine Dj fun zZ zhZ=>?_
 refine Cx fun zK zhK=>?_
 simp only [go_sem,Aw]
 repeat' (first|apply And.intro|intro _)
 refine zhK _ ?_
 refine Cx fun zK zhK=>?_
 simp only [go_sem,Aw]
 repeat' (first|apply And.intro|intro _)
 all_goals (refine Bq false [] (fun k=>k) (fun _ _=>rfl) ?_ (by decide) ?_ hb.told ?_;iterate 2 (focus (first|rfl|(simp only [go_sem,Aw]<;>first|done|rfl|simp))))
 all_goals (rintro v m ⟨hR,hm⟩;subst hR;subst hm)
 all_goals (refine And.intro ?_ (And.intro ?_ (And.intro ?_ ?_));iterate 3 (focus (first|rfl|(simp only [go_sem,Aw];done)|(simp [go_sem,look,Aw];done))))
 all_goals (try simp only [go_sem,Aw])
 all_goals (try simp only [go_sem,Aw])
 all_goals repeat' (first|apply And.intro|intro _)
 refine zhK _ ?_
 refine Dx ?_
 refine zhZ _ _ ?_
 simp only [go_sem,Aw]
 all_goals (exact told_plain (by simp [Fj,Hz]) ⟨rfl,rfl⟩)
end Lk
end Go.Sy
namespace Go.Sy
namespace Lk
open Go.Proofs
attribute [local irreducible] Dv HT Cz Px onC onE onO onG goV goA goS Qx Dw
theorem m0r {n:Nat} (h:n<p25):n<115792089237316195423570985008687907853269984665640564039457584007913129639936:=by
 have:=f0z
 omega
theorem b2w (a b c d e f g h:UInt64) (h1:vQ a b c d<p25) (h2:vQ e f g h<p25):
 CtM Tryd.prog 38 [.w (.agg [.pl (.u64 a),.pl (.u64 b),.pl (.u64 c),.pl (.u64 d)]),.w (.agg [.pl (.u64 e),.pl (.u64 f),.pl (.u64 g),.pl (.u64 h)])] [(1000001,⟨false,[.pl (.u64 18446744073709551597),.pl (.u64 18446744073709551615),.pl (.u64 18446744073709551615),.pl (.u64 9223372036854775807)]⟩)] (Told (fun v m=>v=.w (.agg (w4C (fA (vQ a b c d) (vQ e f g h))))∧m=[])):=by
 have hb:=b2k a b c d e f g h h1 h2
 change CtM _ _ _ _ (Told fun v m=>v=V.tup [W.agg (w4C (fA (vQ a b c d) (vQ e f g h))),_]∧m=[]) at hb
 obtain ⟨q0,q1,q2,q3,hq,hvq⟩:=Dz (fA (vQ a b c d) (vQ e f g h)) (m0r (j0n _ _))
 have huq:Aw [q0,q1,q2,q3]=[.pl (.u64 q0),.pl (.u64 q1),.pl (.u64 q2),.pl (.u64 q3)]:=rfl
 simp only [w4C,hq,huq] at hb ⊢
 refine CtM.k Tryd.func38 rfl Tryd.ntmps38 (congrArg Array.toList Tryd.results38) (by simp) fun w0 ro may fx=>?_
 refine Dj fun zZ zhZ=>?_
 iterate 9 first
  |(refine Cx fun zK zhK=>?_;simp only [go_sem];(repeat' (first|apply And.intro|intro _)))
  |refine zhK _ ?_
  |refine Dx ?_
  |(refine zhZ _ _ ?_;simp only [go_sem];(all_goals (exact told_plain (by simp [Fj,Hz]) ⟨rfl,rfl⟩)))
  |((all_goals (refine Bq false [] (fun k=>k) (fun _ _=>rfl) ?_ (by decide) ?_ hb.told ?_;iterate 2 (focus (first|rfl|(simp only [go_sem]<;>first|done|rfl|simp)))));(all_goals (rintro v m ⟨hR,hm⟩;subst hR;subst hm));(all_goals (refine And.intro ?_ (And.intro ?_ (And.intro ?_ ?_));iterate 3 (focus (first|rfl|(simp only [go_sem];done)|(simp [go_sem,look];done)))));(all_goals (try simp only [go_sem]));(all_goals (try simp only [go_sem]));(all_goals repeat' (first|apply And.intro|intro _)))
theorem b2s (a b c d e f g h:UInt64) (h1:vQ a b c d<p25) (h2:vQ e f g h<p25):
 CtM Tryd.prog 39 [.w (.agg [.pl (.u64 a),.pl (.u64 b),.pl (.u64 c),.pl (.u64 d)]),.w (.agg [.pl (.u64 e),.pl (.u64 f),.pl (.u64 g),.pl (.u64 h)])] [(1000001,⟨false,[.pl (.u64 18446744073709551597),.pl (.u64 18446744073709551615),.pl (.u64 18446744073709551615),.pl (.u64 9223372036854775807)]⟩)] (Told (fun v m=>v=.w (.agg (w4C (fS (vQ a b c d) (vQ e f g h))))∧m=[])):=by
 have hb:=b2i a b c d e f g h h1 h2
 change CtM _ _ _ _ (Told fun v m=>v=V.tup [W.agg (w4C (fS (vQ a b c d) (vQ e f g h))),_]∧m=[]) at hb
 obtain ⟨q0,q1,q2,q3,hq,hvq⟩:=Dz (fS (vQ a b c d) (vQ e f g h)) (m0r (n0c _ _))
 have huq:Aw [q0,q1,q2,q3]=[.pl (.u64 q0),.pl (.u64 q1),.pl (.u64 q2),.pl (.u64 q3)]:=rfl
 simp only [w4C,hq,huq] at hb ⊢
 refine CtM.k Tryd.func39 rfl Tryd.ntmps39 (congrArg Array.toList Tryd.results39) (by simp) fun w0 ro may fx=>?_
 refine Dj fun zZ zhZ=>?_
 iterate 9 first
  |(refine Cx fun zK zhK=>?_;simp only [go_sem];(repeat' (first|apply And.intro|intro _)))
  |refine zhK _ ?_
  |refine Dx ?_
  |(refine zhZ _ _ ?_;simp only [go_sem];(all_goals (exact told_plain (by simp [Fj,Hz]) ⟨rfl,rfl⟩)))
  |((all_goals (refine Bq false [] (fun k=>k) (fun _ _=>rfl) ?_ (by decide) ?_ hb.told ?_;iterate 2 (focus (first|rfl|(simp only [go_sem]<;>first|done|rfl|simp)))));(all_goals (rintro v m ⟨hR,hm⟩;subst hR;subst hm));(all_goals (refine And.intro ?_ (And.intro ?_ (And.intro ?_ ?_));iterate 3 (focus (first|rfl|(simp only [go_sem];done)|(simp [go_sem,look];done)))));(all_goals (try simp only [go_sem]));(all_goals (try simp only [go_sem]));(all_goals repeat' (first|apply And.intro|intro _)))
theorem m1i (a b c d e f g h:UInt64) (h1:vQ a b c d<p25) (h2:vQ e f g h<p25):
 CtM Tryd.prog 26 [.w (.agg [.pl (.u64 a),.pl (.u64 b),.pl (.u64 c),.pl (.u64 d)]),.w (.agg [.pl (.u64 e),.pl (.u64 f),.pl (.u64 g),.pl (.u64 h)])] [(1000001,⟨false,[.pl (.u64 18446744073709551597),.pl (.u64 18446744073709551615),.pl (.u64 18446744073709551615),.pl (.u64 9223372036854775807)]⟩)] (Told (fun v m=>v=.w (.agg (w4C (fM (vQ a b c d) (vQ e f g h))))∧m=[])):=by
 have hb:=b2j a b c d e f g h h1 h2
 change CtM _ _ _ _ (Told fun v m=>v=V.tup [W.agg (w4C (fM (vQ a b c d) (vQ e f g h))),_]∧m=[]) at hb
 obtain ⟨q0,q1,q2,q3,hq,hvq⟩:=Dz (fM (vQ a b c d) (vQ e f g h)) (m0r (Qq _ _))
 have huq:Aw [q0,q1,q2,q3]=[.pl (.u64 q0),.pl (.u64 q1),.pl (.u64 q2),.pl (.u64 q3)]:=rfl
 simp only [w4C,hq,huq] at hb ⊢
 refine CtM.k Tryd.func26 rfl Tryd.ntmps26 (congrArg Array.toList Tryd.results26) (by simp) fun w0 ro may fx=>?_
 refine Dj fun zZ zhZ=>?_
 iterate 9 first
  |(refine Cx fun zK zhK=>?_;simp only [go_sem];(repeat' (first|apply And.intro|intro _)))
  |refine zhK _ ?_
  |refine Dx ?_
  |(refine zhZ _ _ ?_;simp only [go_sem];(all_goals (exact told_plain (by simp [Fj,Hz]) ⟨rfl,rfl⟩)))
  |((all_goals (refine Bq false [] (fun k=>k) (fun _ _=>rfl) ?_ (by decide) ?_ hb.told ?_;iterate 2 (focus (first|rfl|(simp only [go_sem]<;>first|done|rfl|simp)))));(all_goals (rintro v m ⟨hR,hm⟩;subst hR;subst hm));(all_goals (refine And.intro ?_ (And.intro ?_ (And.intro ?_ ?_));iterate 3 (focus (first|rfl|(simp only [go_sem];done)|(simp [go_sem,look];done)))));(all_goals (try simp only [go_sem]));(all_goals (try simp only [go_sem]));(all_goals repeat' (first|apply And.intro|intro _)))
theorem p0v (a b c d:UInt64) (h1:vQ a b c d<p25):
 CtM Tryd.prog 40 [.w (.agg [.pl (.u64 a),.pl (.u64 b),.pl (.u64 c),.pl (.u64 d)])] [(1000001,⟨false,[.pl (.u64 18446744073709551597),.pl (.u64 18446744073709551615),.pl (.u64 18446744073709551615),.pl (.u64 9223372036854775807)]⟩)] (Told (fun v m=>v=.w (.agg (w4C (fM (vQ a b c d) (vQ a b c d))))∧m=[])):=by
 have hb:=m1i a b c d a b c d h1 h1
 obtain ⟨q0,q1,q2,q3,hq,hvq⟩:=Dz (fM (vQ a b c d) (vQ a b c d)) (m0r (Qq _ _))
 have huq:Aw [q0,q1,q2,q3]=[.pl (.u64 q0),.pl (.u64 q1),.pl (.u64 q2),.pl (.u64 q3)]:=rfl
 simp only [w4C,hq,huq] at hb ⊢
 refine CtM.k Tryd.func40 rfl Tryd.ntmps40 (congrArg Array.toList Tryd.results40) (by simp) fun w0 ro may fx=>?_
 refine Dj fun zZ zhZ=>?_
 refine Cx fun zK zhK=>?_
 simp only [go_sem]
 repeat' (first|apply And.intro|intro _)
 refine zhK _ ?_
 refine Cx fun zK zhK=>?_
 simp only [go_sem]
 repeat' (first|apply And.intro|intro _)
 all_goals (refine Bq false [] (fun k=>k) (fun _ _=>rfl) ?_ (by decide) ?_ hb.told ?_;iterate 2 (focus (first|rfl|(simp only [go_sem]<;>first|done|rfl|simp))))
 all_goals (rintro v m ⟨hR,hm⟩;subst hR;subst hm)
 all_goals (refine And.intro ?_ (And.intro ?_ (And.intro ?_ ?_));iterate 3 (focus (first|rfl|(simp only [go_sem];done)|(simp [go_sem,look];done))))
 all_goals (try simp only [go_sem])
 all_goals (try simp only [go_sem])
 all_goals repeat' (first|apply And.intro|intro _)
 refine zhK _ ?_
 refine Dx ?_
 refine zhZ _ _ ?_
 simp only [go_sem]
 all_goals (exact told_plain (by simp [Fj,Hz]) ⟨rfl,rfl⟩)
end Lk
end Go.Sy
namespace Go.Sy
namespace Lk
open Go.Proofs
attribute [local irreducible] Dv HT Cz Px onC onE onO onG goV goA goS Qx Dw
theorem m1b (x0 x1 x2 x3 y0 y1 y2 y3 z0 z1 z2 z3 v0 v1 v2 v3 u0 u1 u2 u3:UInt64) (X0 X1 Z0 Z1 U:Nat) (hvx:vQ x0 x1 x2 x3=X0) (lx:X0<p25) (hvy:vQ y0 y1 y2 y3=X1) (ly:X1<p25) (hvz:vQ z0 z1 z2 z3=Z0) (lz:Z0<p25) (hvv:vQ v0 v1 v2 v3=Z1) (lv:Z1<p25) (hvu:vQ u0 u1 u2 u3=U) (lu:U<p25):
 CtM Tryd.prog 23 [.w (.agg [.pl (.u64 x0),.pl (.u64 x1),.pl (.u64 x2),.pl (.u64 x3),.pl (.u64 y0),.pl (.u64 y1),.pl (.u64 y2),.pl (.u64 y3),.pl (.u64 z0),.pl (.u64 z1),.pl (.u64 z2),.pl (.u64 z3),.pl (.u64 v0),.pl (.u64 v1),.pl (.u64 v2),.pl (.u64 v3)]),.w (.agg [.pl (.u64 u0),.pl (.u64 u1),.pl (.u64 u2),.pl (.u64 u3)])] [(1000001,⟨false,[.pl (.u64 18446744073709551597),.pl (.u64 18446744073709551615),.pl (.u64 18446744073709551615),.pl (.u64 9223372036854775807)]⟩)] (Told (fun v m=>v=.w (.agg (w4C (v1m ⟨X0,Z0⟩).x++(w4C (q0w ⟨X0,Z0⟩ ⟨X1,Z1⟩ U).x++(w4C (v1m ⟨X0,Z0⟩).z++w4C (q0w ⟨X0,Z0⟩ ⟨X1,Z1⟩ U).z))))∧m=[])):=by
 have hvk:vQ 121665 0 0 0=121665:=rfl
 have lk:(121665:Nat)<p25:=by decide
 obtain ⟨nrA,hnrA⟩: ∃ n,fA X0 Z0=n:=⟨_,rfl⟩
 have lrA:nrA<p25:=by rw [←hnrA];exact j0n _ _
 have k0:=b2w x0 x1 x2 x3 z0 z1 z2 z3 (hvx▸lx) (hvz▸lz)
 rw [hvx,hvz,hnrA] at k0
 obtain ⟨rA0,rA1,rA2,rA3,hrA,hvrA⟩:=Dz nrA (m0r lrA)
 have hurA:w4C nrA=[.pl (.u64 rA0),.pl (.u64 rA1),.pl (.u64 rA2),.pl (.u64 rA3)]:=by rw [w4C,hrA];rfl
 rw [hurA] at k0
 obtain ⟨nrB,hnrB⟩: ∃ n,fS X0 Z0=n:=⟨_,rfl⟩
 have lrB:nrB<p25:=by rw [←hnrB];exact n0c _ _
 have k1:=b2s x0 x1 x2 x3 z0 z1 z2 z3 (hvx▸lx) (hvz▸lz)
 rw [hvx,hvz,hnrB] at k1
 obtain ⟨rB0,rB1,rB2,rB3,hrB,hvrB⟩:=Dz nrB (m0r lrB)
 have hurB:w4C nrB=[.pl (.u64 rB0),.pl (.u64 rB1),.pl (.u64 rB2),.pl (.u64 rB3)]:=by rw [w4C,hrB];rfl
 rw [hurB] at k1
 obtain ⟨nrC,hnrC⟩: ∃ n,fA X1 Z1=n:=⟨_,rfl⟩
 have lrC:nrC<p25:=by rw [←hnrC];exact j0n _ _
 have k2:=b2w y0 y1 y2 y3 v0 v1 v2 v3 (hvy▸ly) (hvv▸lv)
 rw [hvy,hvv,hnrC] at k2
 obtain ⟨rC0,rC1,rC2,rC3,hrC,hvrC⟩:=Dz nrC (m0r lrC)
 have hurC:w4C nrC=[.pl (.u64 rC0),.pl (.u64 rC1),.pl (.u64 rC2),.pl (.u64 rC3)]:=by rw [w4C,hrC];rfl
 rw [hurC] at k2
 obtain ⟨nrD,hnrD⟩: ∃ n,fS X1 Z1=n:=⟨_,rfl⟩
 have lrD:nrD<p25:=by rw [←hnrD];exact n0c _ _
 have k3:=b2s y0 y1 y2 y3 v0 v1 v2 v3 (hvy▸ly) (hvv▸lv)
 rw [hvy,hvv,hnrD] at k3
 obtain ⟨rD0,rD1,rD2,rD3,hrD,hvrD⟩:=Dz nrD (m0r lrD)
 have hurD:w4C nrD=[.pl (.u64 rD0),.pl (.u64 rD1),.pl (.u64 rD2),.pl (.u64 rD3)]:=by rw [w4C,hrD];rfl
 rw [hurD] at k3
 obtain ⟨nrE,hnrE⟩: ∃ n,fM nrA nrA=n:=⟨_,rfl⟩
 have lrE:nrE<p25:=by rw [←hnrE];exact Qq _ _
 have k4:=p0v rA0 rA1 rA2 rA3 (hvrA▸lrA)
 rw [hvrA,hnrE] at k4
 obtain ⟨rE0,rE1,rE2,rE3,hrE,hvrE⟩:=Dz nrE (m0r lrE)
 have hurE:w4C nrE=[.pl (.u64 rE0),.pl (.u64 rE1),.pl (.u64 rE2),.pl (.u64 rE3)]:=by rw [w4C,hrE];rfl
 rw [hurE] at k4
 obtain ⟨nrF,hnrF⟩: ∃ n,fM nrB nrB=n:=⟨_,rfl⟩
 have lrF:nrF<p25:=by rw [←hnrF];exact Qq _ _
 have k5:=p0v rB0 rB1 rB2 rB3 (hvrB▸lrB)
 rw [hvrB,hnrF] at k5
 obtain ⟨rF0,rF1,rF2,rF3,hrF,hvrF⟩:=Dz nrF (m0r lrF)
 have hurF:w4C nrF=[.pl (.u64 rF0),.pl (.u64 rF1),.pl (.u64 rF2),.pl (.u64 rF3)]:=by rw [w4C,hrF];rfl
 rw [hurF] at k5
 obtain ⟨nrG,hnrG⟩: ∃ n,fS nrE nrF=n:=⟨_,rfl⟩
 have lrG:nrG<p25:=by rw [←hnrG];exact n0c _ _
 have k6:=b2s rE0 rE1 rE2 rE3 rF0 rF1 rF2 rF3 (hvrE▸lrE) (hvrF▸lrF)
 rw [hvrE,hvrF,hnrG] at k6
 obtain ⟨rG0,rG1,rG2,rG3,hrG,hvrG⟩:=Dz nrG (m0r lrG)
 have hurG:w4C nrG=[.pl (.u64 rG0),.pl (.u64 rG1),.pl (.u64 rG2),.pl (.u64 rG3)]:=by rw [w4C,hrG];rfl
 rw [hurG] at k6
 obtain ⟨nrH,hnrH⟩: ∃ n,fM nrD nrA=n:=⟨_,rfl⟩
 have lrH:nrH<p25:=by rw [←hnrH];exact Qq _ _
 have k7:=m1i rD0 rD1 rD2 rD3 rA0 rA1 rA2 rA3 (hvrD▸lrD) (hvrA▸lrA)
 rw [hvrD,hvrA,hnrH] at k7
 obtain ⟨rH0,rH1,rH2,rH3,hrH,hvrH⟩:=Dz nrH (m0r lrH)
 have hurH:w4C nrH=[.pl (.u64 rH0),.pl (.u64 rH1),.pl (.u64 rH2),.pl (.u64 rH3)]:=by rw [w4C,hrH];rfl
 rw [hurH] at k7
 obtain ⟨nrI,hnrI⟩: ∃ n,fM nrC nrB=n:=⟨_,rfl⟩
 have lrI:nrI<p25:=by rw [←hnrI];exact Qq _ _
 have k8:=m1i rC0 rC1 rC2 rC3 rB0 rB1 rB2 rB3 (hvrC▸lrC) (hvrB▸lrB)
 rw [hvrC,hvrB,hnrI] at k8
 obtain ⟨rI0,rI1,rI2,rI3,hrI,hvrI⟩:=Dz nrI (m0r lrI)
 have hurI:w4C nrI=[.pl (.u64 rI0),.pl (.u64 rI1),.pl (.u64 rI2),.pl (.u64 rI3)]:=by rw [w4C,hrI];rfl
 rw [hurI] at k8
 obtain ⟨nrJ,hnrJ⟩: ∃ n,fM nrE nrF=n:=⟨_,rfl⟩
 have lrJ:nrJ<p25:=by rw [←hnrJ];exact Qq _ _
 have k9:=m1i rE0 rE1 rE2 rE3 rF0 rF1 rF2 rF3 (hvrE▸lrE) (hvrF▸lrF)
 rw [hvrE,hvrF,hnrJ] at k9
 obtain ⟨rJ0,rJ1,rJ2,rJ3,hrJ,hvrJ⟩:=Dz nrJ (m0r lrJ)
 have hurJ:w4C nrJ=[.pl (.u64 rJ0),.pl (.u64 rJ1),.pl (.u64 rJ2),.pl (.u64 rJ3)]:=by rw [w4C,hrJ];rfl
 rw [hurJ] at k9
 obtain ⟨nrK,hnrK⟩: ∃ n,fA nrH nrI=n:=⟨_,rfl⟩
 have lrK:nrK<p25:=by rw [←hnrK];exact j0n _ _
 have k10:=b2w rH0 rH1 rH2 rH3 rI0 rI1 rI2 rI3 (hvrH▸lrH) (hvrI▸lrI)
 rw [hvrH,hvrI,hnrK] at k10
 obtain ⟨rK0,rK1,rK2,rK3,hrK,hvrK⟩:=Dz nrK (m0r lrK)
 have hurK:w4C nrK=[.pl (.u64 rK0),.pl (.u64 rK1),.pl (.u64 rK2),.pl (.u64 rK3)]:=by rw [w4C,hrK];rfl
 rw [hurK] at k10
 obtain ⟨nrL,hnrL⟩: ∃ n,fM nrK nrK=n:=⟨_,rfl⟩
 have lrL:nrL<p25:=by rw [←hnrL];exact Qq _ _
 have k11:=p0v rK0 rK1 rK2 rK3 (hvrK▸lrK)
 rw [hvrK,hnrL] at k11
 obtain ⟨rL0,rL1,rL2,rL3,hrL,hvrL⟩:=Dz nrL (m0r lrL)
 have hurL:w4C nrL=[.pl (.u64 rL0),.pl (.u64 rL1),.pl (.u64 rL2),.pl (.u64 rL3)]:=by rw [w4C,hrL];rfl
 rw [hurL] at k11
 obtain ⟨nrM,hnrM⟩: ∃ n,fM 121665 nrG=n:=⟨_,rfl⟩
 have lrM:nrM<p25:=by rw [←hnrM];exact Qq _ _
 have k12:=m1i 121665 0 0 0 rG0 rG1 rG2 rG3 (hvk▸lk) (hvrG▸lrG)
 rw [hvk,hvrG,hnrM] at k12
 obtain ⟨rM0,rM1,rM2,rM3,hrM,hvrM⟩:=Dz nrM (m0r lrM)
 have hurM:w4C nrM=[.pl (.u64 rM0),.pl (.u64 rM1),.pl (.u64 rM2),.pl (.u64 rM3)]:=by rw [w4C,hrM];rfl
 rw [hurM] at k12
 obtain ⟨nrN,hnrN⟩: ∃ n,fA nrE nrM=n:=⟨_,rfl⟩
 have lrN:nrN<p25:=by rw [←hnrN];exact j0n _ _
 have k13:=b2w rE0 rE1 rE2 rE3 rM0 rM1 rM2 rM3 (hvrE▸lrE) (hvrM▸lrM)
 rw [hvrE,hvrM,hnrN] at k13
 obtain ⟨rN0,rN1,rN2,rN3,hrN,hvrN⟩:=Dz nrN (m0r lrN)
 have hurN:w4C nrN=[.pl (.u64 rN0),.pl (.u64 rN1),.pl (.u64 rN2),.pl (.u64 rN3)]:=by rw [w4C,hrN];rfl
 rw [hurN] at k13
 obtain ⟨nrO,hnrO⟩: ∃ n,fM nrG nrN=n:=⟨_,rfl⟩
 have lrO:nrO<p25:=by rw [←hnrO];exact Qq _ _
 have k14:=m1i rG0 rG1 rG2 rG3 rN0 rN1 rN2 rN3 (hvrG▸lrG) (hvrN▸lrN)
 rw [hvrG,hvrN,hnrO] at k14
 obtain ⟨rO0,rO1,rO2,rO3,hrO,hvrO⟩:=Dz nrO (m0r lrO)
 have hurO:w4C nrO=[.pl (.u64 rO0),.pl (.u64 rO1),.pl (.u64 rO2),.pl (.u64 rO3)]:=by rw [w4C,hrO];rfl
 rw [hurO] at k14
 obtain ⟨nrP,hnrP⟩: ∃ n,fS nrH nrI=n:=⟨_,rfl⟩
 have lrP:nrP<p25:=by rw [←hnrP];exact n0c _ _
 have k15:=b2s rH0 rH1 rH2 rH3 rI0 rI1 rI2 rI3 (hvrH▸lrH) (hvrI▸lrI)
 rw [hvrH,hvrI,hnrP] at k15
 obtain ⟨rP0,rP1,rP2,rP3,hrP,hvrP⟩:=Dz nrP (m0r lrP)
 have hurP:w4C nrP=[.pl (.u64 rP0),.pl (.u64 rP1),.pl (.u64 rP2),.pl (.u64 rP3)]:=by rw [w4C,hrP];rfl
 rw [hurP] at k15
 obtain ⟨nrQ,hnrQ⟩: ∃ n,fM nrP nrP=n:=⟨_,rfl⟩
 have lrQ:nrQ<p25:=by rw [←hnrQ];exact Qq _ _
 have k16:=p0v rP0 rP1 rP2 rP3 (hvrP▸lrP)
 rw [hvrP,hnrQ] at k16
 obtain ⟨rQ0,rQ1,rQ2,rQ3,hrQ,hvrQ⟩:=Dz nrQ (m0r lrQ)
 have hurQ:w4C nrQ=[.pl (.u64 rQ0),.pl (.u64 rQ1),.pl (.u64 rQ2),.pl (.u64 rQ3)]:=by rw [w4C,hrQ];rfl
 rw [hurQ] at k16
 obtain ⟨nrR,hnrR⟩: ∃ n,fM U nrQ=n:=⟨_,rfl⟩
 have lrR:nrR<p25:=by rw [←hnrR];exact Qq _ _
 have k17:=m1i u0 u1 u2 u3 rQ0 rQ1 rQ2 rQ3 (hvu▸lu) (hvrQ▸lrQ)
 rw [hvu,hvrQ,hnrR] at k17
 obtain ⟨rR0,rR1,rR2,rR3,hrR,hvrR⟩:=Dz nrR (m0r lrR)
 have hurR:w4C nrR=[.pl (.u64 rR0),.pl (.u64 rR1),.pl (.u64 rR2),.pl (.u64 rR3)]:=by rw [w4C,hrR];rfl
 rw [hurR] at k17
 have hfin:(w4C (v1m ⟨X0,Z0⟩).x++(w4C (q0w ⟨X0,Z0⟩ ⟨X1,Z1⟩ U).x++(w4C (v1m ⟨X0,Z0⟩).z++w4C (q0w ⟨X0,Z0⟩ ⟨X1,Z1⟩ U).z)))=[.pl (.u64 rJ0),.pl (.u64 rJ1),.pl (.u64 rJ2),.pl (.u64 rJ3),.pl (.u64 rL0),.pl (.u64 rL1),.pl (.u64 rL2),.pl (.u64 rL3),.pl (.u64 rO0),.pl (.u64 rO1),.pl (.u64 rO2),.pl (.u64 rO3),.pl (.u64 rR0),.pl (.u64 rR1),.pl (.u64 rR2),.pl (.u64 rR3)]:=by simp only [v1m,q0w,hnrA,hnrB,hnrC,hnrD,hnrE,hnrF,hnrG,hnrH,hnrI,hnrJ,hnrK,hnrL,hnrM,hnrN,hnrO,hnrP,hnrQ,hnrR,hurJ,hurL,hurO,hurR];rfl
 rw [hfin]
 refine CtM.k Tryd.func23 rfl Tryd.ntmps23 (congrArg Array.toList Tryd.results23) (by simp) fun w0 ro may fx=>?_
 refine Dj fun zZ zhZ=>?_
 refine Cx fun zK zhK=>?_
 simp only [go_sem]
 repeat' (first|apply And.intro|intro _)
 refine zhK _ ?_
 refine Bz fun zN zM zhN zhM=>?_
 refine b0s (id:=1) mixed fun zE zhE=>?_
 refine Ck (p:=0) 16 [14,15,16,17,18,19,20,21,22,23,24,25,26,27,5,6] [0,1,3,0,8,24,63,0,128,384,0,1024,3072,8191,0,0,65535,131071] [] rfl (by kernel_rfl) rfl (by simp only [go_sem]) fun zR zK zhR zhK=>?_
 simp only [go_sem]
 repeat' (first|apply And.intro|intro _)
 all_goals (refine Bw (fun k=>k) (.w (.agg [.pl (.u64 rA0),.pl (.u64 rA1),.pl (.u64 rA2),.pl (.u64 rA3)])) [] (fun _ _=>rfl) ?_ ?_ ?_ k0.told ?_ ?_;(iterate 2 (focus (first|rfl|(simp only [go_sem]<;>first|done|rfl|simp))));(first|kernel_rfl|rfl|simp [Qv,Qk,pls]))
 all_goals try (refine And.intro ?_ (And.intro ?_ (And.intro ?_ ?_))<;>(first|rfl|(simp only [go_sem];done)|(simp [go_sem,look];done)))
 all_goals (try simp only [go_sem])
 all_goals (try simp only [go_sem])
 all_goals repeat' (first|apply And.intro|intro _)
 all_goals (refine Bw (fun k=>k) (.w (.agg [.pl (.u64 rB0),.pl (.u64 rB1),.pl (.u64 rB2),.pl (.u64 rB3)])) [] (fun _ _=>rfl) ?_ ?_ ?_ k1.told ?_ ?_;(iterate 2 (focus (first|rfl|(simp only [go_sem]<;>first|done|rfl|simp))));(first|kernel_rfl|rfl|simp [Qv,Qk,pls]))
 all_goals try (refine And.intro ?_ (And.intro ?_ (And.intro ?_ ?_))<;>(first|rfl|(simp only [go_sem];done)|(simp [go_sem,look];done)))
 all_goals (try simp only [go_sem])
 all_goals (try simp only [go_sem])
 all_goals repeat' (first|apply And.intro|intro _)
 refine zhK _ _ trivial (zhR _ ?_)
 refine Dk 2 18 rfl (by kernel_rfl) rfl rfl fun zR zhR=>?_
 simp only [go_sem]
 repeat' (first|apply And.intro|intro _)
 refine zhR _ ?_
 refine Jy rfl (zhE _ ?_)
 refine zhN _ ?_;clear zhN zhM
 refine Bz fun zN zM zhN zhM=>?_
 refine b0s (id:=2) mixed fun zE zhE=>?_
 refine Ck (p:=0) 16 [28,29,30,31,32,33,34,35,36,37,38,39,40,41,7,8] [0,1,3,0,8,24,63,0,128,384,0,1024,3072,8191,0,0,65535,131071] [] rfl (by kernel_rfl) rfl (by simp only [go_sem]) fun zR zK zhR zhK=>?_
 simp only [go_sem]
 repeat' (first|apply And.intro|intro _)
 all_goals (refine Bw (fun k=>k) (.w (.agg [.pl (.u64 rC0),.pl (.u64 rC1),.pl (.u64 rC2),.pl (.u64 rC3)])) [] (fun _ _=>rfl) ?_ ?_ ?_ k2.told ?_ ?_;(iterate 2 (focus (first|rfl|(simp only [go_sem]<;>first|done|rfl|simp))));(first|kernel_rfl|rfl|simp [Qv,Qk,pls]))
 all_goals try (refine And.intro ?_ (And.intro ?_ (And.intro ?_ ?_))<;>(first|rfl|(simp only [go_sem];done)|(simp [go_sem,look];done)))
 all_goals (try simp only [go_sem])
 all_goals (try simp only [go_sem])
 all_goals repeat' (first|apply And.intro|intro _)
 all_goals (refine Bw (fun k=>k) (.w (.agg [.pl (.u64 rD0),.pl (.u64 rD1),.pl (.u64 rD2),.pl (.u64 rD3)])) [] (fun _ _=>rfl) ?_ ?_ ?_ k3.told ?_ ?_;(iterate 2 (focus (first|rfl|(simp only [go_sem]<;>first|done|rfl|simp))));(first|kernel_rfl|rfl|simp [Qv,Qk,pls]))
 all_goals try (refine And.intro ?_ (And.intro ?_ (And.intro ?_ ?_))<;>(first|rfl|(simp only [go_sem];done)|(simp [go_sem,look];done)))
 all_goals (try simp only [go_sem])
 all_goals (try simp only [go_sem])
 all_goals repeat' (first|apply And.intro|intro _)
 refine zhK _ _ trivial (zhR _ ?_)
 refine Dk 2 18 rfl (by kernel_rfl) rfl rfl fun zR zhR=>?_
 simp only [go_sem]
 repeat' (first|apply And.intro|intro _)
 refine zhR _ ?_
 refine Jy rfl (zhE _ ?_)
 refine zhN _ ?_;clear zhN zhM
 refine Bz fun zN zM zhN zhM=>?_
 refine b0s (id:=3) mixed fun zE zhE=>?_
 refine Ck (p:=0) 6 [42,43,44,45,9,10] [0,1,0,7,0,0,63,127] [] rfl (by kernel_rfl) rfl (by simp only [go_sem]) fun zR zK zhR zhK=>?_
 simp only [go_sem]
 repeat' (first|apply And.intro|intro _)
 all_goals (refine Bw (fun k=>k) (.w (.agg [.pl (.u64 rE0),.pl (.u64 rE1),.pl (.u64 rE2),.pl (.u64 rE3)])) [] (fun _ _=>rfl) ?_ ?_ ?_ k4.told ?_ ?_;(iterate 2 (focus (first|rfl|(simp only [go_sem]<;>first|done|rfl|simp))));(first|kernel_rfl|rfl|simp [Qv,Qk,pls]))
 all_goals try (refine And.intro ?_ (And.intro ?_ (And.intro ?_ ?_))<;>(first|rfl|(simp only [go_sem];done)|(simp [go_sem,look];done)))
 all_goals (try simp only [go_sem])
 all_goals (try simp only [go_sem])
 all_goals repeat' (first|apply And.intro|intro _)
 all_goals (refine Bw (fun k=>k) (.w (.agg [.pl (.u64 rF0),.pl (.u64 rF1),.pl (.u64 rF2),.pl (.u64 rF3)])) [] (fun _ _=>rfl) ?_ ?_ ?_ k5.told ?_ ?_;(iterate 2 (focus (first|rfl|(simp only [go_sem]<;>first|done|rfl|simp))));(first|kernel_rfl|rfl|simp [Qv,Qk,pls]))
 all_goals try (refine And.intro ?_ (And.intro ?_ (And.intro ?_ ?_))<;>(first|rfl|(simp only [go_sem];done)|(simp [go_sem,look];done)))
 all_goals (try simp only [go_sem])
 all_goals (try simp only [go_sem])
 all_goals repeat' (first|apply And.intro|intro _)
 refine zhK _ _ trivial (zhR _ ?_)
 refine Dk 2 8 rfl (by kernel_rfl) rfl rfl fun zR zhR=>?_
 simp only [go_sem]
 repeat' (first|apply And.intro|intro _)
 refine zhR _ ?_
 refine Jy rfl (zhE _ ?_)
 refine zhN _ ?_;clear zhN zhM
 refine Cx fun zK zhK=>?_
 simp only [go_sem]
 repeat' (first|apply And.intro|intro _)
 all_goals (refine Bq false [] (fun k=>k) (fun _ _=>rfl) ?_ (by decide) ?_ k6.told ?_;iterate 2 (focus (first|rfl|(simp only [go_sem]<;>first|done|rfl|simp))))
 all_goals (rintro v m ⟨hR,hm⟩;subst hR;subst hm)
 all_goals (refine And.intro ?_ (And.intro ?_ (And.intro ?_ ?_));iterate 3 (focus (first|rfl|(simp only [go_sem];done)|(simp [go_sem,look];done))))
 all_goals (try simp only [go_sem])
 all_goals (try simp only [go_sem])
 all_goals repeat' (first|apply And.intro|intro _)
 refine zhK _ ?_
 refine Bz fun zN zM zhN zhM=>?_
 refine b0s (id:=5) mixed fun zE zhE=>?_
 refine Ck (p:=0) 8 [49,50,51,52,53,54,12,13] [0,0,3,0,0,31,0,0,255,511] [] rfl (by kernel_rfl) rfl (by simp only [go_sem]) fun zR zK zhR zhK=>?_
 simp only [go_sem]
 repeat' (first|apply And.intro|intro _)
 all_goals (refine Bw (fun k=>k) (.w (.agg [.pl (.u64 rH0),.pl (.u64 rH1),.pl (.u64 rH2),.pl (.u64 rH3)])) [] (fun _ _=>rfl) ?_ ?_ ?_ k7.told ?_ ?_;(iterate 2 (focus (first|rfl|(simp only [go_sem]<;>first|done|rfl|simp))));(first|kernel_rfl|rfl|simp [Qv,Qk,pls]))
 all_goals try (refine And.intro ?_ (And.intro ?_ (And.intro ?_ ?_))<;>(first|rfl|(simp only [go_sem];done)|(simp [go_sem,look];done)))
 all_goals (try simp only [go_sem])
 all_goals (try simp only [go_sem])
 all_goals repeat' (first|apply And.intro|intro _)
 all_goals (refine Bw (fun k=>k) (.w (.agg [.pl (.u64 rI0),.pl (.u64 rI1),.pl (.u64 rI2),.pl (.u64 rI3)])) [] (fun _ _=>rfl) ?_ ?_ ?_ k8.told ?_ ?_;(iterate 2 (focus (first|rfl|(simp only [go_sem]<;>first|done|rfl|simp))));(first|kernel_rfl|rfl|simp [Qv,Qk,pls]))
 all_goals try (refine And.intro ?_ (And.intro ?_ (And.intro ?_ ?_))<;>(first|rfl|(simp only [go_sem];done)|(simp [go_sem,look];done)))
 all_goals (try simp only [go_sem])
 all_goals (try simp only [go_sem])
 all_goals repeat' (first|apply And.intro|intro _)
 refine zhK _ _ trivial (zhR _ ?_)
 refine Dk 2 10 rfl (by kernel_rfl) rfl rfl fun zR zhR=>?_
 simp only [go_sem]
 repeat' (first|apply And.intro|intro _)
 refine zhR _ ?_
 refine Jy rfl (zhE _ ?_)
 refine zhN _ ?_;clear zhN zhM
 refine Bz fun zN zM zhN zhM=>?_
 refine b0s (id:=6) mixed fun zE zhE=>?_
 refine Ck (p:=0) 22 [55,56,57,58,59,60,61,62,63,64,65,66,67,68,69,70,71,72,73,74,75,76] [0,0,3,0,0,31,63,127,0,0,0,0,3199,7807,16255,0,0,0,229247,491391,1048447,2097023,4194303,8388607] [] rfl (by kernel_rfl) rfl (by simp only [go_sem]) fun zR zK zhR zhK=>?_
 simp only [go_sem]
 repeat' (first|apply And.intro|intro _)
 all_goals (refine Bw (fun k=>k) (.w (.agg [.pl (.u64 rJ0),.pl (.u64 rJ1),.pl (.u64 rJ2),.pl (.u64 rJ3)])) [] (fun _ _=>rfl) ?_ ?_ ?_ k9.told ?_ ?_;(iterate 2 (focus (first|rfl|(simp only [go_sem]<;>first|done|rfl|simp))));(first|kernel_rfl|rfl|simp [Qv,Qk,pls]))
 all_goals try (refine And.intro ?_ (And.intro ?_ (And.intro ?_ ?_))<;>(first|rfl|(simp only [go_sem];done)|(simp [go_sem,look];done)))
 all_goals (try simp only [go_sem])
 all_goals (try simp only [go_sem])
 all_goals repeat' (first|apply And.intro|intro _)
 all_goals (refine Bw (fun k=>k) (.w (.agg [.pl (.u64 rK0),.pl (.u64 rK1),.pl (.u64 rK2),.pl (.u64 rK3)])) [] (fun _ _=>rfl) ?_ ?_ ?_ k10.told ?_ ?_;(iterate 2 (focus (first|rfl|(simp only [go_sem]<;>first|done|rfl|simp))));(first|kernel_rfl|rfl|simp [Qv,Qk,pls]))
 all_goals try (refine And.intro ?_ (And.intro ?_ (And.intro ?_ ?_))<;>(first|rfl|(simp only [go_sem];done)|(simp [go_sem,look];done)))
 all_goals (try simp only [go_sem])
 all_goals (try simp only [go_sem])
 all_goals repeat' (first|apply And.intro|intro _)
 all_goals (refine Bw (fun k=>k) (.w (.agg [.pl (.u64 rL0),.pl (.u64 rL1),.pl (.u64 rL2),.pl (.u64 rL3)])) [] (fun _ _=>rfl) ?_ ?_ ?_ k11.told ?_ ?_;(iterate 2 (focus (first|rfl|(simp only [go_sem]<;>first|done|rfl|simp))));(first|kernel_rfl|rfl|simp [Qv,Qk,pls]))
 all_goals try (refine And.intro ?_ (And.intro ?_ (And.intro ?_ ?_))<;>(first|rfl|(simp only [go_sem];done)|(simp [go_sem,look];done)))
 all_goals (try simp only [go_sem])
 all_goals (try simp only [go_sem])
 all_goals repeat' (first|apply And.intro|intro _)
 all_goals (refine Bw (fun k=>k) (.w (.agg [.pl (.u64 rM0),.pl (.u64 rM1),.pl (.u64 rM2),.pl (.u64 rM3)])) [] (fun _ _=>rfl) ?_ ?_ ?_ k12.told ?_ ?_;(iterate 2 (focus (first|rfl|(simp only [go_sem]<;>first|done|rfl|simp))));(first|kernel_rfl|rfl|simp [Qv,Qk,pls]))
 all_goals try (refine And.intro ?_ (And.intro ?_ (And.intro ?_ ?_))<;>(first|rfl|(simp only [go_sem];done)|(simp [go_sem,look];done)))
 all_goals (try simp only [go_sem])
 all_goals (try simp only [go_sem])
 all_goals repeat' (first|apply And.intro|intro _)
 all_goals (refine Bw (fun k=>k) (.w (.agg [.pl (.u64 rN0),.pl (.u64 rN1),.pl (.u64 rN2),.pl (.u64 rN3)])) [] (fun _ _=>rfl) ?_ ?_ ?_ k13.told ?_ ?_;(iterate 2 (focus (first|rfl|(simp only [go_sem]<;>first|done|rfl|simp))));(first|kernel_rfl|rfl|simp [Qv,Qk,pls]))
 all_goals try (refine And.intro ?_ (And.intro ?_ (And.intro ?_ ?_))<;>(first|rfl|(simp only [go_sem];done)|(simp [go_sem,look];done)))
 all_goals (try simp only [go_sem])
 all_goals (try simp only [go_sem])
 all_goals repeat' (first|apply And.intro|intro _)
 all_goals (refine Bw (fun k=>k) (.w (.agg [.pl (.u64 rO0),.pl (.u64 rO1),.pl (.u64 rO2),.pl (.u64 rO3)])) [] (fun _ _=>rfl) ?_ ?_ ?_ k14.told ?_ ?_;(iterate 2 (focus (first|rfl|(simp only [go_sem]<;>first|done|rfl|simp))));(first|kernel_rfl|rfl|simp [Qv,Qk,pls]))
 all_goals try (refine And.intro ?_ (And.intro ?_ (And.intro ?_ ?_))<;>(first|rfl|(simp only [go_sem];done)|(simp [go_sem,look];done)))
 all_goals (try simp only [go_sem])
 all_goals (try simp only [go_sem])
 all_goals repeat' (first|apply And.intro|intro _)
 all_goals (refine Bw (fun k=>k) (.w (.agg [.pl (.u64 rP0),.pl (.u64 rP1),.pl (.u64 rP2),.pl (.u64 rP3)])) [] (fun _ _=>rfl) ?_ ?_ ?_ k15.told ?_ ?_;(iterate 2 (focus (first|rfl|(simp only [go_sem]<;>first|done|rfl|simp))));(first|kernel_rfl|rfl|simp [Qv,Qk,pls]))
 all_goals try (refine And.intro ?_ (And.intro ?_ (And.intro ?_ ?_))<;>(first|rfl|(simp only [go_sem];done)|(simp [go_sem,look];done)))
 all_goals (try simp only [go_sem])
 all_goals (try simp only [go_sem])
 all_goals repeat' (first|apply And.intro|intro _)
 all_goals (refine Bw (fun k=>k) (.w (.agg [.pl (.u64 rQ0),.pl (.u64 rQ1),.pl (.u64 rQ2),.pl (.u64 rQ3)])) [] (fun _ _=>rfl) ?_ ?_ ?_ k16.told ?_ ?_;(iterate 2 (focus (first|rfl|(simp only [go_sem]<;>first|done|rfl|simp))));(first|kernel_rfl|rfl|simp [Qv,Qk,pls]))
 all_goals try (refine And.intro ?_ (And.intro ?_ (And.intro ?_ ?_))<;>(first|rfl|(simp only [go_sem];done)|(simp [go_sem,look];done)))
 all_goals (try simp only [go_sem])
 all_goals (try simp only [go_sem])
 all_goals repeat' (first|apply And.intro|intro _)
 all_goals (refine Bw (fun k=>k) (.w (.agg [.pl (.u64 rR0),.pl (.u64 rR1),.pl (.u64 rR2),.pl (.u64 rR3)])) [] (fun _ _=>rfl) ?_ ?_ ?_ k17.told ?_ ?_;(iterate 2 (focus (first|rfl|(simp only [go_sem]<;>first|done|rfl|simp))));(first|kernel_rfl|rfl|simp [Qv,Qk,pls]))
 all_goals try (refine And.intro ?_ (And.intro ?_ (And.intro ?_ ?_))<;>(first|rfl|(simp only [go_sem];done)|(simp [go_sem,look];done)))
 all_goals (try simp only [go_sem])
 all_goals (try simp only [go_sem])
 all_goals repeat' (first|apply And.intro|intro _)
 refine zhK _ _ trivial (zhR _ ?_)
 refine Dk 2 24 rfl (by kernel_rfl) rfl rfl fun zR zhR=>?_
 simp only [go_sem]
 repeat' (first|apply And.intro|intro _)
 refine zhR _ ?_
 refine Jy rfl (zhE _ ?_)
 refine zhN _ ?_;clear zhN zhM
 refine Dx ?_
 refine zhZ _ _ ?_
 simp only [go_sem]
 all_goals (exact told_plain (by simp [Fj,Hz]) ⟨rfl,rfl⟩)
end Lk
end Go.Sy
