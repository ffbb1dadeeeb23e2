/- Numbers of bytes, as the document tells them. -/
import Derived.Test.YtkfcbhgkpknagaaGreatDoorvE3
import Derived.Test.YtkfcbhgkpknagaaGreatDoorvS25
import Derived.Test.YtkfcbhgkpknagaaGreatDoorvS29
set_option linter.unusedVariables false
set_option linter.unusedSimpArgs false
namespace Go.Sy
namespace Lk
open Go.Proofs
attribute [local irreducible] Bw HT Aj Jk onC onE onO onG goV goA goS Lx Bz
set_option maxHeartbeats 3200000 in
set_option maxRecDepth 100000 in
theorem d2j (x0 x1 x2 x3 x4 x5 x6 x7 x8 x9 x10 x11 x12 x13 x14 x15 x16 x17 x18 x19 x20 x21 x22 x23 x24 x25 x26 x27 x28 x29 x30 x31:UInt8):
 CtM Tryz.prog 63 [.w (.agg [.pl (.u8 x0),.pl (.u8 x1),.pl (.u8 x2),.pl (.u8 x3),.pl (.u8 x4),.pl (.u8 x5),.pl (.u8 x6),.pl (.u8 x7),.pl (.u8 x8),.pl (.u8 x9),.pl (.u8 x10),.pl (.u8 x11),.pl (.u8 x12),.pl (.u8 x13),.pl (.u8 x14),.pl (.u8 x15),.pl (.u8 x16),.pl (.u8 x17),.pl (.u8 x18),.pl (.u8 x19),.pl (.u8 x20),.pl (.u8 x21),.pl (.u8 x22),.pl (.u8 x23),.pl (.u8 x24),.pl (.u8 x25),.pl (.u8 x26),.pl (.u8 x27),.pl (.u8 x28),.pl (.u8 x29),.pl (.u8 x30),.pl (.u8 x31)])] [(1000000,⟨false,Dz Nw⟩)] (Told (fun v m=>v=.w (.agg (w4C (vQ (orW x0 x1 x2 x3 x4 x5 x6 x7) (orW x8 x9 x10 x11 x12 x13 x14 x15) (orW x16 x17 x18 x19 x20 x21 x22 x23) (orW x24 x25 x26 x27 x28 x29 x30 x31&&&9223372036854775807)%p25)))∧m=[])):=by
 obtain ⟨o0,ho0⟩: ∃ z,orW x0 x1 x2 x3 x4 x5 x6 x7=z:=⟨_,rfl⟩
 obtain ⟨o1,ho1⟩: ∃ z,orW x8 x9 x10 x11 x12 x13 x14 x15=z:=⟨_,rfl⟩
 obtain ⟨o2,ho2⟩: ∃ z,orW x16 x17 x18 x19 x20 x21 x22 x23=z:=⟨_,rfl⟩
 obtain ⟨o3,ho3⟩: ∃ z,orW x24 x25 x26 x27 x28 x29 x30 x31&&&9223372036854775807=z:=⟨_,rfl⟩
 have hw0:((((((((0*256+x7.toUInt64)*256+x6.toUInt64)*256+x5.toUInt64)*256+x4.toUInt64)*256+x3.toUInt64)*256+x2.toUInt64)*256+x1.toUInt64)*256+x0.toUInt64)=o0:=by
  rw [←ho0]
  refine xS.mp ?_
  rw [u0w]
  exact v0l _ _ _ _ _ _ _ (q0c x7) (x7.toNat_lt)
 have hw1:((((((((0*256+x15.toUInt64)*256+x14.toUInt64)*256+x13.toUInt64)*256+x12.toUInt64)*256+x11.toUInt64)*256+x10.toUInt64)*256+x9.toUInt64)*256+x8.toUInt64)=o1:=by
  rw [←ho1]
  refine xS.mp ?_
  rw [u0w]
  exact v0l _ _ _ _ _ _ _ (q0c x15) (x15.toNat_lt)
 have hw2:((((((((0*256+x23.toUInt64)*256+x22.toUInt64)*256+x21.toUInt64)*256+x20.toUInt64)*256+x19.toUInt64)*256+x18.toUInt64)*256+x17.toUInt64)*256+x16.toUInt64)=o2:=by
  rw [←ho2]
  refine xS.mp ?_
  rw [u0w]
  exact v0l _ _ _ _ _ _ _ (q0c x23) (x23.toNat_lt)
 have hw3:((((((((0*256+(x31.toUInt64)%128)*256+x30.toUInt64)*256+x29.toUInt64)*256+x28.toUInt64)*256+x27.toUInt64)*256+x26.toUInt64)*256+x25.toUInt64)*256+x24.toUInt64)=o3:=by
  rw [←ho3]
  refine xS.mp ?_
  rw [c2a]
  exact v0l _ _ _ _ _ _ _ (q1v x31) (by omega)
 rw [ho0,ho1,ho2,ho3]
 have hS:=v1h o0 o1 o2 o3
 obtain ⟨s0,s1,s2,s3,hs,hvs⟩:=Cz (vQ o0 o1 o2 o3%p25) (j0j _)
 have hus:Dz [s0,s1,s2,s3]=[.pl (.u64 s0),.pl (.u64 s1),.pl (.u64 s2),.pl (.u64 s3)]:=rfl
 simp only [w4C,hs,hus] at hS ⊢
 have F0:=yA @xB<|yA hw0<|yA hw1<|yA hw2<|hw3
 have zF:FG [6,7,8,9,10,11,12,13,14,15,16,17,18,19,20,21,22,23,24,25,26,27,28,29]:=trivial
 refine CtM.go Tryz.func63 rfl Tryz.ntmps63 Tryz.results63 fun w0 ro may fx zZ zhY=>?_
 have cq:=yA (CtM.ch [] (hS.told))<|trivial
 have zU:=yA ur<|trivial
 refine (fun zX=>goW) ?_
 refine zhY _ _ ?_
 simp only [go_sem,F0,Int.reduceTMod,Int.reduceTDiv]
 all_goals (exact told_plain (by simp [Dv,Ew]) ⟨rfl,rfl⟩)
end Lk
end Go.Sy
