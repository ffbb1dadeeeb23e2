/- Walks and what they compute. CONDITIONS: those that each theorem names. -/
import Derived.Test.YtkfcbhgkpknagaaGreatDoorvS25
import Derived.Test.YtkfcbhgkpknagaaGreatDoorvS2
import Derived.Test.YtkfcbhgkpknagaaGreatDoorvE3
set_option linter.unusedVariables false
set_option linter.unusedSimpArgs false
namespace Go.Sy
theorem r2k :(256:UInt64).toNat=256:=rfl
theorem q_lo (a:UInt64) (k:Nat):(q16 a k).toUInt8=(Iw a k).toUInt8:=by
 refine vJ.mp ?_
 rw [UInt64.toNat_toUInt8,UInt64.toNat_toUInt8,q16,vU,d16]
 omega
theorem q_hi (a:UInt64) (k:Nat):(q16 a k/256).toUInt8=(Iw a (k+8)).toUInt8:=by
 refine vJ.mp ?_
 rw [UInt64.toNat_toUInt8,UInt64.toNat_toUInt8,vV,q16,vU,d16,r2k,Wx,Wx,Nat.pow_add,←Nat.div_div_eq_div_mul]
 omega
def byW (a:UInt64):List UInt8:=[(Iw a 0).toUInt8,(Iw a 8).toUInt8,(Iw a 16).toUInt8,(Iw a 24).toUInt8,(Iw a 32).toUInt8,(Iw a 40).toUInt8,(Iw a 48).toUInt8,(Iw a 56).toUInt8]
def by4 (a b c d:UInt64):List UInt8:=byW a++(byW b++(byW c++byW d))
def b6 (x:UInt8):UInt64:=x.toUInt64
theorem f0t (x:UInt8):(b6 x).toNat=x.toNat:=UInt8.toNat_toUInt64 x
def orW (x0 x1 x2 x3 x4 x5 x6 x7:UInt8):UInt64:=0|||Dy (b6 x0) 0|||Dy (b6 x1) 8|||Dy (b6 x2) 16|||Dy (b6 x3) 24|||Dy (b6 x4) 32|||Dy (b6 x5) 40|||Dy (b6 x6) 48|||Dy (b6 x7) 56
def hoW (x0 x1 x2 x3 x4 x5 x6:UInt8) (t:UInt64):UInt64:=((((((t*256+b6 x6)*256+b6 x5)*256+b6 x4)*256+b6 x3)*256+b6 x2)*256+b6 x1)*256+b6 x0
def byN (x0 x1 x2 x3 x4 x5 x6 x7:Nat):Nat:=x0+256*(x1+256*(x2+256*(x3+256*(x4+256*(x5+256*(x6+256*x7))))))
theorem e0x {X y:UInt64} {k n m:Nat} (hX:X.toNat=n) (hn:n<2 ^ k) (hy:y.toNat=m) (hk:m*2 ^ k<18446744073709551616):(X|||Dy y k).toNat=n+2 ^ k*m:=by
 have hs:(Dy y k).toNat=2 ^ k*m:=by rw [a0g,hy,yN hk,vF]
 rw [h0s k (by rw [hX];exact hn) hs,hX,hs]
theorem u0w (x0 x1 x2 x3 x4 x5 x6 x7:UInt8):(orW x0 x1 x2 x3 x4 x5 x6 x7).toNat=byN x0.toNat x1.toNat x2.toNat x3.toNat x4.toNat x5.toNat x6.toNat x7.toNat:=by
 have h0:=x0.toNat_lt;have h1:=x1.toNat_lt;have h2:=x2.toNat_lt;have h3:=x3.toNat_lt
 have h4:=x4.toNat_lt;have h5:=x5.toNat_lt;have h6:=x6.toNat_lt;have h7:=x7.toNat_lt
 have e0:=e0x (X:=0) (n:=0) (k:=0) rfl (by decide) (f0t x0) (by omega)
 have e1:=e0x (k:=8) e0 (by omega) (f0t x1) (by omega)
 have e2:=e0x (k:=16) e1 (by omega) (f0t x2) (by omega)
 have e3:=e0x (k:=24) e2 (by omega) (f0t x3) (by omega)
 have e4:=e0x (k:=32) e3 (by omega) (f0t x4) (by omega)
 have e5:=e0x (k:=40) e4 (by omega) (f0t x5) (by omega)
 have e6:=e0x (k:=48) e5 (by omega) (f0t x6) (by omega)
 have e7:=e0x (k:=56) e6 (by omega) (f0t x7) (by omega)
 rw [orW,e7,byN];omega
theorem f0f {t:UInt64} {n:Nat} (x:UInt8) (ht:t.toNat=n) (hn:n<72057594037927936):(t*256+b6 x).toNat=n*256+x.toNat:=by
 have hx:=x.toNat_lt
 have e:(t*256).toNat=n*256:=by rw [g0z (by rw [ht,r2k];omega),ht,r2k]
 rw [Gv (by rw [e,f0t];omega),e,f0t]
theorem v0l (x0 x1 x2 x3 x4 x5 x6:UInt8) {t:UInt64} {x7:Nat} (ht:t.toNat=x7) (h7:x7<256):(hoW x0 x1 x2 x3 x4 x5 x6 t).toNat=byN x0.toNat x1.toNat x2.toNat x3.toNat x4.toNat x5.toNat x6.toNat x7:=by
 have h0:=x0.toNat_lt;have h1:=x1.toNat_lt;have h2:=x2.toNat_lt;have h3:=x3.toNat_lt
 have h4:=x4.toNat_lt;have h5:=x5.toNat_lt;have h6:=x6.toNat_lt
 have e6:=f0f x6 ht (by omega)
 have e5:=f0f x5 e6 (by omega)
 have e4:=f0f x4 e5 (by omega)
 have e3:=f0f x3 e4 (by omega)
 have e2:=f0f x2 e3 (by omega)
 have e1:=f0f x1 e2 (by omega)
 have e0:=f0f x0 e1 (by omega)
 rw [hoW,e0,byN];omega
theorem c2a (x0 x1 x2 x3 x4 x5 x6 x7:UInt8):(orW x0 x1 x2 x3 x4 x5 x6 x7&&&9223372036854775807).toNat=byN x0.toNat x1.toNat x2.toNat x3.toNat x4.toNat x5.toNat x6.toNat (x7.toNat%128):=by
 have h0:=x0.toNat_lt;have h1:=x1.toNat_lt;have h2:=x2.toNat_lt;have h3:=x3.toNat_lt
 have h4:=x4.toNat_lt;have h5:=x5.toNat_lt;have h6:=x6.toNat_lt;have h7:=x7.toNat_lt
 rw [o0p 63 rfl,u0w]
 simp only [byN]
 omega
theorem q0c (x:UInt8):(0*256+b6 x).toNat=x.toNat:=by
 have:=f0f x (t:=0) (n:=0) rfl (by decide)
 rw [this];omega
theorem q1v (x:UInt8):(0*256+b6 x%128).toNat=x.toNat%128:=by
 have e:(0*256:UInt64)=0:=rfl
 rw [e,UInt64.zero_add,vU,f0t];rfl
theorem Ak {α:Type} {l:List α} {n:Nat} (h:l.length=n+1): ∃ x r,l=x::r∧r.length=n:=by
 cases l with
 |nil=>simp at h
 |cons x r=>exact ⟨x,r,rfl,by simpa using h⟩
end Go.Sy
namespace Go.Sy
namespace Lk
open Go.Proofs
attribute [local irreducible] Bw HT Aj Jk onC onE onO onG goV goA goS Lx Bz
set_option maxHeartbeats 3200000 in
set_option maxRecDepth 100000 in
theorem o2a (x0 x1 x2 x3 x4 x5 x6 x7 x8 x9 x10 x11 x12 x13 x14 x15 x16 x17 x18 x19 x20 x21 x22 x23 x24 x25 x26 x27 x28 x29 x30 x31:UInt8):
 CtM Tryz.prog 47 [.w (.agg [.pl (.u8 x0),.pl (.u8 x1),.pl (.u8 x2),.pl (.u8 x3),.pl (.u8 x4),.pl (.u8 x5),.pl (.u8 x6),.pl (.u8 x7),.pl (.u8 x8),.pl (.u8 x9),.pl (.u8 x10),.pl (.u8 x11),.pl (.u8 x12),.pl (.u8 x13),.pl (.u8 x14),.pl (.u8 x15),.pl (.u8 x16),.pl (.u8 x17),.pl (.u8 x18),.pl (.u8 x19),.pl (.u8 x20),.pl (.u8 x21),.pl (.u8 x22),.pl (.u8 x23),.pl (.u8 x24),.pl (.u8 x25),.pl (.u8 x26),.pl (.u8 x27),.pl (.u8 x28),.pl (.u8 x29),.pl (.u8 x30),.pl (.u8 x31)])] [(1000001,⟨false,gPr⟩)] (Told (fun v m=>v=.w (.agg (w4C (vQ (orW x0 x1 x2 x3 x4 x5 x6 x7) (orW x8 x9 x10 x11 x12 x13 x14 x15) (orW x16 x17 x18 x19 x20 x21 x22 x23) (orW x24 x25 x26 x27 x28 x29 x30 x31&&&9223372036854775807)%p25)))∧m=[])):=by
 obtain ⟨o0,ho0⟩: ∃ z,orW x0 x1 x2 x3 x4 x5 x6 x7=z:=⟨_,rfl⟩
 obtain ⟨o1,ho1⟩: ∃ z,orW x8 x9 x10 x11 x12 x13 x14 x15=z:=⟨_,rfl⟩
 obtain ⟨o2,ho2⟩: ∃ z,orW x16 x17 x18 x19 x20 x21 x22 x23=z:=⟨_,rfl⟩
 obtain ⟨o3,ho3⟩: ∃ z,orW x24 x25 x26 x27 x28 x29 x30 x31&&&9223372036854775807=z:=⟨_,rfl⟩
 have hw0:(0|||Dy (x0.toUInt64) 0|||Dy (x1.toUInt64) 8|||Dy (x2.toUInt64) 16|||Dy (x3.toUInt64) 24|||Dy (x4.toUInt64) 32|||Dy (x5.toUInt64) 40|||Dy (x6.toUInt64) 48|||Dy (x7.toUInt64) 56)=o0:=ho0
 have hw1:(0|||Dy (x8.toUInt64) 0|||Dy (x9.toUInt64) 8|||Dy (x10.toUInt64) 16|||Dy (x11.toUInt64) 24|||Dy (x12.toUInt64) 32|||Dy (x13.toUInt64) 40|||Dy (x14.toUInt64) 48|||Dy (x15.toUInt64) 56)=o1:=ho1
 have hw2:(0|||Dy (x16.toUInt64) 0|||Dy (x17.toUInt64) 8|||Dy (x18.toUInt64) 16|||Dy (x19.toUInt64) 24|||Dy (x20.toUInt64) 32|||Dy (x21.toUInt64) 40|||Dy (x22.toUInt64) 48|||Dy (x23.toUInt64) 56)=o2:=ho2
 obtain ⟨o4,ho4⟩: ∃ z,orW x24 x25 x26 x27 x28 x29 x30 x31=z:=⟨_,rfl⟩
 have hw4:(0|||Dy (x24.toUInt64) 0|||Dy (x25.toUInt64) 8|||Dy (x26.toUInt64) 16|||Dy (x27.toUInt64) 24|||Dy (x28.toUInt64) 32|||Dy (x29.toUInt64) 40|||Dy (x30.toUInt64) 48|||Dy (x31.toUInt64) 56)=o4:=ho4
 have hw3:o4&&&9223372036854775807=o3:=by rw [←ho3,←ho4]
 rw [ho0,ho1,ho2,ho3]
 have hS:=u0f o0 o1 o2 o3
 obtain ⟨s0,s1,s2,s3,hs,hvs⟩:=Cz (vQ o0 o1 o2 o3%p25) (j0j _)
 have hus:Dz [s0,s1,s2,s3]=[.pl (.u64 s0),.pl (.u64 s1),.pl (.u64 s2),.pl (.u64 s3)]:=rfl
 simp only [w4C,hs,hus] at hS ⊢
 have F0:=yA @xB<|yA hw0<|yA hw1<|yA hw2<|yA hw3<|hw4
 have zF:FG [8,9,10,11,12,13,14,15,16,17,18,19,20,21,22,23,24,25,26,27,28,29]:=trivial
 refine CtM.go Tryz.func47 rfl Tryz.ntmps47 Tryz.results47 fun w0 ro may fx zZ zhY=>?_
 have cq:=yA (CtM.ch [] (hS.told))<|trivial
 have zd0:DQ 5 [11,12,13,14,15,16,17,18,19,20,21,22] [0,1,3,7,0,16,0,64,192,496,1023,2047,4095] []:=⟨⟩
 have zU:=yA ur<|trivial
 refine (fun zX=>goW) ?_
 refine zhY _ _ ?_
 simp only [go_sem,F0,Int.reduceTMod,Int.reduceTDiv]
 all_goals (exact told_plain (by simp [Dv,Ew]) ⟨rfl,rfl⟩)
end Lk
end Go.Sy
