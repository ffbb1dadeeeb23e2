/- Walks and what they compute. CONDITIONS: those that each theorem names. -/
import Derived.Test.YtlmbdhfkdhjcfaaDoorvS16
import Derived.Test.YtlmbdhfkdhjcfaaDoorvS2
set_option linter.unusedVariables false
set_option linter.unusedSimpArgs false
namespace Go.Sy
theorem d2k :(256:UInt64).toNat=256:=rfl
theorem q_lo (a:UInt64) (k:Nat):(q16 a k).toUInt8=(Ux a k).toUInt8:=by
 refine UInt8.toNat_inj.mp ?_
 rw [UInt64.toNat_toUInt8,UInt64.toNat_toUInt8,q16,UInt64.toNat_mod,d16]
 omega
theorem q_hi (a:UInt64) (k:Nat):(q16 a k/256).toUInt8=(Ux a (k+8)).toUInt8:=by
 refine UInt8.toNat_inj.mp ?_
 rw [UInt64.toNat_toUInt8,UInt64.toNat_toUInt8,UInt64.toNat_div,q16,UInt64.toNat_mod,d16,d2k,k0l,k0l,Nat.pow_add,←Nat.div_div_eq_div_mul]
 omega
def byW (a:UInt64):List UInt8:=[(Ux a 0).toUInt8,(Ux a 8).toUInt8,(Ux a 16).toUInt8,(Ux a 24).toUInt8,(Ux a 32).toUInt8,(Ux a 40).toUInt8,(Ux a 48).toUInt8,(Ux a 56).toUInt8]
def by4 (a b c d:UInt64):List UInt8:=byW a++(byW b++(byW c++byW d))
def b6 (x:UInt8):UInt64:=x.toUInt64
theorem d0m (x:UInt8):(b6 x).toNat=x.toNat:=UInt8.toNat_toUInt64 x
def orW (x0 x1 x2 x3 x4 x5 x6 x7:UInt8):UInt64:=0|||Ik (b6 x0) 0|||Ik (b6 x1) 8|||Ik (b6 x2) 16|||Ik (b6 x3) 24|||Ik (b6 x4) 32|||Ik (b6 x5) 40|||Ik (b6 x6) 48|||Ik (b6 x7) 56
def hoW (x0 x1 x2 x3 x4 x5 x6:UInt8) (t:UInt64):UInt64:=((((((t*256+b6 x6)*256+b6 x5)*256+b6 x4)*256+b6 x3)*256+b6 x2)*256+b6 x1)*256+b6 x0
def byN (x0 x1 x2 x3 x4 x5 x6 x7:Nat):Nat:=x0+256*(x1+256*(x2+256*(x3+256*(x4+256*(x5+256*(x6+256*x7))))))
theorem c0r {X y:UInt64} {k n m:Nat} (hX:X.toNat=n) (hn:n<2 ^ k) (hy:y.toNat=m) (hk:m*2 ^ k<18446744073709551616):(X|||Ik y k).toNat=n+2 ^ k*m:=by
 have hs:(Ik y k).toNat=2 ^ k*m:=by rw [r0f,hy,Nat.mod_eq_of_lt hk,Nat.mul_comm]
 rw [j1x k (by rw [hX];exact hn) hs,hX,hs]
theorem p0p (x0 x1 x2 x3 x4 x5 x6 x7:UInt8):(orW x0 x1 x2 x3 x4 x5 x6 x7).toNat=byN x0.toNat x1.toNat x2.toNat x3.toNat x4.toNat x5.toNat x6.toNat x7.toNat:=by
 have h0:=x0.toNat_lt;have h1:=x1.toNat_lt;have h2:=x2.toNat_lt;have h3:=x3.toNat_lt
 have h4:=x4.toNat_lt;have h5:=x5.toNat_lt;have h6:=x6.toNat_lt;have h7:=x7.toNat_lt
 have e0:=c0r (X:=0) (n:=0) (k:=0) rfl (by decide) (d0m x0) (by omega)
 have e1:=c0r (k:=8) e0 (by omega) (d0m x1) (by omega)
 have e2:=c0r (k:=16) e1 (by omega) (d0m x2) (by omega)
 have e3:=c0r (k:=24) e2 (by omega) (d0m x3) (by omega)
 have e4:=c0r (k:=32) e3 (by omega) (d0m x4) (by omega)
 have e5:=c0r (k:=40) e4 (by omega) (d0m x5) (by omega)
 have e6:=c0r (k:=48) e5 (by omega) (d0m x6) (by omega)
 have e7:=c0r (k:=56) e6 (by omega) (d0m x7) (by omega)
 rw [orW,e7,byN];omega
theorem c0x {t:UInt64} {n:Nat} (x:UInt8) (ht:t.toNat=n) (hn:n<72057594037927936):(t*256+b6 x).toNat=n*256+x.toNat:=by
 have hx:=x.toNat_lt
 have e:(t*256).toNat=n*256:=by rw [n0n (by rw [ht,d2k];omega),ht,d2k]
 rw [Wy (by rw [e,d0m];omega),e,d0m]
theorem p0z (x0 x1 x2 x3 x4 x5 x6:UInt8) {t:UInt64} {x7:Nat} (ht:t.toNat=x7) (h7:x7<256):(hoW x0 x1 x2 x3 x4 x5 x6 t).toNat=byN x0.toNat x1.toNat x2.toNat x3.toNat x4.toNat x5.toNat x6.toNat x7:=by
 have h0:=x0.toNat_lt;have h1:=x1.toNat_lt;have h2:=x2.toNat_lt;have h3:=x3.toNat_lt
 have h4:=x4.toNat_lt;have h5:=x5.toNat_lt;have h6:=x6.toNat_lt
 have e6:=c0x x6 ht (by omega)
 have e5:=c0x x5 e6 (by omega)
 have e4:=c0x x4 e5 (by omega)
 have e3:=c0x x3 e4 (by omega)
 have e2:=c0x x2 e3 (by omega)
 have e1:=c0x x1 e2 (by omega)
 have e0:=c0x x0 e1 (by omega)
 rw [hoW,e0,byN];omega
theorem q1j (x0 x1 x2 x3 x4 x5 x6 x7:UInt8):(orW x0 x1 x2 x3 x4 x5 x6 x7&&&9223372036854775807).toNat=byN x0.toNat x1.toNat x2.toNat x3.toNat x4.toNat x5.toNat x6.toNat (x7.toNat%128):=by
 have h0:=x0.toNat_lt;have h1:=x1.toNat_lt;have h2:=x2.toNat_lt;have h3:=x3.toNat_lt
 have h4:=x4.toNat_lt;have h5:=x5.toNat_lt;have h6:=x6.toNat_lt;have h7:=x7.toNat_lt
 rw [d1k 63 rfl,p0p]
 simp only [byN]
 omega
theorem l0s (x:UInt8):(0*256+b6 x).toNat=x.toNat:=by
 have:=c0x x (t:=0) (n:=0) rfl (by decide)
 rw [this];omega
theorem g1y (x:UInt8):(0*256+b6 x%128).toNat=x.toNat%128:=by
 have e:(0*256:UInt64)=0:=rfl
 rw [e,UInt64.zero_add,UInt64.toNat_mod,d0m];rfl
theorem Bj {α:Type} {l:List α} {n:Nat} (h:l.length=n+1): ∃ x r,l=x::r∧r.length=n:=by
 cases l with
 |nil=>simp at h
 |cons x r=>exact ⟨x,r,rfl,by simpa using h⟩
end Go.Sy
namespace Go.Sy
namespace Lk
open Go.Proofs
attribute [local irreducible] Dv HT Cz Px onC onE onO onG goV goA goS Qx Dw
set_option maxHeartbeats 3200000 in
set_option maxRecDepth 100000 in
theorem a2n (x0 x1 x2 x3 x4 x5 x6 x7 x8 x9 x10 x11 x12 x13 x14 x15 x16 x17 x18 x19 x20 x21 x22 x23 x24 x25 x26 x27 x28 x29 x30 x31:UInt8):
 CtM Tryd.prog 21 [.w (.agg [.pl (.u8 x0),.pl (.u8 x1),.pl (.u8 x2),.pl (.u8 x3),.pl (.u8 x4),.pl (.u8 x5),.pl (.u8 x6),.pl (.u8 x7),.pl (.u8 x8),.pl (.u8 x9),.pl (.u8 x10),.pl (.u8 x11),.pl (.u8 x12),.pl (.u8 x13),.pl (.u8 x14),.pl (.u8 x15),.pl (.u8 x16),.pl (.u8 x17),.pl (.u8 x18),.pl (.u8 x19),.pl (.u8 x20),.pl (.u8 x21),.pl (.u8 x22),.pl (.u8 x23),.pl (.u8 x24),.pl (.u8 x25),.pl (.u8 x26),.pl (.u8 x27),.pl (.u8 x28),.pl (.u8 x29),.pl (.u8 x30),.pl (.u8 x31)])] [(1000001,⟨false,[.pl (.u64 18446744073709551597),.pl (.u64 18446744073709551615),.pl (.u64 18446744073709551615),.pl (.u64 9223372036854775807)]⟩)] (Told (fun v m=>v=.w (.agg (w4C (vQ (orW x0 x1 x2 x3 x4 x5 x6 x7) (orW x8 x9 x10 x11 x12 x13 x14 x15) (orW x16 x17 x18 x19 x20 x21 x22 x23) (orW x24 x25 x26 x27 x28 x29 x30 x31&&&9223372036854775807)%p25)))∧m=[])):=by
 obtain ⟨o0,ho0⟩: ∃ z,orW x0 x1 x2 x3 x4 x5 x6 x7=z:=⟨_,rfl⟩
 obtain ⟨o1,ho1⟩: ∃ z,orW x8 x9 x10 x11 x12 x13 x14 x15=z:=⟨_,rfl⟩
 obtain ⟨o2,ho2⟩: ∃ z,orW x16 x17 x18 x19 x20 x21 x22 x23=z:=⟨_,rfl⟩
 obtain ⟨o3,ho3⟩: ∃ z,orW x24 x25 x26 x27 x28 x29 x30 x31&&&9223372036854775807=z:=⟨_,rfl⟩
 have hw0:(0|||Ik (x0.toUInt64) 0|||Ik (x1.toUInt64) 8|||Ik (x2.toUInt64) 16|||Ik (x3.toUInt64) 24|||Ik (x4.toUInt64) 32|||Ik (x5.toUInt64) 40|||Ik (x6.toUInt64) 48|||Ik (x7.toUInt64) 56)=o0:=ho0
 have hw1:(0|||Ik (x8.toUInt64) 0|||Ik (x9.toUInt64) 8|||Ik (x10.toUInt64) 16|||Ik (x11.toUInt64) 24|||Ik (x12.toUInt64) 32|||Ik (x13.toUInt64) 40|||Ik (x14.toUInt64) 48|||Ik (x15.toUInt64) 56)=o1:=ho1
 have hw2:(0|||Ik (x16.toUInt64) 0|||Ik (x17.toUInt64) 8|||Ik (x18.toUInt64) 16|||Ik (x19.toUInt64) 24|||Ik (x20.toUInt64) 32|||Ik (x21.toUInt64) 40|||Ik (x22.toUInt64) 48|||Ik (x23.toUInt64) 56)=o2:=ho2
 obtain ⟨o4,ho4⟩: ∃ z,orW x24 x25 x26 x27 x28 x29 x30 x31=z:=⟨_,rfl⟩
 have hw4:(0|||Ik (x24.toUInt64) 0|||Ik (x25.toUInt64) 8|||Ik (x26.toUInt64) 16|||Ik (x27.toUInt64) 24|||Ik (x28.toUInt64) 32|||Ik (x29.toUInt64) 40|||Ik (x30.toUInt64) 48|||Ik (x31.toUInt64) 56)=o4:=ho4
 have hw3:o4&&&9223372036854775807=o3:=by rw [←ho3,←ho4]
 rw [ho0,ho1,ho2,ho3]
 have hS:=p0c o0 o1 o2 o3
 obtain ⟨s0,s1,s2,s3,hs,hvs⟩:=Dz (vQ o0 o1 o2 o3%p25) (g0b _)
 have hus:Aw [s0,s1,s2,s3]=[.pl (.u64 s0),.pl (.u64 s1),.pl (.u64 s2),.pl (.u64 s3)]:=rfl
 simp only [w4C,hs,hus] at hS ⊢
 have F0:=And.intro hw0<|And.intro hw1<|And.intro hw2<|And.intro hw3<|hw4
 refine CtM.k Tryd.func21 rfl Tryd.ntmps21 (congrArg Array.toList Tryd.results21) (by simp) fun w0 ro may fx=>?_
 refine Dj fun zZ zhZ=>?_
 iterate 602 first
  |(refine Cv (x:=.seq (.region 3 _ _) _) [4,5,8,9,10,11,12,13,14,15,16,17,18,19,20,21,22,23] ?_;simp only [go_sem,St.forget,fgt];refine Fq fun zN zM zhN zhM=>?_)
  |refine Fq fun zN zM zhN zhM=>?_
  |refine zhK _ ?_
  |(refine zhN _ ?_;clear zhN zhM)
  |(refine Cx fun zK zhK=>?_;simp only [go_sem,Int.toNat_one,Int.reduceTMod,Int.reduceTDiv,Int.mul_zero,F0];(repeat' (first|apply And.intro|intro _)))
  |refine Aj fun zB zbn zbx zbr zbi=>?_
  |refine Cw ?_
  |(refine Vw (id:=5) [11,12,13,14,15,16,17,18,19,20,21,22] [0,1,3,7,0,16,0,64,192,496,1023,2047,4095] [] mixed (by kernel_rfl) (by simp only [go_sem]) fun zK zhK=>?_;simp only [go_sem,Int.toNat_one,Int.reduceTMod,Int.reduceTDiv,Int.mul_zero,F0];(repeat' (first|apply And.intro|intro _)))
  |refine zhK _ _ trivial ?_
  |(refine zbn _ ?_;clear zbn zbx zbr zbi)
  |(refine Av fun zK zhK=>?_;simp only [go_sem,Int.toNat_one,Int.reduceTMod,Int.reduceTDiv,Int.mul_zero,F0];(repeat' (first|apply And.intro|intro _)))
  |(refine zhM _ _ ?_;clear zhN zhM)
  |refine Fx (x:=.seq (.region 3 _ _) _) 33 ?_
  |refine Ey ?_
  |(refine zbx _ ?_;clear zbn zbx zbr zbi)
  |refine Dx ?_
  |(refine zhZ _ _ ?_;simp only [go_sem,Int.toNat_one,Int.reduceTMod,Int.reduceTDiv,Int.mul_zero,F0];(all_goals (exact told_plain (by simp [Fj,Hz]) ⟨rfl,rfl⟩)))
  |((all_goals (refine Bq false [] (fun k=>k) (fun _ _=>rfl) ?_ (by decide) ?_ hS.told ?_;iterate 2 (focus (first|rfl|(simp only [go_sem,Int.toNat_one,Int.reduceTMod,Int.reduceTDiv,Int.mul_zero,F0]<;>first|done|rfl|simp)))));(all_goals (rintro v m ⟨hR,hm⟩;subst hR;subst hm));(all_goals (refine And.intro ?_ (And.intro ?_ (And.intro ?_ ?_));iterate 3 (focus (first|rfl|(simp only [go_sem,Int.toNat_one,Int.reduceTMod,Int.reduceTDiv,Int.mul_zero,F0];done)|(simp [go_sem,look,Int.toNat_one,Int.reduceTMod,Int.reduceTDiv,Int.mul_zero,F0];done)))));(all_goals (try simp only [go_sem,Int.toNat_one,Int.reduceTMod,Int.reduceTDiv,Int.mul_zero,F0]));(all_goals (try simp only [go_sem,Int.toNat_one,Int.reduceTMod,Int.reduceTDiv,Int.mul_zero,F0]));(all_goals repeat' (first|apply And.intro|intro _)))
  |refine Bz fun zN zM zhN zhM=>?_
  |(refine Bv ?_ ?_;focus (first|rfl|(simp [go_sem,Int.toNat_one,Int.reduceTMod,Int.reduceTDiv,Int.mul_zero,F0];done)))
  |(refine Cy ?_ ?_;focus (first|rfl|(simp [go_sem,Int.toNat_one,Int.reduceTMod,Int.reduceTDiv,Int.mul_zero,F0];done)))
end Lk
end Go.Sy
