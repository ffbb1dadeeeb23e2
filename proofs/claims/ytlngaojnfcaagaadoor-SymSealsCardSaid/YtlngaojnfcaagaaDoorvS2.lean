/- Walks and what they compute. CONDITIONS: those that each theorem names. -/
import Derived.Test.YtlngaojnfcaagaaDoorvE3
import Derived.Test.YtlngaojnfcaagaaDoorvS1
import Derived.Test.YtlngaojnfcaagaaDoorvE4
set_option linter.unusedVariables false
set_option linter.unusedSimpArgs false
set_option maxHeartbeats 3200000
set_option maxRecDepth 100000
namespace Go.Sy
theorem d0p (x:UInt64) (c:Nat):(Qz x c).toNat=x.toNat*2 ^ c%18446744073709551616:=by
 simp [Qz,UInt64.toNat_ofNat']
theorem Yk (x:UInt64) (c:Nat):(Mj x c).toNat=x.toNat/2 ^ c:=by
 have h:=x.toNat_lt
 have h2:x.toNat/2 ^ c≤x.toNat:=Nat.div_le_self _ _
 simp only [Mj,UInt64.toNat_ofNat']
 exact Nat.mod_eq_of_lt (by omega)
theorem q0g {m:UInt64} (k:Nat) (hm:m.toNat=2 ^ k-1) (x:UInt64):(x&&&m).toNat=x.toNat%2 ^ k:=by
 rw [UInt64.toNat_and,hm,Nat.and_two_pow_sub_one_eq_mod]
theorem l0y {x y:UInt64} (k:Nat) (hx:x.toNat<2 ^ k) {z:Nat} (hy:y.toNat=2 ^ k*z):(x|||y).toNat=x.toNat+y.toNat:=by
 rw [UInt64.toNat_or,hy,Nat.or_comm,←Nat.two_pow_add_eq_or_of_lt hx];omega
theorem Ky {x y:UInt64} (h:x.toNat+y.toNat<18446744073709551616):(x+y).toNat=x.toNat+y.toNat:=by
 rw [UInt64.toNat_add];exact Nat.mod_eq_of_lt h
theorem j0v {x y:UInt64} (h:x.toNat*y.toNat<18446744073709551616):(x*y).toNat=x.toNat*y.toNat:=by
 rw [UInt64.toNat_mul];exact Nat.mod_eq_of_lt h
structure P5 where
 a:UInt64
 b:UInt64
 c:UInt64
 d:UInt64
 e:UInt64
def P5.val (p:P5):Nat:=p.a.toNat+p.b.toNat*67108864+p.c.toNat*4503599627370496+p.d.toNat*302231454903657293676544+p.e.toNat*20282409603651670423947251286016
def r0d (x:UInt64):UInt64:=x&&&67108863
def s0c (x:UInt64):UInt64:=Mj x 26
theorem a0x (x:UInt64):(r0d x).toNat=x.toNat%67108864:=q0g 26 rfl x
theorem Pq (x:UInt64):(s0c x).toNat=x.toNat/67108864:=Yk x 26
def P5.c1 (p:P5):UInt64:=0+p.a
def P5.c2 (p:P5):UInt64:=s0c p.c1+p.b
def P5.c3 (p:P5):UInt64:=s0c p.c2+p.c
def P5.c4 (p:P5):UInt64:=s0c p.c3+p.d
def P5.c5 (p:P5):UInt64:=s0c p.c4+p.e
def P5.pass (p:P5):P5:=⟨r0d p.c1+5*s0c p.c5,r0d p.c2,r0d p.c3,r0d p.c4,r0d p.c5⟩
def P5.lt (p:P5) (B:Nat):Prop:=p.a.toNat<B∧p.b.toNat<B∧p.c.toNat<B∧p.d.toNat<B∧p.e.toNat<B
theorem o1i (p:P5) {B:Nat} (h:p.lt B) (hB:B≤4611686018427387904): ∃ n1 n2 n3 n4 n5:Nat,n1=p.a.toNat∧n2=n1/67108864+p.b.toNat∧n3=n2/67108864+p.c.toNat∧n4=n3/67108864+p.d.toNat∧n5=n4/67108864+p.e.toNat∧
  p.pass.a.toNat=n1%67108864+5*(n5/67108864)∧p.pass.b.toNat=n2%67108864∧p.pass.c.toNat=n3%67108864∧p.pass.d.toNat=n4%67108864∧p.pass.e.toNat=n5%67108864:=by
 obtain ⟨h1,h2,h3,h4,h5⟩:=h
 have e1:p.c1.toNat=p.a.toNat:=by rw [P5.c1,Ky (by simp;omega)];simp
 have e2:p.c2.toNat=p.a.toNat/67108864+p.b.toNat:=by rw [P5.c2,Ky (by rw [Pq,e1];omega),Pq,e1]
 have e3:p.c3.toNat=p.c2.toNat/67108864+p.c.toNat:=by rw [P5.c3,Ky (by rw [Pq];omega),Pq]
 have e4:p.c4.toNat=p.c3.toNat/67108864+p.d.toNat:=by rw [P5.c4,Ky (by rw [Pq];omega),Pq]
 have e5:p.c5.toNat=p.c4.toNat/67108864+p.e.toNat:=by rw [P5.c5,Ky (by rw [Pq];omega),Pq]
 have e6:(5*s0c p.c5).toNat=5*(p.c5.toNat/67108864):=by rw [j0v (by rw [Pq];show 5*_<_;omega),Pq];rfl
 refine ⟨p.a.toNat,p.c2.toNat,p.c3.toNat,p.c4.toNat,p.c5.toNat,rfl,e2,e3,e4,e5,?_,?_,?_,?_,?_⟩
 ·show (r0d p.c1+5*s0c p.c5).toNat=_
  rw [Ky (by rw [a0x,e6];omega),a0x,e6,e1]
 all_goals exact a0x _
theorem q0w (p:P5) {B:Nat} (h:p.lt B) (hB:B≤4611686018427387904): ∃ c,p.pass.val+c*1361129467683753853853498429727072845819=p.val∧c*67108864≤B+B/67108863+1∧p.pass.a.toNat<67108864+5*c∧p.pass.b.toNat<67108864∧p.pass.c.toNat<67108864∧p.pass.d.toNat<67108864∧p.pass.e.toNat<67108864∧5*c≤p.pass.a.toNat:=by
 obtain ⟨n1,n2,n3,n4,n5,e1,e2,e3,e4,e5,f1,f2,f3,f4,f5⟩:=o1i p h hB
 obtain ⟨h1,h2,h3,h4,h5⟩:=h
 refine ⟨n5/67108864,?_,?_,?_,?_,?_,?_,?_,?_⟩
 ·simp only [P5.val,f1,f2,f3,f4,f5]
  omega
 all_goals omega
end Go.Sy
namespace Go.Sy
def pP :Nat:=1361129467683753853853498429727072845819
theorem e2a (p:P5) (h:p.lt 2305843009213693952):(∃ c,p.pass.pass.pass.val+c*1361129467683753853853498429727072845819=p.val)∧p.pass.pass.pass.lt 67108864:=by
 obtain ⟨c1,g1,g2,g3,g4,g5,g6,g7,g8⟩:=q0w p h (by omega)
 generalize p.pass=q1 at*
 have hc1:c1≤34359739000:=by omega
 have hq1:q1.lt 4398046511104:=⟨by omega,by omega,by omega,by omega,by omega⟩
 have hv1:q1.val<1361129467683753853853498429727072845824+274877906944:=by simp only [P5.val];omega
 obtain ⟨c2,i1,i2,i3,i4,i5,i6,i7,i8⟩:=q0w q1 hq1 (by omega)
 generalize q1.pass=q2 at*
 have hc2:c2≤1:=by omega
 have hq2:q2.lt 67108874:=⟨by omega,by omega,by omega,by omega,by omega⟩
 have hv2:c2=0→q2.val<1361129467683753853853498429727072845824:=by intro h;simp only [P5.val];omega
 obtain ⟨c3,j1,j2,j3,j4,j5,j6,j7,j8⟩:=q0w q2 hq2 (by omega)
 generalize q2.pass=q3 at*
 have hv3:q3.a.toNat≤q3.val:=by simp only [P5.val];omega
 have hc3:c3=0:=by
  clear g1 g2 g3 g4 g5 g6 g7 g8 hq1 hq2 i2 i3 i4 i5 i6 i7 i8 j2 j3 j4 j5 j6 j7 hc1
  have:q2.val<1361129467683753853853498429727072845824:=by
   rcases Nat.lt_or_ge c2 1 with h1|h1
   ·exact hv2 (by omega)
   ·have:c2=1:=by omega
    subst this;clear hv2 hv3 j1 j8;omega
  clear hv1 hv2 i1 hc2
  omega
 subst hc3
 have e:q3.val+(c1+c2)*1361129467683753853853498429727072845819=p.val:=by
  rw [Nat.add_mul,←g1,←i1,←j1]
  clear g1 g2 g3 g4 g5 g6 g7 g8 hq1 hq2 i1 i2 i3 i4 i5 i6 i7 i8 j1 j2 j3 j4 j5 j6 j7 j8 hc1 hv1 hv2 hv3 hc2
  omega
 refine ⟨⟨c1+c2,e⟩,?_⟩
 clear e g1 i1 j1 hv1 hv2 hv3
 exact ⟨by omega,by omega,by omega,by omega,by omega⟩
def P5.f1 (p:P5):UInt64:=p.a+5
def P5.f2 (p:P5):UInt64:=p.b+s0c p.f1
def P5.f3 (p:P5):UInt64:=p.c+s0c p.f2
def P5.f4 (p:P5):UInt64:=p.d+s0c p.f3
def P5.f5 (p:P5):UInt64:=p.e+s0c p.f4
def P5.car (p:P5):P5:=if 0<s0c p.f5 then ⟨r0d p.f1,r0d p.f2,r0d p.f3,r0d p.f4,r0d p.f5⟩ else p
def P5.carried (p:P5):P5:=p.pass.pass.pass.car
theorem c2b {x y:UInt64}:(x<y)↔x.toNat<y.toNat:=UInt64.lt_iff_toNat_lt
theorem x1t (p:P5) (h:p.lt 67108864):p.car.val=p.val%1361129467683753853853498429727072845819∧p.car.lt 67108864:=by
 obtain ⟨h1,h2,h3,h4,h5⟩:=h
 have e1:p.f1.toNat=p.a.toNat+5:=by rw [P5.f1,Ky (by show _+5<_;omega)];rfl
 have e2:p.f2.toNat=p.b.toNat+p.f1.toNat/67108864:=by rw [P5.f2,Ky (by rw [Pq];omega),Pq]
 have e3:p.f3.toNat=p.c.toNat+p.f2.toNat/67108864:=by rw [P5.f3,Ky (by rw [Pq];omega),Pq]
 have e4:p.f4.toNat=p.d.toNat+p.f3.toNat/67108864:=by rw [P5.f4,Ky (by rw [Pq];omega),Pq]
 have e5:p.f5.toNat=p.e.toNat+p.f4.toNat/67108864:=by rw [P5.f5,Ky (by rw [Pq];omega),Pq]
 have hc:(0<s0c p.f5)↔0<p.f5.toNat/67108864:=by rw [c2b,Pq];rfl
 unfold P5.car
 by_cases hp:0<p.f5.toNat/67108864
 ·rw [if_pos (hc.mpr hp)]
  have hj:p.f5.toNat/67108864=1:=by omega
  have key:p.f1.toNat%67108864+p.f2.toNat%67108864*67108864+p.f3.toNat%67108864*4503599627370496+p.f4.toNat%67108864*302231454903657293676544+p.f5.toNat%67108864*20282409603651670423947251286016+1361129467683753853853498429727072845819=p.val:=by
   simp only [P5.val];omega
  have hlt:p.val<1361129467683753853853498429727072845824:=by simp only [P5.val];omega
  refine ⟨?_,by simp only [a0x];omega,by simp only [a0x];omega,by simp only [a0x];omega,by simp only [a0x];omega,by simp only [a0x];omega⟩
  rw [←key,Nat.add_mod_right,Nat.mod_eq_of_lt (by omega)]
  simp only [P5.val,a0x]
 ·rw [if_neg (fun h=>hp (hc.mp h))]
  refine ⟨?_,h1,h2,h3,h4,h5⟩
  have hlt:p.val<1361129467683753853853498429727072845819:=by simp only [P5.val];omega
  rw [Nat.mod_eq_of_lt hlt]
theorem g0p (p:P5) (h:p.lt 2305843009213693952):p.carried.val=p.val%pP∧p.carried.lt 67108864:=by
 obtain ⟨⟨c,h1⟩,h2⟩:=e2a p h
 obtain ⟨h3,h4⟩:=x1t _ h2
 refine ⟨?_,h4⟩
 show P5.val (P5.car _)=_
 rw [h3,←h1,pP,Nat.add_mul_mod_self_right]
def Oy (x y z:UInt64):Nat:=x.toNat+y.toNat*18446744073709551616+z.toNat*340282366920938463463374607431768211456
def P5.w0 (p:P5):UInt64:=p.a|||Qz p.b 26|||Qz p.c 52
def P5.w1 (p:P5):UInt64:=Mj p.c 12|||Qz p.d 14|||Qz p.e 40
def P5.w2 (p:P5):UInt64:=Mj p.e 24
theorem s0h (p:P5) (h:p.lt 67108864):Oy p.w0 p.w1 p.w2=p.val:=by
 obtain ⟨h1,h2,h3,h4,h5⟩:=h
 have a1:(p.a|||Qz p.b 26).toNat=p.a.toNat+p.b.toNat*67108864:=by
  have e:(Qz p.b 26).toNat=2 ^ 26*p.b.toNat:=by rw [d0p];omega
  rw [l0y 26 (by omega) e,e];omega
 have a2:p.w0.toNat=p.a.toNat+p.b.toNat*67108864+(p.c.toNat%4096)*4503599627370496:=by
  have e:(Qz p.c 52).toNat=2 ^ 52*(p.c.toNat%4096):=by rw [d0p];omega
  rw [P5.w0,l0y 52 (by rw [a1];omega) e,e,a1];omega
 have b0:(Mj p.c 12).toNat=p.c.toNat/4096:=Yk _ _
 have b1:(Mj p.c 12|||Qz p.d 14).toNat=p.c.toNat/4096+p.d.toNat*16384:=by
  have e:(Qz p.d 14).toNat=2 ^ 14*p.d.toNat:=by rw [d0p];omega
  rw [l0y 14 (by rw [b0];omega) e,e,b0];omega
 have b2:p.w1.toNat=p.c.toNat/4096+p.d.toNat*16384+(p.e.toNat%16777216)*1099511627776:=by
  have e:(Qz p.e 40).toNat=2 ^ 40*(p.e.toNat%16777216):=by rw [d0p];omega
  rw [P5.w1,l0y 40 (by rw [b1];omega) e,e,b1];omega
 have c0:p.w2.toNat=p.e.toNat/16777216:=Yk _ _
 simp only [Oy,P5.val,a2,b2,c0]
 omega
def Gv (x y z:UInt64):P5:=⟨r0d x,r0d (Mj x 26),r0d (Mj x 52|||Qz y 12),r0d (Mj y 14),Mj y 40|||Qz z 24⟩
theorem g0z (x y z:UInt64) (hz:z.toNat<4):(Gv x y z).val=Oy x y z∧(Gv x y z).lt 67108864:=by
 have hx:=x.toNat_lt
 have hy:=y.toNat_lt
 have a0:(Mj x 52).toNat=x.toNat/4503599627370496:=Yk _ _
 have a1:(Mj x 52|||Qz y 12).toNat=x.toNat/4503599627370496+(y.toNat%4503599627370496)*4096:=by
  have e:(Qz y 12).toNat=2 ^ 12*(y.toNat%4503599627370496):=by rw [d0p];omega
  rw [l0y 12 (by rw [a0];omega) e,e,a0];omega
 have b0:(Mj y 40).toNat=y.toNat/1099511627776:=Yk _ _
 have b1:(Mj y 40|||Qz z 24).toNat=y.toNat/1099511627776+z.toNat*16777216:=by
  have e:(Qz z 24).toNat=2 ^ 24*z.toNat:=by rw [d0p];omega
  rw [l0y 24 (by rw [b0];omega) e,e,b0];omega
 have c0:(Mj x 26).toNat=x.toNat/67108864:=Yk _ _
 have d0:(Mj y 14).toNat=y.toNat/16384:=Yk _ _
 simp only [Gv,P5.val,P5.lt,Oy,a0x,a1,b1,c0,d0]
 refine ⟨?_,by omega,by omega,by omega,by omega,by omega⟩
 omega
theorem z0h {x y z x' y' z':UInt64} (h:Oy x y z=Oy x' y' z'):x=x'∧y=y'∧z=z':=by
 have h1:=x.toNat_lt;have h2:=y.toNat_lt;have h3:=x'.toNat_lt;have h4:=y'.toNat_lt
 simp only [Oy] at h
 exact ⟨UInt64.toNat_inj.mp (by omega),UInt64.toNat_inj.mp (by omega),UInt64.toNat_inj.mp (by omega)⟩
def sp0 (v:Nat):UInt64:=UInt64.ofNat v
def sp1 (v:Nat):UInt64:=UInt64.ofNat (v/18446744073709551616)
def sp2 (v:Nat):UInt64:=UInt64.ofNat (v/340282366920938463463374607431768211456)
theorem r1j {v:Nat} (h:v<6277101735386680763835789423207666416102355444464034512896):Oy (sp0 v) (sp1 v) (sp2 v)=v:=by
 simp only [Oy,sp0,sp1,sp2,UInt64.toNat_ofNat']
 omega
theorem z1w {x y z:UInt64} {v:Nat} (h:Oy x y z=v):x=sp0 v∧y=sp1 v∧z=sp2 v:=by
 have h1:=x.toNat_lt;have h2:=y.toNat_lt;have h3:=z.toNat_lt
 exact z0h (by rw [h,r1j];simp only [Oy] at h;omega)
theorem canon (x y z:UInt64) (hz:z.toNat<4):((Gv x y z).carried.w0=x∧(Gv x y z).carried.w1=y∧(Gv x y z).carried.w2=z)↔Oy x y z<pP:=by
 obtain ⟨h1,h2,h3,h4,h5,h6⟩:=g0z x y z hz
 obtain ⟨g1,g2⟩:=g0p (Gv x y z) ⟨by omega,by omega,by omega,by omega,by omega⟩
 have g3:=s0h _ g2
 rw [g1,h1] at g3
 have hv:Oy x y z<18446744073709551616*18446744073709551616*18446744073709551616:=by
  have h1:=x.toNat_lt;have h2:=y.toNat_lt;have h3:=z.toNat_lt
  simp only [Oy];omega
 constructor
 ·rintro ⟨e1,e2,e3⟩
  rw [e1,e2,e3] at g3
  rw [g3];exact Nat.mod_lt _ (by decide)
 ·intro h
  rw [Nat.mod_eq_of_lt h] at g3
  exact z0h g3
def s0d (p r:P5):P5:=⟨0+p.a*r.a+p.b*r.e*5+p.c*r.d*5+p.d*r.c*5+p.e*r.b*5,0+p.a*r.b+p.b*r.a+p.c*r.e*5+p.d*r.d*5+p.e*r.c*5,
 0+p.a*r.c+p.b*r.b+p.c*r.a+p.d*r.e*5+p.e*r.d*5,0+p.a*r.d+p.b*r.c+p.c*r.b+p.d*r.a+p.e*r.e*5,0+p.a*r.e+p.b*r.d+p.c*r.c+p.d*r.b+p.e*r.a⟩
theorem j0g {x y:Nat} (hx:x<67108864) (hy:y<67108864):x*y≤67108863*67108863:=Nat.mul_le_mul (by omega) (by omega)
theorem s0m {x y:UInt64} (hx:x.toNat<67108864) (hy:y.toNat<67108864):(x*y).toNat=x.toNat*y.toNat:=j0v (by have:=j0g hx hy;omega)
theorem o0k {x y:UInt64} (hx:x.toNat<67108864) (hy:y.toNat<67108864):(x*y*5).toNat=x.toNat*y.toNat*5:=by
 have:=j0g hx hy
 rw [j0v (by rw [s0m hx hy];show _*5<_;omega),s0m hx hy];rfl
theorem d2b {a b c d e:UInt64} {na nb nc nd ne:Nat} (ha:a.toNat=na) (hb:b.toNat=nb) (hc:c.toNat=nc) (hd:d.toNat=nd) (he:e.toNat=ne) (h:na+nb+nc+nd+ne<18446744073709551616):(0+a+b+c+d+e).toNat=na+nb+nc+nd+ne:=by
 subst ha hb hc hd he
 have e0:(0+a).toNat=a.toNat:=by simp
 rw [Ky (by rw [Ky (by rw [Ky (by rw [Ky (by rw [e0];omega),e0];omega),Ky (by rw [e0];omega),e0];omega),Ky (by rw [Ky (by rw [e0];omega),e0];omega),Ky (by rw [e0];omega),e0];omega),Ky (by rw [Ky (by rw [Ky (by rw [e0];omega),e0];omega),Ky (by rw [e0];omega),e0];omega),Ky (by rw [Ky (by rw [e0];omega),e0];omega),Ky (by rw [e0];omega),e0]
theorem p1b (x1 x2 x3 x4 x5 y1 y2 y3 y4 y5:Nat):(x1*y1+x2*y5*5+x3*y4*5+x4*y3*5+x5*y2*5+(x1*y2+x2*y1+x3*y5*5+x4*y4*5+x5*y3*5)*67108864+(x1*y3+x2*y2+x3*y1+x4*y5*5+x5*y4*5)*4503599627370496+(x1*y4+x2*y3+x3*y2+x4*y1+x5*y5*5)*302231454903657293676544+(x1*y5+x2*y4+x3*y3+x4*y2+x5*y1)*20282409603651670423947251286016)%pP=(x1+x2*67108864+x3*4503599627370496+x4*302231454903657293676544+x5*20282409603651670423947251286016)*(y1+y2*67108864+y3*4503599627370496+y4*302231454903657293676544+y5*20282409603651670423947251286016)%pP:=by
 have h:(x1+x2*67108864+x3*4503599627370496+x4*302231454903657293676544+x5*20282409603651670423947251286016)*(y1+y2*67108864+y3*4503599627370496+y4*302231454903657293676544+y5*20282409603651670423947251286016)=x1*y1+x2*y5*5+x3*y4*5+x4*y3*5+x5*y2*5+(x1*y2+x2*y1+x3*y5*5+x4*y4*5+x5*y3*5)*67108864+(x1*y3+x2*y2+x3*y1+x4*y5*5+x5*y4*5)*4503599627370496+(x1*y4+x2*y3+x3*y2+x4*y1+x5*y5*5)*302231454903657293676544+(x1*y5+x2*y4+x3*y3+x4*y2+x5*y1)*20282409603651670423947251286016+((x2*y5+x3*y4+x4*y3+x5*y2)+(x3*y5+x4*y4+x5*y3)*67108864+(x4*y5+x5*y4)*4503599627370496+(x5*y5)*302231454903657293676544)*pP:=by
  simp only [Nat.add_mul,Nat.mul_add,pP]
  have e01:x1*(y2*67108864)=x1*y2*67108864:=by rw [Nat.mul_assoc]
  have e02:x1*(y3*4503599627370496)=x1*y3*4503599627370496:=by rw [Nat.mul_assoc]
  have e03:x1*(y4*302231454903657293676544)=x1*y4*302231454903657293676544:=by rw [Nat.mul_assoc]
  have e04:x1*(y5*20282409603651670423947251286016)=x1*y5*20282409603651670423947251286016:=by rw [Nat.mul_assoc]
  have e10:x2*67108864*y1=x2*y1*67108864:=by rw [Nat.mul_right_comm]
  have e11:x2*67108864*(y2*67108864)=x2*y2*4503599627370496:=by rw [Nat.mul_mul_mul_comm]
  have e12:x2*67108864*(y3*4503599627370496)=x2*y3*302231454903657293676544:=by rw [Nat.mul_mul_mul_comm]
  have e13:x2*67108864*(y4*302231454903657293676544)=x2*y4*20282409603651670423947251286016:=by rw [Nat.mul_mul_mul_comm]
  have e14:x2*67108864*(y5*20282409603651670423947251286016)=x2*y5*1361129467683753853853498429727072845824:=by rw [Nat.mul_mul_mul_comm]
  have e20:x3*4503599627370496*y1=x3*y1*4503599627370496:=by rw [Nat.mul_right_comm]
  have e21:x3*4503599627370496*(y2*67108864)=x3*y2*302231454903657293676544:=by rw [Nat.mul_mul_mul_comm]
  have e22:x3*4503599627370496*(y3*4503599627370496)=x3*y3*20282409603651670423947251286016:=by rw [Nat.mul_mul_mul_comm]
  have e23:x3*4503599627370496*(y4*302231454903657293676544)=x3*y4*1361129467683753853853498429727072845824:=by rw [Nat.mul_mul_mul_comm]
  have e24:x3*4503599627370496*(y5*20282409603651670423947251286016)=x3*y5*91343852333181432387730302044767688728495783936:=by rw [Nat.mul_mul_mul_comm]
  have e30:x4*302231454903657293676544*y1=x4*y1*302231454903657293676544:=by rw [Nat.mul_right_comm]
  have e31:x4*302231454903657293676544*(y2*67108864)=x4*y2*20282409603651670423947251286016:=by rw [Nat.mul_mul_mul_comm]
  have e32:x4*302231454903657293676544*(y3*4503599627370496)=x4*y3*1361129467683753853853498429727072845824:=by rw [Nat.mul_mul_mul_comm]
  have e33:x4*302231454903657293676544*(y4*302231454903657293676544)=x4*y4*91343852333181432387730302044767688728495783936:=by rw [Nat.mul_mul_mul_comm]
  have e34:x4*302231454903657293676544*(y5*20282409603651670423947251286016)=x4*y5*6129982163463555433433388108601236734474956488734408704:=by rw [Nat.mul_mul_mul_comm]
  have e40:x5*20282409603651670423947251286016*y1=x5*y1*20282409603651670423947251286016:=by rw [Nat.mul_right_comm]
  have e41:x5*20282409603651670423947251286016*(y2*67108864)=x5*y2*1361129467683753853853498429727072845824:=by rw [Nat.mul_mul_mul_comm]
  have e42:x5*20282409603651670423947251286016*(y3*4503599627370496)=x5*y3*91343852333181432387730302044767688728495783936:=by rw [Nat.mul_mul_mul_comm]
  have e43:x5*20282409603651670423947251286016*(y4*302231454903657293676544)=x5*y4*6129982163463555433433388108601236734474956488734408704:=by rw [Nat.mul_mul_mul_comm]
  have e44:x5*20282409603651670423947251286016*(y5*20282409603651670423947251286016)=x5*y5*411376139330301510538742295639337626245683966408394965837152256:=by rw [Nat.mul_mul_mul_comm]
  rw [e01,e02,e03,e04,e10,e11,e12,e13,e14,e20,e21,e22,e23,e24,e30,e31,e32,e33,e34,e40,e41,e42,e43,e44]
  clear e01 e02 e03 e04 e10 e11 e12 e13 e14 e20 e21 e22 e23 e24 e30 e31 e32 e33 e34 e40 e41 e42 e43 e44
  generalize x1*y1=m00
  generalize x1*y2=m01
  generalize x1*y3=m02
  generalize x1*y4=m03
  generalize x1*y5=m04
  generalize x2*y1=m10
  generalize x2*y2=m11
  generalize x2*y3=m12
  generalize x2*y4=m13
  generalize x2*y5=m14
  generalize x3*y1=m20
  generalize x3*y2=m21
  generalize x3*y3=m22
  generalize x3*y4=m23
  generalize x3*y5=m24
  generalize x4*y1=m30
  generalize x4*y2=m31
  generalize x4*y3=m32
  generalize x4*y4=m33
  generalize x4*y5=m34
  generalize x5*y1=m40
  generalize x5*y2=m41
  generalize x5*y3=m42
  generalize x5*y4=m43
  generalize x5*y5=m44
  omega
 rw [h,Nat.add_mul_mod_self_right]
theorem p1a (p r:P5) (hp:p.lt 67108864) (hr:r.lt 67108864):(s0d p r).val%pP=p.val*r.val%pP∧(s0d p r).lt 2305843009213693952:=by
 obtain ⟨p1,p2,p3,p4,p5⟩:=hp
 obtain ⟨r1,r2,r3,r4,r5⟩:=hr
 have b11:=j0g p1 r1;have b12:=j0g p1 r2;have b13:=j0g p1 r3;have b14:=j0g p1 r4;have b15:=j0g p1 r5
 have b21:=j0g p2 r1;have b22:=j0g p2 r2;have b23:=j0g p2 r3;have b24:=j0g p2 r4;have b25:=j0g p2 r5
 have b31:=j0g p3 r1;have b32:=j0g p3 r2;have b33:=j0g p3 r3;have b34:=j0g p3 r4;have b35:=j0g p3 r5
 have b41:=j0g p4 r1;have b42:=j0g p4 r2;have b43:=j0g p4 r3;have b44:=j0g p4 r4;have b45:=j0g p4 r5
 have b51:=j0g p5 r1;have b52:=j0g p5 r2;have b53:=j0g p5 r3;have b54:=j0g p5 r4;have b55:=j0g p5 r5
 have e1:=d2b (s0m p1 r1) (o0k p2 r5) (o0k p3 r4) (o0k p4 r3) (o0k p5 r2) (by omega)
 have e2:=d2b (s0m p1 r2) (s0m p2 r1) (o0k p3 r5) (o0k p4 r4) (o0k p5 r3) (by omega)
 have e3:=d2b (s0m p1 r3) (s0m p2 r2) (s0m p3 r1) (o0k p4 r5) (o0k p5 r4) (by omega)
 have e4:=d2b (s0m p1 r4) (s0m p2 r3) (s0m p3 r2) (s0m p4 r1) (o0k p5 r5) (by omega)
 have e5:=d2b (s0m p1 r5) (s0m p2 r4) (s0m p3 r3) (s0m p4 r2) (s0m p5 r1) (by omega)
 simp only [s0d,P5.val,P5.lt,e1,e2,e3,e4,e5]
 refine ⟨?_,by omega,by omega,by omega,by omega,by omega⟩
 clear e1 e2 e3 e4 e5 b11 b12 b13 b14 b15 b21 b22 b23 b24 b25 b31 b32 b33 b34 b35 b41 b42 b43 b44 b45 b51 b52 b53 b54 b55 p1 p2 p3 p4 p5 r1 r2 r3 r4 r5
 generalize p.a.toNat=x1;generalize p.b.toNat=x2;generalize p.c.toNat=x3;generalize p.d.toNat=x4;generalize p.e.toNat=x5
 generalize r.a.toNat=y1;generalize r.b.toNat=y2;generalize r.c.toNat=y3;generalize r.d.toNat=y4;generalize r.e.toNat=y5
 refine p1b x1 x2 x3 x4 x5 y1 y2 y3 y4 y5
end Go.Sy
namespace Go.Sy
def leN :List UInt8→Nat
 | []=>0
 |b::r=>b.toNat+256*leN r
def lev (l:List UInt8):UInt64:=UInt64.ofNat (leN l)
theorem p0k : ∀ l:List UInt8,leN l<256 ^ l.length
 | []=>by simp [leN]
 |b::r=>by
  have:=p0k r;have h:=b.toNat_lt
  simp only [leN,List.length_cons,Nat.pow_succ];omega
theorem Rx {l:List UInt8} (h:l.length≤8):(lev l).toNat=leN l:=by
 have h1:=p0k l
 have h2:256 ^ l.length≤256 ^ 8:=Nat.pow_le_pow_right (by decide) h
 simp only [lev,UInt64.toNat_ofNat']
 exact Nat.mod_eq_of_lt (by omega)
theorem y0v (b:UInt8):(UInt64.ofNat b.toNat).toNat=b.toNat:=by
 have:=b.toNat_lt
 simp only [UInt64.toNat_ofNat'];omega
theorem v1n {r:List UInt8} (b:UInt8) (h:r.length≤7):Qz (lev r) 8|||UInt64.ofNat b.toNat=lev (b::r):=by
 have h1:=p0k r
 have h2:256 ^ r.length≤256 ^ 7:=Nat.pow_le_pow_right (by decide) h
 have hb:=b.toNat_lt
 have e:(Qz (lev r) 8).toNat=2 ^ 8*leN r:=by rw [d0p,Rx (by omega)];omega
 apply UInt64.toNat_inj.mp
 rw [UInt64.or_comm,l0y 8 (by rw [y0v];omega) e,e,Rx (by simp only [List.length_cons];omega),y0v]
 simp only [leN]
theorem i1c (r:List UInt8) (b:UInt8):lev r*256+UInt64.ofNat b.toNat=lev (b::r):=by
 apply UInt64.toNat_inj.mp
 have e:(256:UInt64).toNat=256:=rfl
 rw [UInt64.toNat_add,UInt64.toNat_mul,y0v,e]
 simp only [lev,UInt64.toNat_ofNat',leN]
 omega
def Mk (n:UInt64):Nat→List UInt8
 |0=>[]
 |k+1=>UInt8.ofNat n.toNat::Mk (n/256) k
theorem Av : ∀ (n:UInt64) (k:Nat),(Mk n k).length=k
 |_,0=>rfl
 |n,k+1=>by simp [Mk,Av]
theorem h0m : ∀ (k:Nat) (n:UInt64),leN (Mk n k)=n.toNat%256 ^ k
 |0,n=>by simp [Mk,leN,Nat.mod_one]
 |k+1,n=>by
  have e:(n/256).toNat=n.toNat/256:=by rw [UInt64.toNat_div];rfl
  simp only [Mk,leN,h0m k,e,UInt8.toNat_ofNat']
  show n.toNat%256+256*(n.toNat/256%256 ^ k)=n.toNat%256 ^ (k+1)
  rw [show 256 ^ (k+1)=256*256 ^ k from by rw [Nat.pow_succ,Nat.mul_comm],Nat.mod_mul]
theorem p1f (n:UInt64):lev (Mk n 8)=n:=by
 apply UInt64.toNat_inj.mp
 rw [Rx (by rw [Av];omega),h0m]
 exact Nat.mod_eq_of_lt n.toNat_lt
theorem Oq {A a M m:Nat} (ha:a<256) (hm:m<256):(a+256*A)&&&(m+256*M)=(a&&&m)+256*(A&&&M):=by
 have h1:((a+256*A)&&&(m+256*M))/2 ^ 8=A&&&M:=by
  rw [Nat.and_div_two_pow];congr 1<;>omega
 have h2:((a+256*A)&&&(m+256*M))%2 ^ 8=a&&&m:=by
  rw [Nat.and_mod_two_pow];congr 1<;>omega
 omega
end Go.Sy
namespace Go.Sy
open Go.Proofs
attribute [local irreducible] Fz HT Cw Oj onC onE onO onG goV goA goS Qv Ey
theorem Kv {a:Int} {n:Nat} (h:a=(n:Int)) (hn:n≤9223372036854775807):Go.RowKit.wrap64 a=(n:Int):=by subst h;exact w64 (by omega)
theorem s1a (n:Nat) (hn:n≤9223372036854775807):y1l (-((n:Nat):Int)) 15=(((16-n%16)%16:Nat):Int):=by
 have e:(BitVec.ofInt 64 (-((n:Nat):Int))&&&BitVec.ofInt 64 15).toNat=(16-n%16)%16:=by
  rw [BitVec.toNat_and,BitVec.toNat_ofInt,show (BitVec.ofInt 64 15).toNat=2 ^ 4-1 from rfl,Nat.and_two_pow_sub_one_eq_mod]
  omega
 unfold y1l
 rw [e]
 exact w64 (by omega)
def d0j (b:List UInt8):Nat:=(16-b.length%16)%16
def Wq (b:List UInt8):List UInt8:=b++List.replicate (d0j b) 0
theorem Zv (n:Nat):List.replicate n (L.pl (PL.u8 0))=Aq (List.replicate n 0):=by simp [Aq]
def Kj (n:Nat):List UInt8:=[UInt8.ofNat (a1r ((n:Nat):Int) 0%256).toNat,UInt8.ofNat (a1r ((n:Nat):Int) 8%256).toNat,UInt8.ofNat (a1r ((n:Nat):Int) 16%256).toNat,UInt8.ofNat (a1r ((n:Nat):Int) 24%256).toNat,UInt8.ofNat (a1r ((n:Nat):Int) 32%256).toNat,UInt8.ofNat (a1r ((n:Nat):Int) 40%256).toNat,UInt8.ofNat (a1r ((n:Nat):Int) 48%256).toNat,UInt8.ofNat (a1r ((n:Nat):Int) 56%256).toNat]
def ownB (l:List UInt8) (v:V) (m:List (Nat×Ob)):Prop:=v=.w (.one (.s 0 [] l.length 1))∧m=[(0,⟨true,Aq l⟩)]
theorem a1f {m:List (Nat×Ob)} {j n:Nat} {l:List UInt8} (hn:n=l.length) (h:look m j=some ⟨true,Aq l⟩) (hj:j<500000:=by decide):Told (ownB l) (.w (.one (.s j [] n 1))) m:=
 Yz ⟨only j,.w (.one (.s 0 [] l.length 1)),[(0,⟨true,Aq l⟩)],by rw [hn];rfl,b0e h hj,rfl,rfl⟩
theorem l0i (b:List UInt8) (ex:Bool) (hb:b.length≤4096) (hp:¬d0j b=0):
 CtM Tryd.prog 37 [.w (.one (.pl (.R ex 1 (Aw b))))] [] (Told (ownB (Wq b))):=by
 have hq:b.length+d0j b≤140737488355328:=by unfold d0j;omega
 have hi:y1l (-((b.length:Nat):Int)) 15=((d0j b:Nat):Int):=s1a _ (by omega)
 have hpp:(0:Int)≤((d0j b:Nat):Int)∧((d0j b:Nat):Int)≤9223372036854775807∧d0j b≤140737488355328:=by unfold d0j;omega
 have h0:(0:Int)≤((b.length:Nat):Int):=by omega
 have hw:Go.RowKit.wrap64 (0-((b.length:Nat):Int))= -((b.length:Nat):Int):=by rw [Int.zero_sub];exact w64 (by omega)
 have F0:=And.intro hq<|And.intro hi<|And.intro hpp<|And.intro h0<|And.intro hw<|hp
 refine CtM.k Tryd.func37 rfl Tryd.ntmps37 (congrArg Array.toList Tryd.results37) (by simp) fun w0 ro may fx=>?_
 refine Dx fun zZ zhZ=>?_
 iterate 6 first
  |(refine Dz fun zK zhK=>?_;simp only [go_sem,Zv,Nat.sub_zero,List.take_length,Int.le_refl,F0];(repeat' (first|apply And.intro|intro _)))
  |refine zhK _ ?_
  |refine Ck ?_
  |(refine zhZ _ _ ?_;simp only [go_sem,Zv,Nat.sub_zero,List.take_length,Int.le_refl,F0];(all_goals (exact a1f (by simp [Wq]) rfl)))
theorem e0w (b:List UInt8) (ex:Bool) (hb:b.length≤4096) (hp:d0j b=0):
 Ct Tryd.prog 37 [.w (.one (.pl (.R ex 1 (Aw b))))] (fun v m=>v=.w (.one (.pl (.R true 1 (Aw b))))∧m=[]):=by
 have hi:y1l (-((b.length:Nat):Int)) 15=0:=by rw [s1a _ (by omega)];unfold d0j at hp;omega
 have h0:(0:Int)≤((b.length:Nat):Int):=by omega
 have hw:Go.RowKit.wrap64 (0-((b.length:Nat):Int))= -((b.length:Nat):Int):=by rw [Int.zero_sub];exact w64 (by omega)
 have F0:=And.intro hi<|And.intro h0<|hw
 refine Ct.k Tryd.func37 rfl Tryd.ntmps37 (congrArg Array.toList Tryd.results37) (by simp) fun w0 ro=>?_
 refine Dx fun zZ zhZ=>?_
 iterate 6 first
  |(refine Dz fun zK zhK=>?_;simp only [go_sem,Zv,Nat.sub_zero,List.take_length,Int.le_refl,F0];(repeat' (first|apply And.intro|intro _)))
  |refine zhK _ ?_
  |refine Ck ?_
  |(refine zhZ _ _ ?_;simp only [go_sem,Zv,Nat.sub_zero,List.take_length,Int.le_refl,F0];(all_goals (exact ⟨rfl,rfl⟩)))
theorem f0v (n:Nat) (hn:n≤4096):
 CtM Tryd.prog 39 [.w (.one (.pl (.i ((n:Nat):Int))))] [] (Told (ownB (Kj n))):=by
 refine CtM.k Tryd.func39 rfl Tryd.ntmps39 (congrArg Array.toList Tryd.results39) (by simp) fun w0 ro may fx=>?_
 refine Dx fun zZ zhZ=>?_
 iterate 167 first
  |(refine Dj (x:=.seq (.region 3 _ _) _) [4,9,10,11,12,13,14,15,16,17,18,19] ?_;simp only [go_sem,St.forget,fgt];refine Hw fun zN zM zhN zhM=>?_)
  |refine Hw fun zN zM zhN zhM=>?_
  |refine zhK _ ?_
  |(refine zhN _ ?_;clear zhN zhM)
  |(refine Dz fun zK zhK=>?_;simp only [go_sem,Int.toNat_one,Int.reduceTMod,Int.reduceTDiv,Int.mul_zero,Zv];(repeat' (first|apply And.intro|intro _)))
  |(refine Cv fun zK zhK=>?_;simp only [go_sem,Int.toNat_one,Int.reduceTMod,Int.reduceTDiv,Int.mul_zero,Zv];(repeat' (first|apply And.intro|intro _)))
  |refine Cx fun zB zbn zbx zbr zbi=>?_
  |refine Cq ?_
  |(refine zbn _ ?_;clear zbn zbx zbr zbi)
  |(refine zhM _ _ ?_;clear zhN zhM)
  |refine Fw (x:=.seq (.region 3 _ _) _) 9 ?_
  |refine Fx ?_
  |(refine zbx _ ?_;clear zbn zbx zbr zbi)
  |refine Ck ?_
  |(refine zhZ _ _ ?_;simp only [go_sem,Int.toNat_one,Int.reduceTMod,Int.reduceTDiv,Int.mul_zero,Zv];(all_goals (exact a1f rfl rfl)))
  |refine Bq fun zN zM zhN zhM=>?_
  |(refine Bz ?_ ?_;focus (first|rfl|(simp [go_sem,Int.toNat_one,Int.reduceTMod,Int.reduceTDiv,Int.mul_zero,Zv];done)))
  |(refine Bj ?_ ?_;focus (first|rfl|(simp [go_sem,Int.toNat_one,Int.reduceTMod,Int.reduceTDiv,Int.mul_zero,Zv];done)))
end Go.Sy
namespace Go.Sy
open Go.Proofs
attribute [local irreducible] Fz HT Cw Oj onC onE onO onG goV goA goS Qv Ey
theorem m0g (n:Nat):(List.replicate n [L.pl (PL.u8 0)]).flatten=Aq (List.replicate n 0):=by
 induction n with
 |zero=>rfl
 |succ n ih=>rw [List.replicate_succ,List.flatten_cons,ih,List.replicate_succ];rfl
theorem o1w (n:Nat) (hn:n≤4096):
 Ct Tryd.prog 62 [.w (.one (.pl (.i ((n:Nat):Int))))] (fun v m=>v=.w (.one (.pl (.str (List.replicate n 0))))):=by
 have h1:(0:Int)≤((n:Nat):Int)∧((n:Nat):Int)≤281474976710656:=by omega
 have h2:((n:Nat):Int).toNat=n:=Int.toNat_natCast n
 refine Ct.k Tryd.func62 rfl Tryd.ntmps62 (congrArg Array.toList Tryd.results62) (by simp) fun w0 ro=>?_
 refine Dx fun zZ zhZ=>?_
 iterate 6 first
  |(refine Dz fun zK zhK=>?_;simp only [go_sem,h1,h2,m0g,Int.one_mul];(repeat' (first|apply And.intro|intro _)))
  |refine zhK _ ?_
  |refine Ck ?_
  |(refine zhZ _ _ ?_;simp only [go_sem,h1,h2,m0g,Int.one_mul];(all_goals rfl))
theorem c2n (b:List UInt8) (hb:b.length≤4096):
 Ct Tryd.prog 44 [.w (.one (.pl (.str b)))] (fun v m=>v=.w (.one (.pl (.str (Wq b))))):=by
 have hN:=o1w (d0j b) (by unfold d0j;omega)
 have ht1:((b.length:Nat):Int).tmod 16=((b.length%16:Nat):Int):=rfl
 have ht2:((16-b.length%16:Nat):Int).tmod 16=((d0j b:Nat):Int):=rfl
 have hq:b.length+d0j b≤9223372036854775807:=by unfold d0j;omega
 have hw:Go.RowKit.wrap64 (16-((b.length%16:Nat):Int))=((16-b.length%16:Nat):Int):=Kv (by omega) (by omega)
 have F0:=And.intro ht1<|And.intro ht2<|And.intro hq<|hw
 refine Ct.k Tryd.func44 rfl Tryd.ntmps44 (congrArg Array.toList Tryd.results44) (by simp) fun w0 ro=>?_
 refine Dx fun zZ zhZ=>?_
 refine Dz fun zK zhK=>?_
 simp only [go_sem,F0]
 repeat' (first|apply And.intro|intro _)
 refine zhK _ ?_
 refine Dz fun zK zhK=>?_
 simp only [go_sem,F0]
 repeat' (first|apply And.intro|intro _)
 all_goals (refine Cy (fun k=>k) (fun _ _=>rfl) ?_ (hN.plain fun _ _ h=>h) ?_;focus (first|rfl|(simp only [go_sem,F0]<;>rfl)))
 all_goals (rintro v m ⟨hR,hm⟩;subst hR;subst hm)
 all_goals refine And.intro (by first|rfl|simp only [go_sem,F0]) (And.intro (by first|rfl|simp only [go_sem,F0]) ?_)
 all_goals simp only [go_sem,F0]
 all_goals repeat' (first|apply And.intro|intro _)
 refine zhK _ ?_
 refine Ck ?_
 refine zhZ _ _ ?_
 simp only [go_sem,F0]
 all_goals (rfl)
end Go.Sy
namespace Go.Sy
open Go.Proofs
attribute [local irreducible] Fz HT Cw Oj onC onE onO onG goV goA goS Qv Ey
theorem z1n (key nonce ad text once:List UInt8) (hk:key.length=32) (hn:nonce.length=12) (h64:once.length=64) (h1:ad.length≤200) (h2:text.length≤800) (ex1 ex2:Bool) (tg:List UInt8) (htg:tg.length=16) (p1:¬d0j ad=0) (p2:¬d0j text=0) (hB:Ct Tryd.prog 36 [.w (.agg (Aq key)),.w (.one (.pl (.u32 0))),.w (.agg (Aq nonce))] (fun v m=>v=.w (.agg (Aq once)))) (hT:Ct Tryd.prog 38 [.w (.agg (Aq (once.take 32))),.w (.one (.pl (.R false 1 (Aw (Wq ad++Wq text++Kj ad.length++Kj text.length)))))] (fun v m=>v=.w (.agg (Aq tg)))):
 CtM Tryd.prog 26 [.w (.agg (Aq key)),.w (.agg (Aq nonce)),.w (.one (.pl (.R ex1 1 (Aw ad)))),.w (.one (.pl (.R ex2 1 (Aw text))))] [] (Told (fun v m=>v=.w (.agg (Aq tg))∧m=[])):=by
 have hP1:=l0i ad ex1 (by omega) p1
 have hP2:=l0i text ex2 (by omega) p2
 obtain ⟨a,ha⟩: ∃ q,Wq ad=q:=⟨_,rfl⟩
 have hal:a.length≤300:=by rw [←ha];simp [Wq];unfold d0j;omega
 obtain ⟨t,ht⟩: ∃ q,Wq text=q:=⟨_,rfl⟩
 have htl:t.length≤900:=by rw [←ht];simp [Wq];unfold d0j;omega
 have htn:¬t.length=0:=by rw [←ht];simp only [Wq,List.length_append,List.length_replicate];omega
 have hE1:=f0v ad.length (by omega)
 have hE2:=f0v text.length (by omega)
 obtain ⟨e,he⟩: ∃ q,Kj ad.length=q:=⟨_,rfl⟩
 have hel:e.length=8:=by rw [←he];rfl
 obtain ⟨f,hf⟩: ∃ q,Kj text.length=q:=⟨_,rfl⟩
 have hfl:f.length=8:=by rw [←hf];rfl
 rw [ha] at hP1 hT
 rw [ht] at hP2 hT
 rw [he] at hE1 hT
 rw [hf] at hE2 hT
 have hq1:a.length+t.length≤140737488355328:=by omega
 have hq2:a.length+t.length+8≤140737488355328:=by omega
 have hq3:a.length+t.length+8+8≤140737488355328:=by omega
 obtain ⟨z,hz⟩: ∃ q,a++t++e++f=q:=⟨_,rfl⟩
 have hzl:z.length=a.length+t.length+8+8:=by rw [←hz];simp only [List.length_append,hel,hfl]
 rw [hz] at hT
 have hch:chunks 1 (a.length+t.length+8+8) (z.map PL.u8)=Aw z:=Ew hzl
 have hm1:min 64 32=32:=rfl
 have hm2:min 32 64=32:=rfl
 have hdr:List.drop 32 (List.replicate 32 (0:UInt8))=[]:=rfl
 obtain ⟨o32,ho⟩: ∃ q,once.take 32=q:=⟨_,rfl⟩
 have hol:o32.length=32:=by rw [←ho,List.length_take];omega
 rw [ho] at hT
 have F0:=And.intro hk<|And.intro hn<|And.intro h64<|And.intro htg<|And.intro hel<|And.intro hfl<|And.intro hq1<|And.intro hq2<|And.intro hq3<|And.intro hz<|And.intro hzl<|And.intro ho<|And.intro hol<|And.intro hm1<|And.intro hm2<|And.intro hdr<|And.intro hch<|htn
 refine CtM.k Tryd.func26 rfl Tryd.ntmps26 (congrArg Array.toList Tryd.results26) (by simp) fun w0 ro may fx=>?_
 refine Dx fun zZ zhZ=>?_
 refine Dz fun zK zhK=>?_
 simp only [go_sem,F0]
 repeat' (first|apply And.intro|intro _)
 refine zhK _ ?_
 refine Dz fun zK zhK=>?_
 simp only [go_sem,F0]
 repeat' (first|apply And.intro|intro _)
 all_goals (refine Cy (fun k=>k) (fun _ _=>rfl) ?_ (hB.plain fun _ _ h=>h) ?_;focus (first|rfl|(simp only [go_sem,F0]<;>rfl)))
 all_goals (rintro v m ⟨hR,hm⟩;subst hR;subst hm)
 all_goals refine And.intro (by first|rfl|simp only [go_sem,F0]) (And.intro (by first|rfl|simp only [go_sem,F0]) ?_)
 all_goals simp only [go_sem,F0]
 all_goals repeat' (first|apply And.intro|intro _)
 refine zhK _ ?_
 refine Dz fun zK zhK=>?_
 simp only [go_sem,F0]
 repeat' (first|apply And.intro|intro _)
 refine zhK _ ?_
 refine Bq fun zN zM zhN zhM=>?_
 refine Kk (id:=3) [15,16,17] [0,0,3] [] mixed (by kernel_rfl) (by simp only [go_sem]) fun zK zhK=>?_
 simp only [go_sem,F0]
 repeat' (first|apply And.intro|intro _)
 refine zhK _ _ trivial ?_
 refine zhN _ ?_;clear zhN zhM
 refine Dz fun zK zhK=>?_
 simp only [go_sem,F0]
 repeat' (first|apply And.intro|intro _)
 all_goals (refine Dy false [] (fun _=>19) (fun _ _=>rfl) ?_ (by decide) ?_ hP1.told ?_;iterate 2 (focus (first|rfl|(simp only [go_sem,F0]<;>first|done|rfl|simp))))
 all_goals (rintro v m ⟨hR,hm⟩;subst hR;subst hm)
 all_goals (refine And.intro ?_ (And.intro ?_ (And.intro ?_ ?_));iterate 3 (focus (first|rfl|(simp only [go_sem,F0];done)|(simp [go_sem,look,F0];done))))
 all_goals (try simp only [go_sem,F0])
 all_goals (try simp only [go_sem,F0])
 all_goals repeat' (first|apply And.intro|intro _)
 all_goals (refine Dy false [] (fun _=>21) (fun _ _=>rfl) ?_ (by decide) ?_ hP2.told ?_;iterate 2 (focus (first|rfl|(simp only [go_sem,F0]<;>first|done|rfl|simp))))
 all_goals (rintro v m ⟨hR,hm⟩;subst hR;subst hm)
 all_goals (refine And.intro ?_ (And.intro ?_ (And.intro ?_ ?_));iterate 3 (focus (first|rfl|(simp only [go_sem,F0];done)|(simp [go_sem,look,F0];done))))
 all_goals (try simp only [go_sem,F0])
 all_goals (try simp only [go_sem,F0])
 all_goals repeat' (first|apply And.intro|intro _)
 refine zhK _ ?_
 refine Bq fun zN zM zhN zhM=>?_
 refine Zj (id:=5) mixed fun zE zhE=>?_
 refine Cj (p:=0) 10 [23,24,25,26,27,28,29,30,31,32] [0,0,0,4,12,30,0,64,254,510,1023,2047] [(0,5),(5,6),(5,7),(0,9)] rfl (by kernel_rfl) rfl (by simp only [go_sem]) fun zR zK zhR zhK=>?_
 simp only [go_sem,F0]
 repeat' (first|apply And.intro|intro _)
 all_goals (refine Fy (fun _=>27) (.w (.one (.s 0 [] e.length 1))) [(0,⟨true,Aq e⟩)] (fun _ _=>rfl) ?_ ?_ ?_ hE1.told ?_ ?_;(iterate 2 (focus (first|rfl|(simp only [go_sem,F0]<;>first|done|rfl|simp))));(first|kernel_rfl|rfl|simp [h0y,i0r,pls]))
 all_goals try (refine And.intro ?_ (And.intro ?_ (And.intro ?_ ?_))<;>(first|rfl|(simp only [go_sem,F0];done)|(simp [go_sem,look,F0];done)))
 all_goals (try simp only [go_sem,F0])
 all_goals (try simp only [go_sem,F0])
 all_goals repeat' (first|apply And.intro|intro _)
 all_goals (refine Fy (fun _=>31) (.w (.one (.s 0 [] f.length 1))) [(0,⟨true,Aq f⟩)] (fun _ _=>rfl) ?_ ?_ ?_ hE2.told ?_ ?_;(iterate 2 (focus (first|rfl|(simp only [go_sem,F0]<;>first|done|rfl|simp))));(first|kernel_rfl|rfl|simp [h0y,i0r,pls]))
 all_goals try (refine And.intro ?_ (And.intro ?_ (And.intro ?_ ?_))<;>(first|rfl|(simp only [go_sem,F0];done)|(simp [go_sem,look,F0];done)))
 all_goals (try simp only [go_sem,F0])
 all_goals (try simp only [go_sem,F0])
 all_goals repeat' (first|apply And.intro|intro _)
 refine zhK _ _ ?_ (zhR _ ?_)
 focus (first|trivial|(simp only [go_sem];done)|(simp only [go_sem];simp;done)|(simp only [go_sem];simp;simp only [go_sem]))
 refine Dw 2 12 rfl (by kernel_rfl) rfl rfl fun zR zhR=>?_
 simp only [go_sem,F0]
 repeat' (first|apply And.intro|intro _)
 all_goals (refine Cy (fun k=>k) (fun _ _=>rfl) ?_ (hT.plain fun _ _ h=>h) ?_;focus (first|rfl|(simp only [go_sem,F0]<;>rfl)))
 all_goals (rintro v m ⟨hR,hm⟩;subst hR;subst hm)
 all_goals refine And.intro (by first|rfl|simp only [go_sem,F0]) (And.intro (by first|rfl|simp only [go_sem,F0]) ?_)
 all_goals simp only [go_sem,F0]
 all_goals repeat' (first|apply And.intro|intro _)
 refine zhR _ ?_
 refine Hq rfl (zhE _ ?_)
 refine zhN _ ?_;clear zhN zhM
 refine Ck ?_
 refine zhZ _ _ ?_
 simp only [go_sem,F0]
 all_goals (exact told_plain (by simp [Pw,Uw,Aq]) ⟨rfl,rfl⟩)
theorem z1o (key nonce ad text once:List UInt8) (hk:key.length=32) (hn:nonce.length=12) (h64:once.length=64) (h1:ad.length≤200) (h2:text.length≤800) (ex1 ex2:Bool) (tg:List UInt8) (htg:tg.length=16) (p1:¬d0j ad=0) (p2:d0j text=0) (hB:Ct Tryd.prog 36 [.w (.agg (Aq key)),.w (.one (.pl (.u32 0))),.w (.agg (Aq nonce))] (fun v m=>v=.w (.agg (Aq once)))) (hT:Ct Tryd.prog 38 [.w (.agg (Aq (once.take 32))),.w (.one (.pl (.R false 1 (Aw (Wq ad++Wq text++Kj ad.length++Kj text.length)))))] (fun v m=>v=.w (.agg (Aq tg)))):
 CtM Tryd.prog 26 [.w (.agg (Aq key)),.w (.agg (Aq nonce)),.w (.one (.pl (.R ex1 1 (Aw ad)))),.w (.one (.pl (.R ex2 1 (Aw text))))] [] (Told (fun v m=>v=.w (.agg (Aq tg))∧m=[])):=by
 have hP1:=l0i ad ex1 (by omega) p1
 have hP2:=e0w text ex2 (by omega) p2
 have hpt:Wq text=text:=by simp [Wq,p2]
 obtain ⟨a,ha⟩: ∃ q,Wq ad=q:=⟨_,rfl⟩
 have hal:a.length≤300:=by rw [←ha];simp [Wq];unfold d0j;omega
 obtain ⟨t,ht⟩: ∃ q,Wq text=q:=⟨_,rfl⟩
 have htl:t.length≤900:=by rw [←ht,hpt];omega
 have hE1:=f0v ad.length (by omega)
 have hE2:=f0v text.length (by omega)
 obtain ⟨e,he⟩: ∃ q,Kj ad.length=q:=⟨_,rfl⟩
 have hel:e.length=8:=by rw [←he];rfl
 obtain ⟨f,hf⟩: ∃ q,Kj text.length=q:=⟨_,rfl⟩
 have hfl:f.length=8:=by rw [←hf];rfl
 rw [ha] at hP1 hT
 rw [ht] at hT hpt
 subst hpt
 rw [he] at hE1 hT
 rw [hf] at hE2 hT
 have hq1:a.length+t.length≤140737488355328:=by omega
 have hq2:a.length+t.length+8≤140737488355328:=by omega
 have hq3:a.length+t.length+8+8≤140737488355328:=by omega
 obtain ⟨z,hz⟩: ∃ q,a++t++e++f=q:=⟨_,rfl⟩
 have hzl:z.length=a.length+t.length+8+8:=by rw [←hz];simp only [List.length_append,hel,hfl]
 rw [hz] at hT
 have hch:chunks 1 (a.length+t.length+8+8) (z.map PL.u8)=Aw z:=Ew hzl
 have hm1:min 64 32=32:=rfl
 have hm2:min 32 64=32:=rfl
 have hdr:List.drop 32 (List.replicate 32 (0:UInt8))=[]:=rfl
 obtain ⟨o32,ho⟩: ∃ q,once.take 32=q:=⟨_,rfl⟩
 have hol:o32.length=32:=by rw [←ho,List.length_take];omega
 rw [ho] at hT
 have F0:=And.intro hk<|And.intro hn<|And.intro h64<|And.intro htg<|And.intro hel<|And.intro hfl<|And.intro hq1<|And.intro hq2<|And.intro hq3<|And.intro hz<|And.intro hzl<|And.intro ho<|And.intro hol<|And.intro hm1<|And.intro hm2<|And.intro hdr<|hch
 refine CtM.k Tryd.func26 rfl Tryd.ntmps26 (congrArg Array.toList Tryd.results26) (by simp) fun w0 ro may fx=>?_
 refine Dx fun zZ zhZ=>?_
 refine Dz fun zK zhK=>?_
 simp only [go_sem,F0]
 repeat' (first|apply And.intro|intro _)
 refine zhK _ ?_
 refine Dz fun zK zhK=>?_
 simp only [go_sem,F0]
 repeat' (first|apply And.intro|intro _)
 all_goals (refine Cy (fun k=>k) (fun _ _=>rfl) ?_ (hB.plain fun _ _ h=>h) ?_;focus (first|rfl|(simp only [go_sem,F0]<;>rfl)))
 all_goals (rintro v m ⟨hR,hm⟩;subst hR;subst hm)
 all_goals refine And.intro (by first|rfl|simp only [go_sem,F0]) (And.intro (by first|rfl|simp only [go_sem,F0]) ?_)
 all_goals simp only [go_sem,F0]
 all_goals repeat' (first|apply And.intro|intro _)
 refine zhK _ ?_
 refine Dz fun zK zhK=>?_
 simp only [go_sem,F0]
 repeat' (first|apply And.intro|intro _)
 refine zhK _ ?_
 refine Bq fun zN zM zhN zhM=>?_
 refine Kk (id:=3) [15,16,17] [0,0,3] [] mixed (by kernel_rfl) (by simp only [go_sem]) fun zK zhK=>?_
 simp only [go_sem,F0]
 repeat' (first|apply And.intro|intro _)
 refine zhK _ _ trivial ?_
 refine zhN _ ?_;clear zhN zhM
 refine Dz fun zK zhK=>?_
 simp only [go_sem,F0]
 repeat' (first|apply And.intro|intro _)
 all_goals (refine Dy false [] (fun _=>19) (fun _ _=>rfl) ?_ (by decide) ?_ hP1.told ?_;iterate 2 (focus (first|rfl|(simp only [go_sem,F0]<;>first|done|rfl|simp))))
 all_goals (rintro v m ⟨hR,hm⟩;subst hR;subst hm)
 all_goals (refine And.intro ?_ (And.intro ?_ (And.intro ?_ ?_));iterate 3 (focus (first|rfl|(simp only [go_sem,F0];done)|(simp [go_sem,look,F0];done))))
 all_goals (try simp only [go_sem,F0])
 all_goals (try simp only [go_sem,F0])
 all_goals repeat' (first|apply And.intro|intro _)
 all_goals (refine Dy false [] (fun k=>k) (fun _ _=>rfl) ?_ (by decide) ?_ hP2.hands ?_;iterate 2 (focus (first|rfl|(simp only [go_sem,F0]<;>first|done|rfl|simp))))
 all_goals (rintro v m ⟨hR,hm⟩;subst hR;subst hm)
 all_goals (refine And.intro ?_ (And.intro ?_ (And.intro ?_ ?_));iterate 3 (focus (first|rfl|(simp only [go_sem,F0];done)|(simp [go_sem,look,F0];done))))
 all_goals (try simp only [go_sem,F0])
 all_goals (try simp only [go_sem,F0])
 all_goals repeat' (first|apply And.intro|intro _)
 refine zhK _ ?_
 refine Bq fun zN zM zhN zhM=>?_
 refine Zj (id:=5) mixed fun zE zhE=>?_
 refine Cj (p:=0) 10 [23,24,25,26,27,28,29,30,31,32] [0,0,0,4,12,30,0,64,254,510,1023,2047] [(0,5),(5,6),(5,7),(0,9)] rfl (by kernel_rfl) rfl (by simp only [go_sem]) fun zR zK zhR zhK=>?_
 simp only [go_sem,F0]
 repeat' (first|apply And.intro|intro _)
 all_goals (refine Fy (fun _=>27) (.w (.one (.s 0 [] e.length 1))) [(0,⟨true,Aq e⟩)] (fun _ _=>rfl) ?_ ?_ ?_ hE1.told ?_ ?_;(iterate 2 (focus (first|rfl|(simp only [go_sem,F0]<;>first|done|rfl|simp))));(first|kernel_rfl|rfl|simp [h0y,i0r,pls]))
 all_goals try (refine And.intro ?_ (And.intro ?_ (And.intro ?_ ?_))<;>(first|rfl|(simp only [go_sem,F0];done)|(simp [go_sem,look,F0];done)))
 all_goals (try simp only [go_sem,F0])
 all_goals (try simp only [go_sem,F0])
 all_goals repeat' (first|apply And.intro|intro _)
 all_goals (refine Fy (fun _=>31) (.w (.one (.s 0 [] f.length 1))) [(0,⟨true,Aq f⟩)] (fun _ _=>rfl) ?_ ?_ ?_ hE2.told ?_ ?_;(iterate 2 (focus (first|rfl|(simp only [go_sem,F0]<;>first|done|rfl|simp))));(first|kernel_rfl|rfl|simp [h0y,i0r,pls]))
 all_goals try (refine And.intro ?_ (And.intro ?_ (And.intro ?_ ?_))<;>(first|rfl|(simp only [go_sem,F0];done)|(simp [go_sem,look,F0];done)))
 all_goals (try simp only [go_sem,F0])
 all_goals (try simp only [go_sem,F0])
 all_goals repeat' (first|apply And.intro|intro _)
 refine zhK _ _ ?_ (zhR _ ?_)
 focus (first|trivial|(simp only [go_sem];done)|(simp only [go_sem];simp;done)|(simp only [go_sem];simp;simp only [go_sem]))
 refine Dw 2 12 rfl (by kernel_rfl) rfl rfl fun zR zhR=>?_
 simp only [go_sem,F0]
 repeat' (first|apply And.intro|intro _)
 all_goals (refine Cy (fun k=>k) (fun _ _=>rfl) ?_ (hT.plain fun _ _ h=>h) ?_;focus (first|rfl|(simp only [go_sem,F0]<;>rfl)))
 all_goals (rintro v m ⟨hR,hm⟩;subst hR;subst hm)
 all_goals refine And.intro (by first|rfl|simp only [go_sem,F0]) (And.intro (by first|rfl|simp only [go_sem,F0]) ?_)
 all_goals simp only [go_sem,F0]
 all_goals repeat' (first|apply And.intro|intro _)
 refine zhR _ ?_
 refine Hq rfl (zhE _ ?_)
 refine zhN _ ?_;clear zhN zhM
 refine Ck ?_
 refine zhZ _ _ ?_
 simp only [go_sem,F0]
 all_goals (exact told_plain (by simp [Pw,Uw,Aq]) ⟨rfl,rfl⟩)
theorem z1p (key nonce ad text once:List UInt8) (hk:key.length=32) (hn:nonce.length=12) (h64:once.length=64) (h1:ad.length≤200) (h2:text.length≤800) (ex1 ex2:Bool) (tg:List UInt8) (htg:tg.length=16) (p1:d0j ad=0) (p2:¬d0j text=0) (hB:Ct Tryd.prog 36 [.w (.agg (Aq key)),.w (.one (.pl (.u32 0))),.w (.agg (Aq nonce))] (fun v m=>v=.w (.agg (Aq once)))) (hT:Ct Tryd.prog 38 [.w (.agg (Aq (once.take 32))),.w (.one (.pl (.R false 1 (Aw (Wq ad++Wq text++Kj ad.length++Kj text.length)))))] (fun v m=>v=.w (.agg (Aq tg)))):
 CtM Tryd.prog 26 [.w (.agg (Aq key)),.w (.agg (Aq nonce)),.w (.one (.pl (.R ex1 1 (Aw ad)))),.w (.one (.pl (.R ex2 1 (Aw text))))] [] (Told (fun v m=>v=.w (.agg (Aq tg))∧m=[])):=by
 have hP1:=e0w ad ex1 (by omega) p1
 have hpa:Wq ad=ad:=by simp [Wq,p1]
 have hP2:=l0i text ex2 (by omega) p2
 obtain ⟨a,ha⟩: ∃ q,Wq ad=q:=⟨_,rfl⟩
 have hal:a.length≤300:=by rw [←ha,hpa];omega
 obtain ⟨t,ht⟩: ∃ q,Wq text=q:=⟨_,rfl⟩
 have htl:t.length≤900:=by rw [←ht];simp [Wq];unfold d0j;omega
 have htn:¬t.length=0:=by rw [←ht];simp only [Wq,List.length_append,List.length_replicate];omega
 have hE1:=f0v ad.length (by omega)
 have hE2:=f0v text.length (by omega)
 obtain ⟨e,he⟩: ∃ q,Kj ad.length=q:=⟨_,rfl⟩
 have hel:e.length=8:=by rw [←he];rfl
 obtain ⟨f,hf⟩: ∃ q,Kj text.length=q:=⟨_,rfl⟩
 have hfl:f.length=8:=by rw [←hf];rfl
 rw [ha] at hT hpa
 subst hpa
 rw [ht] at hP2 hT
 rw [he] at hE1 hT
 rw [hf] at hE2 hT
 have hq1:a.length+t.length≤140737488355328:=by omega
 have hq2:a.length+t.length+8≤140737488355328:=by omega
 have hq3:a.length+t.length+8+8≤140737488355328:=by omega
 obtain ⟨z,hz⟩: ∃ q,a++t++e++f=q:=⟨_,rfl⟩
 have hzl:z.length=a.length+t.length+8+8:=by rw [←hz];simp only [List.length_append,hel,hfl]
 rw [hz] at hT
 have hch:chunks 1 (a.length+t.length+8+8) (z.map PL.u8)=Aw z:=Ew hzl
 have hm1:min 64 32=32:=rfl
 have hm2:min 32 64=32:=rfl
 have hdr:List.drop 32 (List.replicate 32 (0:UInt8))=[]:=rfl
 obtain ⟨o32,ho⟩: ∃ q,once.take 32=q:=⟨_,rfl⟩
 have hol:o32.length=32:=by rw [←ho,List.length_take];omega
 rw [ho] at hT
 have F0:=And.intro hk<|And.intro hn<|And.intro h64<|And.intro htg<|And.intro hel<|And.intro hfl<|And.intro hq1<|And.intro hq2<|And.intro hq3<|And.intro hz<|And.intro hzl<|And.intro ho<|And.intro hol<|And.intro hm1<|And.intro hm2<|And.intro hdr<|And.intro hch<|htn
 refine CtM.k Tryd.func26 rfl Tryd.ntmps26 (congrArg Array.toList Tryd.results26) (by simp) fun w0 ro may fx=>?_
 refine Dx fun zZ zhZ=>?_
 refine Dz fun zK zhK=>?_
 simp only [go_sem,F0]
 repeat' (first|apply And.intro|intro _)
 refine zhK _ ?_
 refine Dz fun zK zhK=>?_
 simp only [go_sem,F0]
 repeat' (first|apply And.intro|intro _)
 all_goals (refine Cy (fun k=>k) (fun _ _=>rfl) ?_ (hB.plain fun _ _ h=>h) ?_;focus (first|rfl|(simp only [go_sem,F0]<;>rfl)))
 all_goals (rintro v m ⟨hR,hm⟩;subst hR;subst hm)
 all_goals refine And.intro (by first|rfl|simp only [go_sem,F0]) (And.intro (by first|rfl|simp only [go_sem,F0]) ?_)
 all_goals simp only [go_sem,F0]
 all_goals repeat' (first|apply And.intro|intro _)
 refine zhK _ ?_
 refine Dz fun zK zhK=>?_
 simp only [go_sem,F0]
 repeat' (first|apply And.intro|intro _)
 refine zhK _ ?_
 refine Bq fun zN zM zhN zhM=>?_
 refine Kk (id:=3) [15,16,17] [0,0,3] [] mixed (by kernel_rfl) (by simp only [go_sem]) fun zK zhK=>?_
 simp only [go_sem,F0]
 repeat' (first|apply And.intro|intro _)
 refine zhK _ _ trivial ?_
 refine zhN _ ?_;clear zhN zhM
 refine Dz fun zK zhK=>?_
 simp only [go_sem,F0]
 repeat' (first|apply And.intro|intro _)
 all_goals (refine Dy false [] (fun k=>k) (fun _ _=>rfl) ?_ (by decide) ?_ hP1.hands ?_;iterate 2 (focus (first|rfl|(simp only [go_sem,F0]<;>first|done|rfl|simp))))
 all_goals (rintro v m ⟨hR,hm⟩;subst hR;subst hm)
 all_goals (refine And.intro ?_ (And.intro ?_ (And.intro ?_ ?_));iterate 3 (focus (first|rfl|(simp only [go_sem,F0];done)|(simp [go_sem,look,F0];done))))
 all_goals (try simp only [go_sem,F0])
 all_goals (try simp only [go_sem,F0])
 all_goals repeat' (first|apply And.intro|intro _)
 all_goals (refine Dy false [] (fun _=>21) (fun _ _=>rfl) ?_ (by decide) ?_ hP2.told ?_;iterate 2 (focus (first|rfl|(simp only [go_sem,F0]<;>first|done|rfl|simp))))
 all_goals (rintro v m ⟨hR,hm⟩;subst hR;subst hm)
 all_goals (refine And.intro ?_ (And.intro ?_ (And.intro ?_ ?_));iterate 3 (focus (first|rfl|(simp only [go_sem,F0];done)|(simp [go_sem,look,F0];done))))
 all_goals (try simp only [go_sem,F0])
 all_goals (try simp only [go_sem,F0])
 all_goals repeat' (first|apply And.intro|intro _)
 refine zhK _ ?_
 refine Bq fun zN zM zhN zhM=>?_
 refine Zj (id:=5) mixed fun zE zhE=>?_
 refine Cj (p:=0) 10 [23,24,25,26,27,28,29,30,31,32] [0,0,0,4,12,30,0,64,254,510,1023,2047] [(0,5),(5,6),(5,7),(0,9)] rfl (by kernel_rfl) rfl (by simp only [go_sem]) fun zR zK zhR zhK=>?_
 simp only [go_sem,F0]
 repeat' (first|apply And.intro|intro _)
 all_goals (refine Fy (fun _=>27) (.w (.one (.s 0 [] e.length 1))) [(0,⟨true,Aq e⟩)] (fun _ _=>rfl) ?_ ?_ ?_ hE1.told ?_ ?_;(iterate 2 (focus (first|rfl|(simp only [go_sem,F0]<;>first|done|rfl|simp))));(first|kernel_rfl|rfl|simp [h0y,i0r,pls]))
 all_goals try (refine And.intro ?_ (And.intro ?_ (And.intro ?_ ?_))<;>(first|rfl|(simp only [go_sem,F0];done)|(simp [go_sem,look,F0];done)))
 all_goals (try simp only [go_sem,F0])
 all_goals (try simp only [go_sem,F0])
 all_goals repeat' (first|apply And.intro|intro _)
 all_goals (refine Fy (fun _=>31) (.w (.one (.s 0 [] f.length 1))) [(0,⟨true,Aq f⟩)] (fun _ _=>rfl) ?_ ?_ ?_ hE2.told ?_ ?_;(iterate 2 (focus (first|rfl|(simp only [go_sem,F0]<;>first|done|rfl|simp))));(first|kernel_rfl|rfl|simp [h0y,i0r,pls]))
 all_goals try (refine And.intro ?_ (And.intro ?_ (And.intro ?_ ?_))<;>(first|rfl|(simp only [go_sem,F0];done)|(simp [go_sem,look,F0];done)))
 all_goals (try simp only [go_sem,F0])
 all_goals (try simp only [go_sem,F0])
 all_goals repeat' (first|apply And.intro|intro _)
 refine zhK _ _ ?_ (zhR _ ?_)
 focus (first|trivial|(simp only [go_sem];done)|(simp only [go_sem];simp;done)|(simp only [go_sem];simp;simp only [go_sem]))
 refine Dw 2 12 rfl (by kernel_rfl) rfl rfl fun zR zhR=>?_
 simp only [go_sem,F0]
 repeat' (first|apply And.intro|intro _)
 all_goals (refine Cy (fun k=>k) (fun _ _=>rfl) ?_ (hT.plain fun _ _ h=>h) ?_;focus (first|rfl|(simp only [go_sem,F0]<;>rfl)))
 all_goals (rintro v m ⟨hR,hm⟩;subst hR;subst hm)
 all_goals refine And.intro (by first|rfl|simp only [go_sem,F0]) (And.intro (by first|rfl|simp only [go_sem,F0]) ?_)
 all_goals simp only [go_sem,F0]
 all_goals repeat' (first|apply And.intro|intro _)
 refine zhR _ ?_
 refine Hq rfl (zhE _ ?_)
 refine zhN _ ?_;clear zhN zhM
 refine Ck ?_
 refine zhZ _ _ ?_
 simp only [go_sem,F0]
 all_goals (exact told_plain (by simp [Pw,Uw,Aq]) ⟨rfl,rfl⟩)
theorem z1r (key nonce ad text once:List UInt8) (hk:key.length=32) (hn:nonce.length=12) (h64:once.length=64) (h1:ad.length≤200) (h2:text.length≤800) (ex1 ex2:Bool) (tg:List UInt8) (htg:tg.length=16) (p1:d0j ad=0) (p2:d0j text=0) (q2:¬text.length=0) (hB:Ct Tryd.prog 36 [.w (.agg (Aq key)),.w (.one (.pl (.u32 0))),.w (.agg (Aq nonce))] (fun v m=>v=.w (.agg (Aq once)))) (hT:Ct Tryd.prog 38 [.w (.agg (Aq (once.take 32))),.w (.one (.pl (.R false 1 (Aw (Wq ad++Wq text++Kj ad.length++Kj text.length)))))] (fun v m=>v=.w (.agg (Aq tg)))):
 CtM Tryd.prog 26 [.w (.agg (Aq key)),.w (.agg (Aq nonce)),.w (.one (.pl (.R ex1 1 (Aw ad)))),.w (.one (.pl (.R ex2 1 (Aw text))))] [] (Told (fun v m=>v=.w (.agg (Aq tg))∧m=[])):=by
 have hP1:=e0w ad ex1 (by omega) p1
 have hpa:Wq ad=ad:=by simp [Wq,p1]
 have hP2:=e0w text ex2 (by omega) p2
 have hpt:Wq text=text:=by simp [Wq,p2]
 obtain ⟨a,ha⟩: ∃ q,Wq ad=q:=⟨_,rfl⟩
 have hal:a.length≤300:=by rw [←ha,hpa];omega
 obtain ⟨t,ht⟩: ∃ q,Wq text=q:=⟨_,rfl⟩
 have htl:t.length≤900:=by rw [←ht,hpt];omega
 have hE1:=f0v ad.length (by omega)
 have hE2:=f0v text.length (by omega)
 obtain ⟨e,he⟩: ∃ q,Kj ad.length=q:=⟨_,rfl⟩
 have hel:e.length=8:=by rw [←he];rfl
 obtain ⟨f,hf⟩: ∃ q,Kj text.length=q:=⟨_,rfl⟩
 have hfl:f.length=8:=by rw [←hf];rfl
 rw [ha] at hT hpa
 subst hpa
 rw [ht] at hT hpt
 subst hpt
 rw [he] at hE1 hT
 rw [hf] at hE2 hT
 have hq1:a.length+t.length≤140737488355328:=by omega
 have hq2:a.length+t.length+8≤140737488355328:=by omega
 have hq3:a.length+t.length+8+8≤140737488355328:=by omega
 obtain ⟨z,hz⟩: ∃ q,a++t++e++f=q:=⟨_,rfl⟩
 have hzl:z.length=a.length+t.length+8+8:=by rw [←hz];simp only [List.length_append,hel,hfl]
 rw [hz] at hT
 have hch:chunks 1 (a.length+t.length+8+8) (z.map PL.u8)=Aw z:=Ew hzl
 have hm1:min 64 32=32:=rfl
 have hm2:min 32 64=32:=rfl
 have hdr:List.drop 32 (List.replicate 32 (0:UInt8))=[]:=rfl
 obtain ⟨o32,ho⟩: ∃ q,once.take 32=q:=⟨_,rfl⟩
 have hol:o32.length=32:=by rw [←ho,List.length_take];omega
 rw [ho] at hT
 have F0:=And.intro hk<|And.intro hn<|And.intro h64<|And.intro htg<|And.intro hel<|And.intro hfl<|And.intro hq1<|And.intro hq2<|And.intro hq3<|And.intro hz<|And.intro hzl<|And.intro ho<|And.intro hol<|And.intro hm1<|And.intro hm2<|And.intro hdr<|And.intro hch<|q2
 refine CtM.k Tryd.func26 rfl Tryd.ntmps26 (congrArg Array.toList Tryd.results26) (by simp) fun w0 ro may fx=>?_
 refine Dx fun zZ zhZ=>?_
 refine Dz fun zK zhK=>?_
 simp only [go_sem,F0]
 repeat' (first|apply And.intro|intro _)
 refine zhK _ ?_
 refine Dz fun zK zhK=>?_
 simp only [go_sem,F0]
 repeat' (first|apply And.intro|intro _)
 all_goals (refine Cy (fun k=>k) (fun _ _=>rfl) ?_ (hB.plain fun _ _ h=>h) ?_;focus (first|rfl|(simp only [go_sem,F0]<;>rfl)))
 all_goals (rintro v m ⟨hR,hm⟩;subst hR;subst hm)
 all_goals refine And.intro (by first|rfl|simp only [go_sem,F0]) (And.intro (by first|rfl|simp only [go_sem,F0]) ?_)
 all_goals simp only [go_sem,F0]
 all_goals repeat' (first|apply And.intro|intro _)
 refine zhK _ ?_
 refine Dz fun zK zhK=>?_
 simp only [go_sem,F0]
 repeat' (first|apply And.intro|intro _)
 refine zhK _ ?_
 refine Bq fun zN zM zhN zhM=>?_
 refine Kk (id:=3) [15,16,17] [0,0,3] [] mixed (by kernel_rfl) (by simp only [go_sem]) fun zK zhK=>?_
 simp only [go_sem,F0]
 repeat' (first|apply And.intro|intro _)
 refine zhK _ _ trivial ?_
 refine zhN _ ?_;clear zhN zhM
 refine Dz fun zK zhK=>?_
 simp only [go_sem,F0]
 repeat' (first|apply And.intro|intro _)
 all_goals (refine Dy false [] (fun k=>k) (fun _ _=>rfl) ?_ (by decide) ?_ hP1.hands ?_;iterate 2 (focus (first|rfl|(simp only [go_sem,F0]<;>first|done|rfl|simp))))
 all_goals (rintro v m ⟨hR,hm⟩;subst hR;subst hm)
 all_goals (refine And.intro ?_ (And.intro ?_ (And.intro ?_ ?_));iterate 3 (focus (first|rfl|(simp only [go_sem,F0];done)|(simp [go_sem,look,F0];done))))
 all_goals (try simp only [go_sem,F0])
 all_goals (try simp only [go_sem,F0])
 all_goals repeat' (first|apply And.intro|intro _)
 all_goals (refine Dy false [] (fun k=>k) (fun _ _=>rfl) ?_ (by decide) ?_ hP2.hands ?_;iterate 2 (focus (first|rfl|(simp only [go_sem,F0]<;>first|done|rfl|simp))))
 all_goals (rintro v m ⟨hR,hm⟩;subst hR;subst hm)
 all_goals (refine And.intro ?_ (And.intro ?_ (And.intro ?_ ?_));iterate 3 (focus (first|rfl|(simp only [go_sem,F0];done)|(simp [go_sem,look,F0];done))))
 all_goals (try simp only [go_sem,F0])
 all_goals (try simp only [go_sem,F0])
 all_goals repeat' (first|apply And.intro|intro _)
 refine zhK _ ?_
 refine Bq fun zN zM zhN zhM=>?_
 refine Zj (id:=5) mixed fun zE zhE=>?_
 refine Cj (p:=0) 10 [23,24,25,26,27,28,29,30,31,32] [0,0,0,4,12,30,0,64,254,510,1023,2047] [(0,5),(5,6),(5,7),(0,9)] rfl (by kernel_rfl) rfl (by simp only [go_sem]) fun zR zK zhR zhK=>?_
 simp only [go_sem,F0]
 repeat' (first|apply And.intro|intro _)
 all_goals (refine Fy (fun _=>27) (.w (.one (.s 0 [] e.length 1))) [(0,⟨true,Aq e⟩)] (fun _ _=>rfl) ?_ ?_ ?_ hE1.told ?_ ?_;(iterate 2 (focus (first|rfl|(simp only [go_sem,F0]<;>first|done|rfl|simp))));(first|kernel_rfl|rfl|simp [h0y,i0r,pls]))
 all_goals try (refine And.intro ?_ (And.intro ?_ (And.intro ?_ ?_))<;>(first|rfl|(simp only [go_sem,F0];done)|(simp [go_sem,look,F0];done)))
 all_goals (try simp only [go_sem,F0])
 all_goals (try simp only [go_sem,F0])
 all_goals repeat' (first|apply And.intro|intro _)
 all_goals (refine Fy (fun _=>31) (.w (.one (.s 0 [] f.length 1))) [(0,⟨true,Aq f⟩)] (fun _ _=>rfl) ?_ ?_ ?_ hE2.told ?_ ?_;(iterate 2 (focus (first|rfl|(simp only [go_sem,F0]<;>first|done|rfl|simp))));(first|kernel_rfl|rfl|simp [h0y,i0r,pls]))
 all_goals try (refine And.intro ?_ (And.intro ?_ (And.intro ?_ ?_))<;>(first|rfl|(simp only [go_sem,F0];done)|(simp [go_sem,look,F0];done)))
 all_goals (try simp only [go_sem,F0])
 all_goals (try simp only [go_sem,F0])
 all_goals repeat' (first|apply And.intro|intro _)
 refine zhK _ _ ?_ (zhR _ ?_)
 focus (first|trivial|(simp only [go_sem];done)|(simp only [go_sem];simp;done)|(simp only [go_sem];simp;simp only [go_sem]))
 refine Dw 2 12 rfl (by kernel_rfl) rfl rfl fun zR zhR=>?_
 simp only [go_sem,F0]
 repeat' (first|apply And.intro|intro _)
 all_goals (refine Cy (fun k=>k) (fun _ _=>rfl) ?_ (hT.plain fun _ _ h=>h) ?_;focus (first|rfl|(simp only [go_sem,F0]<;>rfl)))
 all_goals (rintro v m ⟨hR,hm⟩;subst hR;subst hm)
 all_goals refine And.intro (by first|rfl|simp only [go_sem,F0]) (And.intro (by first|rfl|simp only [go_sem,F0]) ?_)
 all_goals simp only [go_sem,F0]
 all_goals repeat' (first|apply And.intro|intro _)
 refine zhR _ ?_
 refine Hq rfl (zhE _ ?_)
 refine zhN _ ?_;clear zhN zhM
 refine Ck ?_
 refine zhZ _ _ ?_
 simp only [go_sem,F0]
 all_goals (exact told_plain (by simp [Pw,Uw,Aq]) ⟨rfl,rfl⟩)
theorem z1q (key nonce ad text once:List UInt8) (hk:key.length=32) (hn:nonce.length=12) (h64:once.length=64) (h1:ad.length≤200) (h2:text.length≤800) (ex1 ex2:Bool) (tg:List UInt8) (htg:tg.length=16) (p1:d0j ad=0) (p2:d0j text=0) (q2:text.length=0) (hB:Ct Tryd.prog 36 [.w (.agg (Aq key)),.w (.one (.pl (.u32 0))),.w (.agg (Aq nonce))] (fun v m=>v=.w (.agg (Aq once)))) (hT:Ct Tryd.prog 38 [.w (.agg (Aq (once.take 32))),.w (.one (.pl (.R false 1 (Aw (Wq ad++Wq text++Kj ad.length++Kj text.length)))))] (fun v m=>v=.w (.agg (Aq tg)))):
 CtM Tryd.prog 26 [.w (.agg (Aq key)),.w (.agg (Aq nonce)),.w (.one (.pl (.R ex1 1 (Aw ad)))),.w (.one (.pl (.R ex2 1 (Aw text))))] [] (Told (fun v m=>v=.w (.agg (Aq tg))∧m=[])):=by
 have hP1:=e0w ad ex1 (by omega) p1
 have hpa:Wq ad=ad:=by simp [Wq,p1]
 have hP2:=e0w text ex2 (by omega) p2
 have hpt:Wq text=text:=by simp [Wq,p2]
 obtain ⟨a,ha⟩: ∃ q,Wq ad=q:=⟨_,rfl⟩
 have hal:a.length≤300:=by rw [←ha,hpa];omega
 obtain ⟨t,ht⟩: ∃ q,Wq text=q:=⟨_,rfl⟩
 have htl:t.length≤900:=by rw [←ht,hpt];omega
 have hE1:=f0v ad.length (by omega)
 have hE2:=f0v text.length (by omega)
 obtain ⟨e,he⟩: ∃ q,Kj ad.length=q:=⟨_,rfl⟩
 have hel:e.length=8:=by rw [←he];rfl
 obtain ⟨f,hf⟩: ∃ q,Kj text.length=q:=⟨_,rfl⟩
 have hfl:f.length=8:=by rw [←hf];rfl
 rw [ha] at hT hpa
 subst hpa
 rw [ht] at hT hpt
 subst hpt
 rw [he] at hE1 hT
 rw [hf] at hE2 hT
 have hq1:a.length+t.length≤140737488355328:=by omega
 have hq2:a.length+t.length+8≤140737488355328:=by omega
 have hq3:a.length+t.length+8+8≤140737488355328:=by omega
 obtain ⟨z,hz⟩: ∃ q,a++t++e++f=q:=⟨_,rfl⟩
 have hzl:z.length=a.length+t.length+8+8:=by rw [←hz];simp only [List.length_append,hel,hfl]
 rw [hz] at hT
 have hch:chunks 1 (a.length+t.length+8+8) (z.map PL.u8)=Aw z:=Ew hzl
 have hm1:min 64 32=32:=rfl
 have hm2:min 32 64=32:=rfl
 have hdr:List.drop 32 (List.replicate 32 (0:UInt8))=[]:=rfl
 obtain ⟨o32,ho⟩: ∃ q,once.take 32=q:=⟨_,rfl⟩
 have hol:o32.length=32:=by rw [←ho,List.length_take];omega
 rw [ho] at hT
 have ht0:t=[]:=List.eq_nil_of_length_eq_zero q2
 have hz0:a++(e++f)=z:=by rw [←hz,ht0,List.append_nil,List.append_assoc]
 have hz1:a++e++f=z:=by rw [←hz,ht0,List.append_nil]
 have hch0:chunks 1 (a.length+8+8) (z.map PL.u8)=Aw z:=by have:=hch;rw [ht0] at this;exact this
 have hq0:a.length+8≤140737488355328:=by omega
 have hq00:a.length+8+8≤140737488355328:=by omega
 have F0:=And.intro hk<|And.intro hn<|And.intro h64<|And.intro htg<|And.intro hel<|And.intro hfl<|And.intro hq1<|And.intro hq2<|And.intro hq3<|And.intro hz<|And.intro hzl<|And.intro ho<|And.intro hol<|And.intro hm1<|And.intro hm2<|And.intro hdr<|And.intro hch<|And.intro q2<|And.intro hz0<|And.intro hz1<|And.intro hch0<|And.intro hq0<|hq00
 refine CtM.k Tryd.func26 rfl Tryd.ntmps26 (congrArg Array.toList Tryd.results26) (by simp) fun w0 ro may fx=>?_
 refine Dx fun zZ zhZ=>?_
 refine Dz fun zK zhK=>?_
 simp only [go_sem,F0]
 repeat' (first|apply And.intro|intro _)
 refine zhK _ ?_
 refine Dz fun zK zhK=>?_
 simp only [go_sem,F0]
 repeat' (first|apply And.intro|intro _)
 all_goals (refine Cy (fun k=>k) (fun _ _=>rfl) ?_ (hB.plain fun _ _ h=>h) ?_;focus (first|rfl|(simp only [go_sem,F0]<;>rfl)))
 all_goals (rintro v m ⟨hR,hm⟩;subst hR;subst hm)
 all_goals refine And.intro (by first|rfl|simp only [go_sem,F0]) (And.intro (by first|rfl|simp only [go_sem,F0]) ?_)
 all_goals simp only [go_sem,F0]
 all_goals repeat' (first|apply And.intro|intro _)
 refine zhK _ ?_
 refine Dz fun zK zhK=>?_
 simp only [go_sem,F0]
 repeat' (first|apply And.intro|intro _)
 refine zhK _ ?_
 refine Bq fun zN zM zhN zhM=>?_
 refine Kk (id:=3) [15,16,17] [0,0,3] [] mixed (by kernel_rfl) (by simp only [go_sem]) fun zK zhK=>?_
 simp only [go_sem,F0]
 repeat' (first|apply And.intro|intro _)
 refine zhK _ _ trivial ?_
 refine zhN _ ?_;clear zhN zhM
 refine Dz fun zK zhK=>?_
 simp only [go_sem,F0]
 repeat' (first|apply And.intro|intro _)
 all_goals (refine Dy false [] (fun k=>k) (fun _ _=>rfl) ?_ (by decide) ?_ hP1.hands ?_;iterate 2 (focus (first|rfl|(simp only [go_sem,F0]<;>first|done|rfl|simp))))
 all_goals (rintro v m ⟨hR,hm⟩;subst hR;subst hm)
 all_goals (refine And.intro ?_ (And.intro ?_ (And.intro ?_ ?_));iterate 3 (focus (first|rfl|(simp only [go_sem,F0];done)|(simp [go_sem,look,F0];done))))
 all_goals (try simp only [go_sem,F0])
 all_goals (try simp only [go_sem,F0])
 all_goals repeat' (first|apply And.intro|intro _)
 all_goals (refine Dy false [] (fun k=>k) (fun _ _=>rfl) ?_ (by decide) ?_ hP2.hands ?_;iterate 2 (focus (first|rfl|(simp only [go_sem,F0]<;>first|done|rfl|simp))))
 all_goals (rintro v m ⟨hR,hm⟩;subst hR;subst hm)
 all_goals (refine And.intro ?_ (And.intro ?_ (And.intro ?_ ?_));iterate 3 (focus (first|rfl|(simp only [go_sem,F0];done)|(simp [go_sem,look,F0];done))))
 all_goals (try simp only [go_sem,F0])
 all_goals (try simp only [go_sem,F0])
 all_goals repeat' (first|apply And.intro|intro _)
 refine zhK _ ?_
 refine Bq fun zN zM zhN zhM=>?_
 refine Zj (id:=5) mixed fun zE zhE=>?_
 refine Cj (p:=0) 10 [23,24,25,26,27,28,29,30,31,32] [0,0,0,4,12,30,0,64,254,510,1023,2047] [(0,5),(5,6),(5,7),(0,9)] rfl (by kernel_rfl) rfl (by simp only [go_sem]) fun zR zK zhR zhK=>?_
 simp only [go_sem,F0]
 repeat' (first|apply And.intro|intro _)
 all_goals (refine Fy (fun _=>27) (.w (.one (.s 0 [] e.length 1))) [(0,⟨true,Aq e⟩)] (fun _ _=>rfl) ?_ ?_ ?_ hE1.told ?_ ?_;(iterate 2 (focus (first|rfl|(simp only [go_sem,F0]<;>first|done|rfl|simp))));(first|kernel_rfl|rfl|simp [h0y,i0r,pls]))
 all_goals try (refine And.intro ?_ (And.intro ?_ (And.intro ?_ ?_))<;>(first|rfl|(simp only [go_sem,F0];done)|(simp [go_sem,look,F0];done)))
 all_goals (try simp only [go_sem,F0])
 all_goals (try simp only [go_sem,F0])
 all_goals repeat' (first|apply And.intro|intro _)
 all_goals (refine Fy (fun _=>31) (.w (.one (.s 0 [] f.length 1))) [(0,⟨true,Aq f⟩)] (fun _ _=>rfl) ?_ ?_ ?_ hE2.told ?_ ?_;(iterate 2 (focus (first|rfl|(simp only [go_sem,F0]<;>first|done|rfl|simp))));(first|kernel_rfl|rfl|simp [h0y,i0r,pls]))
 all_goals try (refine And.intro ?_ (And.intro ?_ (And.intro ?_ ?_))<;>(first|rfl|(simp only [go_sem,F0];done)|(simp [go_sem,look,F0];done)))
 all_goals (try simp only [go_sem,F0])
 all_goals (try simp only [go_sem,F0])
 all_goals repeat' (first|apply And.intro|intro _)
 refine zhK _ _ ?_ (zhR _ ?_)
 focus (first|trivial|(simp only [go_sem];done)|(simp only [go_sem];simp;done)|(simp only [go_sem];simp;simp only [go_sem]))
 refine Dw 2 12 rfl (by kernel_rfl) rfl rfl fun zR zhR=>?_
 simp only [go_sem,F0]
 repeat' (first|apply And.intro|intro _)
 all_goals (refine Cy (fun k=>k) (fun _ _=>rfl) ?_ (hT.plain fun _ _ h=>h) ?_;focus (first|rfl|(simp only [go_sem,F0]<;>rfl)))
 all_goals (rintro v m ⟨hR,hm⟩;subst hR;subst hm)
 all_goals refine And.intro (by first|rfl|simp only [go_sem,F0]) (And.intro (by first|rfl|simp only [go_sem,F0]) ?_)
 all_goals simp only [go_sem,F0]
 all_goals repeat' (first|apply And.intro|intro _)
 refine zhR _ ?_
 refine Hq rfl (zhE _ ?_)
 refine zhN _ ?_;clear zhN zhM
 refine Ck ?_
 refine zhZ _ _ ?_
 simp only [go_sem,F0]
 all_goals (exact told_plain (by simp [Pw,Uw,Aq]) ⟨rfl,rfl⟩)
end Go.Sy
