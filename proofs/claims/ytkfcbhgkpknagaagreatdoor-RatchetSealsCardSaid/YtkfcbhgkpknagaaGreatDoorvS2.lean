/- Walks and what they compute. CONDITIONS: those that each theorem names. -/
import Derived.Test.YtkfcbhgkpknagaaGreatDoorvE3
set_option linter.unusedVariables false
set_option linter.unusedSimpArgs false
namespace Go.Sy
theorem a0g (x:UInt64) (c:Nat):(Dy x c).toNat=x.toNat*2 ^ c%18446744073709551616:=by
 simp [Dy,wD]
theorem Wx (x:UInt64) (c:Nat):(Iw x c).toNat=x.toNat/2 ^ c:=by
 have h:=x.toNat_lt
 have h2:x.toNat/2 ^ c≤x.toNat:=Nat.div_le_self _ _
 simp only [Iw,wD]
 exact yN (by omega)
theorem o0p {m:UInt64} (k:Nat) (hm:m.toNat=2 ^ k-1) (x:UInt64):(x&&&m).toNat=x.toNat%2 ^ k:=by
 rw [UInt64.toNat_and,hm,xI]
theorem h0s {x y:UInt64} (k:Nat) (hx:x.toNat<2 ^ k) {z:Nat} (hy:y.toNat=2 ^ k*z):(x|||y).toNat=x.toNat+y.toNat:=by
 rw [UInt64.toNat_or,hy,Nat.or_comm,←Nat.two_pow_add_eq_or_of_lt hx];omega
theorem Gv {x y:UInt64} (h:x.toNat+y.toNat<18446744073709551616):(x+y).toNat=x.toNat+y.toNat:=by
 rw [UInt64.toNat_add];exact yN h
theorem g0z {x y:UInt64} (h:x.toNat*y.toNat<18446744073709551616):(x*y).toNat=x.toNat*y.toNat:=by
 rw [UInt64.toNat_mul];exact yN h
structure P5 where
 a:UInt64
 b:UInt64
 c:UInt64
 d:UInt64
 e:UInt64
def P5.val (p:P5):Nat:=p.a.toNat+p.b.toNat*67108864+p.c.toNat*4503599627370496+p.d.toNat*302231454903657293676544+p.e.toNat*20282409603651670423947251286016
def v0d (x:UInt64):UInt64:=x&&&67108863
def w0h (x:UInt64):UInt64:=Iw x 26
theorem b0r (x:UInt64):(v0d x).toNat=x.toNat%67108864:=o0p 26 rfl x
theorem Pk (x:UInt64):(w0h x).toNat=x.toNat/67108864:=Wx x 26
def P5.c1 (p:P5):UInt64:=0+p.a
def P5.c2 (p:P5):UInt64:=w0h p.c1+p.b
def P5.c3 (p:P5):UInt64:=w0h p.c2+p.c
def P5.c4 (p:P5):UInt64:=w0h p.c3+p.d
def P5.c5 (p:P5):UInt64:=w0h p.c4+p.e
def P5.pass (p:P5):P5:=⟨v0d p.c1+5*w0h p.c5,v0d p.c2,v0d p.c3,v0d p.c4,v0d p.c5⟩
def P5.lt (p:P5) (B:Nat):Prop:=p.a.toNat<B∧p.b.toNat<B∧p.c.toNat<B∧p.d.toNat<B∧p.e.toNat<B
theorem w1h (p:P5) {B:Nat} (h:p.lt B) (hB:B≤4611686018427387904): ∃ n1 n2 n3 n4 n5:Nat,n1=p.a.toNat∧n2=n1/67108864+p.b.toNat∧n3=n2/67108864+p.c.toNat∧n4=n3/67108864+p.d.toNat∧n5=n4/67108864+p.e.toNat∧
 p.pass.a.toNat=n1%67108864+5*(n5/67108864)∧p.pass.b.toNat=n2%67108864∧p.pass.c.toNat=n3%67108864∧p.pass.d.toNat=n4%67108864∧p.pass.e.toNat=n5%67108864:=by
 obtain ⟨h1,h2,h3,h4,h5⟩:=h
 have e1:p.c1.toNat=p.a.toNat:=by rw [P5.c1,Gv (by simp;omega)];simp
 have e2:p.c2.toNat=p.a.toNat/67108864+p.b.toNat:=by rw [P5.c2,Gv (by rw [Pk,e1];omega),Pk,e1]
 have e3:p.c3.toNat=p.c2.toNat/67108864+p.c.toNat:=by rw [P5.c3,Gv (by rw [Pk];omega),Pk]
 have e4:p.c4.toNat=p.c3.toNat/67108864+p.d.toNat:=by rw [P5.c4,Gv (by rw [Pk];omega),Pk]
 have e5:p.c5.toNat=p.c4.toNat/67108864+p.e.toNat:=by rw [P5.c5,Gv (by rw [Pk];omega),Pk]
 have e6:(5*w0h p.c5).toNat=5*(p.c5.toNat/67108864):=by rw [g0z (by rw [Pk];show 5*_<_;omega),Pk];rfl
 refine ⟨p.a.toNat,p.c2.toNat,p.c3.toNat,p.c4.toNat,p.c5.toNat,rfl,e2,e3,e4,e5,?_,?_,?_,?_,?_⟩
 ·show (v0d p.c1+5*w0h p.c5).toNat=_
  rw [Gv (by rw [b0r,e6];omega),b0r,e6,e1]
 all_goals exact b0r _
theorem u0t (p:P5) {B:Nat} (h:p.lt B) (hB:B≤4611686018427387904): ∃ c,p.pass.val+c*1361129467683753853853498429727072845819=p.val∧c*67108864≤B+B/67108863+1∧p.pass.a.toNat<67108864+5*c∧p.pass.b.toNat<67108864∧p.pass.c.toNat<67108864∧p.pass.d.toNat<67108864∧p.pass.e.toNat<67108864∧5*c≤p.pass.a.toNat:=by
 obtain ⟨n1,n2,n3,n4,n5,e1,e2,e3,e4,e5,f1,f2,f3,f4,f5⟩:=w1h p h hB
 obtain ⟨h1,h2,h3,h4,h5⟩:=h
 refine ⟨n5/67108864,?_,?_,?_,?_,?_,?_,?_,?_⟩
 ·simp only [P5.val,f1,f2,f3,f4,f5]
  omega
 all_goals omega
end Go.Sy
namespace Go.Sy
def pP :Nat:=1361129467683753853853498429727072845819
set_option maxRecDepth 20000 in
theorem q2j (p:P5) (h:p.lt 2305843009213693952):(∃ c,p.pass.pass.pass.val+c*1361129467683753853853498429727072845819=p.val)∧p.pass.pass.pass.lt 67108864:=by
 obtain ⟨c1,g1,g2,g3,g4,g5,g6,g7,g8⟩:=u0t p h (by omega)
 generalize p.pass=q1 at*
 have hc1:c1≤34359739000:=by omega
 have hq1:q1.lt 4398046511104:=⟨by omega,by omega,by omega,by omega,by omega⟩
 have hv1:q1.val<1361129467683753853853498429727072845824+274877906944:=by simp only [P5.val];omega
 obtain ⟨c2,i1,i2,i3,i4,i5,i6,i7,i8⟩:=u0t q1 hq1 (by omega)
 generalize q1.pass=q2 at*
 have hc2:c2≤1:=by omega
 have hq2:q2.lt 67108874:=⟨by omega,by omega,by omega,by omega,by omega⟩
 have hv2:c2=0→q2.val<1361129467683753853853498429727072845824:=by intro h;simp only [P5.val];omega
 obtain ⟨c3,j1,j2,j3,j4,j5,j6,j7,j8⟩:=u0t q2 hq2 (by omega)
 generalize q2.pass=q3 at*
 have hv3:q3.a.toNat≤q3.val:=by simp only [P5.val];omega
 have hc3:c3=0:=by
  clear g1 g2 g3 g4 g5 g6 g7 g8 hq1 hq2 i2 i3 i4 i5 i6 i7 i8 j2 j3 j4 j5 j6 j7 hc1
  have:q2.val<1361129467683753853853498429727072845824:=by
   rcases yZ c2 1 with h1|h1
   ·exact hv2 (by omega)
   have:c2=1:=by omega
   subst this;clear hv2 hv3 j1 j8;omega
  clear hv1 hv2 i1 hc2
  omega
 subst hc3
 have e:q3.val+(c1+c2)*1361129467683753853853498429727072845819=p.val:=by
  rw [wN,←g1,←i1,←j1]
  clear g1 g2 g3 g4 g5 g6 g7 g8 hq1 hq2 i1 i2 i3 i4 i5 i6 i7 i8 j1 j2 j3 j4 j5 j6 j7 j8 hc1 hv1 hv2 hv3 hc2
  omega
 refine ⟨⟨c1+c2,e⟩,?_⟩
 clear e g1 i1 j1 hv1 hv2 hv3
 exact ⟨by omega,by omega,by omega,by omega,by omega⟩
def P5.f1 (p:P5):UInt64:=p.a+5
def P5.f2 (p:P5):UInt64:=p.b+w0h p.f1
def P5.f3 (p:P5):UInt64:=p.c+w0h p.f2
def P5.f4 (p:P5):UInt64:=p.d+w0h p.f3
def P5.f5 (p:P5):UInt64:=p.e+w0h p.f4
def P5.car (p:P5):P5:=if 0<w0h p.f5 then ⟨v0d p.f1,v0d p.f2,v0d p.f3,v0d p.f4,v0d p.f5⟩ else p
def P5.carried (p:P5):P5:=p.pass.pass.pass.car
theorem n2n {x y:UInt64}:(x<y)↔x.toNat<y.toNat:=vE
theorem i2c (p:P5) (h:p.lt 67108864):p.car.val=p.val%1361129467683753853853498429727072845819∧p.car.lt 67108864:=by
 obtain ⟨h1,h2,h3,h4,h5⟩:=h
 have e1:p.f1.toNat=p.a.toNat+5:=by rw [P5.f1,Gv (by show _+5<_;omega)];rfl
 have e2:p.f2.toNat=p.b.toNat+p.f1.toNat/67108864:=by rw [P5.f2,Gv (by rw [Pk];omega),Pk]
 have e3:p.f3.toNat=p.c.toNat+p.f2.toNat/67108864:=by rw [P5.f3,Gv (by rw [Pk];omega),Pk]
 have e4:p.f4.toNat=p.d.toNat+p.f3.toNat/67108864:=by rw [P5.f4,Gv (by rw [Pk];omega),Pk]
 have e5:p.f5.toNat=p.e.toNat+p.f4.toNat/67108864:=by rw [P5.f5,Gv (by rw [Pk];omega),Pk]
 have hc:(0<w0h p.f5)↔0<p.f5.toNat/67108864:=by rw [n2n,Pk];rfl
 unfold P5.car
 by_cases hp:0<p.f5.toNat/67108864
 ·rw [if_pos (hc.mpr hp)]
  have hj:p.f5.toNat/67108864=1:=by omega
  have key:p.f1.toNat%67108864+p.f2.toNat%67108864*67108864+p.f3.toNat%67108864*4503599627370496+p.f4.toNat%67108864*302231454903657293676544+p.f5.toNat%67108864*20282409603651670423947251286016+1361129467683753853853498429727072845819=p.val:=by
   simp only [P5.val];omega
  have hlt:p.val<1361129467683753853853498429727072845824:=by simp only [P5.val];omega
  refine ⟨?_,by simp only [b0r];omega,by simp only [b0r];omega,by simp only [b0r];omega,by simp only [b0r];omega,by simp only [b0r];omega⟩
  rw [←key,Nat.add_mod_right,yN (by omega)]
  simp only [P5.val,b0r]
 rw [if_neg (fun h=>hp (hc.mp h))]
 refine ⟨?_,h1,h2,h3,h4,h5⟩
 have hlt:p.val<1361129467683753853853498429727072845819:=by simp only [P5.val];omega
 rw [yN hlt]
theorem i0o (p:P5) (h:p.lt 2305843009213693952):p.carried.val=p.val%pP∧p.carried.lt 67108864:=by
 obtain ⟨⟨c,h1⟩,h2⟩:=q2j p h
 obtain ⟨h3,h4⟩:=i2c _ h2
 refine ⟨?_,h4⟩
 show P5.val (P5.car _)=_
 rw [h3,←h1,pP,Nat.add_mul_mod_self_right]
def Nj (x y z:UInt64):Nat:=x.toNat+y.toNat*18446744073709551616+z.toNat*340282366920938463463374607431768211456
def P5.w0 (p:P5):UInt64:=p.a|||Dy p.b 26|||Dy p.c 52
def P5.w1 (p:P5):UInt64:=Iw p.c 12|||Dy p.d 14|||Dy p.e 40
def P5.w2 (p:P5):UInt64:=Iw p.e 24
theorem w0q (p:P5) (h:p.lt 67108864):Nj p.w0 p.w1 p.w2=p.val:=by
 obtain ⟨h1,h2,h3,h4,h5⟩:=h
 have a1:(p.a|||Dy p.b 26).toNat=p.a.toNat+p.b.toNat*67108864:=by
  have e:(Dy p.b 26).toNat=2 ^ 26*p.b.toNat:=by rw [a0g];omega
  rw [h0s 26 (by omega) e,e];omega
 have a2:p.w0.toNat=p.a.toNat+p.b.toNat*67108864+(p.c.toNat%4096)*4503599627370496:=by
  have e:(Dy p.c 52).toNat=2 ^ 52*(p.c.toNat%4096):=by rw [a0g];omega
  rw [P5.w0,h0s 52 (by rw [a1];omega) e,e,a1];omega
 have b0:(Iw p.c 12).toNat=p.c.toNat/4096:=Wx _ _
 have b1:(Iw p.c 12|||Dy p.d 14).toNat=p.c.toNat/4096+p.d.toNat*16384:=by
  have e:(Dy p.d 14).toNat=2 ^ 14*p.d.toNat:=by rw [a0g];omega
  rw [h0s 14 (by rw [b0];omega) e,e,b0];omega
 have b2:p.w1.toNat=p.c.toNat/4096+p.d.toNat*16384+(p.e.toNat%16777216)*1099511627776:=by
  have e:(Dy p.e 40).toNat=2 ^ 40*(p.e.toNat%16777216):=by rw [a0g];omega
  rw [P5.w1,h0s 40 (by rw [b1];omega) e,e,b1];omega
 have c0:p.w2.toNat=p.e.toNat/16777216:=Wx _ _
 simp only [Nj,P5.val,a2,b2,c0]
 omega
def Ey (x y z:UInt64):P5:=⟨v0d x,v0d (Iw x 26),v0d (Iw x 52|||Dy y 12),v0d (Iw y 14),Iw y 40|||Dy z 24⟩
theorem j0d (x y z:UInt64) (hz:z.toNat<4):(Ey x y z).val=Nj x y z∧(Ey x y z).lt 67108864:=by
 have hx:=x.toNat_lt
 have hy:=y.toNat_lt
 have a0:(Iw x 52).toNat=x.toNat/4503599627370496:=Wx _ _
 have a1:(Iw x 52|||Dy y 12).toNat=x.toNat/4503599627370496+(y.toNat%4503599627370496)*4096:=by
  have e:(Dy y 12).toNat=2 ^ 12*(y.toNat%4503599627370496):=by rw [a0g];omega
  rw [h0s 12 (by rw [a0];omega) e,e,a0];omega
 have b0:(Iw y 40).toNat=y.toNat/1099511627776:=Wx _ _
 have b1:(Iw y 40|||Dy z 24).toNat=y.toNat/1099511627776+z.toNat*16777216:=by
  have e:(Dy z 24).toNat=2 ^ 24*z.toNat:=by rw [a0g];omega
  rw [h0s 24 (by rw [b0];omega) e,e,b0];omega
 have c0:(Iw x 26).toNat=x.toNat/67108864:=Wx _ _
 have d0:(Iw y 14).toNat=y.toNat/16384:=Wx _ _
 simp only [Ey,P5.val,P5.lt,Nj,b0r,a1,b1,c0,d0]
 refine ⟨?_,by omega,by omega,by omega,by omega,by omega⟩
 omega
theorem f1h {x y z x' y' z':UInt64} (h:Nj x y z=Nj x' y' z'):x=x'∧y=y'∧z=z':=by
 have h1:=x.toNat_lt;have h2:=y.toNat_lt;have h3:=x'.toNat_lt;have h4:=y'.toNat_lt
 simp only [Nj] at h
 exact ⟨xS.mp (by omega),xS.mp (by omega),xS.mp (by omega)⟩
def sp0 (v:Nat):UInt64:=UInt64.ofNat v
def sp1 (v:Nat):UInt64:=UInt64.ofNat (v/18446744073709551616)
def sp2 (v:Nat):UInt64:=UInt64.ofNat (v/340282366920938463463374607431768211456)
theorem a2f {v:Nat} (h:v<6277101735386680763835789423207666416102355444464034512896):Nj (sp0 v) (sp1 v) (sp2 v)=v:=by
 simp only [Nj,sp0,sp1,sp2,wD]
 omega
theorem k2q {x y z:UInt64} {v:Nat} (h:Nj x y z=v):x=sp0 v∧y=sp1 v∧z=sp2 v:=by
 have h1:=x.toNat_lt;have h2:=y.toNat_lt;have h3:=z.toNat_lt
 exact f1h (by rw [h,a2f];simp only [Nj] at h;omega)
theorem canon (x y z:UInt64) (hz:z.toNat<4):((Ey x y z).carried.w0=x∧(Ey x y z).carried.w1=y∧(Ey x y z).carried.w2=z)↔Nj x y z<pP:=by
 obtain ⟨h1,h2,h3,h4,h5,h6⟩:=j0d x y z hz
 obtain ⟨g1,g2⟩:=i0o (Ey x y z) ⟨by omega,by omega,by omega,by omega,by omega⟩
 have g3:=w0q _ g2
 rw [g1,h1] at g3
 have hv:Nj x y z<18446744073709551616*18446744073709551616*18446744073709551616:=by
  have h1:=x.toNat_lt;have h2:=y.toNat_lt;have h3:=z.toNat_lt
  simp only [Nj];omega
 constructor
 ·rintro ⟨e1,e2,e3⟩
  rw [e1,e2,e3] at g3
  rw [g3];exact wP _ (by decide)
 intro h
 rw [yN h] at g3
 exact f1h g3
def w0j (p r:P5):P5:=⟨0+p.a*r.a+p.b*r.e*5+p.c*r.d*5+p.d*r.c*5+p.e*r.b*5,0+p.a*r.b+p.b*r.a+p.c*r.e*5+p.d*r.d*5+p.e*r.c*5,
 0+p.a*r.c+p.b*r.b+p.c*r.a+p.d*r.e*5+p.e*r.d*5,0+p.a*r.d+p.b*r.c+p.c*r.b+p.d*r.a+p.e*r.e*5,0+p.a*r.e+p.b*r.d+p.c*r.c+p.d*r.b+p.e*r.a⟩
theorem l0m {x y:Nat} (hx:x<67108864) (hy:y<67108864):x*y≤67108863*67108863:=Nat.mul_le_mul (by omega) (by omega)
theorem x0h {x y:UInt64} (hx:x.toNat<67108864) (hy:y.toNat<67108864):(x*y).toNat=x.toNat*y.toNat:=g0z (by have:=l0m hx hy;omega)
theorem r0o {x y:UInt64} (hx:x.toNat<67108864) (hy:y.toNat<67108864):(x*y*5).toNat=x.toNat*y.toNat*5:=by
 have:=l0m hx hy
 rw [g0z (by rw [x0h hx hy];show _*5<_;omega),x0h hx hy];rfl
theorem o2w {a b c d e:UInt64} {na nb nc nd ne:Nat} (ha:a.toNat=na) (hb:b.toNat=nb) (hc:c.toNat=nc) (hd:d.toNat=nd) (he:e.toNat=ne) (h:na+nb+nc+nd+ne<18446744073709551616):(0+a+b+c+d+e).toNat=na+nb+nc+nd+ne:=by
 subst ha hb hc hd he
 have e0:(0+a).toNat=a.toNat:=by simp
 rw [Gv (by rw [Gv (by rw [Gv (by rw [Gv (by rw [e0];omega),e0];omega),Gv (by rw [e0];omega),e0];omega),Gv (by rw [Gv (by rw [e0];omega),e0];omega),Gv (by rw [e0];omega),e0];omega),Gv (by rw [Gv (by rw [Gv (by rw [e0];omega),e0];omega),Gv (by rw [e0];omega),e0];omega),Gv (by rw [Gv (by rw [e0];omega),e0];omega),Gv (by rw [e0];omega),e0]
theorem x1d (x1 x2 x3 x4 x5 y1 y2 y3 y4 y5:Nat):(x1*y1+x2*y5*5+x3*y4*5+x4*y3*5+x5*y2*5+(x1*y2+x2*y1+x3*y5*5+x4*y4*5+x5*y3*5)*67108864+(x1*y3+x2*y2+x3*y1+x4*y5*5+x5*y4*5)*4503599627370496+(x1*y4+x2*y3+x3*y2+x4*y1+x5*y5*5)*302231454903657293676544+(x1*y5+x2*y4+x3*y3+x4*y2+x5*y1)*20282409603651670423947251286016)%pP=(x1+x2*67108864+x3*4503599627370496+x4*302231454903657293676544+x5*20282409603651670423947251286016)*(y1+y2*67108864+y3*4503599627370496+y4*302231454903657293676544+y5*20282409603651670423947251286016)%pP:=by
 have h:(x1+x2*67108864+x3*4503599627370496+x4*302231454903657293676544+x5*20282409603651670423947251286016)*(y1+y2*67108864+y3*4503599627370496+y4*302231454903657293676544+y5*20282409603651670423947251286016)=x1*y1+x2*y5*5+x3*y4*5+x4*y3*5+x5*y2*5+(x1*y2+x2*y1+x3*y5*5+x4*y4*5+x5*y3*5)*67108864+(x1*y3+x2*y2+x3*y1+x4*y5*5+x5*y4*5)*4503599627370496+(x1*y4+x2*y3+x3*y2+x4*y1+x5*y5*5)*302231454903657293676544+(x1*y5+x2*y4+x3*y3+x4*y2+x5*y1)*20282409603651670423947251286016+((x2*y5+x3*y4+x4*y3+x5*y2)+(x3*y5+x4*y4+x5*y3)*67108864+(x4*y5+x5*y4)*4503599627370496+(x5*y5)*302231454903657293676544)*pP:=by
  simp only [wN,vZ,pP]
  have e01:x1*(y2*67108864)=x1*y2*67108864:=by rw [vN]
  have e02:x1*(y3*4503599627370496)=x1*y3*4503599627370496:=by rw [vN]
  have e03:x1*(y4*302231454903657293676544)=x1*y4*302231454903657293676544:=by rw [vN]
  have e04:x1*(y5*20282409603651670423947251286016)=x1*y5*20282409603651670423947251286016:=by rw [vN]
  have e10:x2*67108864*y1=x2*y1*67108864:=by rw [uF]
  have e11:x2*67108864*(y2*67108864)=x2*y2*4503599627370496:=by rw [xU]
  have e12:x2*67108864*(y3*4503599627370496)=x2*y3*302231454903657293676544:=by rw [xU]
  have e13:x2*67108864*(y4*302231454903657293676544)=x2*y4*20282409603651670423947251286016:=by rw [xU]
  have e14:x2*67108864*(y5*20282409603651670423947251286016)=x2*y5*1361129467683753853853498429727072845824:=by rw [xU]
  have e20:x3*4503599627370496*y1=x3*y1*4503599627370496:=by rw [uF]
  have e21:x3*4503599627370496*(y2*67108864)=x3*y2*302231454903657293676544:=by rw [xU]
  have e22:x3*4503599627370496*(y3*4503599627370496)=x3*y3*20282409603651670423947251286016:=by rw [xU]
  have e23:x3*4503599627370496*(y4*302231454903657293676544)=x3*y4*1361129467683753853853498429727072845824:=by rw [xU]
  have e24:x3*4503599627370496*(y5*20282409603651670423947251286016)=x3*y5*91343852333181432387730302044767688728495783936:=by rw [xU]
  have e30:x4*302231454903657293676544*y1=x4*y1*302231454903657293676544:=by rw [uF]
  have e31:x4*302231454903657293676544*(y2*67108864)=x4*y2*20282409603651670423947251286016:=by rw [xU]
  have e32:x4*302231454903657293676544*(y3*4503599627370496)=x4*y3*1361129467683753853853498429727072845824:=by rw [xU]
  have e33:x4*302231454903657293676544*(y4*302231454903657293676544)=x4*y4*91343852333181432387730302044767688728495783936:=by rw [xU]
  have e34:x4*302231454903657293676544*(y5*20282409603651670423947251286016)=x4*y5*6129982163463555433433388108601236734474956488734408704:=by rw [xU]
  have e40:x5*20282409603651670423947251286016*y1=x5*y1*20282409603651670423947251286016:=by rw [uF]
  have e41:x5*20282409603651670423947251286016*(y2*67108864)=x5*y2*1361129467683753853853498429727072845824:=by rw [xU]
  have e42:x5*20282409603651670423947251286016*(y3*4503599627370496)=x5*y3*91343852333181432387730302044767688728495783936:=by rw [xU]
  have e43:x5*20282409603651670423947251286016*(y4*302231454903657293676544)=x5*y4*6129982163463555433433388108601236734474956488734408704:=by rw [xU]
  have e44:x5*20282409603651670423947251286016*(y5*20282409603651670423947251286016)=x5*y5*411376139330301510538742295639337626245683966408394965837152256:=by rw [xU]
  rw [e01,e02,e03,e04,e10,e11,e12,e13,e14,e20,e21,e22,e23,e24,e30,e31,e32,e33,e34,e40,e41,e42,e43,e44]
  clear e01 e02 e03 e04 e10 e11 e12 e13 e14 e20 e21 e22 e23 e24 e30 e31 e32 e33 e34 e40 e41 e42 e43 e44
  generalize x1*y1=m00
  generalize x1*y2=m01
  generalize x1*y3=m02
  generalize x1*y4=m03
  generalize x1*y5=m04
  generalize x2*y1=m10
  generalize x2*y2=m11
  generalize x2*y3=m12
  generalize x2*y4=m13
  generalize x2*y5=m14
  generalize x3*y1=m20
  generalize x3*y2=m21
  generalize x3*y3=m22
  generalize x3*y4=m23
  generalize x3*y5=m24
  generalize x4*y1=m30
  generalize x4*y2=m31
  generalize x4*y3=m32
  generalize x4*y4=m33
  generalize x4*y5=m34
  generalize x5*y1=m40
  generalize x5*y2=m41
  generalize x5*y3=m42
  generalize x5*y4=m43
  generalize x5*y5=m44
  omega
 rw [h,Nat.add_mul_mod_self_right]
theorem x1c (p r:P5) (hp:p.lt 67108864) (hr:r.lt 67108864):(w0j p r).val%pP=p.val*r.val%pP∧(w0j p r).lt 2305843009213693952:=by
 obtain ⟨p1,p2,p3,p4,p5⟩:=hp
 obtain ⟨r1,r2,r3,r4,r5⟩:=hr
 have b11:=l0m p1 r1;have b12:=l0m p1 r2;have b13:=l0m p1 r3;have b14:=l0m p1 r4;have b15:=l0m p1 r5
 have b21:=l0m p2 r1;have b22:=l0m p2 r2;have b23:=l0m p2 r3;have b24:=l0m p2 r4;have b25:=l0m p2 r5
 have b31:=l0m p3 r1;have b32:=l0m p3 r2;have b33:=l0m p3 r3;have b34:=l0m p3 r4;have b35:=l0m p3 r5
 have b41:=l0m p4 r1;have b42:=l0m p4 r2;have b43:=l0m p4 r3;have b44:=l0m p4 r4;have b45:=l0m p4 r5
 have b51:=l0m p5 r1;have b52:=l0m p5 r2;have b53:=l0m p5 r3;have b54:=l0m p5 r4;have b55:=l0m p5 r5
 have e1:=o2w (x0h p1 r1) (r0o p2 r5) (r0o p3 r4) (r0o p4 r3) (r0o p5 r2) (by omega)
 have e2:=o2w (x0h p1 r2) (x0h p2 r1) (r0o p3 r5) (r0o p4 r4) (r0o p5 r3) (by omega)
 have e3:=o2w (x0h p1 r3) (x0h p2 r2) (x0h p3 r1) (r0o p4 r5) (r0o p5 r4) (by omega)
 have e4:=o2w (x0h p1 r4) (x0h p2 r3) (x0h p3 r2) (x0h p4 r1) (r0o p5 r5) (by omega)
 have e5:=o2w (x0h p1 r5) (x0h p2 r4) (x0h p3 r3) (x0h p4 r2) (x0h p5 r1) (by omega)
 simp only [w0j,P5.val,P5.lt,e1,e2,e3,e4,e5]
 refine ⟨?_,by omega,by omega,by omega,by omega,by omega⟩
 clear e1 e2 e3 e4 e5 b11 b12 b13 b14 b15 b21 b22 b23 b24 b25 b31 b32 b33 b34 b35 b41 b42 b43 b44 b45 b51 b52 b53 b54 b55 p1 p2 p3 p4 p5 r1 r2 r3 r4 r5
 generalize p.a.toNat=x1;generalize p.b.toNat=x2;generalize p.c.toNat=x3;generalize p.d.toNat=x4;generalize p.e.toNat=x5
 generalize r.a.toNat=y1;generalize r.b.toNat=y2;generalize r.c.toNat=y3;generalize r.d.toNat=y4;generalize r.e.toNat=y5
 refine x1d x1 x2 x3 x4 x5 y1 y2 y3 y4 y5
end Go.Sy
namespace Go.Sy
def leN :List UInt8→Nat
 | []=>0
 |b::r=>b.toNat+256*leN r
def lev (l:List UInt8):UInt64:=UInt64.ofNat (leN l)
theorem t0b : ∀ l:List UInt8,leN l<256 ^ l.length
 | []=>by simp [leN]
 |b::r=>by
   have:=t0b r;have h:=b.toNat_lt
   simp only [leN,xD,vK];omega
theorem Sq {l:List UInt8} (h:l.length≤8):(lev l).toNat=leN l:=by
 have h1:=t0b l
 have h2:256 ^ l.length≤256 ^ 8:=uL (by decide) h
 simp only [lev,wD]
 exact yN (by omega)
theorem e1p (b:UInt8):(UInt64.ofNat b.toNat).toNat=b.toNat:=by
 have:=b.toNat_lt
 simp only [wD];omega
theorem f2o {r:List UInt8} (b:UInt8) (h:r.length≤7):Dy (lev r) 8|||UInt64.ofNat b.toNat=lev (b::r):=by
 have h1:=t0b r
 have h2:256 ^ r.length≤256 ^ 7:=uL (by decide) h
 have hb:=b.toNat_lt
 have e:(Dy (lev r) 8).toNat=2 ^ 8*leN r:=by rw [a0g,Sq (by omega)];omega
 apply xS.mp
 rw [UInt64.or_comm,h0s 8 (by rw [e1p];omega) e,e,Sq (by simp only [xD];omega),e1p]
 simp only [leN]
theorem p1m (r:List UInt8) (b:UInt8):lev r*256+UInt64.ofNat b.toNat=lev (b::r):=by
 apply xS.mp
 have e:(256:UInt64).toNat=256:=rfl
 rw [UInt64.toNat_add,UInt64.toNat_mul,e1p,e]
 simp only [lev,wD,leN]
 omega
def Mq (n:UInt64):Nat→List UInt8
 |0=>[]
 |k+1=>UInt8.ofNat n.toNat::Mq (n/256) k
theorem Ay : ∀ (n:UInt64) (k:Nat),(Mq n k).length=k
 |_,0=>rfl
 |n,k+1=>by simp [Mq,Ay]
theorem j0q : ∀ (k:Nat) (n:UInt64),leN (Mq n k)=n.toNat%256 ^ k
 |0,n=>by simp [Mq,leN,Nat.mod_one]
 |k+1,n=>by
   have e:(n/256).toNat=n.toNat/256:=by rw [vV];rfl
   simp only [Mq,leN,j0q k,e,vM]
   show n.toNat%256+256*(n.toNat/256%256 ^ k)=n.toNat%256 ^ (k+1)
   rw [show 256 ^ (k+1)=256*256 ^ k from by rw [vK,vF],Nat.mod_mul]
theorem v0g (n:UInt64):lev (Mq n 8)=n:=by
 apply xS.mp
 rw [Sq (by rw [Ay];omega),j0q]
 exact yN n.toNat_lt
theorem Ow {A a M m:Nat} (ha:a<256) (hm:m<256):(a+256*A)&&&(m+256*M)=(a&&&m)+256*(A&&&M):=by
 have h1:((a+256*A)&&&(m+256*M))/2 ^ 8=A&&&M:=by
  rw [Nat.and_div_two_pow];congr 1<;>omega
 have h2:((a+256*A)&&&(m+256*M))%2 ^ 8=a&&&m:=by
  rw [Nat.and_mod_two_pow];congr 1<;>omega
 omega
end Go.Sy
namespace Go.Sy
structure Gz where
 peer:List UInt8
 n:Int
 key:List UInt8
 deriving DecidableEq,Inhabited
def Gz.ok (k:Gz):Prop:=k.peer.length=32∧k.key.length=32∧ -9223372036854775808≤k.n∧k.n≤9223372036854775807
def inN (n:Int):Bool:=decide (0≤n∧n≤1073741824)
def i0y (a b:Gz):Bool:=decide (a.peer=b.peer)&&decide (a.n=b.n)
def i0m :List Gz→Bool
 | []=>true
 |k::r=>r.all (fun o=>!i0y k o)&&i0m r
def z0m (l:List Gz):Bool:=decide (l.length≤12)&&l.all (fun k=>inN k.n)&&i0m l
def Tv (out inn last:Int) (l:List Gz):Int:=if inN out&&inN inn&&inN last&&z0m l then 0 else 9
theorem k0c : ∀ {l:List Gz},i0m l=true↔l.Pairwise fun a b=>i0y a b=false
 | []=>by simp [i0m]
 |k::r=>by
   rw [i0m,yD,List.pairwise_cons,k0c (l:=r),yJ]
   simp
theorem z1d {l:List Gz} {i j:Nat} {a b:Gz} (ha:l[i]? =some a) (hb:l[j]? =some b) (hij:i<j) (h:i0y a b=true):i0m l=false:=by
 cases hd:i0m l with
 |false=>rfl
 |true=>
   rw [k0c,uK] at hd
   obtain ⟨h1,e1⟩:=wL.mp ha
   obtain ⟨h2,e2⟩:=wL.mp hb
   have:=hd i j h1 h2 hij
   rw [e1,e2,h] at this;cases this
theorem h2s {l:List Gz} (h: ∀ (j:Nat) (b:Gz),l[j]? =some b→∀ (i:Nat) (a:Gz),i<j→l[i]? =some a→i0y a b=false):i0m l=true:=by
 rw [k0c,uK]
 intro i j hi hj hij
 exact h j _ (yO hj) i _ hij (yO hi)
theorem c2c {out inn last:Int} {l:List Gz} (h1:inN out=true) (h2:inN inn=true) (h3:inN last=true) (h4:l.length≤12) (h5: ∀ k∈l,inN k.n=true) (h6:i0m l=true):Tv out inn last l=0:=by
 unfold Tv z0m
 rw [if_pos]
 simp only [h1,h2,h3,h6,Bool.and_true,uE,yD,decide_eq_true_eq,yJ]
 exact ⟨h4,h5⟩
theorem u0b {out inn last:Int} {l:List Gz} (h:inN out=false∨inN inn=false∨inN last=false∨¬l.length≤12∨(∃ k∈l,inN k.n=false)∨i0m l=false):Tv out inn last l=9:=by
 unfold Tv z0m
 rw [if_neg]
 intro hc
 simp only [yD,decide_eq_true_eq,yJ] at hc
 obtain ⟨⟨⟨c1,c2⟩,c3⟩,⟨c4,c5⟩,c6⟩:=hc
 rcases h with h|h|h|h|⟨k,hk,h⟩|h
 ·rw [h] at c1;cases c1
 ·rw [h] at c2;cases c2
 ·rw [h] at c3;cases c3
 ·exact h c4
 ·rw [c5 k hk] at h;cases h
 rw [h] at c6;cases c6
def r0j (k:Gz):List UInt8:=k.peer++Mq (UInt64.ofNat (k.n%18446744073709551616).toNat) 8
def c2s (m:Mp) (k:Gz):Mp:=r0r m (r0j k) (Go.RowKit.wrap64 (getM m (r0j k)+1))
def n0x (l:List Gz):Mp:=l.foldl c2s []
theorem z0i (l:List Gz) (k:Gz):n0x (l++[k])=c2s (n0x l) k:=by simp [n0x]
theorem y0l {s:List UInt8} {n:Int}: ∀ {m:Mp},(∀ t,t∈(r0r m s n).map (·.1)↔t∈m.map (·.1)∨t=s)∧(r0r m s n).length=if s∈m.map (·.1) then m.length else m.length+1
 | []=>by simp [r0r]
 |x::r=>by
   obtain ⟨h1,h2⟩:=y0l (m:=r) (s:=s) (n:=n)
   rw [r0r]
   by_cases hx:x.1=s
   ·rw [if_pos hx]
    subst hx
    refine ⟨fun t=>?_,by simp⟩
    simp only [yL,xK]
    constructor
    ·rintro (h|h)
     ·exact .inl (.inl h)
     exact .inl (.inr h)
    rintro ((h|h)|h)
    ·exact .inl h
    ·exact .inr h
    exact .inl h
   rw [if_neg hx]
   refine ⟨fun t=>?_,?_⟩
   ·simp only [yL,xK,h1]
    constructor
    ·rintro (h|h|h)
     ·exact .inl (.inl h)
     ·exact .inl (.inr h)
     exact .inr h
    rintro ((h|h)|h)
    ·exact .inl h
    ·exact .inr (.inl h)
    exact .inr (.inr h)
   have hx':¬s=x.1:=fun e=>hx e.symm
   simp only [xD,h2,yL,xK,hx',false_or]
   split<;>rfl
theorem p1e (l:List Gz):(∀ t,t∈(n0x l).map (·.1)↔t∈l.map r0j)∧(n0x l).length≤l.length∧((n0x l).length=l.length↔(l.map r0j).Nodup):=by
 induction h:l.length generalizing l with
 |zero=>
   have:=xH h
   subst this;simp [n0x]
 |succ n ih=>
   obtain ⟨r,k,rfl⟩: ∃ r k,l=r++[k]:=by
    have hne:l≠[]:=by intro e;subst e;cases h
    exact ⟨l.dropLast,l.getLast hne,(List.dropLast_concat_getLast hne).symm⟩
   have hr:r.length=n:=by simpa using h
   obtain ⟨h1,h2,h3⟩:=ih r hr
   rw [z0i,c2s]
   obtain ⟨p1,p2⟩:=y0l (m:=n0x r) (s:=r0j k) (n:=Go.RowKit.wrap64 (getM (n0x r) (r0j k)+1))
   refine ⟨fun t=>?_,?_,?_⟩
   ·rw [p1,h1];simp
   ·rw [p2];split<;>omega
   rw [p2]
   have hn:((r++[k]).map r0j).Nodup↔(r.map r0j).Nodup∧r0j k∉r.map r0j:=by
    rw [xQ,List.nodup_append]
    constructor
    ·rintro ⟨a,_,c⟩
     exact ⟨a,fun hm=>c _ hm _ (by simp) rfl⟩
    rintro ⟨a,b⟩
    refine ⟨a,by simp,fun x hx y hy e=>?_⟩
    simp only [yL,vO,List.mem_singleton] at hy
    rw [←hy,←e] at b
    exact b hx
   rw [hn]
   by_cases hm:r0j k∈(n0x r).map (·.1)
   ·rw [if_pos hm]
    have:=(h1 _).mp hm
    constructor
    ·intro e;omega
    rintro ⟨_,hb⟩;exact absurd this hb
   rw [if_neg hm]
   constructor
   ·intro e
    exact ⟨h3.mp (by omega),fun hx=>hm ((h1 _).mpr hx)⟩
   rintro ⟨ha,_⟩
   have:=h3.mpr ha;omega
theorem x1n {x y:UInt64} (h:Mq x 8=Mq y 8):x=y:=by
 have:=congrArg lev h
 rwa [v0g,v0g] at this
theorem x1u {a b:Gz} (ha:a.peer.length=b.peer.length) (h1:inN a.n=true) (h2:inN b.n=true) (h:r0j a=r0j b):i0y a b=true:=by
 obtain ⟨e1,e2⟩:=List.append_inj h ha
 have e3:=congrArg UInt64.toNat (x1n e2)
 simp only [inN,decide_eq_true_eq] at h1 h2
 have g: ∀ z:Int,0≤z→z≤1073741824→(UInt64.ofNat (z%18446744073709551616).toNat).toNat=z.toNat:=fun z h1 h2=>by
  rw [wD];omega
 rw [g _ h1.1 h1.2,g _ h2.1 h2.2] at e3
 simp only [i0y,yD,decide_eq_true_eq]
 exact ⟨e1,by omega⟩
theorem n1k {a b:Gz} (h:i0y a b=true):r0j a=r0j b:=by
 simp only [i0y,yD,decide_eq_true_eq] at h
 rw [r0j,r0j,h.1,h.2]
theorem p1c {l:List Gz} (hl: ∀ k∈l,k.ok) (hi: ∀ k∈l,inN k.n=true):(n0x l).length<l.length↔i0m l=false:=by
 obtain ⟨_,h2,h3⟩:=p1e l
 have hd:(l.map r0j).Nodup↔i0m l=true:=by
  rw [k0c,List.Nodup,List.pairwise_map,uK,uK]
  constructor
  ·intro h i j h1 h2 hij
   cases hq:i0y l[i] l[j] with
   |false=>rfl
   |true=>exact absurd (n1k hq) (h i j h1 h2 hij)
  intro h i j h1 h2 hij e
  have m1:=List.getElem_mem h1
  have m2:=List.getElem_mem h2
  have:=x1u ((hl _ m1).1.trans (hl _ m2).1.symm) (hi _ m1) (hi _ m2) e
  rw [h i j h1 h2 hij] at this;cases this
 constructor
 ·intro h
  cases hq:i0m l with
  |false=>rfl
  |true=>have:=h3.mpr (hd.mpr hq);omega
 intro h
 refine Nat.lt_of_le_of_ne h2 fun e=>?_
 rw [hd.mp (h3.mp e)] at h;cases h
def okI (k0:Bool) (l:List Gz) (i:Nat):Bool:=k0&&(l.take i).all fun k=>inN k.n
theorem u0z (k0:Bool) (l:List Gz):okI k0 l 0=k0:=by simp [okI]
theorem g1g {k0:Bool} {l:List Gz} {i:Nat} {k:Gz} (h:l[i]? =some k):okI k0 l (i+1)=(okI k0 l i&&inN k.n):=by
 have e:l.take (i+1)=l.take i++[k]:=by rw [List.take_add_one,h];rfl
 rw [okI,okI,e,List.all_append];simp [Bool.and_assoc]
theorem z0h {l:List Gz} {i:Nat} {k:Gz} (h:l[i]? =some k):n0x (l.take (i+1))=r0r (n0x (l.take i)) (r0j k) (Go.RowKit.wrap64 (getM (n0x (l.take i)) (r0j k)+1)):=by
 have e:l.take (i+1)=l.take i++[k]:=by rw [List.take_add_one,h];rfl
 rw [e,z0i];rfl
theorem o1t (k0:Bool) (l:List Gz):okI k0 l l.length=(k0&&l.all fun k=>inN k.n):=by rw [okI,wK]
theorem m1i {out inn last:Int} {l:List Gz} {k0:Bool} (h:(inN out&&(inN inn&&(inN last&&decide (l.length≤12))))=k0):Tv out inn last l=if okI k0 l l.length=true∧i0m l=true then 0 else 9:=by
 rw [o1t,←h]
 unfold Tv z0m
 simp only [yD,decide_eq_true_eq,and_assoc]
theorem o2d {out inn last:Int} {l:List Gz} {k0:Bool} (h:(inN out&&(inN inn&&(inN last&&decide (l.length≤12))))=k0) (ho:okI k0 l l.length=false):Tv out inn last l=9:=by
 rw [m1i h,if_neg];rintro ⟨h1,_⟩;rw [ho] at h1;cases h1
theorem z0w {out inn last:Int} {l:List Gz} {k0:Bool} (h:(inN out&&(inN inn&&(inN last&&decide (l.length≤12))))=k0) (hl: ∀ k∈l,k.ok) (ho:okI k0 l l.length=true):Tv out inn last l=if (n0x l).length<l.length then 9 else 0:=by
 have hi: ∀ k∈l,inN k.n=true:=by
  rw [o1t,yD,yJ] at ho
  exact ho.2
 rw [m1i h]
 have hm:=p1c hl hi
 by_cases hs:(n0x l).length<l.length
 ·rw [if_pos hs,if_neg];rintro ⟨_,h1⟩;rw [hm.mp hs] at h1;cases h1
 rw [if_neg hs,if_pos]
 refine ⟨ho,?_⟩
 cases hq:i0m l with
 |true=>rfl
 |false=>exact absurd (hm.mpr hq) hs
end Go.Sy
