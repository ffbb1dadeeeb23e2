/- Walks and what they compute. CONDITIONS: those that each theorem names. -/
import Derived.Test.YtkfcbhgkpknagaaGreatDoorvS2
import Derived.Test.YtkfcbhgkpknagaaGreatDoorvE3
import Derived.Test.YtkfcbhgkpknagaaGreatDoorvS14
import Derived.Laws.Externs
set_option linter.unusedVariables false
set_option linter.unusedSimpArgs false
set_option maxHeartbeats 3200000
set_option maxRecDepth 100000
namespace Go.Sy
def adS (x y c:UInt64):UInt64:=UInt64.ofNat ((x.toNat+y.toNat+c.toNat)%18446744073709551616)
def adC (x y c:UInt64):UInt64:=UInt64.ofNat ((x.toNat+y.toNat+c.toNat)/18446744073709551616)
theorem Rq (x y:UInt64) {c:UInt64} (hc:c.toNat≤1):(adS x y c).toNat+(adC x y c).toNat*18446744073709551616=x.toNat+y.toNat+c.toNat∧(adC x y c).toNat≤1:=by
 have hx:=x.toNat_lt;have hy:=y.toNat_lt
 simp only [adS,adC,wD]
 omega
structure T3 where
 a:UInt64
 b:UInt64
 c:UInt64
def T3.val (t:T3):Nat:=Nj t.a t.b t.c
def T3.plus (x y:T3):T3:=⟨adS x.a y.a 0,adS x.b y.b (adC x.a y.a 0),adS x.c y.c (adC x.b y.b (adC x.a y.a 0))⟩
theorem Wv (x y:T3) (h:x.val+y.val<6277101735386680763835789423207666416102355444464034512896):(x.plus y).val=x.val+y.val:=by
 obtain ⟨a1,a2⟩:=Rq x.a y.a (c:=0) (by decide)
 obtain ⟨b1,b2⟩:=Rq x.b y.b a2
 obtain ⟨c1,c2⟩:=Rq x.c y.c b2
 have z:(0:UInt64).toNat=0:=rfl
 simp only [T3.val,T3.plus,Nj] at h ⊢
 rw [z] at a1
 generalize adC x.a y.a 0=k1 at*
 generalize adC x.b y.b k1=k2 at*
 generalize adC x.c y.c k2=k3 at*
 have:=x.a.toNat_lt;have:=x.b.toNat_lt;have:=x.c.toNat_lt
 have:=(adS x.a y.a 0).toNat_lt;have:=(adS x.b y.b k1).toNat_lt;have:=(adS x.c y.c k2).toNat_lt
 omega
def mx0 (x:UInt64):UInt64:=x&&&4294967295
def mx1 (x:UInt64):UInt64:=Iw x 32
def f2g (x y:UInt64):UInt64:=mx1 x*mx0 y+Iw (mx0 x*mx0 y) 32
def c1e (x y:UInt64):UInt64:=mx1 x*mx1 y+Iw (f2g x y) 32+Iw (mx0 (f2g x y)+mx0 x*mx1 y) 32
theorem s0h (x:UInt64):(mx0 x).toNat=x.toNat%4294967296:=o0p 32 rfl x
theorem f1m (x:UInt64):(mx1 x).toNat=x.toNat/4294967296:=Wx x 32
theorem w1z (x y:UInt64):(c1e x y).toNat*18446744073709551616+(x*y).toNat=x.toNat*y.toNat∧(c1e x y).toNat≤18446744073709551614:=by
 have hx:=x.toNat_lt;have hy:=y.toNat_lt
 obtain ⟨a0,ha0⟩: ∃ n,(mx0 x).toNat=n:=⟨_,rfl⟩
 obtain ⟨a1,ha1⟩: ∃ n,(mx1 x).toNat=n:=⟨_,rfl⟩
 obtain ⟨b0,hb0⟩: ∃ n,(mx0 y).toNat=n:=⟨_,rfl⟩
 obtain ⟨b1,hb1⟩: ∃ n,(mx1 y).toNat=n:=⟨_,rfl⟩
 have la0:a0≤4294967295:=by rw [←ha0,s0h];omega
 have la1:a1≤4294967295:=by rw [←ha1,f1m];omega
 have lb0:b0≤4294967295:=by rw [←hb0,s0h];omega
 have lb1:b1≤4294967295:=by rw [←hb1,f1m];omega
 have ex:x.toNat=a0+a1*4294967296:=by rw [←ha0,←ha1,s0h,f1m];omega
 have ey:y.toNat=b0+b1*4294967296:=by rw [←hb0,←hb1,s0h,f1m];omega
 have m00:a0*b0≤4294967295*4294967295:=Nat.mul_le_mul la0 lb0
 have m01:a0*b1≤4294967295*4294967295:=Nat.mul_le_mul la0 lb1
 have m10:a1*b0≤4294967295*4294967295:=Nat.mul_le_mul la1 lb0
 have m11:a1*b1≤4294967295*4294967295:=Nat.mul_le_mul la1 lb1
 have e00:(mx0 x*mx0 y).toNat=a0*b0:=by rw [g0z (by rw [ha0,hb0];omega),ha0,hb0]
 have e01:(mx0 x*mx1 y).toNat=a0*b1:=by rw [g0z (by rw [ha0,hb1];omega),ha0,hb1]
 have e10:(mx1 x*mx0 y).toNat=a1*b0:=by rw [g0z (by rw [ha1,hb0];omega),ha1,hb0]
 have e11:(mx1 x*mx1 y).toNat=a1*b1:=by rw [g0z (by rw [ha1,hb1];omega),ha1,hb1]
 have et:(f2g x y).toNat=a1*b0+a0*b0/4294967296:=by
  have e:(Iw (mx0 x*mx0 y) 32).toNat=a0*b0/4294967296:=by rw [Wx,e00]
  rw [f2g,Gv (by rw [e10,e];omega),e10,e]
 have es:(Iw (f2g x y) 32).toNat=(a1*b0+a0*b0/4294967296)/4294967296:=by rw [Wx,et]
 have eu:(mx0 (f2g x y)+mx0 x*mx1 y).toNat=(a1*b0+a0*b0/4294967296)%4294967296+a0*b1:=by
  rw [Gv (by rw [s0h,et,e01];omega),s0h,et,e01]
 have ev:(Iw (mx0 (f2g x y)+mx0 x*mx1 y) 32).toNat=((a1*b0+a0*b0/4294967296)%4294967296+a0*b1)/4294967296:=by rw [Wx,eu]
 have eh:(c1e x y).toNat=a1*b1+(a1*b0+a0*b0/4294967296)/4294967296+((a1*b0+a0*b0/4294967296)%4294967296+a0*b1)/4294967296:=by
  rw [c1e,Gv (by rw [Gv (by rw [e11,es];omega),e11,es,ev];omega),Gv (by rw [e11,es];omega),e11,es,ev]
 have exy:x.toNat*y.toNat=a0*b0+(a0*b1+a1*b0)*4294967296+a1*b1*18446744073709551616:=by
  rw [ex,ey,wN,vZ,vZ,←vN,uF a1 4294967296 b0,xU a1 4294967296 b1 4294967296]
  omega
 rw [eh,UInt64.toNat_mul,exy]
 generalize a0*b0=p at*
 generalize a0*b1=q at*
 generalize a1*b0=r at*
 generalize a1*b1=s at*
 clear e00 e01 e10 e11 et es eu ev eh exy ex ey hx hy ha0 ha1 hb0 hb1 la0 la1 lb0 lb1
 omega
def stL (x y w k:UInt64):UInt64:=adS (adS (x*y) w 0) k 0
def stK (x y w k:UInt64):UInt64:=c1e x y+adC (x*y) w 0+adC (adS (x*y) w 0) k 0
theorem o0s (x y w k:UInt64):(stL x y w k).toNat+(stK x y w k).toNat*18446744073709551616=x.toNat*y.toNat+w.toNat+k.toNat:=by
 obtain ⟨h1,h2⟩:=w1z x y
 obtain ⟨a1,a2⟩:=Rq (x*y) w (c:=0) (by decide)
 obtain ⟨b1,b2⟩:=Rq (adS (x*y) w 0) k (c:=0) (by decide)
 have z:(0:UInt64).toNat=0:=rfl
 rw [z] at a1 b1
 have hx:=x.toNat_lt;have hy:=y.toNat_lt;have hw:=w.toNat_lt;have hk:=k.toNat_lt
 have hm:x.toNat*y.toNat≤18446744073709551615*18446744073709551615:=Nat.mul_le_mul (by omega) (by omega)
 have e1:(c1e x y+adC (x*y) w 0).toNat=(c1e x y).toNat+(adC (x*y) w 0).toNat:=Gv (by omega)
 have hs:=(adS (adS (x*y) w 0) k 0).toNat_lt
 have e2:(stK x y w k).toNat=(c1e x y).toNat+(adC (x*y) w 0).toNat+(adC (adS (x*y) w 0) k 0).toNat:=by
  rw [stK,Gv (by rw [e1];omega),e1]
 rw [e2,stL]
 generalize x.toNat*y.toNat=m at*
 clear e1 e2 hs hx hy hw hk hm h2 a2 b2 z
 generalize (adS (adS (x*y) w 0) k 0).toNat=v1 at*
 generalize (adC (adS (x*y) w 0) k 0).toNat=v2 at*
 generalize (adS (x*y) w 0).toNat=v3 at*
 generalize (adC (x*y) w 0).toNat=v4 at*
 generalize (c1e x y).toNat=v5 at*
 generalize (x*y).toNat=v6 at*
 generalize w.toNat=v7 at*
 generalize k.toNat=v8 at*
 rw [wN,wN]
 generalize 18446744073709551616=B at*
 generalize v5*B=u5 at*
 generalize v4*B=u4 at*
 generalize v2*B=u2 at*
 omega
def k00 (a:T3) (r0 r1:UInt64):=stK a.a r0 0 0
def k01 (a:T3) (r0 r1:UInt64):=stK a.a r1 0 (k00 a r0 r1)
def w01 (a:T3) (r0 r1:UInt64):=stL a.a r1 0 (k00 a r0 r1)
def k10 (a:T3) (r0 r1:UInt64):=stK a.b r0 (w01 a r0 r1) 0
def w12 (a:T3) (r0 r1:UInt64):=stL a.b r1 (k01 a r0 r1) (k10 a r0 r1)
def k11 (a:T3) (r0 r1:UInt64):=stK a.b r1 (k01 a r0 r1) (k10 a r0 r1)
def k20 (a:T3) (r0 r1:UInt64):=stK a.c r0 (w12 a r0 r1) 0
def q0 (a:T3) (r0 r1:UInt64):=stL a.a r0 0 0
def q1 (a:T3) (r0 r1:UInt64):=stL a.b r0 (w01 a r0 r1) 0
def q2 (a:T3) (r0 r1:UInt64):=stL a.c r0 (w12 a r0 r1) 0
def q3 (a:T3) (r0 r1:UInt64):=stL a.c r1 (k11 a r0 r1) (k20 a r0 r1)
def q4 (a:T3) (r0 r1:UInt64):=stK a.c r1 (k11 a r0 r1) (k20 a r0 r1)
theorem q_val (a:T3) (r0 r1:UInt64):(q0 a r0 r1).toNat+(q1 a r0 r1).toNat*18446744073709551616+(q2 a r0 r1).toNat*340282366920938463463374607431768211456+(q3 a r0 r1).toNat*6277101735386680763835789423207666416102355444464034512896+(q4 a r0 r1).toNat*115792089237316195423570985008687907853269984665640564039457584007913129639936=a.val*(r0.toNat+r1.toNat*18446744073709551616):=by
 have z:(0:UInt64).toNat=0:=rfl
 have e1:=o0s a.a r0 0 0
 have e2:=o0s a.a r1 0 (k00 a r0 r1)
 have e3:=o0s a.b r0 (w01 a r0 r1) 0
 have e4:=o0s a.b r1 (k01 a r0 r1) (k10 a r0 r1)
 have e5:=o0s a.c r0 (w12 a r0 r1) 0
 have e6:=o0s a.c r1 (k11 a r0 r1) (k20 a r0 r1)
 rw [z] at e1 e2 e3 e5
 change (q0 a r0 r1).toNat+(k00 a r0 r1).toNat*_=_ at e1
 change (w01 a r0 r1).toNat+(k01 a r0 r1).toNat*_=_ at e2
 change (q1 a r0 r1).toNat+(k10 a r0 r1).toNat*_=_ at e3
 change (w12 a r0 r1).toNat+(k11 a r0 r1).toNat*_=_ at e4
 change (q2 a r0 r1).toNat+(k20 a r0 r1).toNat*_=_ at e5
 change (q3 a r0 r1).toNat+(q4 a r0 r1).toNat*_=_ at e6
 simp only [T3.val,Nj]
 have h:(a.a.toNat+a.b.toNat*18446744073709551616+a.c.toNat*340282366920938463463374607431768211456)*(r0.toNat+r1.toNat*18446744073709551616)=a.a.toNat*r0.toNat+(a.a.toNat*r1.toNat+a.b.toNat*r0.toNat)*18446744073709551616+(a.b.toNat*r1.toNat+a.c.toNat*r0.toNat)*340282366920938463463374607431768211456+a.c.toNat*r1.toNat*6277101735386680763835789423207666416102355444464034512896:=by
  simp only [wN,vZ]
  rw [←vN a.a.toNat,uF a.b.toNat 18446744073709551616 r0.toNat,xU a.b.toNat 18446744073709551616,uF a.c.toNat 340282366920938463463374607431768211456 r0.toNat,xU a.c.toNat 340282366920938463463374607431768211456]
  omega
 rw [h]
 generalize a.a.toNat*r0.toNat=m1 at*
 generalize a.a.toNat*r1.toNat=m2 at*
 generalize a.b.toNat*r0.toNat=m3 at*
 generalize a.b.toNat*r1.toNat=m4 at*
 generalize a.c.toNat*r0.toNat=m5 at*
 generalize a.c.toNat*r1.toNat=m6 at*
 omega
def j1m (a:T3) (r0 r1:UInt64):T3:=⟨q0 a r0 r1,q1 a r0 r1,q2 a r0 r1&&&3⟩
def Zk (a:T3) (r0 r1:UInt64):T3:=⟨Iw (q2 a r0 r1) 2|||Dy (q3 a r0 r1) 62,Iw (q3 a r0 r1) 2|||Dy (q4 a r0 r1) 62,Iw (q4 a r0 r1) 2⟩
theorem g1m (a:T3) (r0 r1:UInt64):(j1m a r0 r1).val+(Zk a r0 r1).val*1361129467683753853853498429727072845824=a.val*(r0.toNat+r1.toNat*18446744073709551616)∧(j1m a r0 r1).val<1361129467683753853853498429727072845824:=by
 rw [←q_val]
 have h0:=(q0 a r0 r1).toNat_lt;have h1:=(q1 a r0 r1).toNat_lt;have h2:=(q2 a r0 r1).toNat_lt;have h3:=(q3 a r0 r1).toNat_lt;have h4:=(q4 a r0 r1).toNat_lt
 have m2:(q2 a r0 r1&&&3).toNat=(q2 a r0 r1).toNat%4:=o0p 2 rfl _
 have s2:(Iw (q2 a r0 r1) 2).toNat=(q2 a r0 r1).toNat/4:=Wx _ _
 have s3:(Iw (q3 a r0 r1) 2).toNat=(q3 a r0 r1).toNat/4:=Wx _ _
 have s4:(Iw (q4 a r0 r1) 2).toNat=(q4 a r0 r1).toNat/4:=Wx _ _
 have u3:(Dy (q3 a r0 r1) 62).toNat=2 ^ 62*((q3 a r0 r1).toNat%4):=by rw [a0g];omega
 have u4:(Dy (q4 a r0 r1) 62).toNat=2 ^ 62*((q4 a r0 r1).toNat%4):=by rw [a0g];omega
 have o1:=h0s 62 (x:=Iw (q2 a r0 r1) 2) (by rw [s2];omega) u3
 have o2:=h0s 62 (x:=Iw (q3 a r0 r1) 2) (by rw [s3];omega) u4
 simp only [j1m,Zk,T3.val,Nj,m2,o1,o2,s2,s3,s4,u3,u4]
 omega
def j2a (a:T3) (r0 r1:UInt64):T3:=(((((j1m a r0 r1).plus (Zk a r0 r1)).plus (Zk a r0 r1)).plus (Zk a r0 r1)).plus (Zk a r0 r1)).plus (Zk a r0 r1)
def l1m (t:T3):T3:=T3.plus ⟨t.a,t.b,t.c&&&3⟩ ⟨5*Iw t.c 2,0,0⟩
def a2n (t:T3):T3:=if 3<t.c then l1m t else t
def up3 (t:T3):T3:=t.plus ⟨5,0,0⟩
def c1w (t:T3):T3:=if 3<(up3 t).c then ⟨(up3 t).a,(up3 t).b,(up3 t).c&&&3⟩ else t
def a0h (a:T3) (r0 r1:UInt64):T3:=c1w (a2n (j2a a r0 r1))
end Go.Sy
namespace Go.Sy
theorem g1n (a:T3) (r0 r1:UInt64) (ha:a.val<2722258935367507707706996859454145691648) (hr:r1.toNat<1152921504606846976):(j2a a r0 r1).val=(j1m a r0 r1).val+5*(Zk a r0 r1).val∧(j2a a r0 r1).val<1701411834604692317316873037158841057280:=by
 obtain ⟨h1,h2⟩:=g1m a r0 r1
 have h3:a.val*(r0.toNat+r1.toNat*18446744073709551616)≤2722258935367507707706996859454145691648*(1152921504606846976*18446744073709551616):=Nat.mul_le_mul (wQ ha) (by have:=r0.toNat_lt;omega)
 rw [←h1] at h3
 have h4:(Zk a r0 r1).val≤42535295865117307932921825928971026432:=by
  generalize (j1m a r0 r1).val=x at*
  generalize (Zk a r0 r1).val=y at*
  clear h1 ha hr
  omega
 generalize hx:(j1m a r0 r1).val=x at*
 generalize hy:(Zk a r0 r1).val=y at*
 clear h1 h3 ha hr
 unfold j2a
 have e1:=Wv (j1m a r0 r1) (Zk a r0 r1) (by rw [hx,hy];omega)
 generalize (j1m a r0 r1).plus (Zk a r0 r1)=t1 at*
 have e2:=Wv t1 (Zk a r0 r1) (by rw [e1,hx,hy];omega)
 generalize t1.plus (Zk a r0 r1)=t2 at*
 have e3:=Wv t2 (Zk a r0 r1) (by rw [e2,e1,hx,hy];omega)
 generalize t2.plus (Zk a r0 r1)=t3 at*
 have e4:=Wv t3 (Zk a r0 r1) (by rw [e3,e2,e1,hx,hy];omega)
 generalize t3.plus (Zk a r0 r1)=t4 at*
 have e5:=Wv t4 (Zk a r0 r1) (by rw [e4,e3,e2,e1,hx,hy];omega)
 generalize t4.plus (Zk a r0 r1)=t5 at*
 rw [e5,e4,e3,e2,e1,hx,hy]
 constructor<;>omega
theorem g0c {x:UInt64}:(3<x)↔3<x.toNat:=by rw [vE];rfl
theorem s2q (x:UInt64):(x&&&3).toNat=x.toNat%4:=o0p 2 rfl x
theorem l1w {t:T3} {k:Nat} (h:t.val<(k+1)*340282366920938463463374607431768211456):t.c.toNat≤k:=by
 simp only [T3.val,Nj] at h
 have:=t.a.toNat_lt;have:=t.b.toNat_lt
 rw [wN] at h
 omega
theorem l1x {t:T3} (h:¬3<t.c.toNat):t.val<1361129467683753853853498429727072845824:=by
 simp only [T3.val,Nj]
 have:=t.a.toNat_lt;have:=t.b.toNat_lt
 omega
theorem r1u {t:T3} (h:t.val<1701411834604692317316873037158841057280) (h3:3<t.c.toNat):(l1m t).val+1361129467683753853853498429727072845819=t.val∧¬3<(l1m t).c.toNat:=by
 have hc:t.c.toNat≤7:=l1w (k:=7) (by omega)
 have e1:(5*Iw t.c 2).toNat=5:=by
  have:(Iw t.c 2).toNat=1:=by rw [Wx];omega
  rw [g0z (by rw [this];decide),this];rfl
 have z:(0:UInt64).toNat=0:=rfl
 have ha:=t.a.toNat_lt
 have hb:=t.b.toNat_lt
 have v1:T3.val ⟨t.a,t.b,t.c&&&3⟩+1361129467683753853853498429727072845824=t.val:=by
  simp only [T3.val,Nj,s2q];omega
 have v2:T3.val ⟨5*Iw t.c 2,0,0⟩=5:=by simp only [T3.val,Nj,e1,z]
 have v3:(l1m t).val=T3.val ⟨t.a,t.b,t.c&&&3⟩+5:=by
  rw [l1m,Wv _ _ (by rw [v2];omega),v2]
 have v4:(l1m t).val+1361129467683753853853498429727072845819=t.val:=by omega
 refine ⟨v4,?_⟩
 have:(l1m t).c.toNat≤4:=l1w (k:=4) (by omega)
 intro h4
 have h5:4*340282366920938463463374607431768211456≤(l1m t).val:=by simp only [T3.val,Nj];omega
 omega
theorem d2o {t:T3} (h:t.val<1701411834604692317316873037158841057280):(∃ c,(a2n t).val+c*1361129467683753853853498429727072845819=t.val)∧(a2n t).val<1361129467683753853853498429727072845824:=by
 unfold a2n
 by_cases h3:3<t.c.toNat
 ·rw [if_pos (g0c.mpr h3)]
  obtain ⟨g1,g2⟩:=r1u h h3
  exact ⟨⟨1,by omega⟩,l1x g2⟩
 rw [if_neg (fun h=>h3 (g0c.mp h))]
 exact ⟨⟨0,by omega⟩,l1x h3⟩
theorem g2n {t:T3} (h:t.val<1361129467683753853853498429727072845824):(c1w t).val=t.val%1361129467683753853853498429727072845819:=by
 have z:(0:UInt64).toNat=0:=rfl
 have v5:T3.val ⟨5,0,0⟩=5:=rfl
 have hu:(up3 t).val=t.val+5:=by rw [up3,Wv _ _ (by rw [v5];omega),v5]
 unfold c1w
 have ha:=(up3 t).a.toNat_lt
 have hb:=(up3 t).b.toNat_lt
 by_cases h3:3<(up3 t).c.toNat
 ·rw [if_pos (g0c.mpr h3)]
  have hc:(up3 t).c.toNat≤4:=l1w (k:=4) (by omega)
  have e:T3.val ⟨(up3 t).a,(up3 t).b,(up3 t).c&&&3⟩+1361129467683753853853498429727072845819=t.val:=by
   simp only [T3.val,Nj,s2q] at hu ⊢;omega
  rw [←e,Nat.add_mod_right,yN (by omega)]
 rw [if_neg (fun h=>h3 (g0c.mp h))]
 have:=l1x h3
 rw [yN (by omega)]
theorem m1d (a:T3) (r0 r1:UInt64) (ha:a.val<2722258935367507707706996859454145691648) (hr:r1.toNat<1152921504606846976):(a0h a r0 r1).val=a.val*(r0.toNat+r1.toNat*18446744073709551616)%pP:=by
 obtain ⟨h1,h2⟩:=g1n a r0 r1 ha hr
 obtain ⟨⟨c,h3⟩,h4⟩:=d2o h2
 rw [a0h,g2n h4,pP,←(g1m a r0 r1).1]
 have e:(j1m a r0 r1).val+(Zk a r0 r1).val*1361129467683753853853498429727072845824=(j2a a r0 r1).val+(Zk a r0 r1).val*1361129467683753853853498429727072845819:=by rw [h1];omega
 rw [e,Nat.add_mul_mod_self_right,←h3,Nat.add_mul_mod_self_right]
end Go.Sy
namespace Go.Sy
open Go.Proofs
attribute [local irreducible] Bw HT Aj Jk onC onE onO onG goV goA goS Lx Bz
theorem Oj (x y c:UInt64) (hc:c.toNat≤1):Now Tryz.prog 110 [.w (.one (.pl (.u64 x))),.w (.one (.pl (.u64 y))),.w (.one (.pl (.u64 c)))] (.tup [.one (.pl (.u64 (adS x y c))),.one (.pl (.u64 (adC x y c)))]):=by
 refine ⟨fun k=>rfl,fun w d vals h=>?_⟩
 have hv:vals= #[.int .u64 x.toNat,.int .u64 y.toNat,.int .u64 c.toNat]:=by
  obtain ⟨l⟩:=vals
  simp only at h
  cases h with
  |cons h1 h=>
   cases h with
   |cons h2 h=>
    cases h with
    |cons h3 h=>
     cases h
     simp only [V.den,W.den,L.den] at h1 h2 h3
     rw [PL.den] at h1 h2 h3
     rw [h1,h2,h3]
 subst hv
 have hr:=run_callFunc_extern (P:=Tryz.prog) Tryz.func110 (by kernel_rfl) (by kernel_rfl) (by kernel_rfl) (e:=add64Entry) (by kernel_rfl) #[.int .u64 x.toNat,.int .u64 y.toNat,.int .u64 c.toNat] w
 rw [run_add64 (x.toNat:Int) (y.toNat:Int) (c.toNat:Int) (by omega) (by omega) (by omega) (by omega)] at hr
 refine ⟨_,hr,fun d'=>⟨_,rfl,?_⟩⟩
 have hx:=x.toNat_lt
 have hy:=y.toNat_lt
 refine .cons ?_ (.cons ?_ .nil)
 ·simp only [W.den,L.den]
  rw [PL.den]
  simp only [adS,wD]
  congr 1;omega
 simp only [W.den,L.den]
 rw [PL.den]
 simp only [adC,wD]
 congr 1;omega
theorem x1b (x y:UInt64):
 Ct Tryz.prog 109 [.w (.one (.pl (.u64 x))),.w (.one (.pl (.u64 y)))] (fun v m=>v=.tup [.one (.pl (.u64 (c1e x y))),.one (.pl (.u64 (x*y)))]):=by
 have F0:=trivial
 exact Ct.go Tryz.func109 rfl Tryz.ntmps109 Tryz.results109
def T3.ls (t:T3):List L:=W3 t.a t.b t.c
theorem n0d (x y:T3):
 Ct Tryz.prog 134 [.w (.agg (W3 x.a x.b x.c)),.w (.agg (W3 y.a y.b y.c))] (fun v m=>v=.w (.agg (W3 (x.plus y).a (x.plus y).b (x.plus y).c))):=by
 refine Ct.k Tryz.func134 rfl Tryz.ntmps134 (congrArg Array.toList Tryz.results134) (by simp) fun w0 ro=>?_
 refine b0q fun zZ zhZ=>?_
 iterate 80 first
  |(refine Ez (x:=.seq (.region 3 _ _) _) [6,8,9,10,11,12,13,14,15,16,17,18,19,20,21,22,23] ?_;simp only [go_sem,St.forget,fgt];refine Oz fun zN zM zhN zhM=>?_)
  |refine Oz fun zN zM zhN zhM=>?_
  |refine zhK _ ?_
  |(refine Lj fun zK zhK=>?_;simp only [go_sem,W3];(repeat' (first|apply yA|intro _)))
  |(refine zhN _ ?_;clear zhN zhM)
  |refine Cj fun zB zbn zbx zbr zbi=>?_
  |refine Gq ?_
  |(refine Sk (id:=5) [11,12,13,14,15,16,17,18,19,10,20,21,22,5] [0,0,2,6,0,16,48,0,254,510,1022,1022,2047,6143,16383] [(11,13)] mixed (by kernel_rfl) (by simp only [go_sem]) fun zK zhK=>?_;simp only [go_sem,W3];(repeat' (first|apply yA|intro _)))
  |(refine zhK _ _ ?_ ?_;(focus (first|trivial|(simp only [go_sem];done)|(simp only [go_sem];simp;done)|(simp only [go_sem];simp;simp only [go_sem]))))
  |(refine zbn _ ?_;clear zbn zbx zbr zbi)
  |(refine Cw fun zK zhK=>?_;simp only [go_sem,W3];(repeat' (first|apply yA|intro _)))
  |(refine zhM _ _ ?_;clear zhN zhM)
  |refine Jz (x:=.seq (.region 3 _ _) _) 4 ?_
  |refine Jv ?_
  |(refine zbx _ ?_;clear zbn zbx zbr zbi)
  |refine Tk ?_
  |(refine zhZ _ _ ?_;simp only [go_sem,W3];(all_goals rfl))
  |((all_goals refine Vk (by first|rfl|(simp only [go_sem,W3]<;>rfl)) (Oj _ _ _ (by first|decide|exact (Rq _ _ (by decide)).2|exact (Rq _ _ ((Rq _ _ (by decide)).2)).2)) ?_);(all_goals simp only [go_sem,W3]);(all_goals repeat' (first|apply yA|intro _)))
  |refine Fw fun zN zM zhN zhM=>?_
  |(refine Dw ?_ ?_;focus (first|rfl|(simp [go_sem,W3];done)))
  |(refine Dk ?_ ?_;focus (first|rfl|(simp [go_sem,W3];done)))
end Go.Sy
namespace Go.Sy
open Go.Proofs
attribute [local irreducible] Bw HT Aj Jk onC onE onO onG goV goA goS Lx Bz
theorem Xy (x y w k:UInt64):adS (adS (x*y) w 0) k 0=stL x y w k:=rfl
theorem Xx (x y w k:UInt64):c1e x y+adC (x*y) w 0+adC (adS (x*y) w 0) k 0=stK x y w k:=rfl
def t1t (a:T3) (r0 r1:UInt64):Nat→T3
 |0=>j1m a r0 r1
 |k+1=>(t1t a r0 r1 k).plus (Zk a r0 r1)
theorem q2u (a:T3) (r0 r1:UInt64):t1t a r0 r1 5=j2a a r0 r1:=rfl
def r0m (t:T3):Nat→T3
 |0=>t
 |_+1=>l1m t
theorem m1e (a:T3) (r0 r1:UInt64) (ha:a.val<2722258935367507707706996859454145691648) (hr:r1.toNat<1152921504606846976):
 Ct Tryz.prog 133 [.w (.agg (W3 a.a a.b a.c)),.w (.agg [.pl (.u64 r0),.pl (.u64 r1)])] (fun v m=>v=.w (.agg (W3 (a0h a r0 r1).a (a0h a r0 r1).b (a0h a r0 r1).c))):=by
 have f0:stK a.a r0 0 0=k00 a r0 r1:=rfl
 have f1:stL a.a r0 0 0=q0 a r0 r1:=rfl
 have f2:stK a.a r1 0 (k00 a r0 r1)=k01 a r0 r1:=rfl
 have f3:stL a.a r1 0 (k00 a r0 r1)=w01 a r0 r1:=rfl
 have f4:stL a.b r0 (w01 a r0 r1) 0=q1 a r0 r1:=rfl
 have f5:stK a.b r0 (w01 a r0 r1) 0=k10 a r0 r1:=rfl
 have f6:stL a.b r1 (k01 a r0 r1) (k10 a r0 r1)=w12 a r0 r1:=rfl
 have f7:stK a.b r1 (k01 a r0 r1) (k10 a r0 r1)=k11 a r0 r1:=rfl
 have f8:stL a.c r0 (w12 a r0 r1) 0=q2 a r0 r1:=rfl
 have f9:stK a.c r0 (w12 a r0 r1) 0=k20 a r0 r1:=rfl
 have f10:stL a.c r1 (k11 a r0 r1) (k20 a r0 r1)=q3 a r0 r1:=rfl
 have f11:stK a.c r1 (k11 a r0 r1) (k20 a r0 r1)=q4 a r0 r1:=rfl
 have F0:=yA f0<|yA f1<|yA f2<|yA f3<|yA f4<|yA f5<|yA f6<|yA f7<|yA f8<|yA f9<|yA f10<|f11
 refine Ct.k Tryz.func133 rfl Tryz.ntmps133 (congrArg Array.toList Tryz.results133) (by simp) fun w0 ro=>?_
 refine b0q fun zZ zhZ=>?_
 iterate 306 first
  |(refine Ez (x:=.seq (.region 7 _ _) _) [9,10,11,12,13,25,26,27,28,29,30,31,32,33,34,35,36,37,38,39,40,41,42,43,44,45,46,47,48,49,50,51,52,53,54,55,56,57,58,59,60,61] ?_;simp only [go_sem,St.forget,fgt];refine Oz fun zN zM zhN zhM=>?_)
  |(refine Ez (x:=.seq (.region 3 _ _) _) [6,7,8,9,10,11,12,13,20,21,22,23,24,25,26,27,28,29,30,31,32,33,34,35,36,37,38,39,40,41,42,43,44,45,46,47,48,49,50,51,52,53,54,55,56,57,58,59,60,61,62,63,64,65,66] ?_;simp only [go_sem,St.forget,fgt];refine Oz fun zN zM zhN zhM=>?_)
  |refine Oz fun zN zM zhN zhM=>?_
  |refine zhK _ ?_
  |(refine Lj fun zK zhK=>?_;simp only [go_sem,Xy,Xx,W3,yF,F0];(repeat' (first|apply yA|intro _)))
  |(refine zhN _ ?_;clear zhN zhM)
  |(refine Cw fun zK zhK=>?_;simp only [go_sem,Xy,Xx,W3,yF,F0];(repeat' (first|apply yA|intro _)))
  |refine Cj fun zB zbn zbx zbr zbi=>?_
  |refine Gq ?_
  |(refine zbn _ ?_;clear zbn zbx zbr zbi)
  |(refine zhM _ _ ?_;clear zhN zhM)
  |refine Jv ?_
  |(refine zbx _ ?_;clear zbn zbx zbr zbi)
  |refine Jz (x:=.seq (.region 7 _ _) _) 3 ?_
  |refine Jz (x:=.seq (.region 3 _ _) _) 4 ?_
  |((all_goals refine Xz (by first|rfl|(simp only [go_sem,Xy,Xx,W3,yF,F0]<;>rfl)) (Oj _ _ _ (by first|decide|exact (Rq _ _ (by decide)).2|exact (Rq _ _ ((Rq _ _ (by decide)).2)).2)) ?_);(all_goals simp only [go_sem,Xy,Xx,W3,yF,F0]);(all_goals repeat' (first|apply yA|intro _)))
  |((all_goals refine Cv (fun k=>k) (fun _ _=>rfl) (by first|rfl|(simp only [go_sem,Xy,Xx,W3,yF,F0]<;>rfl)) ((x1b _ _).plain fun _ _ h=>h) ?_);(all_goals (rintro v m ⟨hR,hm⟩;subst hR;subst hm));(all_goals refine yA (by first|rfl|simp only [go_sem,Xy,Xx,W3,yF,F0]) (yA (by first|rfl|simp only [go_sem,Xy,Xx,W3,yF,F0]) ?_));(all_goals simp only [go_sem,Xy,Xx,W3,yF,F0]);(all_goals repeat' (first|apply yA|intro _)))
  |refine Fw fun zN zM zhN zhM=>?_
  |(refine Dw ?_ ?_;focus (first|rfl|(simp [go_sem,Xy,Xx,W3,yF,F0];done)))
  |(refine Dk ?_ ?_;focus (first|rfl|(simp [go_sem,Xy,Xx,W3,yF,F0];done)))
 refine Bv [0,1,2,3,5,6,7,8,9,10,11,12,13,18,19,20,21,22,23,24,25,26,27,28,29,30,31,32,33,34,35,36,37,38,39,40,41,42,43,44,45,46,47,48,49,50,51,52,53,54,55,56,57,58,59,60,61,62,63,64,65,66,67,68,69,70,71,72,73,74,75,76,77,78,79,80,81,82,83,84,85,86,87,88,89,90,91,92] ?_
 simp only [Bj,Cx,Bq,yI,yK,Nat.reduceBEq,beq_self_eq_true,yS,yV,yY,yT,yE,reduceIte]
 refine Uw (fun y=>[(93,.w (.one (.pl (.i ((y.1:Nat):Int)))))]) (fun y=>[(14,⟨false,(t1t a r0 r1 y.1).ls⟩)]) (fun y=>5-y.1) (⟨0,by omega⟩:{y:Nat//y≤5}) ?_ ?_ ?_
 ·(simp only [go_sem,leX,yB,yC];try simp)
 ·(simp only [t1t,j1m,T3.ls,W3,go_sem,leX,yB,yC];try simp [t1t,j1m,T3.ls,W3,leX,look])
 intro yy zN zM zhN zhM
 simp only [yB,yC]
 obtain ⟨y,hy⟩:=yy
 rcases yZ y 5 with hlt|hge
 ·obtain ⟨q,hq⟩: ∃ q,t1t a r0 r1 y=q:=⟨_,rfl⟩
  obtain ⟨qa,qb,qc⟩:=q
  have hcq:((y:Nat):Int)<5:=by omega
  have hs1:Go.RowKit.wrap64 (((y:Nat):Int)+1)=((y+1:Nat):Int):=Gy (by omega) (by omega)
  simp only [hq,T3.ls,W3]
  refine Lj fun zK zhK=>?_
  simp only [go_sem,Xy,Xx,W3,yF,F0,hcq,hs1]
  repeat' (first|apply yA|intro _)
  refine zhK _ ?_
  refine Fw fun zN zM zhN zhM=>?_
  (refine Dw ?_ ?_;focus (first|rfl|(simp [go_sem,Xy,Xx,W3,yF,F0,hcq,hs1];done)))
  refine Gq ?_
  refine zhN _ ?_;clear zhN zhM
  refine Fw fun zN zM zhN zhM=>?_
  refine Cj fun zB zbn zbx zbr zbi=>?_
  refine Cw fun zK zhK=>?_
  simp only [go_sem,Xy,Xx,W3,yF,F0,hcq,hs1]
  repeat' (first|apply yA|intro _)
  all_goals refine Cv (fun k=>k) (fun _ _=>rfl) (by first|rfl|(simp only [go_sem,Xy,Xx,W3,yF,F0,hcq,hs1]<;>rfl)) ((n0d ⟨_,_,_⟩ ⟨_,_,_⟩).plain fun _ _ h=>h) ?_
  all_goals (rintro v m ⟨hR,hm⟩;subst hR;subst hm)
  all_goals refine yA (by first|rfl|simp only [go_sem,Xy,Xx,W3,yF,F0,hcq,hs1]) (yA (by first|rfl|simp only [go_sem,Xy,Xx,W3,yF,F0,hcq,hs1]) ?_)
  all_goals simp only [go_sem,Xy,Xx,W3,yF,F0,hcq,hs1]
  all_goals repeat' (first|apply yA|intro _)
  refine zhK _ ?_
  refine zbn _ ?_;clear zbn zbx zbr zbi
  refine zhN _ ?_;clear zhN zhM
  refine Cw fun zK zhK=>?_
  simp only [go_sem,Xy,Xx,W3,yF,F0,hcq,hs1]
  repeat' (first|apply yA|intro _)
  refine zhK _ ?_
  refine zhN ⟨y+1,by omega⟩ _ ?_ ?_ ?_
  ·(show 5-(y+1)<5-y;clear hs1;omega)
  ·(simp only [go_sem,leX,yB,yC];try simp)
  (simp only [t1t,hq,T3.ls,W3,go_sem,leX,yB,yC];first|done|(simp [t1t,hq,Zk,T3.ls,W3,leX,look];done)|(simp [t1t,hq,Zk,T3.ls,W3,leX,look];exact ⟨rfl,rfl,rfl⟩))
 obtain rfl:y=5:=by omega
 have hl5:=q2u a r0 r1
 have hb5:=(g1n a r0 r1 ha hr).2
 obtain ⟨q,hq⟩: ∃ q,t1t a r0 r1 5=q:=⟨_,rfl⟩
 obtain ⟨qa,qb,qc⟩:=q
 rw [hq] at hl5
 rw [←hl5] at hb5
 have hl5:=hl5.symm
 have hcut:3<qc→¬3<(l1m ⟨qa,qb,qc⟩).c.toNat:=fun h=>(r1u hb5 (g0c.mp h)).2
 have hcq:¬((5:Nat):Int)<5:=by omega
 simp only [hq,T3.ls,W3]
 refine Lj fun zK zhK=>?_
 simp only [go_sem,Xy,Xx,W3,yF,F0,hcq]
 repeat' (first|apply yA|intro _)
 refine zhK _ ?_
 refine Fw fun zN zM zhN zhM=>?_
 (refine Dk ?_ ?_;focus (first|rfl|(simp [go_sem,Xy,Xx,W3,yF,F0,hcq];done)))
 refine Jv ?_
 refine zhM _ _ ?_;clear zhN zhM
 refine zhM _ _ ?_;clear zhN zhM
 refine zbx _ ?_;clear zbn zbx zbr zbi
 refine zhN _ ?_;clear zhN zhM
 refine Fw fun zN zM zhN zhM=>?_
 refine Cj fun zB zbn zbx zbr zbi=>?_
 refine Bv [0,1,2,3,5,6,7,8,9,10,11,12,13,15,18,19,20,21,22,23,24,25,26,27,28,29,30,31,32,33,34,35,36,37,38,39,40,41,42,43,44,45,46,47,48,49,50,51,52,53,54,55,56,57,58,59,60,61,62,63,64,65,66,67,68,69,70,71,72,73,74,75,76,77,78,79,80,81,82,83,84,85,86,87,88,89,90,91,92,93,94,95,96,97,98] ?_
 simp only [Bj,Cx,Bq,yI,yK,Nat.reduceBEq,beq_self_eq_true,yS,yV,yY,yT,yE,reduceIte]
 refine Uw (fun y=>[]) (fun y=>[(14,⟨false,(r0m ⟨qa,qb,qc⟩ y.1).ls⟩)]) (fun y=>1-y.1) (⟨0,by omega,fun h=>by cases h⟩:{y:Nat//y≤1∧(y=1→3<qc)}) ?_ ?_ ?_
 ·(simp only [go_sem,leX,yB,yC];try simp)
 ·(simp only [r0m,T3.ls,W3,go_sem,leX,yB,yC];try simp [r0m,T3.ls,W3,leX,look])
 intro yy zN zM zhN zhM
 simp only [yB,yC]
 obtain ⟨y,hy,hy2⟩:=yy
 have hd:(y=0∧3<qc)∨(y=0∧¬3<qc∧¬3<(r0m ⟨qa,qb,qc⟩ 0).c∧3<(up3 (r0m ⟨qa,qb,qc⟩ 0)).c)∨(y=0∧¬3<qc∧¬3<(r0m ⟨qa,qb,qc⟩ 0).c∧¬3<(up3 (r0m ⟨qa,qb,qc⟩ 0)).c)∨(y=1∧3<qc∧¬3<(r0m ⟨qa,qb,qc⟩ 1).c∧3<(up3 (r0m ⟨qa,qb,qc⟩ 1)).c)∨(y=1∧3<qc∧¬3<(r0m ⟨qa,qb,qc⟩ 1).c∧¬3<(up3 (r0m ⟨qa,qb,qc⟩ 1)).c):=by
  rcases yZ y 1 with h|h
  ·have hy0:y=0:=by omega
   by_cases h3:3<qc
   ·exact .inl ⟨hy0,h3⟩
   by_cases h4:3<(up3 (r0m ⟨qa,qb,qc⟩ 0)).c
   ·exact .inr (.inl ⟨hy0,h3,h3,h4⟩)
   exact .inr (.inr (.inl ⟨hy0,h3,h3,h4⟩))
  have hy1:y=1:=by omega
  have h3:=hy2 hy1
  have h5:¬3<(r0m ⟨qa,qb,qc⟩ 1).c:=fun h=>hcut h3 (g0c.mp h)
  by_cases h4:3<(up3 (r0m ⟨qa,qb,qc⟩ 1)).c
  ·exact .inr (.inr (.inr (.inl ⟨hy1,h3,h5,h4⟩)))
  exact .inr (.inr (.inr (.inr ⟨hy1,h3,h5,h4⟩)))
 rcases hd with ⟨rfl,hc3⟩|⟨rfl,hc3,hcq,hup⟩|⟨rfl,hc3,hcq,hup⟩|⟨rfl,hc3,hcq,hup⟩|⟨rfl,hc3,hcq,hup⟩
 ·simp only [r0m,hq,T3.ls,W3]
  have hcq:=hc3
  iterate 15 first
   |refine zhK _ ?_
   |(refine Lj fun zK zhK=>?_;simp only [go_sem,Xy,Xx,W3,yF,F0,hcq];(repeat' (first|apply yA|intro _)))
   |refine Gq ?_
   |(refine zhN _ ?_;clear zhN zhM)
   |refine Cj fun zB zbn zbx zbr zbi=>?_
   |(refine Cw fun zK zhK=>?_;simp only [go_sem,Xy,Xx,W3,yF,F0,hcq];(repeat' (first|apply yA|intro _)))
   |(refine zbn _ ?_;clear zbn zbx zbr zbi)
   |((all_goals refine Cv (fun k=>k) (fun _ _=>rfl) (by first|rfl|(simp only [go_sem,Xy,Xx,W3,yF,F0,hcq]<;>rfl)) ((n0d ⟨_,_,_⟩ ⟨_,_,_⟩).plain fun _ _ h=>h) ?_);(all_goals (rintro v m ⟨hR,hm⟩;subst hR;subst hm));(all_goals refine yA (by first|rfl|simp only [go_sem,Xy,Xx,W3,yF,F0,hcq]) (yA (by first|rfl|simp only [go_sem,Xy,Xx,W3,yF,F0,hcq]) ?_));(all_goals simp only [go_sem,Xy,Xx,W3,yF,F0,hcq]);(all_goals repeat' (first|apply yA|intro _)))
   |refine Fw fun zN zM zhN zhM=>?_
   |(refine Dw ?_ ?_;focus (first|rfl|(simp [go_sem,Xy,Xx,W3,yF,F0,hcq];done)))
  refine zhN ⟨1,by omega,fun _=>hc3⟩ _ ?_ ?_ ?_
  ·(show 1-1<1-0;omega)
  ·(simp only [go_sem,leX,yB,yC];try simp)
  (simp only [r0m,hq,T3.ls,W3,go_sem,leX,yB,yC];first|done|(simp [r0m,l1m,hq,T3.ls,W3,leX,look];done)|(simp [r0m,l1m,hq,T3.ls,W3,leX,look];exact ⟨rfl,rfl,rfl⟩))
 ·obtain ⟨⟨xa,xb,xc⟩,hx⟩: ∃ x,r0m ⟨qa,qb,qc⟩ 0=x:=⟨_,rfl⟩
  rw [hx] at hcq hup
  simp only [hx,T3.ls,W3]
  rw [up3] at hup
  simp only at hcq hup
  have hres:a0h a r0 r1=c1w ⟨xa,xb,xc⟩:=by rw [←hx,a0h,hl5,a2n];exact congrArg c1w (if_neg hc3)
  rw [c1w,up3,if_pos hup] at hres
  iterate 23 first
   |(refine Lj fun zK zhK=>?_;simp only [go_sem,Xy,Xx,W3,yF,F0,hcq,hup];(repeat' (first|apply yA|intro _)))
   |refine zhK _ ?_
   |(refine zhM _ _ ?_;clear zhN zhM)
   |refine Jv ?_
   |(refine zbx _ ?_;clear zbn zbx zbr zbi)
   |(refine zhN _ ?_;clear zhN zhM)
   |refine Tk ?_
   |(refine zhZ _ _ ?_;simp only [go_sem,Xy,Xx,W3,yF,F0,hcq,hup];(all_goals (first|(rw [hres];done)|(rw [hres];simp only [W3];done))))
   |((all_goals refine Cv (fun k=>k) (fun _ _=>rfl) (by first|rfl|(simp only [go_sem,Xy,Xx,W3,yF,F0,hcq,hup]<;>rfl)) ((n0d ⟨_,_,_⟩ ⟨_,_,_⟩).plain fun _ _ h=>h) ?_);(all_goals (rintro v m ⟨hR,hm⟩;subst hR;subst hm));(all_goals refine yA (by first|rfl|simp only [go_sem,Xy,Xx,W3,yF,F0,hcq,hup]) (yA (by first|rfl|simp only [go_sem,Xy,Xx,W3,yF,F0,hcq,hup]) ?_));(all_goals simp only [go_sem,Xy,Xx,W3,yF,F0,hcq,hup]);(all_goals repeat' (first|apply yA|intro _)))
   |refine Fw fun zN zM zhN zhM=>?_
   |(refine Dk ?_ ?_;focus (first|rfl|(simp [go_sem,Xy,Xx,W3,yF,F0,hcq,hup];done)))
   |(refine Dw ?_ ?_;focus (first|rfl|(simp [go_sem,Xy,Xx,W3,yF,F0,hcq,hup];done)))
 ·obtain ⟨⟨xa,xb,xc⟩,hx⟩: ∃ x,r0m ⟨qa,qb,qc⟩ 0=x:=⟨_,rfl⟩
  rw [hx] at hcq hup
  simp only [hx,T3.ls,W3]
  rw [up3] at hup
  simp only at hcq hup
  have hres:a0h a r0 r1=c1w ⟨xa,xb,xc⟩:=by rw [←hx,a0h,hl5,a2n];exact congrArg c1w (if_neg hc3)
  rw [c1w,up3,if_neg hup] at hres
  iterate 22 first
   |(refine Lj fun zK zhK=>?_;simp only [go_sem,Xy,Xx,W3,yF,F0,hcq,hup];(repeat' (first|apply yA|intro _)))
   |refine zhK _ ?_
   |(refine zhM _ _ ?_;clear zhN zhM)
   |(refine zhN _ ?_;clear zhN zhM)
   |refine Jv ?_
   |(refine zbx _ ?_;clear zbn zbx zbr zbi)
   |refine Gq ?_
   |refine Tk ?_
   |(refine zhZ _ _ ?_;simp only [go_sem,Xy,Xx,W3,yF,F0,hcq,hup];(all_goals (first|(rw [hres];done)|(rw [hres];simp only [W3];done))))
   |((all_goals refine Cv (fun k=>k) (fun _ _=>rfl) (by first|rfl|(simp only [go_sem,Xy,Xx,W3,yF,F0,hcq,hup]<;>rfl)) ((n0d ⟨_,_,_⟩ ⟨_,_,_⟩).plain fun _ _ h=>h) ?_);(all_goals (rintro v m ⟨hR,hm⟩;subst hR;subst hm));(all_goals refine yA (by first|rfl|simp only [go_sem,Xy,Xx,W3,yF,F0,hcq,hup]) (yA (by first|rfl|simp only [go_sem,Xy,Xx,W3,yF,F0,hcq,hup]) ?_));(all_goals simp only [go_sem,Xy,Xx,W3,yF,F0,hcq,hup]);(all_goals repeat' (first|apply yA|intro _)))
   |refine Fw fun zN zM zhN zhM=>?_
   |(refine Dk ?_ ?_;focus (first|rfl|(simp [go_sem,Xy,Xx,W3,yF,F0,hcq,hup];done)))
 ·obtain ⟨⟨xa,xb,xc⟩,hx⟩: ∃ x,r0m ⟨qa,qb,qc⟩ 1=x:=⟨_,rfl⟩
  rw [hx] at hcq hup
  simp only [hx,T3.ls,W3]
  rw [up3] at hup
  simp only at hcq hup
  have hres:a0h a r0 r1=c1w ⟨xa,xb,xc⟩:=by rw [←hx,a0h,hl5,a2n];exact congrArg c1w (if_pos hc3)
  rw [c1w,up3,if_pos hup] at hres
  iterate 23 first
   |(refine Lj fun zK zhK=>?_;simp only [go_sem,Xy,Xx,W3,yF,F0,hcq,hup];(repeat' (first|apply yA|intro _)))
   |refine zhK _ ?_
   |(refine zhM _ _ ?_;clear zhN zhM)
   |refine Jv ?_
   |(refine zbx _ ?_;clear zbn zbx zbr zbi)
   |(refine zhN _ ?_;clear zhN zhM)
   |refine Tk ?_
   |(refine zhZ _ _ ?_;simp only [go_sem,Xy,Xx,W3,yF,F0,hcq,hup];(all_goals (first|(rw [hres];done)|(rw [hres];simp only [W3];done))))
   |((all_goals refine Cv (fun k=>k) (fun _ _=>rfl) (by first|rfl|(simp only [go_sem,Xy,Xx,W3,yF,F0,hcq,hup]<;>rfl)) ((n0d ⟨_,_,_⟩ ⟨_,_,_⟩).plain fun _ _ h=>h) ?_);(all_goals (rintro v m ⟨hR,hm⟩;subst hR;subst hm));(all_goals refine yA (by first|rfl|simp only [go_sem,Xy,Xx,W3,yF,F0,hcq,hup]) (yA (by first|rfl|simp only [go_sem,Xy,Xx,W3,yF,F0,hcq,hup]) ?_));(all_goals simp only [go_sem,Xy,Xx,W3,yF,F0,hcq,hup]);(all_goals repeat' (first|apply yA|intro _)))
   |refine Fw fun zN zM zhN zhM=>?_
   |(refine Dk ?_ ?_;focus (first|rfl|(simp [go_sem,Xy,Xx,W3,yF,F0,hcq,hup];done)))
   |(refine Dw ?_ ?_;focus (first|rfl|(simp [go_sem,Xy,Xx,W3,yF,F0,hcq,hup];done)))
 obtain ⟨⟨xa,xb,xc⟩,hx⟩: ∃ x,r0m ⟨qa,qb,qc⟩ 1=x:=⟨_,rfl⟩
 rw [hx] at hcq hup
 simp only [hx,T3.ls,W3]
 rw [up3] at hup
 simp only at hcq hup
 have hres:a0h a r0 r1=c1w ⟨xa,xb,xc⟩:=by rw [←hx,a0h,hl5,a2n];exact congrArg c1w (if_pos hc3)
 rw [c1w,up3,if_neg hup] at hres
 iterate 22 first
  |(refine Lj fun zK zhK=>?_;simp only [go_sem,Xy,Xx,W3,yF,F0,hcq,hup];(repeat' (first|apply yA|intro _)))
  |refine zhK _ ?_
  |(refine zhM _ _ ?_;clear zhN zhM)
  |(refine zhN _ ?_;clear zhN zhM)
  |refine Jv ?_
  |(refine zbx _ ?_;clear zbn zbx zbr zbi)
  |refine Gq ?_
  |refine Tk ?_
  |(refine zhZ _ _ ?_;simp only [go_sem,Xy,Xx,W3,yF,F0,hcq,hup];(all_goals (first|(rw [hres];done)|(rw [hres];simp only [W3];done))))
  |((all_goals refine Cv (fun k=>k) (fun _ _=>rfl) (by first|rfl|(simp only [go_sem,Xy,Xx,W3,yF,F0,hcq,hup]<;>rfl)) ((n0d ⟨_,_,_⟩ ⟨_,_,_⟩).plain fun _ _ h=>h) ?_);(all_goals (rintro v m ⟨hR,hm⟩;subst hR;subst hm));(all_goals refine yA (by first|rfl|simp only [go_sem,Xy,Xx,W3,yF,F0,hcq,hup]) (yA (by first|rfl|simp only [go_sem,Xy,Xx,W3,yF,F0,hcq,hup]) ?_));(all_goals simp only [go_sem,Xy,Xx,W3,yF,F0,hcq,hup]);(all_goals repeat' (first|apply yA|intro _)))
  |refine Fw fun zN zM zhN zhM=>?_
  |(refine Dk ?_ ?_;focus (first|rfl|(simp [go_sem,Xy,Xx,W3,yF,F0,hcq,hup];done)))
end Go.Sy
