/- Walks and what they compute. CONDITIONS: those that each theorem names. -/
import Derived.Test.YtlmbdhfkdhjcfaaDoorvS2
import Derived.Test.YtlmbdhfkdhjcfaaDoorvS1
import Derived.Laws.Externs
import Derived.Test.YtlmbdhfkdhjcfaaDoorvE3
set_option linter.unusedVariables false
set_option linter.unusedSimpArgs false
set_option maxHeartbeats 1600000
set_option maxRecDepth 100000
namespace Go.Sy
def adS (x y c:UInt64):UInt64:=UInt64.ofNat ((x.toNat+y.toNat+c.toNat)%18446744073709551616)
def adC (x y c:UInt64):UInt64:=UInt64.ofNat ((x.toNat+y.toNat+c.toNat)/18446744073709551616)
theorem m0o (x y:UInt64) {c:UInt64} (hc:c.toNat≤1):(adS x y c).toNat+(adC x y c).toNat*18446744073709551616=x.toNat+y.toNat+c.toNat∧(adC x y c).toNat≤1:=by
 have hx:=x.toNat_lt;have hy:=y.toNat_lt
 simp only [adS,adC,UInt64.toNat_ofNat']
 omega
structure T3 where
 a:UInt64
 b:UInt64
 c:UInt64
def mx0 (x:UInt64):UInt64:=x&&&4294967295
def mx1 (x:UInt64):UInt64:=Ux x 32
def s1z (x y:UInt64):UInt64:=mx1 x*mx0 y+Ux (mx0 x*mx0 y) 32
def e0x (x y:UInt64):UInt64:=mx1 x*mx1 y+Ux (s1z x y) 32+Ux (mx0 (s1z x y)+mx0 x*mx1 y) 32
theorem n0m (x:UInt64):(mx0 x).toNat=x.toNat%4294967296:=d1k 32 rfl x
theorem x0z (x:UInt64):(mx1 x).toNat=x.toNat/4294967296:=k0l x 32
theorem l1x (x y:UInt64):(e0x x y).toNat*18446744073709551616+(x*y).toNat=x.toNat*y.toNat∧(e0x x y).toNat≤18446744073709551614:=by
 have hx:=x.toNat_lt;have hy:=y.toNat_lt
 obtain ⟨a0,ha0⟩: ∃ n,(mx0 x).toNat=n:=⟨_,rfl⟩
 obtain ⟨a1,ha1⟩: ∃ n,(mx1 x).toNat=n:=⟨_,rfl⟩
 obtain ⟨b0,hb0⟩: ∃ n,(mx0 y).toNat=n:=⟨_,rfl⟩
 obtain ⟨b1,hb1⟩: ∃ n,(mx1 y).toNat=n:=⟨_,rfl⟩
 have la0:a0≤4294967295:=by rw [←ha0,n0m];omega
 have la1:a1≤4294967295:=by rw [←ha1,x0z];omega
 have lb0:b0≤4294967295:=by rw [←hb0,n0m];omega
 have lb1:b1≤4294967295:=by rw [←hb1,x0z];omega
 have ex:x.toNat=a0+a1*4294967296:=by rw [←ha0,←ha1,n0m,x0z];omega
 have ey:y.toNat=b0+b1*4294967296:=by rw [←hb0,←hb1,n0m,x0z];omega
 have m00:a0*b0≤4294967295*4294967295:=Nat.mul_le_mul la0 lb0
 have m01:a0*b1≤4294967295*4294967295:=Nat.mul_le_mul la0 lb1
 have m10:a1*b0≤4294967295*4294967295:=Nat.mul_le_mul la1 lb0
 have m11:a1*b1≤4294967295*4294967295:=Nat.mul_le_mul la1 lb1
 have e00:(mx0 x*mx0 y).toNat=a0*b0:=by rw [n0n (by rw [ha0,hb0];omega),ha0,hb0]
 have e01:(mx0 x*mx1 y).toNat=a0*b1:=by rw [n0n (by rw [ha0,hb1];omega),ha0,hb1]
 have e10:(mx1 x*mx0 y).toNat=a1*b0:=by rw [n0n (by rw [ha1,hb0];omega),ha1,hb0]
 have e11:(mx1 x*mx1 y).toNat=a1*b1:=by rw [n0n (by rw [ha1,hb1];omega),ha1,hb1]
 have et:(s1z x y).toNat=a1*b0+a0*b0/4294967296:=by
  have e:(Ux (mx0 x*mx0 y) 32).toNat=a0*b0/4294967296:=by rw [k0l,e00]
  rw [s1z,Wy (by rw [e10,e];omega),e10,e]
 have es:(Ux (s1z x y) 32).toNat=(a1*b0+a0*b0/4294967296)/4294967296:=by rw [k0l,et]
 have eu:(mx0 (s1z x y)+mx0 x*mx1 y).toNat=(a1*b0+a0*b0/4294967296)%4294967296+a0*b1:=by
  rw [Wy (by rw [n0m,et,e01];omega),n0m,et,e01]
 have ev:(Ux (mx0 (s1z x y)+mx0 x*mx1 y) 32).toNat=((a1*b0+a0*b0/4294967296)%4294967296+a0*b1)/4294967296:=by rw [k0l,eu]
 have eh:(e0x x y).toNat=a1*b1+(a1*b0+a0*b0/4294967296)/4294967296+((a1*b0+a0*b0/4294967296)%4294967296+a0*b1)/4294967296:=by
  rw [e0x,Wy (by rw [Wy (by rw [e11,es];omega),e11,es,ev];omega),Wy (by rw [e11,es];omega),e11,es,ev]
 have exy:x.toNat*y.toNat=a0*b0+(a0*b1+a1*b0)*4294967296+a1*b1*18446744073709551616:=by
  rw [ex,ey,Nat.add_mul,Nat.mul_add,Nat.mul_add,←Nat.mul_assoc,Nat.mul_right_comm a1 4294967296 b0,Nat.mul_mul_mul_comm a1 4294967296 b1 4294967296]
  omega
 rw [eh,UInt64.toNat_mul,exy]
 generalize a0*b0=p at*
 generalize a0*b1=q at*
 generalize a1*b0=r at*
 generalize a1*b1=s at*
 clear e00 e01 e10 e11 et es eu ev eh exy ex ey hx hy ha0 ha1 hb0 hb1 la0 la1 lb0 lb1
 omega
def stL (x y w k:UInt64):UInt64:=adS (adS (x*y) w 0) k 0
def stK (x y w k:UInt64):UInt64:=e0x x y+adC (x*y) w 0+adC (adS (x*y) w 0) k 0
theorem x1s (x y w k:UInt64):(stL x y w k).toNat+(stK x y w k).toNat*18446744073709551616=x.toNat*y.toNat+w.toNat+k.toNat:=by
 obtain ⟨h1,h2⟩:=l1x x y
 obtain ⟨a1,a2⟩:=m0o (x*y) w (c:=0) (by decide)
 obtain ⟨b1,b2⟩:=m0o (adS (x*y) w 0) k (c:=0) (by decide)
 have z:(0:UInt64).toNat=0:=rfl
 rw [z] at a1 b1
 have hx:=x.toNat_lt;have hy:=y.toNat_lt;have hw:=w.toNat_lt;have hk:=k.toNat_lt
 have hm:x.toNat*y.toNat≤18446744073709551615*18446744073709551615:=Nat.mul_le_mul (by omega) (by omega)
 have e1:(e0x x y+adC (x*y) w 0).toNat=(e0x x y).toNat+(adC (x*y) w 0).toNat:=Wy (by omega)
 have hs:=(adS (adS (x*y) w 0) k 0).toNat_lt
 have e2:(stK x y w k).toNat=(e0x x y).toNat+(adC (x*y) w 0).toNat+(adC (adS (x*y) w 0) k 0).toNat:=by
  rw [stK,Wy (by rw [e1];omega),e1]
 rw [e2,stL]
 generalize x.toNat*y.toNat=m at*
 clear e1 e2 hs hx hy hw hk hm h2 a2 b2 z
 generalize (adS (adS (x*y) w 0) k 0).toNat=v1 at*
 generalize (adC (adS (x*y) w 0) k 0).toNat=v2 at*
 generalize (adS (x*y) w 0).toNat=v3 at*
 generalize (adC (x*y) w 0).toNat=v4 at*
 generalize (e0x x y).toNat=v5 at*
 generalize (x*y).toNat=v6 at*
 generalize w.toNat=v7 at*
 generalize k.toNat=v8 at*
 rw [Nat.add_mul,Nat.add_mul]
 generalize 18446744073709551616=B at*
 generalize v5*B=u5 at*
 generalize v4*B=u4 at*
 generalize v2*B=u2 at*
 omega
def k00 (a:T3) (r0 r1:UInt64):=stK a.a r0 0 0
def k01 (a:T3) (r0 r1:UInt64):=stK a.a r1 0 (k00 a r0 r1)
def w01 (a:T3) (r0 r1:UInt64):=stL a.a r1 0 (k00 a r0 r1)
def k10 (a:T3) (r0 r1:UInt64):=stK a.b r0 (w01 a r0 r1) 0
def w12 (a:T3) (r0 r1:UInt64):=stL a.b r1 (k01 a r0 r1) (k10 a r0 r1)
def k11 (a:T3) (r0 r1:UInt64):=stK a.b r1 (k01 a r0 r1) (k10 a r0 r1)
def k20 (a:T3) (r0 r1:UInt64):=stK a.c r0 (w12 a r0 r1) 0
def q0 (a:T3) (r0 r1:UInt64):=stL a.a r0 0 0
def q1 (a:T3) (r0 r1:UInt64):=stL a.b r0 (w01 a r0 r1) 0
def q2 (a:T3) (r0 r1:UInt64):=stL a.c r0 (w12 a r0 r1) 0
def q3 (a:T3) (r0 r1:UInt64):=stL a.c r1 (k11 a r0 r1) (k20 a r0 r1)
def q4 (a:T3) (r0 r1:UInt64):=stK a.c r1 (k11 a r0 r1) (k20 a r0 r1)
end Go.Sy
namespace Go.Sy
def Hq (B:Nat):List UInt64→Nat
 | []=>0
 |v::r=>v.toNat+B*Hq B r
theorem Xy (B:Nat): ∀ a b:List UInt64,Hq B (a++b)=Hq B a+B ^ a.length*Hq B b
 | [],b=>by simp [Hq]
 |v::a,b=>by
  simp only [List.cons_append,Hq,Xy B a b,List.length_cons,Nat.pow_succ]
  grind
theorem c1y {B:Nat}: ∀ {a:List UInt64},(∀ v∈a,v.toNat<B)→Hq B a<B ^ a.length
 | [],_=>by simp [Hq]
 |v::a,h=>by
  have h1:=h v (by simp)
  have h2:=c1y (a:=a) (fun x hx=>h x (by simp [hx]))
  simp only [Hq,List.length_cons,Nat.pow_succ]
  have h3:B*Hq B a+B≤B*B ^ a.length:=by
   have:=Nat.mul_le_mul_left B (Nat.succ_le_of_lt h2)
   rwa [Nat.mul_succ] at this
  rw [Nat.mul_comm (B ^ a.length) B];omega
theorem x0v {B:Nat}: ∀ {a b:List UInt64},a.length=b.length→(∀ v∈a,v.toNat<B)→(∀ v∈b,v.toNat<B)→Hq B a=Hq B b→a=b
 | [],[],_,_,_,_=>rfl
 |v::a,w::b,hl,ha,hb,he=>by
  simp only [Hq] at he
  have h1:=ha v (by simp)
  have h2:=hb w (by simp)
  have e1:(v.toNat+B*Hq B a)%B=(w.toNat+B*Hq B b)%B:=by rw [he]
  rw [Nat.add_mul_mod_self_left,Nat.add_mul_mod_self_left,Nat.mod_eq_of_lt h1,Nat.mod_eq_of_lt h2] at e1
  have e2:Hq B a=Hq B b:=by
   rw [e1] at he
   have hB:0<B:=by omega
   exact Nat.eq_of_mul_eq_mul_left hB (by omega)
  rw [UInt64.toNat_inj.mp e1,x0v (by simpa using hl) (fun x hx=>ha x (by simp [hx])) (fun x hx=>hb x (by simp [hx])) e2]
def dgL (B n:Nat):Nat→List UInt64
 |0=>[]
 |k+1=>UInt64.ofNat (n%B)::dgL B (n/B) k
theorem o0i (B:Nat): ∀ (n k:Nat),(dgL B n k).length=k
 |_,0=>rfl
 |n,k+1=>by simp [dgL,o0i B]
theorem p1s {B n:Nat} (h0:0<B) (hB:B≤18446744073709551616):(UInt64.ofNat (n%B)).toNat=n%B:=by
 rw [UInt64.toNat_ofNat'];exact Nat.mod_eq_of_lt (by have:=Nat.mod_lt n h0;omega)
theorem z0h {B:Nat} (h0:0<B) (hB:B≤18446744073709551616): ∀ (n k:Nat),∀ v∈dgL B n k,v.toNat<B
 |n,0,v,h=>by simp [dgL] at h
 |n,k+1,v,h=>by
  simp only [dgL,List.mem_cons] at h
  rcases h with rfl|h
  ·rw [p1s h0 hB];exact Nat.mod_lt n h0
  ·exact z0h h0 hB _ k v h
theorem j0r {B:Nat} (h0:0<B) (hB:B≤18446744073709551616): ∀ (k n:Nat),Hq B (dgL B n k)=n%B ^ k
 |0,n=>by simp [dgL,Hq,Nat.mod_one]
 |k+1,n=>by
  simp only [dgL,Hq,p1s h0 hB,j0r h0 hB k]
  rw [Nat.pow_succ,Nat.mul_comm (B ^ k) B,Nat.mod_mul]
theorem p1t {B:Nat} (h0:0<B) (hB:B≤18446744073709551616) {a:List UInt64} (h: ∀ v∈a,v.toNat<B):a=dgL B (Hq B a) a.length:=by
 refine x0v (o0i _ _ _).symm h (z0h h0 hB _ _) ?_
 rw [j0r h0 hB,Nat.mod_eq_of_lt (c1y h)]
def vQ (a b c d:UInt64):Nat:=a.toNat+18446744073709551616*(b.toNat+18446744073709551616*(c.toNat+18446744073709551616*d.toNat))
def w4 (n:Nat):List UInt64:=dgL 18446744073709551616 n 4
def w4C (n:Nat):List L:=Aw (w4 n)
theorem o1s (a b c d:UInt64):Hq 18446744073709551616 [a,b,c,d]=vQ a b c d:=by
 simp [Hq,vQ]
theorem a0c (a b c d:UInt64):vQ a b c d<115792089237316195423570985008687907853269984665640564039457584007913129639936:=by
 have:=a.toNat_lt;have:=b.toNat_lt;have:=c.toNat_lt;have:=d.toNat_lt
 unfold vQ;omega
theorem z0z (a b c d:UInt64): [a,b,c,d]=w4 (vQ a b c d):=by
 rw [←o1s]
 exact p1t (by decide) (by decide) (fun v _=>v.toNat_lt)
theorem w1p {a b c d:UInt64} {n:Nat} (h:vQ a b c d=n): [a,b,c,d]=w4 n:=by rw [←h];exact z0z a b c d
theorem Dz (n:Nat) (hn:n<115792089237316195423570985008687907853269984665640564039457584007913129639936): ∃ a b c d,w4 n=[a,b,c,d]∧vQ a b c d=n:=by
 refine ⟨UInt64.ofNat (n%18446744073709551616),UInt64.ofNat (n/18446744073709551616%18446744073709551616),UInt64.ofNat (n/18446744073709551616/18446744073709551616%18446744073709551616),UInt64.ofNat (n/18446744073709551616/18446744073709551616/18446744073709551616%18446744073709551616),rfl,?_⟩
 rw [←o1s]
 show Hq 18446744073709551616 (w4 n)=n
 rw [w4,j0r (by decide) (by decide)];exact Nat.mod_eq_of_lt hn
def sbS (x y c:UInt64):UInt64:=UInt64.ofNat ((x.toNat+18446744073709551616-y.toNat-c.toNat)%18446744073709551616)
def sbB (x y c:UInt64):UInt64:=if x.toNat<y.toNat+c.toNat then 1 else 0
theorem y0h (x y:UInt64) {c:UInt64} (hc:c.toNat≤1):(sbS x y c).toNat+y.toNat+c.toNat=x.toNat+18446744073709551616*(sbB x y c).toNat∧(sbB x y c).toNat≤1:=by
 have hx:=x.toNat_lt;have hy:=y.toNat_lt
 simp only [sbS,sbB,UInt64.toNat_ofNat']
 have o1:(1:UInt64).toNat=1:=rfl
 have o0:(0:UInt64).toNat=0:=rfl
 split
 ·rw [o1];omega
 ·rw [o0];omega
section
variable (a b c d e f g h:UInt64)
def sk1 :=sbB a e 0
def sk2 :=sbB b f (sk1 a e)
def sk3 :=sbB c g (sk2 a b e f)
def sk4 :=sbB d h (sk3 a b c e f g)
theorem y0d :vQ (sbS a e 0) (sbS b f (sk1 a e)) (sbS c g (sk2 a b e f)) (sbS d h (sk3 a b c e f g))+vQ e f g h=vQ a b c d+115792089237316195423570985008687907853269984665640564039457584007913129639936*(sk4 a b c d e f g h).toNat∧(sk4 a b c d e f g h).toNat≤1:=by
 obtain ⟨a1,a2⟩:=y0h a e (c:=0) (by decide)
 obtain ⟨b1,b2⟩:=y0h b f (c:=sk1 a e) a2
 obtain ⟨c1,c2⟩:=y0h c g (c:=sk2 a b e f) b2
 obtain ⟨d1,d2⟩:=y0h d h (c:=sk3 a b c e f g) c2
 have z:(0:UInt64).toNat=0:=rfl
 rw [z] at a1
 refine ⟨?_,d2⟩
 simp only [vQ]
 change (sbS a e 0).toNat+e.toNat+0=a.toNat+18446744073709551616*(sk1 a e).toNat at a1
 change _=b.toNat+18446744073709551616*(sk2 a b e f).toNat at b1
 change _=c.toNat+18446744073709551616*(sk3 a b c e f g).toNat at c1
 change _=d.toNat+18446744073709551616*(sk4 a b c d e f g h).toNat at d1
 omega
theorem s1h (x:UInt64) (hx:x.toNat≤1):(x=1)↔x.toNat=1:=by
 constructor
 ·rintro rfl;rfl
 ·intro h;exact UInt64.toNat_inj.mp h
theorem q1t :(sk4 a b c d e f g h=1)↔vQ a b c d<vQ e f g h:=by
 obtain ⟨h1,h2⟩:=y0d a b c d e f g h
 have h3:=a0c (sbS a e 0) (sbS b f (sk1 a e)) (sbS c g (sk2 a b e f)) (sbS d h (sk3 a b c e f g))
 have h4:=a0c e f g h
 rw [s1h _ h2]
 omega
theorem q1s : [sbS a e 0,sbS b f (sk1 a e),sbS c g (sk2 a b e f),sbS d h (sk3 a b c e f g)]=w4 ((vQ a b c d+115792089237316195423570985008687907853269984665640564039457584007913129639936-vQ e f g h)%115792089237316195423570985008687907853269984665640564039457584007913129639936):=by
 refine w1p ?_
 obtain ⟨h1,h2⟩:=y0d a b c d e f g h
 have h3:=a0c (sbS a e 0) (sbS b f (sk1 a e)) (sbS c g (sk2 a b e f)) (sbS d h (sk3 a b c e f g))
 have h4:=a0c e f g h
 have h5:=a0c a b c d
 omega
def ak1 :=adC a e 0
def ak2 :=adC b f (ak1 a e)
def ak3 :=adC c g (ak2 a b e f)
def ak4 :=adC d h (ak3 a b c e f g)
theorem h0g :vQ (adS a e 0) (adS b f (ak1 a e)) (adS c g (ak2 a b e f)) (adS d h (ak3 a b c e f g))+115792089237316195423570985008687907853269984665640564039457584007913129639936*(ak4 a b c d e f g h).toNat=vQ a b c d+vQ e f g h∧(ak4 a b c d e f g h).toNat≤1:=by
 obtain ⟨a1,a2⟩:=m0o a e (c:=0) (by decide)
 obtain ⟨b1,b2⟩:=m0o b f (c:=ak1 a e) a2
 obtain ⟨c1,c2⟩:=m0o c g (c:=ak2 a b e f) b2
 obtain ⟨d1,d2⟩:=m0o d h (c:=ak3 a b c e f g) c2
 have z:(0:UInt64).toNat=0:=rfl
 rw [z] at a1
 refine ⟨?_,d2⟩
 simp only [vQ]
 change _+(ak1 a e).toNat*_=_ at a1
 change _+(ak2 a b e f).toNat*_=_ at b1
 change _+(ak3 a b c e f g).toNat*_=_ at c1
 change _+(ak4 a b c d e f g h).toNat*_=_ at d1
 omega
end
def p25 :Nat:=57896044618658097711785492504343953926634992332820282019728792003956564819949
end Go.Sy
namespace Go.Sy
namespace Lk
open Go.Proofs
attribute [local irreducible] Dv HT Cz Px onC onE onO onG goV goA goS Qx Dw
theorem Dy (x y c:UInt64) (hc:c.toNat≤1):Now Tryd.prog 57 [.w (.one (.pl (.u64 x))),.w (.one (.pl (.u64 y))),.w (.one (.pl (.u64 c)))] (.tup [.one (.pl (.u64 (adS x y c))),.one (.pl (.u64 (adC x y c)))]):=by
 refine ⟨fun k=>rfl,fun w d vals h=>?_⟩
 have hv:vals= #[.int .u64 x.toNat,.int .u64 y.toNat,.int .u64 c.toNat]:=by
  obtain ⟨l⟩:=vals
  simp only at h
  cases h with
  |cons h1 h=>
   cases h with
   |cons h2 h=>
    cases h with
    |cons h3 h=>
     cases h
     simp only [V.den,W.den,L.den] at h1 h2 h3
     rw [PL.den] at h1 h2 h3
     rw [h1,h2,h3]
 subst hv
 have hr:=run_callFunc_extern (P:=Tryd.prog) Tryd.func57 (by kernel_rfl) (by kernel_rfl) (by kernel_rfl) (e:=add64Entry) (by kernel_rfl) #[.int .u64 x.toNat,.int .u64 y.toNat,.int .u64 c.toNat] w
 rw [run_add64 (x.toNat:Int) (y.toNat:Int) (c.toNat:Int) (by omega) (by omega) (by omega) (by omega)] at hr
 refine ⟨_,hr,fun d'=>⟨_,rfl,?_⟩⟩
 have hx:=x.toNat_lt
 have hy:=y.toNat_lt
 refine .cons ?_ (.cons ?_ .nil)
 · simp only [W.den,L.den]
   rw [PL.den]
   simp only [adS,UInt64.toNat_ofNat']
   congr 1;omega
 · simp only [W.den,L.den]
   rw [PL.den]
   simp only [adC,UInt64.toNat_ofNat']
   congr 1;omega
def y0c :Array Value→Sem Value:=fun args=>do
 let (x,y,b) ←Extern.MathBitsCarry.three "Sub64" args
 pure (Extern.MathBitsCarry.pair ((x+Extern.MathBitsCarry.m64-y-b)%Extern.MathBitsCarry.m64) (if x<y+b then 1 else 0))
theorem run_sub64 {P:Program} (x y c:Nat) (hc:c≤1) (w:World):
 (y0c #[.int .u64 (x:Int),.int .u64 (y:Int),.int .u64 (c:Int)]).run P w=.ok (Extern.MathBitsCarry.pair ((x+Extern.MathBitsCarry.m64-y-c)%Extern.MathBitsCarry.m64) (if x<y+c then 1 else 0)) w:=by
 have:c=0∨c=1:=by omega
 rcases this with rfl|rfl<;>rfl
theorem f1d (x y c:UInt64) (hc:c.toNat≤1):Now Tryd.prog 68 [.w (.one (.pl (.u64 x))),.w (.one (.pl (.u64 y))),.w (.one (.pl (.u64 c)))] (.tup [.one (.pl (.u64 (sbS x y c))),.one (.pl (.u64 (sbB x y c)))]):=by
 refine ⟨fun k=>rfl,fun w d vals h=>?_⟩
 have hv:vals= #[.int .u64 x.toNat,.int .u64 y.toNat,.int .u64 c.toNat]:=by
  obtain ⟨l⟩:=vals
  simp only at h
  cases h with
  |cons h1 h=>
   cases h with
   |cons h2 h=>
    cases h with
    |cons h3 h=>
     cases h
     simp only [V.den,W.den,L.den] at h1 h2 h3
     rw [PL.den] at h1 h2 h3
     rw [h1,h2,h3]
 subst hv
 have hr:=run_callFunc_extern (P:=Tryd.prog) Tryd.func68 (by kernel_rfl) (by kernel_rfl) (by kernel_rfl) (e:=y0c) (by kernel_rfl) #[.int .u64 x.toNat,.int .u64 y.toNat,.int .u64 c.toNat] w
 rw [run_sub64 x.toNat y.toNat c.toNat hc] at hr
 refine ⟨_,hr,fun d'=>⟨_,rfl,?_⟩⟩
 have hx:=x.toNat_lt
 have hy:=y.toNat_lt
 refine .cons ?_ (.cons ?_ .nil)
 · simp only [W.den,L.den]
   rw [PL.den]
   simp only [sbS,UInt64.toNat_ofNat']
   rw [Nat.mod_eq_of_lt (show _%18446744073709551616<2 ^ 64 from Nat.mod_lt _ (by decide))];rfl
 · simp only [W.den,L.den]
   rw [PL.den]
   simp only [sbB]
   split<;>rfl
end Lk
end Go.Sy
namespace Go.Sy
namespace Lk
open Go.Proofs
attribute [local irreducible] Dv HT Cz Px onC onE onO onG goV goA goS Qx Dw
theorem c2m (x y c:UInt64):(sbB x y c).toNat≤1:=by
 unfold sbB;split<;>decide
theorem Iy {x y c:UInt64} (h:c.toNat≤1):(adC x y c).toNat≤1:=(m0o x y h).2
theorem m1j (a b c d e f g h:UInt64):V.tup [.agg [.pl (.u64 (sbS a e 0)),.pl (.u64 (sbS b f (sk1 a e))),.pl (.u64 (sbS c g (sk2 a b e f))),.pl (.u64 (sbS d h (sk3 a b c e f g)))],.one (.pl (.b (decide (sk4 a b c d e f g h=1))))]=.tup [.agg (w4C ((vQ a b c d+115792089237316195423570985008687907853269984665640564039457584007913129639936-vQ e f g h)%115792089237316195423570985008687907853269984665640564039457584007913129639936)),.one (.pl (.b (decide (vQ a b c d<vQ e f g h))))]:=by
 rw [w4C,←q1s]
 have:=q1t a b c d e f g h
 rw [decide_eq_decide.mpr this];rfl
theorem m1k (a b c d e f g h:UInt64):
 Ct Tryd.prog 53 [.w (.agg [.pl (.u64 a),.pl (.u64 b),.pl (.u64 c),.pl (.u64 d)]),.w (.agg [.pl (.u64 e),.pl (.u64 f),.pl (.u64 g),.pl (.u64 h)])] (fun v m=>v=.tup [.agg (w4C ((vQ a b c d+115792089237316195423570985008687907853269984665640564039457584007913129639936-vQ e f g h)%115792089237316195423570985008687907853269984665640564039457584007913129639936)),.one (.pl (.b (decide (vQ a b c d<vQ e f g h))))]):=by
 refine Ct.k Tryd.func53 rfl Tryd.ntmps53 (congrArg Array.toList Tryd.results53) (by simp) fun w0 ro=>?_
 refine Dj fun zZ zhZ=>?_
 iterate 99 first
  |(refine Cv (x:=.seq (.region 3 _ _) _) [7,9,10,11,12,13,14,15,16,17,18,19,20,21,22,23,24] ?_;simp only [go_sem,St.forget,fgt];refine Fq fun zN zM zhN zhM=>?_)
  |refine Fq fun zN zM zhN zhM=>?_
  |refine zhK _ ?_
  |(refine Cx fun zK zhK=>?_;simp only [go_sem];(repeat' (first|apply And.intro|intro _)))
  |(refine zhN _ ?_;clear zhN zhM)
  |refine Aj fun zB zbn zbx zbr zbi=>?_
  |refine Cw ?_
  |(refine Vw (id:=5) [12,13,14,15,16,17,18,19,20,11,21,22,23,6] [0,0,2,6,0,16,48,0,254,510,1022,1022,2047,6143,16383] [(11,13)] mixed (by kernel_rfl) (by simp only [go_sem]) fun zK zhK=>?_;simp only [go_sem];(repeat' (first|apply And.intro|intro _)))
  |(refine zhK _ _ ?_ ?_;(focus (first|trivial|(simp only [go_sem];done)|(simp only [go_sem];simp;done)|(simp only [go_sem];simp;simp only [go_sem]))))
  |(refine zbn _ ?_;clear zbn zbx zbr zbi)
  |(refine Av fun zK zhK=>?_;simp only [go_sem];(repeat' (first|apply And.intro|intro _)))
  |(refine zhM _ _ ?_;clear zhN zhM)
  |refine Fx (x:=.seq (.region 3 _ _) _) 5 ?_
  |refine Ey ?_
  |(refine zbx _ ?_;clear zbn zbx zbr zbi)
  |refine Dx ?_
  |(refine zhZ _ _ ?_;simp only [go_sem];(all_goals (exact m1j a b c d e f g h)))
  |((all_goals refine a0b (by first|rfl|(simp only [go_sem]<;>rfl)) (f1d _ _ _ (by first|decide|exact c2m _ _ _)) ?_);(all_goals simp only [go_sem]);(all_goals repeat' (first|apply And.intro|intro _)))
  |refine Bz fun zN zM zhN zhM=>?_
  |(refine Bv ?_ ?_;focus (first|rfl|(simp [go_sem];done)))
  |(refine Cy ?_ ?_;focus (first|rfl|(simp [go_sem];done)))
theorem o0y :vQ 18446744073709551597 18446744073709551615 18446744073709551615 9223372036854775807=p25:=by decide+kernel
theorem below_ (a b c d:UInt64):
 CtM Tryd.prog 41 [.w (.agg [.pl (.u64 a),.pl (.u64 b),.pl (.u64 c),.pl (.u64 d)])] [(1000001,⟨false,[.pl (.u64 18446744073709551597),.pl (.u64 18446744073709551615),.pl (.u64 18446744073709551615),.pl (.u64 9223372036854775807)]⟩)] (Told (fun v m=>v=.w (.one (.pl (.b (decide (vQ a b c d<p25)))))∧m=[])):=by
 have hL:=m1k a b c d 18446744073709551597 18446744073709551615 18446744073709551615 9223372036854775807
 rw [o0y] at hL
 obtain ⟨k0,k1,k2,k3,hk,_⟩:=Dz ((vQ a b c d+115792089237316195423570985008687907853269984665640564039457584007913129639936-p25)%115792089237316195423570985008687907853269984665640564039457584007913129639936) (Nat.mod_lt _ (by decide))
 rw [w4C,hk] at hL
 refine CtM.k Tryd.func41 rfl Tryd.ntmps41 (congrArg Array.toList Tryd.results41) (by simp) fun w0 ro may fx=>?_
 refine Dj fun zZ zhZ=>?_
 iterate 9 first
  |(refine Cx fun zK zhK=>?_;simp only [go_sem,Aw];(repeat' (first|apply And.intro|intro _)))
  |refine zhK _ ?_
  |refine Dx ?_
  |(refine zhZ _ _ ?_;simp only [go_sem,Aw];(all_goals (exact told_plain rfl ⟨rfl,rfl⟩)))
  |((all_goals (refine Cq (fun k=>k) (fun _ _=>rfl) ?_ ((hL).plain fun _ _ h=>h) ?_;focus (first|rfl|(simp only [go_sem,Aw]<;>rfl))));(all_goals (rintro v m ⟨hR,hm⟩;subst hR;subst hm));(all_goals refine And.intro (by first|rfl|simp only [go_sem,Aw]) (And.intro (by first|rfl|simp only [go_sem,Aw]) ?_));(all_goals simp only [go_sem,Aw]);(all_goals repeat' (first|apply And.intro|intro _)))
end Lk
end Go.Sy
namespace Go.Sy
namespace Lk
open Go.Proofs
attribute [local irreducible] Dv HT Cz Px onC onE onO onG goV goA goS Qx Dw
theorem k0z :p25=57896044618658097711785492504343953926634992332820282019728792003956564819949:=rfl
theorem c2j {m:Nat} (h:p25≤m) (hm:m<115792089237316195423570985008687907853269984665640564039457584007913129639936):(m+115792089237316195423570985008687907853269984665640564039457584007913129639936-p25)%115792089237316195423570985008687907853269984665640564039457584007913129639936=m-p25:=by
 have:=k0z;omega
theorem p0c (a b c d:UInt64):
 CtM Tryd.prog 37 [.w (.agg [.pl (.u64 a),.pl (.u64 b),.pl (.u64 c),.pl (.u64 d)])] [(1000001,⟨false,[.pl (.u64 18446744073709551597),.pl (.u64 18446744073709551615),.pl (.u64 18446744073709551615),.pl (.u64 9223372036854775807)]⟩)] (Told (fun v m=>v=.w (.agg (w4C (vQ a b c d%p25)))∧m=[])):=by
 refine CtM.k Tryd.func37 rfl Tryd.ntmps37 (congrArg Array.toList Tryd.results37) (by simp) fun w0 ro may fx=>?_
 refine Dj fun zZ zhZ=>?_
 refine Cx fun zK zhK=>?_
 simp only [go_sem]
 repeat' (first|apply And.intro|intro _)
 refine zhK _ ?_
 refine Bz fun zN zM zhN zhM=>?_
 refine Aj fun zB zbn zbx zbr zbi=>?_
 refine Gv [0] ?_
 simp only [Gj,Iq,Gq,List.contains_cons,List.contains_nil,Nat.reduceBEq,beq_self_eq_true,Bool.or_false,Bool.or_true,Bool.true_or,Bool.false_or,Bool.false_eq_true,reduceIte]
 refine Jz (fun y=>[]) (fun y=>[(1,⟨false,w4C y.1⟩)]) (fun y=>y.1) (⟨vQ a b c d,a0c a b c d,rfl⟩:{m:Nat//m<115792089237316195423570985008687907853269984665640564039457584007913129639936∧m%p25=vQ a b c d%p25}) ?_ ?_ ?_
 · (simp only [go_sem,leX,List.cons_append,List.nil_append];try simp)
 · (simp only [w4C,←z0z,Aw,List.map_cons,List.map_nil,go_sem,leX,List.cons_append,List.nil_append];try simp [leX,look])
 intro yy zN zM zhN zhM
 simp only [List.cons_append,List.nil_append]
 obtain ⟨m,hm,hmp⟩:=yy
 obtain ⟨q0,q1,q2,q3,hq,hv⟩:=Dz m hm
 have hB:=below_ q0 q1 q2 q3
 rw [hv] at hB
 simp only [w4C,hq,Aw,List.map_cons,List.map_nil]
 rcases Nat.lt_or_ge m p25 with hlt|hge
 · rw [decide_eq_true hlt] at hB
   have hfin:w4C (vQ a b c d%p25)=Aw [q0,q1,q2,q3]:=by rw [←hmp,Nat.mod_eq_of_lt hlt,w4C,hq]
   refine Bz fun zN zM zhN zhM=>?_
   refine Cx fun zK zhK=>?_
   simp only [go_sem]
   repeat' (first|apply And.intro|intro _)
   all_goals (refine Bq false [] (fun k=>k) (fun _ _=>rfl) ?_ (by decide) ?_ hB.told ?_;iterate 2 (focus (first|rfl|(simp only [go_sem]<;>first|done|rfl|simp))))
   all_goals (rintro v m ⟨hR,hm⟩;subst hR;subst hm)
   all_goals (refine And.intro ?_ (And.intro ?_ (And.intro ?_ ?_));iterate 3 (focus (first|rfl|(simp only [go_sem];done)|(simp [go_sem,look];done))))
   all_goals (try simp only [go_sem])
   all_goals (try simp only [go_sem])
   all_goals repeat' (first|apply And.intro|intro _)
   refine zhK _ ?_
   (refine Cy ?_ ?_;focus (first|rfl|(simp [go_sem];done)))
   refine Ey ?_
   refine zhM _ _ ?_;clear zhN zhM
   refine zhM _ _ ?_;clear zhN zhM
   refine zbx _ ?_;clear zbn zbx zbr zbi
   refine zhN _ ?_;clear zhN zhM
   refine Cx fun zK zhK=>?_
   simp only [go_sem]
   repeat' (first|apply And.intro|intro _)
   refine zhK _ ?_
   refine Dx ?_
   refine zhZ _ _ ?_
   simp only [go_sem]
   all_goals (exact told_plain (by simp [Fj,Hz]) ⟨by rw [hfin];rfl,rfl⟩)
 · rw [decide_eq_false (by omega)] at hB
   have hL:=m1k q0 q1 q2 q3 18446744073709551597 18446744073709551615 18446744073709551615 9223372036854775807
   rw [o0y,hv,c2j hge hm] at hL
   have hm2:m-p25<115792089237316195423570985008687907853269984665640564039457584007913129639936:=by omega
   obtain ⟨k0,k1,k2,k3,hk,hkv⟩:=Dz (m-p25) hm2
   rw [w4C,hk] at hL
   have hmp2:(m-p25)%p25=vQ a b c d%p25:=by rw [←hmp,Nat.mod_eq_sub_mod hge]
   have hdec:m-p25<m:=Nat.sub_lt (by have:=k0z;omega) (by decide)
   refine Bz fun zN zM zhN zhM=>?_
   refine Cx fun zK zhK=>?_
   simp only [go_sem,Aw]
   repeat' (first|apply And.intro|intro _)
   all_goals (refine Bq false [] (fun k=>k) (fun _ _=>rfl) ?_ (by decide) ?_ hB.told ?_;iterate 2 (focus (first|rfl|(simp only [go_sem,Aw]<;>first|done|rfl|simp))))
   all_goals (rintro v m ⟨hR,hm⟩;subst hR;subst hm)
   all_goals (refine And.intro ?_ (And.intro ?_ (And.intro ?_ ?_));iterate 3 (focus (first|rfl|(simp only [go_sem,Aw];done)|(simp [go_sem,look,Aw];done))))
   all_goals (try simp only [go_sem,Aw])
   all_goals (try simp only [go_sem,Aw])
   all_goals repeat' (first|apply And.intro|intro _)
   refine zhK _ ?_
   (refine Bv ?_ ?_;focus (first|rfl|(simp [go_sem,Aw];done)))
   refine Cw ?_
   refine zhN _ ?_;clear zhN zhM
   refine Aj fun zB zbn zbx zbr zbi=>?_
   refine Av fun zK zhK=>?_
   simp only [go_sem,Aw]
   repeat' (first|apply And.intro|intro _)
   all_goals (refine Cq (fun k=>k) (fun _ _=>rfl) ?_ ((hL).plain fun _ _ h=>h) ?_;focus (first|rfl|(simp only [go_sem,Aw]<;>rfl)))
   all_goals (rintro v m ⟨hR,hm⟩;subst hR;subst hm)
   all_goals refine And.intro (by first|rfl|simp only [go_sem,Aw]) (And.intro (by first|rfl|simp only [go_sem,Aw]) ?_)
   all_goals simp only [go_sem,Aw]
   all_goals repeat' (first|apply And.intro|intro _)
   refine zhK _ ?_
   refine zbn _ ?_;clear zbn zbx zbr zbi
   refine zhN ⟨m-p25,hm2,hmp2⟩ _ ?_ ?_ ?_
   · (exact hdec)
   · (simp only [go_sem,leX,List.cons_append,List.nil_append];try simp)
   · (simp only [w4C,hk,Aw,List.map_cons,List.map_nil,go_sem,leX,List.cons_append,List.nil_append];first|done|rfl|(simp [leX,look];done))
theorem b2c (a b c d e f g h:UInt64) (h1:vQ a b c d<p25) (h2:vQ e f g h<p25) (r:Nat) (hr:r<p25) (hop:CtM Tryd.prog 69 [.w (.agg [.pl (.u64 a),.pl (.u64 b),.pl (.u64 c),.pl (.u64 d)]),.w (.agg [.pl (.u64 e),.pl (.u64 f),.pl (.u64 g),.pl (.u64 h)])] [(1000001,⟨false,[.pl (.u64 18446744073709551597),.pl (.u64 18446744073709551615),.pl (.u64 18446744073709551615),.pl (.u64 9223372036854775807)]⟩)] (Told (fun v m=>v=.w (.agg (w4C r))∧m=[]))):
 CtM Tryd.prog 59 [.w (.one (.fn 69 [])),.w (.agg [.pl (.u64 a),.pl (.u64 b),.pl (.u64 c),.pl (.u64 d)]),.w (.agg [.pl (.u64 e),.pl (.u64 f),.pl (.u64 g),.pl (.u64 h)])] [(1000001,⟨false,[.pl (.u64 18446744073709551597),.pl (.u64 18446744073709551615),.pl (.u64 18446744073709551615),.pl (.u64 9223372036854775807)]⟩)] (Told (fun v m=>v=.tup [.agg (w4C r),.one (.pl (.i 0))]∧m=[])):=by
 have hA:=below_ a b c d
 have hB:=below_ e f g h
 rw [decide_eq_true h1] at hA
 rw [decide_eq_true h2] at hB
 obtain ⟨q0,q1,q2,q3,hq,hv⟩:=Dz r (by have:=k0z;omega)
 simp only [w4C,hq] at hop ⊢
 refine CtM.k Tryd.func59 rfl Tryd.ntmps59 (congrArg Array.toList Tryd.results59) (by simp) fun w0 ro may fx=>?_
 refine Dj fun zZ zhZ=>?_
 refine Cx fun zK zhK=>?_
 simp only [go_sem,Aw]
 repeat' (first|apply And.intro|intro _)
 refine zhK _ ?_
 refine Bz fun zN zM zhN zhM=>?_
 refine Cx fun zK zhK=>?_
 simp only [go_sem,Aw]
 repeat' (first|apply And.intro|intro _)
 all_goals (refine Bq false [] (fun k=>k) (fun _ _=>rfl) ?_ (by decide) ?_ hA.told ?_;iterate 2 (focus (first|rfl|(simp only [go_sem,Aw]<;>first|done|rfl|simp))))
 all_goals (rintro v m ⟨hR,hm⟩;subst hR;subst hm)
 all_goals (refine And.intro ?_ (And.intro ?_ (And.intro ?_ ?_));iterate 3 (focus (first|rfl|(simp only [go_sem,Aw];done)|(simp [go_sem,look,Aw];done))))
 all_goals (try simp only [go_sem,Aw])
 all_goals (try simp only [go_sem,Aw])
 all_goals repeat' (first|apply And.intro|intro _)
 all_goals (refine Bq false [] (fun k=>k) (fun _ _=>rfl) ?_ (by decide) ?_ hB.told ?_;iterate 2 (focus (first|rfl|(simp only [go_sem,Aw]<;>first|done|rfl|simp))))
 all_goals (rintro v m ⟨hR,hm⟩;subst hR;subst hm)
 all_goals (refine And.intro ?_ (And.intro ?_ (And.intro ?_ ?_));iterate 3 (focus (first|rfl|(simp only [go_sem,Aw];done)|(simp [go_sem,look,Aw];done))))
 all_goals (try simp only [go_sem,Aw])
 all_goals (try simp only [go_sem,Aw])
 all_goals repeat' (first|apply And.intro|intro _)
 refine zhK _ ?_
 (refine Cy ?_ ?_;focus (first|rfl|(simp [go_sem,Aw];done)))
 refine Cw ?_
 refine zhN _ ?_;clear zhN zhM
 refine Cx fun zK zhK=>?_
 simp only [go_sem,Aw]
 repeat' (first|apply And.intro|intro _)
 all_goals (refine f0i (caps:=[]) false [] (fun k=>k) ?_ ?_ (fun _ _=>rfl) ?_ (by decide) ?_ (show CtM Tryd.prog 69 ([.w (.agg [.pl (.u64 a),.pl (.u64 b),.pl (.u64 c),.pl (.u64 d)]),.w (.agg [.pl (.u64 e),.pl (.u64 f),.pl (.u64 g),.pl (.u64 h)])]++([]:List Nat).map fun k=>V.w (.one (.p k []))) _ _ from hop.told) ?_;iterate 4 (focus (first|rfl|(simp only [go_sem,Aw]<;>first|done|rfl|simp))))
 all_goals (rintro v m ⟨hR,hm⟩;subst hR;subst hm)
 all_goals (refine And.intro ?_ (And.intro ?_ (And.intro ?_ ?_));iterate 3 (focus (first|rfl|(simp only [go_sem,Aw];done)|(simp [go_sem,look,Aw];done))))
 all_goals (try simp only [go_sem,Aw])
 all_goals (try simp only [go_sem,Aw])
 all_goals repeat' (first|apply And.intro|intro _)
 refine zhK _ ?_
 refine Dx ?_
 refine zhZ _ _ ?_
 simp only [go_sem,Aw]
 all_goals (exact told_plain (by simp [Fj,Hz]) ⟨rfl,rfl⟩)
theorem b2a (a b c d e f g h:UInt64) (h1:vQ a b c d<p25) (h2:vQ e f g h<p25) (r:Nat) (hr:r<p25) (hop:CtM Tryd.prog 70 [.w (.agg [.pl (.u64 a),.pl (.u64 b),.pl (.u64 c),.pl (.u64 d)]),.w (.agg [.pl (.u64 e),.pl (.u64 f),.pl (.u64 g),.pl (.u64 h)])] [(1000001,⟨false,[.pl (.u64 18446744073709551597),.pl (.u64 18446744073709551615),.pl (.u64 18446744073709551615),.pl (.u64 9223372036854775807)]⟩)] (Told (fun v m=>v=.w (.agg (w4C r))∧m=[]))):
 CtM Tryd.prog 59 [.w (.one (.fn 70 [])),.w (.agg [.pl (.u64 a),.pl (.u64 b),.pl (.u64 c),.pl (.u64 d)]),.w (.agg [.pl (.u64 e),.pl (.u64 f),.pl (.u64 g),.pl (.u64 h)])] [(1000001,⟨false,[.pl (.u64 18446744073709551597),.pl (.u64 18446744073709551615),.pl (.u64 18446744073709551615),.pl (.u64 9223372036854775807)]⟩)] (Told (fun v m=>v=.tup [.agg (w4C r),.one (.pl (.i 0))]∧m=[])):=by
 have hA:=below_ a b c d
 have hB:=below_ e f g h
 rw [decide_eq_true h1] at hA
 rw [decide_eq_true h2] at hB
 obtain ⟨q0,q1,q2,q3,hq,hv⟩:=Dz r (by have:=k0z;omega)
 simp only [w4C,hq] at hop ⊢
 refine CtM.k Tryd.func59 rfl Tryd.ntmps59 (congrArg Array.toList Tryd.results59) (by simp) fun w0 ro may fx=>?_
 refine Dj fun zZ zhZ=>?_
 refine Cx fun zK zhK=>?_
 simp only [go_sem,Aw]
 repeat' (first|apply And.intro|intro _)
 refine zhK _ ?_
 refine Bz fun zN zM zhN zhM=>?_
 refine Cx fun zK zhK=>?_
 simp only [go_sem,Aw]
 repeat' (first|apply And.intro|intro _)
 all_goals (refine Bq false [] (fun k=>k) (fun _ _=>rfl) ?_ (by decide) ?_ hA.told ?_;iterate 2 (focus (first|rfl|(simp only [go_sem,Aw]<;>first|done|rfl|simp))))
 all_goals (rintro v m ⟨hR,hm⟩;subst hR;subst hm)
 all_goals (refine And.intro ?_ (And.intro ?_ (And.intro ?_ ?_));iterate 3 (focus (first|rfl|(simp only [go_sem,Aw];done)|(simp [go_sem,look,Aw];done))))
 all_goals (try simp only [go_sem,Aw])
 all_goals (try simp only [go_sem,Aw])
 all_goals repeat' (first|apply And.intro|intro _)
 all_goals (refine Bq false [] (fun k=>k) (fun _ _=>rfl) ?_ (by decide) ?_ hB.told ?_;iterate 2 (focus (first|rfl|(simp only [go_sem,Aw]<;>first|done|rfl|simp))))
 all_goals (rintro v m ⟨hR,hm⟩;subst hR;subst hm)
 all_goals (refine And.intro ?_ (And.intro ?_ (And.intro ?_ ?_));iterate 3 (focus (first|rfl|(simp only [go_sem,Aw];done)|(simp [go_sem,look,Aw];done))))
 all_goals (try simp only [go_sem,Aw])
 all_goals (try simp only [go_sem,Aw])
 all_goals repeat' (first|apply And.intro|intro _)
 refine zhK _ ?_
 (refine Cy ?_ ?_;focus (first|rfl|(simp [go_sem,Aw];done)))
 refine Cw ?_
 refine zhN _ ?_;clear zhN zhM
 refine Cx fun zK zhK=>?_
 simp only [go_sem,Aw]
 repeat' (first|apply And.intro|intro _)
 all_goals (refine f0i (caps:=[]) false [] (fun k=>k) ?_ ?_ (fun _ _=>rfl) ?_ (by decide) ?_ (show CtM Tryd.prog 70 ([.w (.agg [.pl (.u64 a),.pl (.u64 b),.pl (.u64 c),.pl (.u64 d)]),.w (.agg [.pl (.u64 e),.pl (.u64 f),.pl (.u64 g),.pl (.u64 h)])]++([]:List Nat).map fun k=>V.w (.one (.p k []))) _ _ from hop.told) ?_;iterate 4 (focus (first|rfl|(simp only [go_sem,Aw]<;>first|done|rfl|simp))))
 all_goals (rintro v m ⟨hR,hm⟩;subst hR;subst hm)
 all_goals (refine And.intro ?_ (And.intro ?_ (And.intro ?_ ?_));iterate 3 (focus (first|rfl|(simp only [go_sem,Aw];done)|(simp [go_sem,look,Aw];done))))
 all_goals (try simp only [go_sem,Aw])
 all_goals (try simp only [go_sem,Aw])
 all_goals repeat' (first|apply And.intro|intro _)
 refine zhK _ ?_
 refine Dx ?_
 refine zhZ _ _ ?_
 simp only [go_sem,Aw]
 all_goals (exact told_plain (by simp [Fj,Hz]) ⟨rfl,rfl⟩)
theorem b2b (a b c d e f g h:UInt64) (h1:vQ a b c d<p25) (h2:vQ e f g h<p25) (r:Nat) (hr:r<p25) (hop:CtM Tryd.prog 42 [.w (.agg [.pl (.u64 a),.pl (.u64 b),.pl (.u64 c),.pl (.u64 d)]),.w (.agg [.pl (.u64 e),.pl (.u64 f),.pl (.u64 g),.pl (.u64 h)])] [(1000001,⟨false,[.pl (.u64 18446744073709551597),.pl (.u64 18446744073709551615),.pl (.u64 18446744073709551615),.pl (.u64 9223372036854775807)]⟩)] (Told (fun v m=>v=.w (.agg (w4C r))∧m=[]))):
 CtM Tryd.prog 59 [.w (.one (.fn 42 [])),.w (.agg [.pl (.u64 a),.pl (.u64 b),.pl (.u64 c),.pl (.u64 d)]),.w (.agg [.pl (.u64 e),.pl (.u64 f),.pl (.u64 g),.pl (.u64 h)])] [(1000001,⟨false,[.pl (.u64 18446744073709551597),.pl (.u64 18446744073709551615),.pl (.u64 18446744073709551615),.pl (.u64 9223372036854775807)]⟩)] (Told (fun v m=>v=.tup [.agg (w4C r),.one (.pl (.i 0))]∧m=[])):=by
 have hA:=below_ a b c d
 have hB:=below_ e f g h
 rw [decide_eq_true h1] at hA
 rw [decide_eq_true h2] at hB
 obtain ⟨q0,q1,q2,q3,hq,hv⟩:=Dz r (by have:=k0z;omega)
 simp only [w4C,hq] at hop ⊢
 refine CtM.k Tryd.func59 rfl Tryd.ntmps59 (congrArg Array.toList Tryd.results59) (by simp) fun w0 ro may fx=>?_
 refine Dj fun zZ zhZ=>?_
 refine Cx fun zK zhK=>?_
 simp only [go_sem,Aw]
 repeat' (first|apply And.intro|intro _)
 refine zhK _ ?_
 refine Bz fun zN zM zhN zhM=>?_
 refine Cx fun zK zhK=>?_
 simp only [go_sem,Aw]
 repeat' (first|apply And.intro|intro _)
 all_goals (refine Bq false [] (fun k=>k) (fun _ _=>rfl) ?_ (by decide) ?_ hA.told ?_;iterate 2 (focus (first|rfl|(simp only [go_sem,Aw]<;>first|done|rfl|simp))))
 all_goals (rintro v m ⟨hR,hm⟩;subst hR;subst hm)
 all_goals (refine And.intro ?_ (And.intro ?_ (And.intro ?_ ?_));iterate 3 (focus (first|rfl|(simp only [go_sem,Aw];done)|(simp [go_sem,look,Aw];done))))
 all_goals (try simp only [go_sem,Aw])
 all_goals (try simp only [go_sem,Aw])
 all_goals repeat' (first|apply And.intro|intro _)
 all_goals (refine Bq false [] (fun k=>k) (fun _ _=>rfl) ?_ (by decide) ?_ hB.told ?_;iterate 2 (focus (first|rfl|(simp only [go_sem,Aw]<;>first|done|rfl|simp))))
 all_goals (rintro v m ⟨hR,hm⟩;subst hR;subst hm)
 all_goals (refine And.intro ?_ (And.intro ?_ (And.intro ?_ ?_));iterate 3 (focus (first|rfl|(simp only [go_sem,Aw];done)|(simp [go_sem,look,Aw];done))))
 all_goals (try simp only [go_sem,Aw])
 all_goals (try simp only [go_sem,Aw])
 all_goals repeat' (first|apply And.intro|intro _)
 refine zhK _ ?_
 (refine Cy ?_ ?_;focus (first|rfl|(simp [go_sem,Aw];done)))
 refine Cw ?_
 refine zhN _ ?_;clear zhN zhM
 refine Cx fun zK zhK=>?_
 simp only [go_sem,Aw]
 repeat' (first|apply And.intro|intro _)
 all_goals (refine f0i (caps:=[]) false [] (fun k=>k) ?_ ?_ (fun _ _=>rfl) ?_ (by decide) ?_ (show CtM Tryd.prog 42 ([.w (.agg [.pl (.u64 a),.pl (.u64 b),.pl (.u64 c),.pl (.u64 d)]),.w (.agg [.pl (.u64 e),.pl (.u64 f),.pl (.u64 g),.pl (.u64 h)])]++([]:List Nat).map fun k=>V.w (.one (.p k []))) _ _ from hop.told) ?_;iterate 4 (focus (first|rfl|(simp only [go_sem,Aw]<;>first|done|rfl|simp))))
 all_goals (rintro v m ⟨hR,hm⟩;subst hR;subst hm)
 all_goals (refine And.intro ?_ (And.intro ?_ (And.intro ?_ ?_));iterate 3 (focus (first|rfl|(simp only [go_sem,Aw];done)|(simp [go_sem,look,Aw];done))))
 all_goals (try simp only [go_sem,Aw])
 all_goals (try simp only [go_sem,Aw])
 all_goals repeat' (first|apply And.intro|intro _)
 refine zhK _ ?_
 refine Dx ?_
 refine zhZ _ _ ?_
 simp only [go_sem,Aw]
 all_goals (exact told_plain (by simp [Fj,Hz]) ⟨rfl,rfl⟩)
end Lk
end Go.Sy
