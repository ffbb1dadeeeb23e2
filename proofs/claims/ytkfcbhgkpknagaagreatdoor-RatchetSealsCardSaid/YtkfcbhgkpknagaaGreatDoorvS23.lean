/- Walks and what they compute. CONDITIONS: those that each theorem names. -/
import Derived.Test.YtkfcbhgkpknagaaGreatDoorvS22
import Derived.Test.YtkfcbhgkpknagaaGreatDoorvE2
import Derived.Test.YtkfcbhgkpknagaaGreatDoorvE3
set_option linter.unusedVariables false
set_option linter.unusedSimpArgs false
set_option maxHeartbeats 3200000
set_option maxRecDepth 100000
namespace Go.Sy
theorem Kk {l:List UInt64} {i:Nat} (h:i<l.length):List.take 1 (List.drop i (Dz l))=[.pl (.u64 (l.getD i 0))]:=by
 rw [xM (by simpa [Dz] using h),wE,wH]
 simp [Dz,List.getD,yO h]
theorem b2y (l:List UInt64):(Dz l).length=l.length:=by simp [Dz]
theorem Sw {q:List UInt64} {j:Nat} (x:UInt64) (h:j<q.length):List.take j (Dz q)++[L.pl (PL.u64 x)]++List.drop (j+1) (Dz q)=Dz (q.set j x):=by
 rw [uJ,if_pos h];simp [Dz]
def Ny (B:Nat) (g:Nat→UInt64):Nat→Nat
 |0=>0
 |n+1=>Ny B g n+B ^ n*(g n).toNat
theorem a0q {B:Nat} {f g:Nat→UInt64}: ∀ {n:Nat},(∀ i,i<n→f i=g i)→Ny B f n=Ny B g n
 |0,_=>rfl
 |n+1,h=>by rw [Ny,Ny,a0q (fun i hi=>h i (by omega)),h n (by omega)]
theorem b1j {l:List UInt64} {n:Nat} (h:n<l.length):l.take (n+1)=l.take n++[l.getD n 0]:=by
 rw [wI h];simp [List.getD,yO h]
theorem w0v (B:Nat) (l:List UInt64): ∀ {n:Nat},n≤l.length→Gw B (l.take n)=Ny B (fun i=>l.getD i 0) n
 |0,_=>by simp [Gw,Ny]
 |n+1,h=>by
   rw [b1j h,a0s,w0v B l (by omega),yH,vD (by omega)]
   simp [Gw,Ny]
theorem w0u (B:Nat) (l:List UInt64):Gw B l=Ny B (fun i=>l.getD i 0) l.length:=by
 rw [←w0v B l (xL _),wK]
def i0a (f:Nat→UInt64) (i:Nat) (x:List UInt64):List UInt64:=(List.range i).map f++x.drop i
theorem e0r (f:Nat→UInt64) (x:List UInt64):i0a f 0 x=x:=by simp [i0a]
theorem a0v {f:Nat→UInt64} {i:Nat} {x:List UInt64} (h:i≤x.length):(i0a f i x).length=x.length:=by
 simp [i0a];omega
theorem n0r {f:Nat→UInt64} {i j:Nat} {x:List UInt64} (h:i≤j):(i0a f i x).getD j 0=x.getD j 0:=by
 simp only [i0a,List.getD]
 rw [vP (by simpa using h)]
 simp only [xO,List.length_range,uG]
 rw [show i+(j-i)=j from by omega]
theorem j0b {f:Nat→UInt64} {i:Nat} {x:List UInt64} (h:i<x.length):(i0a f i x).set i (f i)=i0a f (i+1) x:=by
 simp only [i0a]
 rw [List.set_append_right _ _ (by simp),xO,List.length_range,Nat.sub_self,xM h,List.set_cons_zero,List.range_succ,xQ]
 simp
theorem e0s {f:Nat→UInt64} {x:List UInt64} {n:Nat} (h:x.length=n):i0a f n x=(List.range n).map f:=by
 simp [i0a,←h]
theorem n1z {f:Nat→UInt64} {n i:Nat} (h:i<n):((List.range n).map f).getD i 0=f i:=by
 simp [List.getD,h]
theorem g0b (B:Nat) (f:Nat→UInt64) (n:Nat):Gw B ((List.range n).map f)=Ny B f n:=by
 rw [w0u,xO,List.length_range]
 exact a0q fun i hi=>n1z hi
theorem l0a {B:Nat} {f:Nat→UInt64}: ∀ {n:Nat},(∀ i,i<n→(f i).toNat<B)→Ny B f n<B ^ n
 |0,_=>by simp [Ny]
 |n+1,h=>by
   have h1:=l0a (n:=n) (fun i hi=>h i (by omega))
   have h2:=h n (by omega)
   have h3:B ^ n*(f n).toNat+B ^ n≤B ^ n*B:=by
    have:=vS (B ^ n) (Nat.succ_le_of_lt h2)
    rwa [Nat.mul_succ] at this
   rw [Ny,vK];omega
theorem l1r {f:Nat→UInt64} {K:Nat}: ∀ {n:Nat},(∀ i,i<n→(f i).toNat≤K)→Ny 65536 f n≤K*65536 ^ n
 |0,_=>by simp [Ny]
 |n+1,h=>by
   have h1:=l1r (n:=n) (fun i hi=>h i (by omega))
   have h2:=vS (65536 ^ n) (h n (by omega))
   rw [Ny,vK]
   rw [vF (65536 ^ n) K] at h2
   have h3:K*(65536 ^ n*65536)=K*65536 ^ n*65536:=by rw [vN]
   omega
def cyN (x:Nat→UInt64):Nat→UInt64
 |0=>0
 |i+1=>(cyN x i+x i)/65536
def cyV (x:Nat→UInt64) (i:Nat):UInt64:=(cyN x i+x i)%65536
theorem d16 :(65536:UInt64).toNat=65536:=rfl
theorem a1f {x:Nat→UInt64}: ∀ {n:Nat},(∀ i,i<n→(x i).toNat<4611686018427387904)→Ny 65536 (cyV x) n+65536 ^ n*(cyN x n).toNat=Ny 65536 x n∧(cyN x n).toNat<4611686018427387904
 |0,_=>⟨rfl,by show (0:UInt64).toNat<_;decide⟩
 |n+1,h=>by
   obtain ⟨h1,h2⟩:=a1f (n:=n) (fun i hi=>h i (by omega))
   have h3:=h n (by omega)
   have h4:(cyN x n+x n).toNat=(cyN x n).toNat+(x n).toNat:=Gv (by omega)
   have h5:(cyN x (n+1)).toNat=((cyN x n).toNat+(x n).toNat)/65536:=by rw [cyN,vV,h4,d16]
   have h6:(cyV x n).toNat=((cyN x n).toNat+(x n).toNat)%65536:=by rw [cyV,vU,h4,d16]
   refine ⟨?_,by rw [h5];omega⟩
   simp only [Ny]
   rw [←h1,h5,h6,vK]
   have h7:=Nat.div_add_mod ((cyN x n).toNat+(x n).toNat) 65536
   generalize ((cyN x n).toNat+(x n).toNat)%65536=r at*
   generalize ((cyN x n).toNat+(x n).toNat)/65536=t at*
   have h8:65536 ^ n*r+65536 ^ n*65536*t=65536 ^ n*(cyN x n).toNat+65536 ^ n*(x n).toNat:=by
    rw [vN,←vZ,←vZ];congr 1;omega
   omega
theorem a1g (x:Nat→UInt64) (i:Nat):(cyV x i).toNat<65536:=by
 rw [cyV,vU,d16];exact wP _ (by decide)
def bwN (a b:Nat→UInt64):Nat→UInt64
 |0=>0
 |i+1=>1-(a i+65536-b i-bwN a b i)/65536
def bwV (a b:Nat→UInt64) (i:Nat):UInt64:=(a i+65536-b i-bwN a b i)%65536
theorem m1b {x y:UInt64} (h:y.toNat≤x.toNat):(x-y).toNat=x.toNat-y.toNat:=by
 exact UInt64.toNat_sub_of_le _ _ (UInt64.le_iff_toNat_le.mpr h)
theorem r1z {a b:Nat→UInt64}: ∀ {n:Nat},(∀ i,i<n→(a i).toNat<65536)→(∀ i,i<n→(b i).toNat<65536)→Ny 65536 (bwV a b) n+Ny 65536 b n=Ny 65536 a n+65536 ^ n*(bwN a b n).toNat∧(bwN a b n).toNat≤1
 |0,_,_=>⟨by simp [Ny,bwN],by simp [bwN]⟩
 |n+1,ha,hb=>by
   obtain ⟨h1,h2⟩:=r1z (n:=n) (fun i hi=>ha i (by omega)) (fun i hi=>hb i (by omega))
   have h3:=ha n (by omega)
   have h4:=hb n (by omega)
   have e1:(a n+65536).toNat=(a n).toNat+65536:=by rw [Gv (by rw [d16];omega),d16]
   have e2:(a n+65536-b n).toNat=(a n).toNat+65536-(b n).toNat:=by rw [m1b (by rw [e1];omega),e1]
   have e3:(a n+65536-b n-bwN a b n).toNat=(a n).toNat+65536-(b n).toNat-(bwN a b n).toNat:=by rw [m1b (by rw [e2];omega),e2]
   have o1:(1:UInt64).toNat=1:=rfl
   have h5:(bwN a b (n+1)).toNat=1-((a n).toNat+65536-(b n).toNat-(bwN a b n).toNat)/65536:=by
    rw [bwN,m1b (by rw [vV,e3,d16,o1];omega),vV,e3,d16,o1]
   have h6:(bwV a b n).toNat=((a n).toNat+65536-(b n).toNat-(bwN a b n).toNat)%65536:=by rw [bwV,vU,e3,d16]
   have h7:(bwV a b n).toNat+(b n).toNat+(bwN a b n).toNat=(a n).toNat+65536*(bwN a b (n+1)).toNat:=by rw [h5,h6];omega
   refine ⟨?_,by rw [h5];omega⟩
   simp only [Ny]
   rw [vK]
   generalize (bwV a b n).toNat=v at*
   generalize (bwN a b (n+1)).toNat=k1 at*
   generalize (bwN a b n).toNat=k at*
   generalize (b n).toNat=y at*
   generalize (a n).toNat=x at*
   generalize 65536 ^ n=E at*
   have h8:E*v+E*y+E*k=E*x+E*(65536*k1):=by rw [←vZ,←vZ,←vZ,h7]
   rw [vN]
   omega
theorem h1n (a b:Nat→UInt64) (i:Nat):(bwV a b i).toNat<65536:=by
 rw [bwV,vU,d16];exact wP _ (by decide)
theorem t0x {B:Nat} {f g:Nat→UInt64} {k:Nat} (hf: ∀ i,i<k+1→(f i).toNat<B) (h:(f k).toNat<(g k).toNat): ∀ {n:Nat},k<n→(∀ i,k<i→i<n→f i=g i)→Ny B f n<Ny B g n
 |0,hk,_=>absurd hk (by omega)
 |n+1,hk,he=>by
   by_cases e:k=n
   ·subst e
    have h1:=l0a (B:=B) (f:=f) (n:=k) (fun i hi=>hf i (by omega))
    have h2:=vS (B ^ k) (Nat.succ_le_of_lt h)
    rw [Nat.mul_succ] at h2
    rw [Ny,Ny];omega
   have h1:=t0x hf h (n:=n) (by omega) (fun i h1 h2=>he i h1 (by omega))
   rw [Ny,Ny,he n (by omega) (by omega)];omega
end Go.Sy
namespace Go.Sy
def D16 (n:Nat):List UInt64:=dgL 65536 n 16
theorem t0t (n:Nat):(D16 n).length=16:=rfl
def Nw :List UInt64:=[65517,65535,65535,65535,65535,65535,65535,65535,65535,65535,65535,65535,65535,65535,65535,32767]
theorem u0o :Gw 65536 Nw=p25:=by decide+kernel
theorem Nz :Nw.length=16:=rfl
def fL (l:List UInt64) (i:Nat):UInt64:=l.getD i 0
theorem Rz {l:List UInt64} (h:l.length=16):Gw 65536 l=Ny 65536 (fL l) 16:=by
 rw [w0u,h];rfl
theorem o1e : ∀ i,i<16→(fL Nw i).toNat<65536:=by decide+kernel
theorem t1h {l:List UInt64} {K:Nat} (h:l.length=16):(∀ v∈l,v.toNat<K)↔∀ i,i<16→(fL l i).toNat<K:=by
 constructor
 ·intro h1 i hi
  refine h1 _ ?_
  rw [fL,List.getD,yO (by omega)];exact List.getElem_mem _
 intro h1 v hv
 obtain ⟨i,hi,rfl⟩:=List.mem_iff_getElem.mp hv
 have:=h1 i (by omega)
 rwa [fL,List.getD,yO hi] at this
theorem Ej (n:Nat): ∀ i,i<16→(fL (D16 n) i).toNat<65536:=(t1h (t0t n)).mp (g1z (by decide) (by decide) n 16)
theorem e16 :65536 ^ 16=m4:=rfl
theorem Cq {n:Nat} (h:n<m4):Gw 65536 (D16 n)=n:=by
 rw [D16,n0n (by decide) (by decide),e16];exact yN h
theorem b2r {l:List UInt64} {n:Nat} (h:l.length=16) (h1: ∀ i,i<16→(fL l i).toNat<65536) (h2:Gw 65536 l=n):l=D16 n:=by
 have:=b2j (B:=65536) (by decide) (by decide) ((t1h h).mpr h1)
 rw [h2,h] at this;exact this
def t1q (x:List UInt64):List UInt64:=(List.range 16).map (cyV (fL x))
def l0f (x:List UInt64):List UInt64:=(t1q x).set 0 ((t1q x).getD 0 0+38*cyN (fL x) 16)
theorem d0i (x:List UInt64):(t1q x).length=16:=by simp [t1q]
theorem c0j (x:List UInt64):(l0f x).length=16:=by simp [l0f,d0i]
theorem f0k {q:List UInt64} {i j:Nat} {x:UInt64} (h:i<q.length):fL (q.set i x) j=if i=j then x else fL q j:=by
 simp only [fL,List.getD,List.getElem?_set]
 split
 ·rename_i e;subst e;simp [h]
 rfl
theorem i0u {B:Nat} {f g:Nat→UInt64} {k:Nat} (h: ∀ j,¬j=k→f j=g j): ∀ {n:Nat},k<n→Ny B f n+B ^ k*(g k).toNat=Ny B g n+B ^ k*(f k).toNat
 |0,hk=>absurd hk (by omega)
 |n+1,hk=>by
   by_cases e:k=n
   ·subst e
    have:=a0q (B:=B) (f:=f) (g:=g) (n:=k) (fun i hi=>h i (by omega))
    rw [Ny,Ny,this];omega
   have h1:=i0u h (B:=B) (n:=n) (by omega)
   rw [Ny,Ny,h n (fun e2=>e e2.symm)];omega
theorem i1h {c:UInt64} (h:c.toNat≤72057594037927936):(38*c).toNat=38*c.toNat:=by
 rw [UInt64.toNat_mul]
 have:(38:UInt64).toNat=38:=rfl
 rw [this];exact yN (by omega)
theorem b1t {x:List UInt64} (hx:x.length=16) (h: ∀ i,i<16→(fL x i).toNat<4611686018427387904) (hc:(cyN (fL x) 16).toNat≤72057594037927936):
 Gw 65536 (l0f x)+m4*(cyN (fL x) 16).toNat=Gw 65536 x+38*(cyN (fL x) 16).toNat∧(∀ i,i<16→(fL (l0f x) i).toNat<65536+38*(cyN (fL x) 16).toNat):=by
 obtain ⟨h1,_⟩:=a1f (x:=fL x) (n:=16) h
 have hy: ∀ i,i<16→fL (t1q x) i=cyV (fL x) i:=fun i hi=>n1z hi
 have h0:(fL (l0f x) 0).toNat=(cyV (fL x) 0).toNat+38*(cyN (fL x) 16).toNat:=by
  have e:fL (l0f x) 0=fL (t1q x) 0+38*cyN (fL x) 16:=by
   rw [l0f,f0k (by rw [d0i];decide),if_pos rfl];rfl
  have:=a1g (fL x) 0
  rw [e,hy 0 (by decide),Gv (by rw [i1h hc];omega),i1h hc]
 have hj: ∀ j,¬j=0→fL (l0f x) j=fL (t1q x) j:=fun j hj=>by
  rw [l0f,f0k (by rw [d0i];decide),if_neg (by omega)]
 have h2:=i0u (B:=65536) hj (n:=16) (by decide)
 have h3:Ny 65536 (fL (t1q x)) 16=Ny 65536 (cyV (fL x)) 16:=a0q hy
 rw [←Rz (c0j x),h3,h0,hy 0 (by decide)] at h2
 rw [Rz hx,←h1,e16]
 simp only [Nat.pow_zero,Nat.one_mul] at h2
 refine ⟨by omega,fun i hi=>?_⟩
 by_cases e:i=0
 ·subst e;rw [h0];have:=a1g (fL x) 0;omega
 rw [hj i e,hy i hi];have:=a1g (fL x) i;omega
theorem h2w {x:List UInt64} (hx:x.length=16) (h: ∀ i,i<16→(fL x i).toNat<4611686018427387904):m4*(cyN (fL x) 16).toNat≤Gw 65536 x:=by
 obtain ⟨h1,_⟩:=a1f (x:=fL x) (n:=16) h
 rw [Rz hx,←h1,e16];omega
theorem step_mod {v w c:Nat} (h:v+m4*c=w+38*c):v%p25=w%p25:=by
 have e:v+m4*c=v+38*c+2*p25*c:=by rw [n2m];grind
 have:w=v+2*p25*c:=by omega
 rw [this,b1a]
theorem v1f {x:List UInt64} (hx:x.length=16) (h: ∀ i,i<16→(fL x i).toNat≤70368744177664):
 (l0f (l0f (l0f x))).length=16∧(∀ i,i<16→(fL (l0f (l0f (l0f x))) i).toNat<65536)∧Gw 65536 (l0f (l0f (l0f x)))%p25=Gw 65536 x%p25:=by
 have hm:=f0c
 have a1: ∀ i,i<16→(fL x i).toNat<4611686018427387904:=fun i hi=>by have:=h i hi;omega
 have a2:=h2w hx a1
 have a3:=l1r (n:=16) h
 rw [←Rz hx,e16] at a3
 have a4:(cyN (fL x) 16).toNat≤70368744177664:=by
  refine Nat.le_of_mul_le_mul_left (c:=m4) ?_ (by rw [f0c];decide)
  rw [vF m4 70368744177664];omega
 obtain ⟨b1,b2⟩:=b1t hx a1 (by omega)
 obtain ⟨c,hc⟩: ∃ c,(cyN (fL x) 16).toNat=c:=⟨_,rfl⟩
 rw [hc] at a2 a4 b1 b2
 have bl:=c0j x
 obtain ⟨y,hy⟩: ∃ y,l0f x=y:=⟨_,rfl⟩
 rw [hy] at b1 b2 bl ⊢
 have hcy:=a1f (x:=fL x) (n:=16) a1
 rw [hc,←Rz hx,e16] at hcy
 have hlo:=l0a (B:=65536) (f:=cyV (fL x)) (n:=16) (fun i _=>a1g _ i)
 rw [e16] at hlo
 have b3:Gw 65536 y<m4+38*c:=by have:=hcy.1;omega
 have b4: ∀ i,i<16→(fL y i).toNat<4611686018427387904:=fun i hi=>by have:=b2 i hi;omega
 have b5:=h2w bl b4
 have b6:(cyN (fL y) 16).toNat≤1:=by
  rcases yZ 1 (cyN (fL y) 16).toNat with h1|h1
  ·exfalso
   have:=vS m4 h1
   rw [f0c] at this b5 b3;omega
  exact h1
 obtain ⟨d1,d2⟩:=b1t bl b4 (by omega)
 have hcy2:=a1f (x:=fL y) (n:=16) b4
 have hlo2:=l0a (B:=65536) (f:=cyV (fL y)) (n:=16) (fun i _=>a1g _ i)
 rw [e16] at hlo2
 rw [←Rz bl,e16] at hcy2
 obtain ⟨k,hk⟩: ∃ k,(cyN (fL y) 16).toNat=k:=⟨_,rfl⟩
 rw [hk] at d1 d2 b6 hcy2
 have dl:=c0j y
 obtain ⟨z,hz⟩: ∃ z,l0f y=z:=⟨_,rfl⟩
 rw [hz] at d1 d2 dl ⊢
 have d3:Gw 65536 z<m4:=by
  have hk01:k=0∨k=1:=by omega
  rcases hk01 with rfl|rfl
  ·have:=hcy2.1;omega
  have:=hcy2.1;rw [f0c] at*;omega
 have d4: ∀ i,i<16→(fL z i).toNat<4611686018427387904:=fun i hi=>by have:=d2 i hi;omega
 have d5:=h2w dl d4
 have d6:(cyN (fL z) 16).toNat=0:=by
  rcases Nat.eq_zero_or_pos (cyN (fL z) 16).toNat with h1|h1
  ·exact h1
  exfalso
  have:=vS m4 h1
  rw [f0c] at this d5 d3;omega
 obtain ⟨f1,f2⟩:=b1t dl d4 (by omega)
 rw [d6] at f1 f2
 refine ⟨c0j z,fun i hi=>by have:=f2 i hi;omega,?_⟩
 rw [step_mod f1,step_mod d1,step_mod b1]
theorem f2b {x:List UInt64} {k:Nat} (hx:x.length=16) (h: ∀ i,i<16→(fL x i).toNat<65536) (hk:k<16) (he: ∀ j,k<j→j<16→fL x j=fL Nw j) (hn:¬fL x k=fL Nw k):(fL Nw k<fL x k)↔p25≤Gw 65536 x:=by
 rw [vE,←u0o,Rz hx,Rz Nz]
 constructor
 ·intro h1
  exact wQ (t0x (fun i hi=>o1e i (by omega)) h1 hk (fun i h2 h3=>(he i h2 h3).symm))
 intro h1
 rcases Nat.lt_trichotomy (fL Nw k).toNat (fL x k).toNat with h2|h2|h2
 ·exact h2
 ·exact absurd (xS.mp h2).symm hn
 have:=t0x (B:=65536) (fun i hi=>h i (by omega)) h2 hk (fun i h2 h3=>he i h2 h3)
 omega
theorem f2a {x:List UInt64} (hx:x.length=16) (he: ∀ j,j<16→fL x j=fL Nw j):p25≤Gw 65536 x:=by
 rw [←u0o,Rz hx,Rz Nz,a0q he];exact xL _
theorem c2n {x:List UInt64} (hx:x.length=16) (h: ∀ i,i<16→(fL x i).toNat<65536) (hp:p25≤Gw 65536 x):Gw 65536 ((List.range 16).map (bwV (fL x) (fL Nw)))+p25=Gw 65536 x:=by
 obtain ⟨h1,h2⟩:=r1z (n:=16) h o1e
 rw [g0b]
 rw [←Rz hx,←Rz Nz,u0o,e16] at h1
 have h3:=l0a (B:=65536) (f:=bwV (fL x) (fL Nw)) (n:=16) (fun i _=>h1n _ _ i)
 rw [e16] at h3
 have h4:(bwN (fL x) (fL Nw) 16).toNat=0:=by
  rcases Nat.eq_zero_or_pos (bwN (fL x) (fL Nw) 16).toNat with h5|h5
  ·exact h5
  exfalso
  have:=vS m4 h5
  rw [f0c] at*;omega
 rw [h4] at h1;omega
theorem e2j {x:List UInt64} (hx:x.length=16) (h: ∀ i,i<16→(fL x i).toNat<65536) (hp:Gw 65536 x≤p25):Gw 65536 ((List.range 16).map (bwV (fL Nw) (fL x)))=p25-Gw 65536 x:=by
 obtain ⟨h1,h2⟩:=r1z (n:=16) o1e h
 rw [g0b]
 rw [←Rz hx,←Rz Nz,u0o,e16] at h1
 have h3:=l0a (B:=65536) (f:=bwV (fL Nw) (fL x)) (n:=16) (fun i _=>h1n _ _ i)
 rw [e16] at h3
 have h4:(bwN (fL Nw) (fL x) 16).toNat=0:=by
  rcases Nat.eq_zero_or_pos (bwN (fL Nw) (fL x) 16).toNat with h5|h5
  ·exact h5
  exfalso
  have:=vS m4 h5
  rw [f0c] at*;omega
 rw [h4] at h1;omega
theorem n0q {f:Nat→UInt64} {n i:Nat} (h:i<n):fL ((List.range n).map f) i=f i:=n1z h
def q16 (a:UInt64) (k:Nat):UInt64:=Iw a k%65536
theorem u0m (a:UInt64):(q16 a 0).toNat+65536*((q16 a 16).toNat+65536*((q16 a 32).toNat+65536*(q16 a 48).toNat))=a.toNat:=by
 have ha:=a.toNat_lt
 simp only [q16,vU,Wx,d16]
 omega
theorem l2o (a:UInt64) (k:Nat):(q16 a k).toNat<65536:=by
 rw [q16,vU,d16];exact wP _ (by decide)
def o2m (a b c d:UInt64):List UInt64:=[q16 a 0,q16 a 16,q16 a 32,q16 a 48,q16 b 0,q16 b 16,q16 b 32,q16 b 48,q16 c 0,q16 c 16,q16 c 32,q16 c 48,q16 d 0,q16 d 16,q16 d 32,q16 d 48]
def four (x y z w:UInt64):List UInt64:=[x,y,z,w]
theorem b0l (x y z w:UInt64):Gw 65536 (four x y z w)=x.toNat+65536*(y.toNat+65536*(z.toNat+65536*w.toNat)):=by
 simp [four,Gw]
theorem z0t (p q r s:List UInt64) (hp:p.length=4) (hq:q.length=4) (hr:r.length=4):Gw 65536 (p++(q++(r++s)))=Gw 65536 p+18446744073709551616*(Gw 65536 q+18446744073709551616*(Gw 65536 r+18446744073709551616*Gw 65536 s)):=by
 rw [a0s,a0s,a0s,hp,hq,hr]
theorem r1p (a b c d:UInt64):o2m a b c d=D16 (vQ a b c d):=by
 have hl: ∀ v∈o2m a b c d,v.toNat<65536:=by
  intro v hv
  simp only [o2m,xK,List.not_mem_nil,or_false] at hv
  rcases hv with rfl|rfl|rfl|rfl|rfl|rfl|rfl|rfl|rfl|rfl|rfl|rfl|rfl|rfl|rfl|rfl<;>exact l2o _ _
 refine b2r rfl ((t1h rfl).mp hl) ?_
 have e:o2m a b c d=four (q16 a 0) (q16 a 16) (q16 a 32) (q16 a 48)++(four (q16 b 0) (q16 b 16) (q16 b 32) (q16 b 48)++(four (q16 c 0) (q16 c 16) (q16 c 32) (q16 c 48)++four (q16 d 0) (q16 d 16) (q16 d 32) (q16 d 48))):=rfl
 rw [e,z0t _ _ _ _ rfl rfl rfl,b0l,b0l,b0l,b0l,u0m,u0m,u0m,u0m];rfl
def wrd (x y z w:UInt64):UInt64:=0|||Dy x 0|||Dy y 16|||Dy z 32|||Dy w 48
theorem t0v {x y z w:UInt64} (hx:x.toNat<65536) (hy:y.toNat<65536) (hz:z.toNat<65536) (hw:w.toNat<65536):(wrd x y z w).toNat=x.toNat+65536*(y.toNat+65536*(z.toNat+65536*w.toNat)):=by
 have s0:(Dy x 0).toNat=x.toNat:=by rw [a0g];omega
 have s1:(Dy y 16).toNat=2 ^ 16*y.toNat:=by rw [a0g];omega
 have s2:(Dy z 32).toNat=2 ^ 32*z.toNat:=by rw [a0g];omega
 have s3:(Dy w 48).toNat=2 ^ 48*w.toNat:=by rw [a0g];omega
 have e0:(0|||Dy x 0).toNat=x.toNat:=by
  rw [UInt64.toNat_or,s0];exact Nat.zero_or _
 have e1:(0|||Dy x 0|||Dy y 16).toNat=x.toNat+2 ^ 16*y.toNat:=by rw [h0s 16 (by rw [e0];omega) s1,e0,s1]
 have e2:(0|||Dy x 0|||Dy y 16|||Dy z 32).toNat=x.toNat+2 ^ 16*y.toNat+2 ^ 32*z.toNat:=by rw [h0s 32 (by rw [e1];omega) s2,e1,s2]
 rw [wrd,h0s 48 (by rw [e2];omega) s3,e2,s3];omega
theorem b2s {x0 x1 x2 x3 x4 x5 x6 x7 x8 x9 xa xb xc xd xe xf:UInt64} (hl: ∀ v∈[x0,x1,x2,x3,x4,x5,x6,x7,x8,x9,xa,xb,xc,xd,xe,xf],v.toNat<65536):vQ (wrd x0 x1 x2 x3) (wrd x4 x5 x6 x7) (wrd x8 x9 xa xb) (wrd xc xd xe xf)=Gw 65536 [x0,x1,x2,x3,x4,x5,x6,x7,x8,x9,xa,xb,xc,xd,xe,xf]:=by
 have e: [x0,x1,x2,x3,x4,x5,x6,x7,x8,x9,xa,xb,xc,xd,xe,xf]=four x0 x1 x2 x3++(four x4 x5 x6 x7++(four x8 x9 xa xb++four xc xd xe xf)):=rfl
 have g: ∀ v,v∈[x0,x1,x2,x3,x4,x5,x6,x7,x8,x9,xa,xb,xc,xd,xe,xf]→v.toNat<65536:=hl
 rw [e,z0t _ _ _ _ rfl rfl rfl,b0l,b0l,b0l,b0l,vQ,t0v (g _ (by simp)) (g _ (by simp)) (g _ (by simp)) (g _ (by simp)),t0v (g _ (by simp)) (g _ (by simp)) (g _ (by simp)) (g _ (by simp)),t0v (g _ (by simp)) (g _ (by simp)) (g _ (by simp)) (g _ (by simp)),t0v (g _ (by simp)) (g _ (by simp)) (g _ (by simp)) (g _ (by simp))]
theorem i2s {n:Nat} (hn:n<m4): ∃ x0 x1 x2 x3 x4 x5 x6 x7 x8 x9 xa xb xc xd xe xf,D16 n=[x0,x1,x2,x3,x4,x5,x6,x7,x8,x9,xa,xb,xc,xd,xe,xf]∧[wrd x0 x1 x2 x3,wrd x4 x5 x6 x7,wrd x8 x9 xa xb,wrd xc xd xe xf]=w4 n:=by
 refine ⟨_,_,_,_,_,_,_,_,_,_,_,_,_,_,_,_,rfl,j2l ?_⟩
 exact (b2s (g1z (by decide) (by decide) n 16)).trans (Cq hn)
end Go.Sy
namespace Go.Sy
namespace Lk
open Go.Proofs
attribute [local irreducible] Bw HT Aj Jk onC onE onO onG goV goA goS Lx Bz
theorem b2z (k:Nat) (l:List UInt64):(Dz l).any (L.has k)=false:=by
 rw [xC]
 intro x hx
 obtain ⟨y,_,rfl⟩:=xG.mp hx
 simp [L.has]
theorem b2x (e:Nat→Nat) (l:List UInt64):(Dz l).map (L.ren e)=Dz l:=by simp only [Dz,List.map_map];rfl
theorem w1v :((65536:UInt64)=0)=False:=eq_false (by decide)
theorem m2k :((256:UInt64)=0)=False:=eq_false (by decide)
theorem m2l :((128:UInt64)=0)=False:=eq_false (by decide)
theorem nz_2 :((2:UInt64)=0)=False:=eq_false (by decide)
theorem m0k (vw:Bool) (S:St) (hd:Hand): ∀ l:List UInt64,Dq vw S hd (Dz l)=some (Dz l)
 | []=>rfl
 |x::l=>by
  have ih:=m0k vw S hd l
  simp only [Dz] at ih
  simp only [Dz,yL,Dq,Uv,ih]
theorem c1k (vw:Bool) (m:List (Nat×Ob)) (l:List UInt64):(Dz l).all (Nk vw m)=true:=by
 simp only [Dz,yJ,xG]
 rintro x ⟨y,_,rfl⟩
 simp [Nk,Ry]
theorem d2l (m:List (Nat×Ob)) (l:List UInt64):(Dz l).all (a2m m)=true:=by
 simp only [Dz,yJ,xG]
 rintro x ⟨y,_,rfl⟩
 rfl
theorem s0e (S:St): ∀ l:List UInt64,Wy S (Dz l)=some (Dz l)
 | []=>rfl
 |x::r=>by
  have ih:=s0e S r
  simp only [Dz] at ih
  simp only [Dz,yL,Wy,g0t,ih]
attribute [go_sem] d2l s0e m0k c1k w1v m2k m2l nz_2 b2z b2x b2y
theorem e0t (l:List UInt64):Dv (.w (.agg (Dz l)))=true:=by
 simp [Dv,Ew,Dz]
def dn (y:Nat):Int:=(y:Int)-1
theorem Gy {a:Int} {n:Nat} (h:a=(n:Int)) (hn:n≤9223372036854775807):Go.RowKit.wrap64 a=(n:Int):=by subst h;exact w64 (by omega)
theorem wdn {k:Nat} (hk:k≤16):Go.RowKit.wrap64 (((k:Nat):Int)-1)=dn k:=by
 unfold dn;exact w64 (by omega)
theorem nb_ (x:List UInt64) (hx:x.length=16) (hl: ∀ i,i<16→(fL x i).toNat<65536):
 CtM Tryz.prog 122 [.w (.agg (Dz x))] [(1000000,⟨false,Dz Nw⟩)] (Told (fun v m=>v=.w (.one (.pl (.b (decide (p25≤Gw 65536 x)))))∧m=[])):=by
 have F0:=hx
 refine CtM.go Tryz.func122 rfl Tryz.ntmps122 Tryz.results122 fun w0 ro may fx zZ zhY=>?_
 refine (fun zX=>goW) ?_
 refine Bv [0] ?_
 simp only [Bj,Cx,Bq,yI,yK,Nat.reduceBEq,beq_self_eq_true,yS,yV,yY,yT,yE,reduceIte]
 refine Gx (fun y=>[(3,.w (.one (.pl (.i (dn y.1)))))]) (fun _=>[]) (fun y=>y.1) (⟨16,xL _,fun j h1 h2=>absurd h2 (by omega)⟩:{y:Nat//y≤16∧∀ j,y≤j→j<16→fL x j=fL Nw j}) ?_ (by (simp only [go_sem,leX,yB,yC];first|done|rfl|(simp [dn];done))) (by (simp only [go_sem,leX,yB,yC,F0];try simp))
 intro yy xN0 xM0 xhN0 xhM0
 simp only [yB,yC]
 obtain ⟨y,hy,he⟩:=yy
 have hd:(y=0)∨(∃ k,y=k+1∧¬fL x k=fL Nw k)∨(∃ k,y=k+1∧fL x k=fL Nw k):=by
  cases y with
  |zero=>exact .inl rfl
  |succ k=>
   by_cases h:fL x k=fL Nw k
   ·exact .inr (.inr ⟨k,rfl,h⟩)
   exact .inr (.inl ⟨k,rfl,h⟩)
 rcases hd with rfl|⟨k,rfl,hb⟩|⟨k,rfl,hb⟩
 ·have hi:dn 0= -1:=rfl
  have hfin:decide (p25≤Gw 65536 x)=true:=decide_eq_true (f2a hx (fun j hj=>he j (xA _) hj))
  have F0:=yA hi<|F0
  refine (fun zX=>goW) ?_
  refine zhY _ _ ?_
  simp only [go_sem,F0]
  all_goals (exact told_plain rfl ⟨by rw [hfin],rfl⟩)
 ·have hk:k<16:=by omega
  have hi:dn (k+1)=((k:Nat):Int):=by unfold dn;omega
  have g0:(0:Int)≤((k:Nat):Int):=by omega
  have g1:((k:Nat):Int)<16:=by omega
  have g2:k+1≤16:=by omega
  have o1:=Kk (l:=x) (i:=k) (by omega)
  have o2:=Kk (l:=Nw) (i:=k) (by rw [Nz];exact hk)
  have hfin:decide (fL Nw k<fL x k)=decide (p25≤Gw 65536 x):=decide_eq_decide.mpr (f2b hx hl hk (fun j h1 h2=>he j (by omega) h2) hb)
  have hq:=eq_false hb
  rw [fL,fL] at hq hfin
  have F0:=yA hi<|yA g0<|yA g1<|yA g2<|yA o1<|yA o2<|yA hx<|yA hq<|yA @Nz<|F0
  have zd0:DQ 4 [8,9,10,11,12,13,14] [0,1,3,0,8,24,63] []:=⟨⟩
  have zd1:DQ 5 [15,16,17,18,19,20,21,2] [0,1,3,0,8,24,63,127] []:=⟨⟩
  refine (fun zX=>goW) ?_
  refine zhY _ _ ?_
  simp only [go_sem,F0]
  all_goals (exact told_plain rfl ⟨by rw [←hfin],rfl⟩)
 have hk:k<16:=by omega
 have hi:dn (k+1)=((k:Nat):Int):=by unfold dn;omega
 have g0:(0:Int)≤((k:Nat):Int):=by omega
 have g1:((k:Nat):Int)<16:=by omega
 have g2:k+1≤16:=by omega
 have o1:=Kk (l:=x) (i:=k) (by omega)
 have o2:=Kk (l:=Nw) (i:=k) (by rw [Nz];exact hk)
 have hq:=eq_true hb
 rw [fL,fL] at hq
 have he2: ∀ j,k≤j→j<16→fL x j=fL Nw j:=fun j h1 h2=>by
  rcases Nat.eq_or_lt_of_le h1 with h|h
  ·subst h;exact hb
  exact he j (by omega) h2
 have hs1:=wdn (k:=k) (by omega)
 have F0:=yA hi<|yA g0<|yA g1<|yA g2<|yA o1<|yA o2<|yA hx<|yA hq<|yA @Nz<|yA hs1<|F0
 have zd0:DQ 4 [8,9,10,11,12,13,14] [0,1,3,0,8,24,63] []:=⟨⟩
 have zL:=fun S2=>xhN0 ⟨k,by omega,he2⟩ S2 (by (exact yQ k))
 exact goW
end Lk
end Go.Sy
namespace Go.Sy
namespace Lk
open Go.Proofs
attribute [local irreducible] Bw HT Aj Jk onC onE onO onG goV goA goS Lx Bz
def a2j (x:List UInt64):Nat→List UInt64
 |0=>x
 |k+1=>l0f (a2j x k)
theorem b1s {x:List UInt64} (hx:x.length=16): ∀ k,(a2j x k).length=16
 |0=>hx
 |k+1=>c0j _
theorem v1e {q:List UInt64} (hq:q.length=16):i0a (cyV (fL q)) 16 q=t1q q:=e0s hq
theorem g0o (x:List UInt64) (hx:x.length=16) (hl: ∀ i,i<16→(fL x i).toNat≤70368744177664):
 CtM Tryz.prog 95 [.w (.agg (Dz x))] [(1000000,⟨false,Dz Nw⟩)] (Told (fun v m=>v=.w (.agg (Dz (D16 (Gw 65536 x%p25))))∧m=[])):=by
 have F0:=hx
 refine CtM.go Tryz.func95 rfl Tryz.ntmps95 Tryz.results95 fun w0 ro may fx zZ zhY=>?_
 refine (fun zX=>goW) ?_
 refine Bv [0] ?_
 simp only [Bj,Cx,Bq,yI,yK,Nat.reduceBEq,beq_self_eq_true,yS,yV,yY,yT,yE,reduceIte]
 refine Gx (fun y=>[(8,.w (.one (.pl (.i ((y.1:Nat):Int)))))]) (fun y=>[(1,⟨false,Dz (a2j x y.1)⟩)]) (fun y=>3-y.1) (⟨0,xA _⟩:{y:Nat//y≤3}) ?_ (by (simp only [go_sem,leX,yB,yC,F0];try simp)) (by (simp only [a2j,go_sem,leX,yB,yC];first|done|rfl|(simp [leX,look];done)))
 intro yy xN0 xM0 xhN0 xhM0
 simp only [yB,yC]
 obtain ⟨r,hr9⟩:=yy
 rcases yZ r 3 with hrl|hrg
 ·have hcq:((r:Nat):Int)<3:=by omega
  obtain ⟨q,hq⟩: ∃ q,a2j x r=q:=⟨_,rfl⟩
  have hql:q.length=16:=by rw [←hq];exact b1s hx r
  have hnx:a2j x (r+1)=l0f q:=by rw [a2j,hq]
  simp only [hq]
  have F0:=yA hcq<|yA hql<|F0
  refine (fun zX=>goW) ?_
  refine Gx (fun y=>[(10,.w (.one (.pl (.i ((y.1:Nat):Int))))),(3,.w (.one (.pl (.u64 (cyN (fL q) y.1)))))]) (fun y=>[(1,⟨false,Dz (i0a (cyV (fL q)) y.1 q)⟩)]) (fun y=>16-y.1) (⟨0,xA _⟩:{y:Nat//y≤16}) ?_ (by (simp only [go_sem,leX,yB,yC];first|done|rfl|(simp;done))) (by (simp only [e0r,go_sem,leX,yB,yC];first|done|rfl|(simp [leX,look];done)))
  intro yy xN1 xM1 xhN1 xhM1
  simp only [yB,yC]
  obtain ⟨k,hk9⟩:=yy
  rcases yZ k 16 with hlt|hge
  ·have hcq:((k:Nat):Int)<16:=by omega
   have hc0:(0:Int)≤((k:Nat):Int):=by omega
   have hk1:k+1≤16:=by omega
   obtain ⟨z,hz⟩: ∃ z,i0a (cyV (fL q)) k q=z:=⟨_,rfl⟩
   have hzl:z.length=16:=by rw [←hz,a0v (by omega),hql]
   have hzk:z.getD k 0=q.getD k 0:=by rw [←hz,n0r (xL _)]
   have hset:z.set k (cyV (fL q) k)=i0a (cyV (fL q)) (k+1) q:=by rw [←hz];exact j0b (by omega)
   obtain ⟨v,hv⟩: ∃ v,q.getD k 0=v:=⟨_,rfl⟩
   obtain ⟨c,hc⟩: ∃ c,cyN (fL q) k=c:=⟨_,rfl⟩
   have o1:=Kk (l:=z) (i:=k) (by omega)
   rw [hzk,hv] at o1
   have hfv:cyV (fL q) k=(c+v)%65536:=by simp only [cyV,hc,fL,hv]
   have hfn:cyN (fL q) (k+1)=(c+v)/65536:=by simp only [cyN,hc,fL,hv]
   have p0:=Sw (q:=z) (j:=k) ((c+v)%65536) (by omega)
   rw [hfv] at hset
   rw [hset] at p0
   have hcn:(c+v)/65536=cyN (fL q) (k+1):=hfn.symm
   simp only [hc,hz]
   have hs1:Go.RowKit.wrap64 (((k:Nat):Int)+1)=((k+1:Nat):Int):=Gy (by omega) (by omega)
   have F0:=yA hcq<|yA hc0<|yA hk1<|yA hzl<|yA o1<|yA p0<|yA hs1<|F0
   refine (fun zX=>goW) ?_
   refine xhN1 ⟨k+1,hlt⟩ _ ?_ ?_ ?_
   ·(exact yP hlt (yQ k))
   ·(simp only [hfn,go_sem,leX,yB,yC];first|done|rfl|(simp [leX,look];done))
   (simp only [go_sem,leX,yB,yC,F0];try simp)
  obtain rfl:k=16:=by omega
  have hcq:¬((16:Nat):Int)<16:=by omega
  obtain ⟨c,hc⟩: ∃ c,cyN (fL q) 16=c:=⟨_,rfl⟩
  obtain ⟨z,hz⟩: ∃ z,t1q q=z:=⟨_,rfl⟩
  have hzl:z.length=16:=by rw [←hz];exact d0i q
  obtain ⟨v,hv⟩: ∃ v,z.getD 0 0=v:=⟨_,rfl⟩
  have o1:=Kk (l:=z) (i:=0) (by omega)
  have hrn:z.set 0 (v+38*c)=l0f q:=by rw [l0f,hz,hv,hc]
  have p0:=Sw (q:=z) (j:=0) (v+38*c) (by omega)
  rw [hrn] at p0
  rw [hv] at o1
  simp only [vR] at o1
  simp only [wH,yC,xV] at p0
  simp only [v1e hql,hc,hz]
  have hs2:Go.RowKit.wrap64 (((r:Nat):Int)+1)=((r+1:Nat):Int):=Gy (by omega) (by omega)
  have F0:=yA hcq<|yA hzl<|yA o1<|yA p0<|yA hs2<|yA xV<|F0
  refine (fun zX=>goW) ?_
  refine xhN0 ⟨r+1,hrl⟩ _ ?_ ?_ ?_
  ·(exact yP hrl (yQ r))
  ·(simp only [go_sem,leX,yB,yC,F0];try simp)
  (simp only [hnx,go_sem,leX,yB,yC];first|done|rfl|(simp [leX,look];done))
 obtain rfl:r=3:=by omega
 have hcq:¬((3:Nat):Int)<3:=by omega
 obtain ⟨r1,r2,r3⟩:=v1f hx hl
 obtain ⟨q3,hq3⟩: ∃ q,a2j x 3=q:=⟨_,rfl⟩
 have hq3':l0f (l0f (l0f x))=q3:=hq3
 rw [hq3'] at r1 r2 r3
 simp only [hq3]
 have F0:=yA hcq<|F0
 refine (fun zX=>goW) ?_
 refine Bv [0,3,4,8,9,10,11,12,13,14,15,16,17,18,19,20,21,22,23,24,25,26,27,28,29,30,31] ?_
 simp only [Bj,Cx,Bq,yI,yK,Nat.reduceBEq,beq_self_eq_true,yS,yV,yY,yT,yE,reduceIte]
 refine Gx (fun y=>[]) (fun y=>[(1,⟨false,Dz y.1⟩)]) (fun y=>Gw 65536 y.1) (⟨q3,r1,r2,r3⟩:{q:List UInt64//q.length=16∧(∀ i,i<16→(fL q i).toNat<65536)∧Gw 65536 q%p25=Gw 65536 x%p25}) ?_ (by (simp only [go_sem,leX,yB,yC,F0];try simp)) (by (simp only [go_sem,leX,yB,yC];first|done|rfl|(simp [leX,look];done)))
 intro yy xN1 xM1 xhN1 xhM1
 simp only [yB,yC]
 obtain ⟨q,hql,hqd,hqm⟩:=yy
 have hN:=nb_ q hql hqd
 rcases yZ (Gw 65536 q) p25 with hlt2|hge2
 ·rw [decide_eq_false (by omega)] at hN
  have hfin:Dz (D16 (Gw 65536 x%p25))=Dz q:=by rw [←b2r hql hqd (n:=Gw 65536 x%p25) (by rw [←hqm,yN hlt2])]
  have F0:=yA hql<|F0
  have cq:=yA (CtM.ch [] (hN.told))<|trivial
  refine (fun zX=>goW) ?_
  refine zhY _ _ ?_
  simp only [go_sem,F0]
  all_goals (exact told_plain (e0t _) ⟨by rw [hfin],rfl⟩)
 rw [decide_eq_true hge2] at hN
 have F0:=yA hql<|F0
 have cq:=yA (CtM.ch [] (hN.told))<|trivial
 refine (fun zX=>goW) ?_
 refine Gx (fun y=>[(34,.w (.one (.pl (.i ((y.1:Nat):Int))))),(5,.w (.one (.pl (.u64 (bwN (fL q) (fL Nw) y.1)))))]) (fun y=>[(1,⟨false,Dz (i0a (bwV (fL q) (fL Nw)) y.1 q)⟩)]) (fun y=>16-y.1) (⟨0,xA _⟩:{y:Nat//y≤16}) ?_ (by (simp only [go_sem,leX,yB,yC];first|done|rfl|(simp;done))) (by (simp only [e0r,go_sem,leX,yB,yC];first|done|rfl|(simp [leX,look];done)))
 intro yy xN2 xM2 xhN2 xhM2
 simp only [yB,yC]
 obtain ⟨k,hk9⟩:=yy
 rcases yZ k 16 with hlt|hge
 ·have hcq:((k:Nat):Int)<16:=by omega
  have hc0:(0:Int)≤((k:Nat):Int):=by omega
  have hk1:k+1≤16:=by omega
  obtain ⟨z,hz⟩: ∃ z,i0a (bwV (fL q) (fL Nw)) k q=z:=⟨_,rfl⟩
  have hzl:z.length=16:=by rw [←hz,a0v (by omega),hql]
  have hzk:z.getD k 0=q.getD k 0:=by rw [←hz,n0r (xL _)]
  have hset:z.set k (bwV (fL q) (fL Nw) k)=i0a (bwV (fL q) (fL Nw)) (k+1) q:=by rw [←hz];exact j0b (by omega)
  obtain ⟨v,hv⟩: ∃ v,q.getD k 0=v:=⟨_,rfl⟩
  obtain ⟨c,hc⟩: ∃ c,bwN (fL q) (fL Nw) k=c:=⟨_,rfl⟩
  have o1:=Kk (l:=z) (i:=k) (by omega)
  rw [hzk,hv] at o1
  obtain ⟨w,hw⟩: ∃ w,Nw.getD k 0=w:=⟨_,rfl⟩
  have o2:=Kk (l:=Nw) (i:=k) (by rw [Nz];omega)
  rw [hw] at o2
  have hfv:bwV (fL q) (fL Nw) k=(v+65536-w-c)%65536:=by simp only [bwV,hc,fL,hv,hw]
  have hfn:bwN (fL q) (fL Nw) (k+1)=1-(v+65536-w-c)/65536:=by simp only [bwN,hc,fL,hv,hw]
  have p0:=Sw (q:=z) (j:=k) ((v+65536-w-c)%65536) (by omega)
  rw [hfv] at hset
  rw [hset] at p0
  have hcn:1-(v+65536-w-c)/65536=bwN (fL q) (fL Nw) (k+1):=hfn.symm
  simp only [hc,hz]
  have hs1:Go.RowKit.wrap64 (((k:Nat):Int)+1)=((k+1:Nat):Int):=Gy (by omega) (by omega)
  have F0:=yA hcq<|yA hc0<|yA hk1<|yA hzl<|yA o1<|yA p0<|yA hs1<|yA o2<|yA @Nz<|F0
  have zd0:DQ 17 [37,38,39,40,41,42,43,44,45,46,7] [0,1,3,7,0,16,48,127,0,511,1023] []:=⟨⟩
  refine (fun zX=>goW) ?_
  refine xhN2 ⟨k+1,hlt⟩ _ ?_ ?_ ?_
  ·(exact yP hlt (yQ k))
  ·(simp only [hfn,go_sem,leX,yB,yC];first|done|rfl|(simp [leX,look];done))
  (simp only [go_sem,leX,yB,yC,F0];try simp)
 obtain rfl:k=16:=by omega
 have hcq:¬((16:Nat):Int)<16:=by omega
 obtain ⟨z,hz⟩: ∃ z,(List.range 16).map (bwV (fL q) (fL Nw))=z:=⟨_,rfl⟩
 have hpz:i0a (bwV (fL q) (fL Nw)) 16 q=z:=by rw [e0s hql,hz]
 have hzl:z.length=16:=by rw [←hz];simp
 have hzv:=c2n hql hqd hge2
 rw [hz] at hzv
 have hzd: ∀ i,i<16→(fL z i).toNat<65536:=fun i hi=>by rw [←hz,n0q hi];exact h1n _ _ i
 have hzm:Gw 65536 z%p25=Gw 65536 x%p25:=by
  rw [←hqm,←hzv,Nat.add_mod_right]
 have hdec:Gw 65536 z<Gw 65536 q:=by rw [←hzv];exact Nat.lt_add_of_pos_right (by decide)
 simp only [hpz]
 have F0:=yA hcq<|F0
 have zL:=fun S2=>xhN1 ⟨z,hzl,hzd,hzm⟩ S2 (by (exact hdec))
 exact goW
end Lk
end Go.Sy
