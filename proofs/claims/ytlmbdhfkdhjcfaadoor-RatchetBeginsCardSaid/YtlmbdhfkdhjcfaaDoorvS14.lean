/- Walks and what they compute. CONDITIONS: those that each theorem names. -/
import Derived.Test.YtlmbdhfkdhjcfaaDoorvS13
import Derived.Test.YtlmbdhfkdhjcfaaDoorvE2
set_option linter.unusedVariables false
set_option linter.unusedSimpArgs false
set_option maxHeartbeats 3200000
set_option maxRecDepth 100000
namespace Go.Sy
theorem Nw {l:List UInt64} {i:Nat} (h:i<l.length):List.take 1 (List.drop i (Aw l))=[.pl (.u64 (l.getD i 0))]:=by
 rw [List.drop_eq_getElem_cons (by simpa [Aw] using h),List.take_succ_cons,List.take_zero]
 simp [Aw,List.getD,List.getElem?_eq_getElem h]
theorem q1h (l:List UInt64):(Aw l).length=l.length:=by simp [Aw]
theorem Vy {q:List UInt64} {j:Nat} (x:UInt64) (h:j<q.length):List.take j (Aw q)++[L.pl (PL.u64 x)]++List.drop (j+1) (Aw q)=Aw (q.set j x):=by
 rw [List.set_eq_take_append_cons_drop,if_pos h];simp [Aw]
def Qy (B:Nat) (g:Nat→UInt64):Nat→Nat
 |0=>0
 |n+1=>Qy B g n+B ^ n*(g n).toNat
theorem a0k {B:Nat} {f g:Nat→UInt64}: ∀ {n:Nat},(∀ i,i<n→f i=g i)→Qy B f n=Qy B g n
 |0,_=>rfl
 |n+1,h=>by rw [Qy,Qy,a0k (fun i hi=>h i (by omega)),h n (by omega)]
theorem u0r {l:List UInt64} {n:Nat} (h:n<l.length):l.take (n+1)=l.take n++[l.getD n 0]:=by
 rw [List.take_succ_eq_append_getElem h];simp [List.getD,List.getElem?_eq_getElem h]
theorem r0c (B:Nat) (l:List UInt64): ∀ {n:Nat},n≤l.length→Hq B (l.take n)=Qy B (fun i=>l.getD i 0) n
 |0,_=>by simp [Hq,Qy]
 |n+1,h=>by
  rw [u0r h,Xy,r0c B l (by omega),List.length_take,Nat.min_eq_left (by omega)]
  simp [Hq,Qy]
theorem r0b (B:Nat) (l:List UInt64):Hq B l=Qy B (fun i=>l.getD i 0) l.length:=by
 rw [←r0c B l (Nat.le_refl _),List.take_length]
def e0u (f:Nat→UInt64) (i:Nat) (x:List UInt64):List UInt64:=(List.range i).map f++x.drop i
theorem c0n (f:Nat→UInt64) (x:List UInt64):e0u f 0 x=x:=by simp [e0u]
theorem Xx {f:Nat→UInt64} {i:Nat} {x:List UInt64} (h:i≤x.length):(e0u f i x).length=x.length:=by
 simp [e0u];omega
theorem j0u {f:Nat→UInt64} {i j:Nat} {x:List UInt64} (h:i≤j):(e0u f i x).getD j 0=x.getD j 0:=by
 simp only [e0u,List.getD]
 rw [List.getElem?_append_right (by simpa using h)]
 simp only [List.length_map,List.length_range,List.getElem?_drop]
 rw [show i+(j-i)=j from by omega]
theorem f0u {f:Nat→UInt64} {i:Nat} {x:List UInt64} (h:i<x.length):(e0u f i x).set i (f i)=e0u f (i+1) x:=by
 simp only [e0u]
 rw [List.set_append_right _ _ (by simp),List.length_map,List.length_range,Nat.sub_self,List.drop_eq_getElem_cons h,List.set_cons_zero,List.range_succ,List.map_append]
 simp
theorem c0o {f:Nat→UInt64} {x:List UInt64} {n:Nat} (h:x.length=n):e0u f n x=(List.range n).map f:=by
 simp [e0u,←h]
theorem e1p {f:Nat→UInt64} {n i:Nat} (h:i<n):((List.range n).map f).getD i 0=f i:=by
 simp [List.getD,h]
theorem d0s (B:Nat) (f:Nat→UInt64) (n:Nat):Hq B ((List.range n).map f)=Qy B f n:=by
 rw [r0b,List.length_map,List.length_range]
 exact a0k fun i hi=>e1p hi
theorem h0q {B:Nat} {f:Nat→UInt64}: ∀ {n:Nat},(∀ i,i<n→(f i).toNat<B)→Qy B f n<B ^ n
 |0,_=>by simp [Qy]
 |n+1,h=>by
  have h1:=h0q (n:=n) (fun i hi=>h i (by omega))
  have h2:=h n (by omega)
  have h3:B ^ n*(f n).toNat+B ^ n≤B ^ n*B:=by
   have:=Nat.mul_le_mul_left (B ^ n) (Nat.succ_le_of_lt h2)
   rwa [Nat.mul_succ] at this
  rw [Qy,Nat.pow_succ];omega
theorem c1x {f:Nat→UInt64} {K:Nat}: ∀ {n:Nat},(∀ i,i<n→(f i).toNat≤K)→Qy 65536 f n≤K*65536 ^ n
 |0,_=>by simp [Qy]
 |n+1,h=>by
  have h1:=c1x (n:=n) (fun i hi=>h i (by omega))
  have h2:=Nat.mul_le_mul_left (65536 ^ n) (h n (by omega))
  rw [Qy,Nat.pow_succ]
  rw [Nat.mul_comm (65536 ^ n) K] at h2
  have h3:K*(65536 ^ n*65536)=K*65536 ^ n*65536:=by rw [Nat.mul_assoc]
  omega
def cyN (x:Nat→UInt64):Nat→UInt64
 |0=>0
 |i+1=>(cyN x i+x i)/65536
def cyV (x:Nat→UInt64) (i:Nat):UInt64:=(cyN x i+x i)%65536
theorem d16 :(65536:UInt64).toNat=65536:=rfl
theorem t0r {x:Nat→UInt64}: ∀ {n:Nat},(∀ i,i<n→(x i).toNat<4611686018427387904)→Qy 65536 (cyV x) n+65536 ^ n*(cyN x n).toNat=Qy 65536 x n∧(cyN x n).toNat<4611686018427387904
 |0,_=>⟨rfl,by show (0:UInt64).toNat<_;decide⟩
 |n+1,h=>by
  obtain ⟨h1,h2⟩:=t0r (n:=n) (fun i hi=>h i (by omega))
  have h3:=h n (by omega)
  have h4:(cyN x n+x n).toNat=(cyN x n).toNat+(x n).toNat:=Wy (by omega)
  have h5:(cyN x (n+1)).toNat=((cyN x n).toNat+(x n).toNat)/65536:=by rw [cyN,UInt64.toNat_div,h4,d16]
  have h6:(cyV x n).toNat=((cyN x n).toNat+(x n).toNat)%65536:=by rw [cyV,UInt64.toNat_mod,h4,d16]
  refine ⟨?_,by rw [h5];omega⟩
  simp only [Qy]
  rw [←h1,h5,h6,Nat.pow_succ]
  have h7:=Nat.div_add_mod ((cyN x n).toNat+(x n).toNat) 65536
  generalize ((cyN x n).toNat+(x n).toNat)%65536=r at*
  generalize ((cyN x n).toNat+(x n).toNat)/65536=t at*
  have h8:65536 ^ n*r+65536 ^ n*65536*t=65536 ^ n*(cyN x n).toNat+65536 ^ n*(x n).toNat:=by
   rw [Nat.mul_assoc,←Nat.mul_add,←Nat.mul_add];congr 1;omega
  omega
theorem t0s (x:Nat→UInt64) (i:Nat):(cyV x i).toNat<65536:=by
 rw [cyV,UInt64.toNat_mod,d16];exact Nat.mod_lt _ (by decide)
def bwN (a b:Nat→UInt64):Nat→UInt64
 |0=>0
 |i+1=>1-(a i+65536-b i-bwN a b i)/65536
def bwV (a b:Nat→UInt64) (i:Nat):UInt64:=(a i+65536-b i-bwN a b i)%65536
theorem d1j {x y:UInt64} (h:y.toNat≤x.toNat):(x-y).toNat=x.toNat-y.toNat:=by
 exact UInt64.toNat_sub_of_le _ _ (UInt64.le_iff_toNat_le.mpr h)
theorem i1d {a b:Nat→UInt64}: ∀ {n:Nat},(∀ i,i<n→(a i).toNat<65536)→(∀ i,i<n→(b i).toNat<65536)→Qy 65536 (bwV a b) n+Qy 65536 b n=Qy 65536 a n+65536 ^ n*(bwN a b n).toNat∧(bwN a b n).toNat≤1
 |0,_,_=>⟨by simp [Qy,bwN],by simp [bwN]⟩
 |n+1,ha,hb=>by
  obtain ⟨h1,h2⟩:=i1d (n:=n) (fun i hi=>ha i (by omega)) (fun i hi=>hb i (by omega))
  have h3:=ha n (by omega)
  have h4:=hb n (by omega)
  have e1:(a n+65536).toNat=(a n).toNat+65536:=by rw [Wy (by rw [d16];omega),d16]
  have e2:(a n+65536-b n).toNat=(a n).toNat+65536-(b n).toNat:=by rw [d1j (by rw [e1];omega),e1]
  have e3:(a n+65536-b n-bwN a b n).toNat=(a n).toNat+65536-(b n).toNat-(bwN a b n).toNat:=by rw [d1j (by rw [e2];omega),e2]
  have o1:(1:UInt64).toNat=1:=rfl
  have h5:(bwN a b (n+1)).toNat=1-((a n).toNat+65536-(b n).toNat-(bwN a b n).toNat)/65536:=by
   rw [bwN,d1j (by rw [UInt64.toNat_div,e3,d16,o1];omega),UInt64.toNat_div,e3,d16,o1]
  have h6:(bwV a b n).toNat=((a n).toNat+65536-(b n).toNat-(bwN a b n).toNat)%65536:=by rw [bwV,UInt64.toNat_mod,e3,d16]
  have h7:(bwV a b n).toNat+(b n).toNat+(bwN a b n).toNat=(a n).toNat+65536*(bwN a b (n+1)).toNat:=by rw [h5,h6];omega
  refine ⟨?_,by rw [h5];omega⟩
  simp only [Qy]
  rw [Nat.pow_succ]
  generalize (bwV a b n).toNat=v at*
  generalize (bwN a b (n+1)).toNat=k1 at*
  generalize (bwN a b n).toNat=k at*
  generalize (b n).toNat=y at*
  generalize (a n).toNat=x at*
  generalize 65536 ^ n=E at*
  have h8:E*v+E*y+E*k=E*x+E*(65536*k1):=by rw [←Nat.mul_add,←Nat.mul_add,←Nat.mul_add,h7]
  rw [Nat.mul_assoc]
  omega
theorem z0r (a b:Nat→UInt64) (i:Nat):(bwV a b i).toNat<65536:=by
 rw [bwV,UInt64.toNat_mod,d16];exact Nat.mod_lt _ (by decide)
theorem o0x {B:Nat} {f g:Nat→UInt64} {k:Nat} (hf: ∀ i,i<k+1→(f i).toNat<B) (h:(f k).toNat<(g k).toNat): ∀ {n:Nat},k<n→(∀ i,k<i→i<n→f i=g i)→Qy B f n<Qy B g n
 |0,hk,_=>absurd hk (by omega)
 |n+1,hk,he=>by
  by_cases e:k=n
  ·subst e
   have h1:=h0q (B:=B) (f:=f) (n:=k) (fun i hi=>hf i (by omega))
   have h2:=Nat.mul_le_mul_left (B ^ k) (Nat.succ_le_of_lt h)
   rw [Nat.mul_succ] at h2
   rw [Qy,Qy];omega
  ·have h1:=o0x hf h (n:=n) (by omega) (fun i h1 h2=>he i h1 (by omega))
   rw [Qy,Qy,he n (by omega) (by omega)];omega
end Go.Sy
namespace Go.Sy
def D16 (n:Nat):List UInt64:=dgL 65536 n 16
theorem Fy (n:Nat):(D16 n).length=16:=rfl
def Mk :List UInt64:=[65517,65535,65535,65535,65535,65535,65535,65535,65535,65535,65535,65535,65535,65535,65535,32767]
theorem p0l :Hq 65536 Mk=p25:=by decide+kernel
theorem Cj :Mk.length=16:=rfl
def fL (l:List UInt64) (i:Nat):UInt64:=l.getD i 0
theorem Pv {l:List UInt64} (h:l.length=16):Hq 65536 l=Qy 65536 (fL l) 16:=by
 rw [r0b,h];rfl
theorem e1t : ∀ i,i<16→(fL Mk i).toNat<65536:=by decide+kernel
theorem j1f {l:List UInt64} {K:Nat} (h:l.length=16):(∀ v∈l,v.toNat<K)↔∀ i,i<16→(fL l i).toNat<K:=by
 constructor
 ·intro h1 i hi
  refine h1 _ ?_
  rw [fL,List.getD,List.getElem?_eq_getElem (by omega)];exact List.getElem_mem _
 ·intro h1 v hv
  obtain ⟨i,hi,rfl⟩:=List.mem_iff_getElem.mp hv
  have:=h1 i (by omega)
  rwa [fL,List.getD,List.getElem?_eq_getElem hi] at this
theorem Gz (n:Nat): ∀ i,i<16→(fL (D16 n) i).toNat<65536:=(j1f (Fy n)).mp (z0h (by decide) (by decide) n 16)
theorem e16 :65536 ^ 16=m4:=rfl
theorem Ew {n:Nat} (h:n<m4):Hq 65536 (D16 n)=n:=by
 rw [D16,j0r (by decide) (by decide),e16];exact Nat.mod_eq_of_lt h
theorem p1y {l:List UInt64} {n:Nat} (h:l.length=16) (h1: ∀ i,i<16→(fL l i).toNat<65536) (h2:Hq 65536 l=n):l=D16 n:=by
 have:=p1t (B:=65536) (by decide) (by decide) ((j1f h).mpr h1)
 rw [h2,h] at this;exact this
def j1n (x:List UInt64):List UInt64:=(List.range 16).map (cyV (fL x))
def h0v (x:List UInt64):List UInt64:=(j1n x).set 0 ((j1n x).getD 0 0+38*cyN (fL x) 16)
theorem b0g (x:List UInt64):(j1n x).length=16:=by simp [j1n]
theorem a0o (x:List UInt64):(h0v x).length=16:=by simp [h0v,b0g]
theorem t0k {q:List UInt64} {i j:Nat} {x:UInt64} (h:i<q.length):fL (q.set i x) j=if i=j then x else fL q j:=by
 simp only [fL,List.getD,List.getElem?_set]
 split
 ·rename_i e;subst e;simp [h]
 ·rfl
theorem o0w {B:Nat} {f g:Nat→UInt64} {k:Nat} (h: ∀ j,¬j=k→f j=g j): ∀ {n:Nat},k<n→Qy B f n+B ^ k*(g k).toNat=Qy B g n+B ^ k*(f k).toNat
 |0,hk=>absurd hk (by omega)
 |n+1,hk=>by
  by_cases e:k=n
  ·subst e
   have:=a0k (B:=B) (f:=f) (g:=g) (n:=k) (fun i hi=>h i (by omega))
   rw [Qy,Qy,this];omega
  ·have h1:=o0w h (B:=B) (n:=n) (by omega)
   rw [Qy,Qy,h n (fun e2=>e e2.symm)];omega
theorem a1d {c:UInt64} (h:c.toNat≤72057594037927936):(38*c).toNat=38*c.toNat:=by
 rw [UInt64.toNat_mul]
 have:(38:UInt64).toNat=38:=rfl
 rw [this];exact Nat.mod_eq_of_lt (by omega)
theorem u0v {x:List UInt64} (hx:x.length=16) (h: ∀ i,i<16→(fL x i).toNat<4611686018427387904) (hc:(cyN (fL x) 16).toNat≤72057594037927936):
  Hq 65536 (h0v x)+m4*(cyN (fL x) 16).toNat=Hq 65536 x+38*(cyN (fL x) 16).toNat∧(∀ i,i<16→(fL (h0v x) i).toNat<65536+38*(cyN (fL x) 16).toNat):=by
 obtain ⟨h1,_⟩:=t0r (x:=fL x) (n:=16) h
 have hy: ∀ i,i<16→fL (j1n x) i=cyV (fL x) i:=fun i hi=>e1p hi
 have h0:(fL (h0v x) 0).toNat=(cyV (fL x) 0).toNat+38*(cyN (fL x) 16).toNat:=by
  have e:fL (h0v x) 0=fL (j1n x) 0+38*cyN (fL x) 16:=by
   rw [h0v,t0k (by rw [b0g];decide),if_pos rfl];rfl
  have:=t0s (fL x) 0
  rw [e,hy 0 (by decide),Wy (by rw [a1d hc];omega),a1d hc]
 have hj: ∀ j,¬j=0→fL (h0v x) j=fL (j1n x) j:=fun j hj=>by
  rw [h0v,t0k (by rw [b0g];decide),if_neg (by omega)]
 have h2:=o0w (B:=65536) hj (n:=16) (by decide)
 have h3:Qy 65536 (fL (j1n x)) 16=Qy 65536 (cyV (fL x)) 16:=a0k hy
 rw [←Pv (a0o x),h3,h0,hy 0 (by decide)] at h2
 rw [Pv hx,←h1,e16]
 simp only [Nat.pow_zero,Nat.one_mul] at h2
 refine ⟨by omega,fun i hi=>?_⟩
 by_cases e:i=0
 ·subst e;rw [h0];have:=t0s (fL x) 0;omega
 ·rw [hj i e,hy i hi];have:=t0s (fL x) i;omega
theorem v1o {x:List UInt64} (hx:x.length=16) (h: ∀ i,i<16→(fL x i).toNat<4611686018427387904):m4*(cyN (fL x) 16).toNat≤Hq 65536 x:=by
 obtain ⟨h1,_⟩:=t0r (x:=fL x) (n:=16) h
 rw [Pv hx,←h1,e16];omega
theorem step_mod {v w c:Nat} (h:v+m4*c=w+38*c):v%p25=w%p25:=by
 have e:v+m4*c=v+38*c+2*p25*c:=by rw [a2d];grind
 have:w=v+2*p25*c:=by omega
 rw [this,u0j]
theorem k1r {x:List UInt64} (hx:x.length=16) (h: ∀ i,i<16→(fL x i).toNat≤70368744177664):
  (h0v (h0v (h0v x))).length=16∧(∀ i,i<16→(fL (h0v (h0v (h0v x))) i).toNat<65536)∧Hq 65536 (h0v (h0v (h0v x)))%p25=Hq 65536 x%p25:=by
 have hm:=c0u
 have a1: ∀ i,i<16→(fL x i).toNat<4611686018427387904:=fun i hi=>by have:=h i hi;omega
 have a2:=v1o hx a1
 have a3:=c1x (n:=16) h
 rw [←Pv hx,e16] at a3
 have a4:(cyN (fL x) 16).toNat≤70368744177664:=by
  refine Nat.le_of_mul_le_mul_left (c:=m4) ?_ (by rw [c0u];decide)
  rw [Nat.mul_comm m4 70368744177664];omega
 obtain ⟨b1,b2⟩:=u0v hx a1 (by omega)
 obtain ⟨c,hc⟩: ∃ c,(cyN (fL x) 16).toNat=c:=⟨_,rfl⟩
 rw [hc] at a2 a4 b1 b2
 have bl:=a0o x
 obtain ⟨y,hy⟩: ∃ y,h0v x=y:=⟨_,rfl⟩
 rw [hy] at b1 b2 bl ⊢
 have hcy:=t0r (x:=fL x) (n:=16) a1
 rw [hc,←Pv hx,e16] at hcy
 have hlo:=h0q (B:=65536) (f:=cyV (fL x)) (n:=16) (fun i _=>t0s _ i)
 rw [e16] at hlo
 have b3:Hq 65536 y<m4+38*c:=by have:=hcy.1;omega
 have b4: ∀ i,i<16→(fL y i).toNat<4611686018427387904:=fun i hi=>by have:=b2 i hi;omega
 have b5:=v1o bl b4
 have b6:(cyN (fL y) 16).toNat≤1:=by
  rcases Nat.lt_or_ge 1 (cyN (fL y) 16).toNat with h1|h1
  ·exfalso
   have:=Nat.mul_le_mul_left m4 h1
   rw [c0u] at this b5 b3;omega
  ·exact h1
 obtain ⟨d1,d2⟩:=u0v bl b4 (by omega)
 have hcy2:=t0r (x:=fL y) (n:=16) b4
 have hlo2:=h0q (B:=65536) (f:=cyV (fL y)) (n:=16) (fun i _=>t0s _ i)
 rw [e16] at hlo2
 rw [←Pv bl,e16] at hcy2
 obtain ⟨k,hk⟩: ∃ k,(cyN (fL y) 16).toNat=k:=⟨_,rfl⟩
 rw [hk] at d1 d2 b6 hcy2
 have dl:=a0o y
 obtain ⟨z,hz⟩: ∃ z,h0v y=z:=⟨_,rfl⟩
 rw [hz] at d1 d2 dl ⊢
 have d3:Hq 65536 z<m4:=by
  have hk01:k=0∨k=1:=by omega
  rcases hk01 with rfl|rfl
  ·have:=hcy2.1;omega
  ·have:=hcy2.1;rw [c0u] at*;omega
 have d4: ∀ i,i<16→(fL z i).toNat<4611686018427387904:=fun i hi=>by have:=d2 i hi;omega
 have d5:=v1o dl d4
 have d6:(cyN (fL z) 16).toNat=0:=by
  rcases Nat.eq_zero_or_pos (cyN (fL z) 16).toNat with h1|h1
  ·exact h1
  ·exfalso
   have:=Nat.mul_le_mul_left m4 h1
   rw [c0u] at this d5 d3;omega
 obtain ⟨f1,f2⟩:=u0v dl d4 (by omega)
 rw [d6] at f1 f2
 refine ⟨a0o z,fun i hi=>by have:=f2 i hi;omega,?_⟩
 rw [step_mod f1,step_mod d1,step_mod b1]
theorem s1u {x:List UInt64} {k:Nat} (hx:x.length=16) (h: ∀ i,i<16→(fL x i).toNat<65536) (hk:k<16) (he: ∀ j,k<j→j<16→fL x j=fL Mk j) (hn:¬fL x k=fL Mk k):(fL Mk k<fL x k)↔p25≤Hq 65536 x:=by
 rw [UInt64.lt_iff_toNat_lt,←p0l,Pv hx,Pv Cj]
 constructor
 ·intro h1
  exact Nat.le_of_lt (o0x (fun i hi=>e1t i (by omega)) h1 hk (fun i h2 h3=>(he i h2 h3).symm))
 ·intro h1
  rcases Nat.lt_trichotomy (fL Mk k).toNat (fL x k).toNat with h2|h2|h2
  ·exact h2
  ·exact absurd (UInt64.toNat_inj.mp h2).symm hn
  ·have:=o0x (B:=65536) (fun i hi=>h i (by omega)) h2 hk (fun i h2 h3=>he i h2 h3)
   omega
theorem s1t {x:List UInt64} (hx:x.length=16) (he: ∀ j,j<16→fL x j=fL Mk j):p25≤Hq 65536 x:=by
 rw [←p0l,Pv hx,Pv Cj,a0k he];exact Nat.le_refl _
theorem q1r {x:List UInt64} (hx:x.length=16) (h: ∀ i,i<16→(fL x i).toNat<65536) (hp:p25≤Hq 65536 x):Hq 65536 ((List.range 16).map (bwV (fL x) (fL Mk)))+p25=Hq 65536 x:=by
 obtain ⟨h1,h2⟩:=i1d (n:=16) h e1t
 rw [d0s]
 rw [←Pv hx,←Pv Cj,p0l,e16] at h1
 have h3:=h0q (B:=65536) (f:=bwV (fL x) (fL Mk)) (n:=16) (fun i _=>z0r _ _ i)
 rw [e16] at h3
 have h4:(bwN (fL x) (fL Mk) 16).toNat=0:=by
  rcases Nat.eq_zero_or_pos (bwN (fL x) (fL Mk) 16).toNat with h5|h5
  ·exact h5
  ·exfalso
   have:=Nat.mul_le_mul_left m4 h5
   rw [c0u] at*;omega
 rw [h4] at h1;omega
theorem s1b {x:List UInt64} (hx:x.length=16) (h: ∀ i,i<16→(fL x i).toNat<65536) (hp:Hq 65536 x≤p25):Hq 65536 ((List.range 16).map (bwV (fL Mk) (fL x)))=p25-Hq 65536 x:=by
 obtain ⟨h1,h2⟩:=i1d (n:=16) e1t h
 rw [d0s]
 rw [←Pv hx,←Pv Cj,p0l,e16] at h1
 have h3:=h0q (B:=65536) (f:=bwV (fL Mk) (fL x)) (n:=16) (fun i _=>z0r _ _ i)
 rw [e16] at h3
 have h4:(bwN (fL Mk) (fL x) 16).toNat=0:=by
  rcases Nat.eq_zero_or_pos (bwN (fL Mk) (fL x) 16).toNat with h5|h5
  ·exact h5
  ·exfalso
   have:=Nat.mul_le_mul_left m4 h5
   rw [c0u] at*;omega
 rw [h4] at h1;omega
theorem j0t {f:Nat→UInt64} {n i:Nat} (h:i<n):fL ((List.range n).map f) i=f i:=e1p h
def q16 (a:UInt64) (k:Nat):UInt64:=Ux a k%65536
theorem p0j (a:UInt64):(q16 a 0).toNat+65536*((q16 a 16).toNat+65536*((q16 a 32).toNat+65536*(q16 a 48).toNat))=a.toNat:=by
 have ha:=a.toNat_lt
 simp only [q16,UInt64.toNat_mod,k0l,d16]
 omega
theorem y1l (a:UInt64) (k:Nat):(q16 a k).toNat<65536:=by
 rw [q16,UInt64.toNat_mod,d16];exact Nat.mod_lt _ (by decide)
def q0t (a b c d:UInt64):List UInt64:=[q16 a 0,q16 a 16,q16 a 32,q16 a 48,q16 b 0,q16 b 16,q16 b 32,q16 b 48,q16 c 0,q16 c 16,q16 c 32,q16 c 48,q16 d 0,q16 d 16,q16 d 32,q16 d 48]
def four (x y z w:UInt64):List UInt64:=[x,y,z,w]
theorem Zk (x y z w:UInt64):Hq 65536 (four x y z w)=x.toNat+65536*(y.toNat+65536*(z.toNat+65536*w.toNat)):=by
 simp [four,Hq]
theorem t0g (p q r s:List UInt64) (hp:p.length=4) (hq:q.length=4) (hr:r.length=4):Hq 65536 (p++(q++(r++s)))=Hq 65536 p+18446744073709551616*(Hq 65536 q+18446744073709551616*(Hq 65536 r+18446744073709551616*Hq 65536 s)):=by
 rw [Xy,Xy,Xy,hp,hq,hr]
theorem h1s (a b c d:UInt64):q0t a b c d=D16 (vQ a b c d):=by
 have hl: ∀ v∈q0t a b c d,v.toNat<65536:=by
  intro v hv
  simp only [q0t,List.mem_cons,List.not_mem_nil,or_false] at hv
  rcases hv with rfl|rfl|rfl|rfl|rfl|rfl|rfl|rfl|rfl|rfl|rfl|rfl|rfl|rfl|rfl|rfl<;>exact y1l _ _
 refine p1y rfl ((j1f rfl).mp hl) ?_
 have e:q0t a b c d=four (q16 a 0) (q16 a 16) (q16 a 32) (q16 a 48)++(four (q16 b 0) (q16 b 16) (q16 b 32) (q16 b 48)++(four (q16 c 0) (q16 c 16) (q16 c 32) (q16 c 48)++four (q16 d 0) (q16 d 16) (q16 d 32) (q16 d 48))):=rfl
 rw [e,t0g _ _ _ _ rfl rfl rfl,Zk,Zk,Zk,Zk,p0j,p0j,p0j,p0j];rfl
def wrd (x y z w:UInt64):UInt64:=0|||Ik x 0|||Ik y 16|||Ik z 32|||Ik w 48
theorem o0u {x y z w:UInt64} (hx:x.toNat<65536) (hy:y.toNat<65536) (hz:z.toNat<65536) (hw:w.toNat<65536):(wrd x y z w).toNat=x.toNat+65536*(y.toNat+65536*(z.toNat+65536*w.toNat)):=by
 have s0:(Ik x 0).toNat=x.toNat:=by rw [r0f];omega
 have s1:(Ik y 16).toNat=2 ^ 16*y.toNat:=by rw [r0f];omega
 have s2:(Ik z 32).toNat=2 ^ 32*z.toNat:=by rw [r0f];omega
 have s3:(Ik w 48).toNat=2 ^ 48*w.toNat:=by rw [r0f];omega
 have e0:(0|||Ik x 0).toNat=x.toNat:=by
  rw [UInt64.toNat_or,s0];exact Nat.zero_or _
 have e1:(0|||Ik x 0|||Ik y 16).toNat=x.toNat+2 ^ 16*y.toNat:=by rw [j1x 16 (by rw [e0];omega) s1,e0,s1]
 have e2:(0|||Ik x 0|||Ik y 16|||Ik z 32).toNat=x.toNat+2 ^ 16*y.toNat+2 ^ 32*z.toNat:=by rw [j1x 32 (by rw [e1];omega) s2,e1,s2]
 rw [wrd,j1x 48 (by rw [e2];omega) s3,e2,s3];omega
theorem q1a {x0 x1 x2 x3 x4 x5 x6 x7 x8 x9 xa xb xc xd xe xf:UInt64} (hl: ∀ v∈[x0,x1,x2,x3,x4,x5,x6,x7,x8,x9,xa,xb,xc,xd,xe,xf],v.toNat<65536):vQ (wrd x0 x1 x2 x3) (wrd x4 x5 x6 x7) (wrd x8 x9 xa xb) (wrd xc xd xe xf)=Hq 65536 [x0,x1,x2,x3,x4,x5,x6,x7,x8,x9,xa,xb,xc,xd,xe,xf]:=by
 have e: [x0,x1,x2,x3,x4,x5,x6,x7,x8,x9,xa,xb,xc,xd,xe,xf]=four x0 x1 x2 x3++(four x4 x5 x6 x7++(four x8 x9 xa xb++four xc xd xe xf)):=rfl
 have g: ∀ v,v∈[x0,x1,x2,x3,x4,x5,x6,x7,x8,x9,xa,xb,xc,xd,xe,xf]→v.toNat<65536:=hl
 rw [e,t0g _ _ _ _ rfl rfl rfl,Zk,Zk,Zk,Zk,vQ,o0u (g _ (by simp)) (g _ (by simp)) (g _ (by simp)) (g _ (by simp)),o0u (g _ (by simp)) (g _ (by simp)) (g _ (by simp)) (g _ (by simp)),o0u (g _ (by simp)) (g _ (by simp)) (g _ (by simp)) (g _ (by simp)),o0u (g _ (by simp)) (g _ (by simp)) (g _ (by simp)) (g _ (by simp))]
theorem w1a {n:Nat} (hn:n<m4): ∃ x0 x1 x2 x3 x4 x5 x6 x7 x8 x9 xa xb xc xd xe xf,D16 n=[x0,x1,x2,x3,x4,x5,x6,x7,x8,x9,xa,xb,xc,xd,xe,xf]∧[wrd x0 x1 x2 x3,wrd x4 x5 x6 x7,wrd x8 x9 xa xb,wrd xc xd xe xf]=w4 n:=by
 refine ⟨_,_,_,_,_,_,_,_,_,_,_,_,_,_,_,_,rfl,w1p ?_⟩
 exact (q1a (z0h (by decide) (by decide) n 16)).trans (Ew hn)
end Go.Sy
namespace Go.Sy
namespace Lk
open Go.Proofs
attribute [local irreducible] Dv HT Cz Px onC onE onO onG goV goA goS Qx Dw
theorem q1i (k:Nat) (l:List UInt64):(Aw l).any (L.has k)=false:=by
 rw [List.any_eq_false]
 intro x hx
 obtain ⟨y,_,rfl⟩:=List.mem_map.mp hx
 simp [L.has]
theorem q1g (e:Nat→Nat) (l:List UInt64):(Aw l).map (L.ren e)=Aw l:=by simp only [Aw,List.map_map];rfl
theorem l1t :((65536:UInt64)=0)=False:=eq_false (by decide)
theorem z1e :((256:UInt64)=0)=False:=eq_false (by decide)
theorem z1f :((128:UInt64)=0)=False:=eq_false (by decide)
theorem nz_2 :((2:UInt64)=0)=False:=eq_false (by decide)
theorem i0t (vw:Bool) (S:St) (hd:Hand): ∀ l:List UInt64,Fw vw S hd (Aw l)=some (Aw l)
 | []=>rfl
 |x::l=>by
  have ih:=i0t vw S hd l
  simp only [Aw] at ih
  simp only [Aw,List.map_cons,Fw,Rv,ih]
theorem v0g (vw:Bool) (m:List (Nat×Ob)) (l:List UInt64):(Aw l).all (Mw vw m)=true:=by
 simp only [Aw,List.all_eq_true,List.mem_map]
 rintro x ⟨y,_,rfl⟩
 simp [Mw,Pq]
theorem r1n (m:List (Nat×Ob)) (l:List UInt64):(Aw l).all (o1z m)=true:=by
 simp only [Aw,List.all_eq_true,List.mem_map]
 rintro x ⟨y,_,rfl⟩
 rfl
theorem n0i (S:St): ∀ l:List UInt64,Tz S (Aw l)=some (Aw l)
 | []=>rfl
 |x::r=>by
  have ih:=n0i S r
  simp only [Aw] at ih
  simp only [Aw,List.map_cons,Tz,e0a,ih]
attribute [go_sem] r1n n0i i0t v0g l1t z1e z1f nz_2 q1i q1g q1h
theorem c0p (l:List UInt64):Fj (.w (.agg (Aw l)))=true:=by
 simp [Fj,Hz,Aw]
def dn (y:Nat):Int:=(y:Int)-1
theorem Ny {a:Int} {n:Nat} (h:a=(n:Int)) (hn:n≤9223372036854775807):Go.RowKit.wrap64 a=(n:Int):=by subst h;exact w64 (by omega)
theorem wdn {k:Nat} (hk:k≤16):Go.RowKit.wrap64 (((k:Nat):Int)-1)=dn k:=by
 unfold dn;exact w64 (by omega)
theorem nb_ (x:List UInt64) (hx:x.length=16) (hl: ∀ i,i<16→(fL x i).toNat<65536):
 CtM Tryd.prog 64 [.w (.agg (Aw x))] [(1000000,⟨false,Aw Mk⟩)] (Told (fun v m=>v=.w (.one (.pl (.b (decide (p25≤Hq 65536 x)))))∧m=[])):=by
 refine CtM.k Tryd.func64 rfl Tryd.ntmps64 (congrArg Array.toList Tryd.results64) (by simp) fun w0 ro may fx=>?_
 refine Dj fun zZ zhZ=>?_
 iterate 6 first
  |(refine Cx fun zK zhK=>?_;simp only [go_sem,hx];(repeat' (first|apply And.intro|intro _)))
  |refine zhK _ ?_
  |refine Aj fun zB zbn zbx zbr zbi=>?_
  |refine Bz fun zN zM zhN zhM=>?_
 refine Gv [0] ?_
 simp only [Gj,Iq,Gq,List.contains_cons,List.contains_nil,Nat.reduceBEq,beq_self_eq_true,Bool.or_false,Bool.or_true,Bool.true_or,Bool.false_or,Bool.false_eq_true,reduceIte]
 refine Jz (fun y=>[(3,.w (.one (.pl (.i (dn y.1)))))]) (fun _=>[]) (fun y=>y.1) (⟨16,Nat.le_refl _,fun j h1 h2=>absurd h2 (by omega)⟩:{y:Nat//y≤16∧∀ j,y≤j→j<16→fL x j=fL Mk j}) ?_ ?_ ?_
 · (simp only [go_sem,leX,List.cons_append,List.nil_append];first|done|rfl|(simp [dn];done))
 · (simp only [go_sem,leX,List.cons_append,List.nil_append];try simp)
 intro yy zN zM zhN zhM
 simp only [List.cons_append,List.nil_append]
 obtain ⟨y,hy,he⟩:=yy
 have hd:(y=0)∨(∃ k,y=k+1∧¬fL x k=fL Mk k)∨(∃ k,y=k+1∧fL x k=fL Mk k):=by
  cases y with
  |zero=>exact .inl rfl
  |succ k=>
   by_cases h:fL x k=fL Mk k
   · exact .inr (.inr ⟨k,rfl,h⟩)
   · exact .inr (.inl ⟨k,rfl,h⟩)
 rcases hd with rfl|⟨k,rfl,hb⟩|⟨k,rfl,hb⟩
 · have hi:dn 0= -1:=rfl
   have hfin:decide (p25≤Hq 65536 x)=true:=decide_eq_true (s1t hx (fun j hj=>he j (Nat.zero_le _) hj))
   iterate 13 first
    |(refine Cx fun zK zhK=>?_;simp only [go_sem,hx,hi];(repeat' (first|apply And.intro|intro _)))
    |refine zhK _ ?_
    |(refine zhM _ _ ?_;clear zhN zhM)
    |refine Ey ?_
    |(refine zbx _ ?_;clear zbn zbx zbr zbi)
    |(refine zhN _ ?_;clear zhN zhM)
    |refine Dx ?_
    |(refine zhZ _ _ ?_;simp only [go_sem,hx,hi];(all_goals (exact told_plain rfl ⟨by rw [hfin],rfl⟩)))
    |refine Bz fun zN zM zhN zhM=>?_
    |(refine Cy ?_ ?_;focus (first|rfl|(simp [go_sem,hx,hi];done)))
 · have hk:k<16:=by omega
   have hi:dn (k+1)=((k:Nat):Int):=by unfold dn;omega
   have g0:(0:Int)≤((k:Nat):Int):=by omega
   have g1:((k:Nat):Int)<16:=by omega
   have g2:k+1≤16:=by omega
   have o1:=Nw (l:=x) (i:=k) (by omega)
   have o2:=Nw (l:=Mk) (i:=k) (by rw [Cj];exact hk)
   have hfin:decide (fL Mk k<fL x k)=decide (p25≤Hq 65536 x):=decide_eq_decide.mpr (s1u hx hl hk (fun j h1 h2=>he j (by omega) h2) hb)
   have hq:=eq_false hb
   rw [fL,fL] at hq hfin
   have F8:=And.intro hi<|And.intro g0<|And.intro g1<|And.intro g2<|And.intro o1<|And.intro o2<|hq
   iterate 20 first
    |(refine zhM _ _ ?_;clear zhN zhM)
    |refine zhK _ _ trivial ?_
    |(refine zbr _ ?_;clear zbn zbx zbr zbi)
    |(refine Cx fun zK zhK=>?_;simp only [go_sem,hx,Cj,F8];(repeat' (first|apply And.intro|intro _)))
    |refine zhK _ ?_
    |refine Cw ?_
    |(refine zhN _ ?_;clear zhN zhM)
    |refine Aj fun zB zbn zbx zbr zbi=>?_
    |(refine r0v (id:=4) [8,9,10,11,12,13,14] [0,1,3,0,8,24,63] [] mixed (by kernel_rfl) (by simp only [go_sem]) fun zK zhK=>?_;simp only [go_sem,hx,Cj,F8];(repeat' (first|apply And.intro|intro _)))
    |(refine r0v (id:=5) [15,16,17,18,19,20,21,2] [0,1,3,0,8,24,63,127] [] mixed (by kernel_rfl) (by simp only [go_sem]) fun zK zhK=>?_;simp only [go_sem,hx,Cj,F8];(repeat' (first|apply And.intro|intro _)))
    |refine Dx ?_
    |(refine zhZ _ _ ?_;simp only [go_sem,hx,Cj,F8];(all_goals (exact told_plain rfl ⟨by rw [←hfin],rfl⟩)))
    |refine Bz fun zN zM zhN zhM=>?_
    |(refine Bv ?_ ?_;focus (first|rfl|(simp [go_sem,hx,Cj,F8];done)))
 · have hk:k<16:=by omega
   have hi:dn (k+1)=((k:Nat):Int):=by unfold dn;omega
   have g0:(0:Int)≤((k:Nat):Int):=by omega
   have g1:((k:Nat):Int)<16:=by omega
   have g2:k+1≤16:=by omega
   have o1:=Nw (l:=x) (i:=k) (by omega)
   have o2:=Nw (l:=Mk) (i:=k) (by rw [Cj];exact hk)
   have hq:=eq_true hb
   rw [fL,fL] at hq
   have he2: ∀ j,k≤j→j<16→fL x j=fL Mk j:=fun j h1 h2=>by
    rcases Nat.eq_or_lt_of_le h1 with h|h
    · subst h;exact hb
    · exact he j (by omega) h2
   have hs1:=wdn (k:=k) (by omega)
   have F14:=And.intro hi<|And.intro g0<|And.intro g1<|And.intro g2<|And.intro o1<|And.intro o2<|And.intro hq<|hs1
   refine Bz fun zN zM zhN zhM=>?_
   refine Cx fun zK zhK=>?_
   simp only [go_sem,hx,Cj,F14]
   repeat' (first|apply And.intro|intro _)
   refine zhK _ ?_
   (refine Bv ?_ ?_;focus (first|rfl|(simp [go_sem,hx,Cj,F14];done)))
   refine Cw ?_
   refine zhN _ ?_;clear zhN zhM
   refine Bz fun zN zM zhN zhM=>?_
   refine Aj fun zB zbn zbx zbr zbi=>?_
   refine r0v (id:=4) [8,9,10,11,12,13,14] [0,1,3,0,8,24,63] [] mixed (by kernel_rfl) (by simp only [go_sem]) fun zK zhK=>?_
   simp only [go_sem,hx,Cj,F14]
   repeat' (first|apply And.intro|intro _)
   refine zhK _ _ trivial ?_
   (refine Cy ?_ ?_;focus (first|rfl|(simp [go_sem,hx,Cj,F14];done)))
   refine Cw ?_
   refine zbn _ ?_;clear zbn zbx zbr zbi
   refine zhN _ ?_;clear zhN zhM
   refine Av fun zK zhK=>?_
   simp only [go_sem,hx,Cj,F14]
   repeat' (first|apply And.intro|intro _)
   refine zhK _ ?_
   refine zhN ⟨k,by omega,he2⟩ _ ?_ ?_ ?_
   · (exact Nat.lt_succ_self k)
   · (simp only [go_sem,leX,List.cons_append,List.nil_append];try simp)
   · (simp only [go_sem,leX,List.cons_append,List.nil_append];try simp)
end Lk
end Go.Sy
namespace Go.Sy
namespace Lk
open Go.Proofs
attribute [local irreducible] Dv HT Cz Px onC onE onO onG goV goA goS Qx Dw
def o1w (x:List UInt64):Nat→List UInt64
 |0=>x
 |k+1=>h0v (o1w x k)
theorem u0u {x:List UInt64} (hx:x.length=16): ∀ k,(o1w x k).length=16
 |0=>hx
 |k+1=>a0o _
theorem k1q {q:List UInt64} (hq:q.length=16):e0u (cyV (fL q)) 16 q=j1n q:=c0o hq
theorem k0d (x:List UInt64) (hx:x.length=16) (hl: ∀ i,i<16→(fL x i).toNat≤70368744177664):
 CtM Tryd.prog 50 [.w (.agg (Aw x))] [(1000000,⟨false,Aw Mk⟩)] (Told (fun v m=>v=.w (.agg (Aw (D16 (Hq 65536 x%p25))))∧m=[])):=by
 refine CtM.k Tryd.func50 rfl Tryd.ntmps50 (congrArg Array.toList Tryd.results50) (by simp) fun w0 ro may fx=>?_
 refine Dj fun zZ zhZ=>?_
 iterate 6 first
  |(refine Cx fun zK zhK=>?_;simp only [go_sem,hx];(repeat' (first|apply And.intro|intro _)))
  |refine zhK _ ?_
  |refine Aj fun zB zbn zbx zbr zbi=>?_
  |refine Bz fun zN zM zhN zhM=>?_
 refine Gv [0] ?_
 simp only [Gj,Iq,Gq,List.contains_cons,List.contains_nil,Nat.reduceBEq,beq_self_eq_true,Bool.or_false,Bool.or_true,Bool.true_or,Bool.false_or,Bool.false_eq_true,reduceIte]
 refine Jz (fun y=>[(8,.w (.one (.pl (.i ((y.1:Nat):Int)))))]) (fun y=>[(1,⟨false,Aw (o1w x y.1)⟩)]) (fun y=>3-y.1) (⟨0,Nat.zero_le _⟩:{y:Nat//y≤3}) ?_ ?_ ?_
 · (simp only [go_sem,leX,List.cons_append,List.nil_append];try simp)
 · (simp only [o1w,go_sem,leX,List.cons_append,List.nil_append];first|done|rfl|(simp [leX,look];done))
 intro yy zN zM zhN zhM
 simp only [List.cons_append,List.nil_append]
 obtain ⟨r,hr9⟩:=yy
 rcases Nat.lt_or_ge r 3 with hrl|hrg
 · have hcq:((r:Nat):Int)<3:=by omega
   obtain ⟨q,hq⟩: ∃ q,o1w x r=q:=⟨_,rfl⟩
   have hql:q.length=16:=by rw [←hq];exact u0u hx r
   have hnx:o1w x (r+1)=h0v q:=by rw [o1w,hq]
   simp only [hq]
   iterate 14 first
    |(refine Cx fun zK zhK=>?_;simp only [go_sem,hx,hcq,hql];(repeat' (first|apply And.intro|intro _)))
    |refine zhK _ ?_
    |refine Aj fun zB zbn zbx zbr zbi=>?_
    |refine Cw ?_
    |(refine zhN _ ?_;clear zhN zhM)
    |refine Bz fun zN zM zhN zhM=>?_
    |(refine Bv ?_ ?_;focus (first|rfl|(simp [go_sem,hx,hcq,hql];done)))
   refine Jz (fun y=>[(10,.w (.one (.pl (.i ((y.1:Nat):Int))))),(3,.w (.one (.pl (.u64 (cyN (fL q) y.1)))))]) (fun y=>[(1,⟨false,Aw (e0u (cyV (fL q)) y.1 q)⟩)]) (fun y=>16-y.1) (⟨0,Nat.zero_le _⟩:{y:Nat//y≤16}) ?_ ?_ ?_
   · (simp only [go_sem,leX,List.cons_append,List.nil_append];first|done|rfl|(simp;done))
   · (simp only [c0n,go_sem,leX,List.cons_append,List.nil_append];first|done|rfl|(simp [leX,look];done))
   intro yy zN zM zhN zhM
   simp only [List.cons_append,List.nil_append]
   obtain ⟨k,hk9⟩:=yy
   rcases Nat.lt_or_ge k 16 with hlt|hge
   · have hcq:((k:Nat):Int)<16:=by omega
     have hc0:(0:Int)≤((k:Nat):Int):=by omega
     have hk1:k+1≤16:=by omega
     obtain ⟨z,hz⟩: ∃ z,e0u (cyV (fL q)) k q=z:=⟨_,rfl⟩
     have hzl:z.length=16:=by rw [←hz,Xx (by omega),hql]
     have hzk:z.getD k 0=q.getD k 0:=by rw [←hz,j0u (Nat.le_refl _)]
     have hset:z.set k (cyV (fL q) k)=e0u (cyV (fL q)) (k+1) q:=by rw [←hz];exact f0u (by omega)
     obtain ⟨v,hv⟩: ∃ v,q.getD k 0=v:=⟨_,rfl⟩
     obtain ⟨c,hc⟩: ∃ c,cyN (fL q) k=c:=⟨_,rfl⟩
     have o1:=Nw (l:=z) (i:=k) (by omega)
     rw [hzk,hv] at o1
     have hfv:cyV (fL q) k=(c+v)%65536:=by simp only [cyV,hc,fL,hv]
     have hfn:cyN (fL q) (k+1)=(c+v)/65536:=by simp only [cyN,hc,fL,hv]
     have p0:=Vy (q:=z) (j:=k) ((c+v)%65536) (by omega)
     rw [hfv] at hset
     rw [hset] at p0
     have hcn:(c+v)/65536=cyN (fL q) (k+1):=hfn.symm
     simp only [hc,hz]
     have hs1:Go.RowKit.wrap64 (((k:Nat):Int)+1)=((k+1:Nat):Int):=Ny (by omega) (by omega)
     have F14:=And.intro hcq<|And.intro hc0<|And.intro hk1<|And.intro hzl<|And.intro o1<|And.intro p0<|hs1
     iterate 18 first
      |refine zhK _ ?_
      |(refine Cx fun zK zhK=>?_;simp only [go_sem,hx,hcq,hql,F14];(repeat' (first|apply And.intro|intro _)))
      |(refine zhN _ ?_;clear zhN zhM)
      |(refine Av fun zK zhK=>?_;simp only [go_sem,hx,hcq,hql,F14];(repeat' (first|apply And.intro|intro _)))
      |refine Cw ?_
      |refine Aj fun zB zbn zbx zbr zbi=>?_
      |(refine zbn _ ?_;clear zbn zbx zbr zbi)
      |refine Bz fun zN zM zhN zhM=>?_
      |(refine Bv ?_ ?_;focus (first|rfl|(simp [go_sem,hx,hcq,hql,F14];done)))
     refine zhN ⟨k+1,hlt⟩ _ ?_ ?_ ?_
     · (exact Nat.sub_lt_sub_left hlt (Nat.lt_succ_self k))
     · (simp only [hfn,go_sem,leX,List.cons_append,List.nil_append];first|done|rfl|(simp [leX,look];done))
     · (simp only [go_sem,leX,List.cons_append,List.nil_append];try simp)
   · obtain rfl:k=16:=by omega
     have hcq:¬((16:Nat):Int)<16:=by omega
     obtain ⟨c,hc⟩: ∃ c,cyN (fL q) 16=c:=⟨_,rfl⟩
     obtain ⟨z,hz⟩: ∃ z,j1n q=z:=⟨_,rfl⟩
     have hzl:z.length=16:=by rw [←hz];exact b0g q
     obtain ⟨v,hv⟩: ∃ v,z.getD 0 0=v:=⟨_,rfl⟩
     have o1:=Nw (l:=z) (i:=0) (by omega)
     have hrn:z.set 0 (v+38*c)=h0v q:=by rw [h0v,hz,hv,hc]
     have p0:=Vy (q:=z) (j:=0) (v+38*c) (by omega)
     rw [hrn] at p0
     rw [hv] at o1
     simp only [List.drop_zero] at o1
     simp only [List.take_zero,List.nil_append,Nat.zero_add] at p0
     simp only [k1q hql,hc,hz]
     have hs2:Go.RowKit.wrap64 (((r:Nat):Int)+1)=((r+1:Nat):Int):=Ny (by omega) (by omega)
     have F22:=And.intro hcq<|And.intro hzl<|And.intro o1<|And.intro p0<|hs2
     iterate 15 first
      |refine zhK _ ?_
      |(refine zhM _ _ ?_;clear zhN zhM)
      |(refine zhN _ ?_;clear zhN zhM)
      |(refine Av fun zK zhK=>?_;simp only [go_sem,hx,hcq,hql,Nat.zero_add,F22];(repeat' (first|apply And.intro|intro _)))
      |(refine Cx fun zK zhK=>?_;simp only [go_sem,hx,hcq,hql,Nat.zero_add,F22];(repeat' (first|apply And.intro|intro _)))
      |refine Ey ?_
      |(refine zbx _ ?_;clear zbn zbx zbr zbi)
      |(refine zbn _ ?_;clear zbn zbx zbr zbi)
      |refine Bz fun zN zM zhN zhM=>?_
      |(refine Cy ?_ ?_;focus (first|rfl|(simp [go_sem,hx,hcq,hql,Nat.zero_add,F22];done)))
     refine zhN ⟨r+1,hrl⟩ _ ?_ ?_ ?_
     · (exact Nat.sub_lt_sub_left hrl (Nat.lt_succ_self r))
     · (simp only [go_sem,leX,List.cons_append,List.nil_append];try simp)
     · (simp only [hnx,go_sem,leX,List.cons_append,List.nil_append];first|done|rfl|(simp [leX,look];done))
 · obtain rfl:r=3:=by omega
   have hcq:¬((3:Nat):Int)<3:=by omega
   obtain ⟨r1,r2,r3⟩:=k1r hx hl
   obtain ⟨q3,hq3⟩: ∃ q,o1w x 3=q:=⟨_,rfl⟩
   have hq3':h0v (h0v (h0v x))=q3:=hq3
   rw [hq3'] at r1 r2 r3
   simp only [hq3]
   refine Cx fun zK zhK=>?_
   simp only [go_sem,hx,hcq]
   repeat' (first|apply And.intro|intro _)
   refine zhK _ ?_
   refine Bz fun zN zM zhN zhM=>?_
   (refine Cy ?_ ?_;focus (first|rfl|(simp [go_sem,hx,hcq];done)))
   refine Ey ?_
   refine zhM _ _ ?_;clear zhN zhM
   refine zhM _ _ ?_;clear zhN zhM
   refine zbx _ ?_;clear zbn zbx zbr zbi
   refine zhN _ ?_;clear zhN zhM
   refine Bz fun zN zM zhN zhM=>?_
   refine Aj fun zB zbn zbx zbr zbi=>?_
   refine Gv [0,3,4,8,9,10,11,12,13,14,15,16,17,18,19,20,21,22,23,24,25,26,27,28,29,30,31] ?_
   simp only [Gj,Iq,Gq,List.contains_cons,List.contains_nil,Nat.reduceBEq,beq_self_eq_true,Bool.or_false,Bool.or_true,Bool.true_or,Bool.false_or,Bool.false_eq_true,reduceIte]
   refine Jz (fun y=>[]) (fun y=>[(1,⟨false,Aw y.1⟩)]) (fun y=>Hq 65536 y.1) (⟨q3,r1,r2,r3⟩:{q:List UInt64//q.length=16∧(∀ i,i<16→(fL q i).toNat<65536)∧Hq 65536 q%p25=Hq 65536 x%p25}) ?_ ?_ ?_
   · (simp only [go_sem,leX,List.cons_append,List.nil_append];try simp)
   · (simp only [go_sem,leX,List.cons_append,List.nil_append];first|done|rfl|(simp [leX,look];done))
   intro yy zN zM zhN zhM
   simp only [List.cons_append,List.nil_append]
   obtain ⟨q,hql,hqd,hqm⟩:=yy
   have hN:=nb_ q hql hqd
   rcases Nat.lt_or_ge (Hq 65536 q) p25 with hlt2|hge2
   · rw [decide_eq_false (by omega)] at hN
     have hfin:Aw (D16 (Hq 65536 x%p25))=Aw q:=by rw [←p1y hql hqd (n:=Hq 65536 x%p25) (by rw [←hqm,Nat.mod_eq_of_lt hlt2])]
     refine Bz fun zN zM zhN zhM=>?_
     refine Cx fun zK zhK=>?_
     simp only [go_sem,hx,hcq,hql]
     repeat' (first|apply And.intro|intro _)
     all_goals (refine Bq false [] (fun k=>k) (fun _ _=>rfl) ?_ (by decide) ?_ hN.told ?_;iterate 2 (focus (first|rfl|(simp only [go_sem,hx,hcq,hql]<;>first|done|rfl|simp))))
     all_goals (rintro v m ⟨hR,hm⟩;subst hR;subst hm)
     all_goals (refine And.intro ?_ (And.intro ?_ (And.intro ?_ ?_));iterate 3 (focus (first|rfl|(simp only [go_sem,hx,hcq,hql];done)|(simp [go_sem,look,hx,hcq,hql];done))))
     all_goals (try simp only [go_sem,hx,hcq,hql])
     all_goals (try simp only [go_sem,hx,hcq,hql])
     all_goals repeat' (first|apply And.intro|intro _)
     refine zhK _ ?_
     (refine Cy ?_ ?_;focus (first|rfl|(simp [go_sem,hx,hcq,hql];done)))
     refine Ey ?_
     refine zhM _ _ ?_;clear zhN zhM
     refine zhM _ _ ?_;clear zhN zhM
     refine zbx _ ?_;clear zbn zbx zbr zbi
     refine zhN _ ?_;clear zhN zhM
     refine Cx fun zK zhK=>?_
     simp only [go_sem,hx,hcq,hql]
     repeat' (first|apply And.intro|intro _)
     refine zhK _ ?_
     refine Dx ?_
     refine zhZ _ _ ?_
     simp only [go_sem,hx,hcq,hql]
     all_goals (exact told_plain (c0p _) ⟨by rw [hfin],rfl⟩)
   · rw [decide_eq_true hge2] at hN
     iterate 13 first
      |(refine Cx fun zK zhK=>?_;simp only [go_sem,hx,hcq,hql];(repeat' (first|apply And.intro|intro _)))
      |refine zhK _ ?_
      |refine Aj fun zB zbn zbx zbr zbi=>?_
      |refine Cw ?_
      |(refine zhN _ ?_;clear zhN zhM)
      |((all_goals (refine Bq false [] (fun k=>k) (fun _ _=>rfl) ?_ (by decide) ?_ hN.told ?_;iterate 2 (focus (first|rfl|(simp only [go_sem,hx,hcq,hql]<;>first|done|rfl|simp)))));(all_goals (rintro v m ⟨hR,hm⟩;subst hR;subst hm));(all_goals (refine And.intro ?_ (And.intro ?_ (And.intro ?_ ?_));iterate 3 (focus (first|rfl|(simp only [go_sem,hx,hcq,hql];done)|(simp [go_sem,look,hx,hcq,hql];done)))));(all_goals (try simp only [go_sem,hx,hcq,hql]));(all_goals (try simp only [go_sem,hx,hcq,hql]));(all_goals repeat' (first|apply And.intro|intro _)))
      |refine Bz fun zN zM zhN zhM=>?_
      |(refine Bv ?_ ?_;focus (first|rfl|(simp [go_sem,hx,hcq,hql];done)))
     refine Jz (fun y=>[(34,.w (.one (.pl (.i ((y.1:Nat):Int))))),(5,.w (.one (.pl (.u64 (bwN (fL q) (fL Mk) y.1)))))]) (fun y=>[(1,⟨false,Aw (e0u (bwV (fL q) (fL Mk)) y.1 q)⟩)]) (fun y=>16-y.1) (⟨0,Nat.zero_le _⟩:{y:Nat//y≤16}) ?_ ?_ ?_
     · (simp only [go_sem,leX,List.cons_append,List.nil_append];first|done|rfl|(simp;done))
     · (simp only [c0n,go_sem,leX,List.cons_append,List.nil_append];first|done|rfl|(simp [leX,look];done))
     intro yy zN zM zhN zhM
     simp only [List.cons_append,List.nil_append]
     obtain ⟨k,hk9⟩:=yy
     rcases Nat.lt_or_ge k 16 with hlt|hge
     · have hcq:((k:Nat):Int)<16:=by omega
       have hc0:(0:Int)≤((k:Nat):Int):=by omega
       have hk1:k+1≤16:=by omega
       obtain ⟨z,hz⟩: ∃ z,e0u (bwV (fL q) (fL Mk)) k q=z:=⟨_,rfl⟩
       have hzl:z.length=16:=by rw [←hz,Xx (by omega),hql]
       have hzk:z.getD k 0=q.getD k 0:=by rw [←hz,j0u (Nat.le_refl _)]
       have hset:z.set k (bwV (fL q) (fL Mk) k)=e0u (bwV (fL q) (fL Mk)) (k+1) q:=by rw [←hz];exact f0u (by omega)
       obtain ⟨v,hv⟩: ∃ v,q.getD k 0=v:=⟨_,rfl⟩
       obtain ⟨c,hc⟩: ∃ c,bwN (fL q) (fL Mk) k=c:=⟨_,rfl⟩
       have o1:=Nw (l:=z) (i:=k) (by omega)
       rw [hzk,hv] at o1
       obtain ⟨w,hw⟩: ∃ w,Mk.getD k 0=w:=⟨_,rfl⟩
       have o2:=Nw (l:=Mk) (i:=k) (by rw [Cj];omega)
       rw [hw] at o2
       have hfv:bwV (fL q) (fL Mk) k=(v+65536-w-c)%65536:=by simp only [bwV,hc,fL,hv,hw]
       have hfn:bwN (fL q) (fL Mk) (k+1)=1-(v+65536-w-c)/65536:=by simp only [bwN,hc,fL,hv,hw]
       have p0:=Vy (q:=z) (j:=k) ((v+65536-w-c)%65536) (by omega)
       rw [hfv] at hset
       rw [hset] at p0
       have hcn:1-(v+65536-w-c)/65536=bwN (fL q) (fL Mk) (k+1):=hfn.symm
       simp only [hc,hz]
       have hs1:Go.RowKit.wrap64 (((k:Nat):Int)+1)=((k+1:Nat):Int):=Ny (by omega) (by omega)
       have F41:=And.intro hcq<|And.intro hc0<|And.intro hk1<|And.intro hzl<|And.intro o1<|And.intro p0<|And.intro hs1<|o2
       iterate 18 first
        |refine zhK _ ?_
        |(refine Cx fun zK zhK=>?_;simp only [go_sem,hx,hcq,hql,Cj,F41];(repeat' (first|apply And.intro|intro _)))
        |(refine zhN _ ?_;clear zhN zhM)
        |(refine Av fun zK zhK=>?_;simp only [go_sem,hx,hcq,hql,Cj,F41];(repeat' (first|apply And.intro|intro _)))
        |refine Cw ?_
        |refine Aj fun zB zbn zbx zbr zbi=>?_
        |(refine r0v (id:=17) [37,38,39,40,41,42,43,44,45,46,7] [0,1,3,7,0,16,48,127,0,511,1023] [] mixed (by kernel_rfl) (by simp only [go_sem]) fun zK zhK=>?_;simp only [go_sem,hx,hcq,hql,Cj,F41];(repeat' (first|apply And.intro|intro _)))
        |refine zhK _ _ trivial ?_
        |(refine zbn _ ?_;clear zbn zbx zbr zbi)
        |refine Bz fun zN zM zhN zhM=>?_
        |(refine Bv ?_ ?_;focus (first|rfl|(simp [go_sem,hx,hcq,hql,Cj,F41];done)))
       refine zhN ⟨k+1,hlt⟩ _ ?_ ?_ ?_
       · (exact Nat.sub_lt_sub_left hlt (Nat.lt_succ_self k))
       · (simp only [hfn,go_sem,leX,List.cons_append,List.nil_append];first|done|rfl|(simp [leX,look];done))
       · (simp only [go_sem,leX,List.cons_append,List.nil_append];try simp)
     · obtain rfl:k=16:=by omega
       have hcq:¬((16:Nat):Int)<16:=by omega
       obtain ⟨z,hz⟩: ∃ z,(List.range 16).map (bwV (fL q) (fL Mk))=z:=⟨_,rfl⟩
       have hpz:e0u (bwV (fL q) (fL Mk)) 16 q=z:=by rw [c0o hql,hz]
       have hzl:z.length=16:=by rw [←hz];simp
       have hzv:=q1r hql hqd hge2
       rw [hz] at hzv
       have hzd: ∀ i,i<16→(fL z i).toNat<65536:=fun i hi=>by rw [←hz,j0t hi];exact z0r _ _ i
       have hzm:Hq 65536 z%p25=Hq 65536 x%p25:=by
        rw [←hqm,←hzv,Nat.add_mod_right]
       have hdec:Hq 65536 z<Hq 65536 q:=by rw [←hzv];exact Nat.lt_add_of_pos_right (by decide)
       simp only [hpz]
       refine Cx fun zK zhK=>?_
       simp only [go_sem,hx,hcq,hql]
       repeat' (first|apply And.intro|intro _)
       refine zhK _ ?_
       refine Bz fun zN zM zhN zhM=>?_
       (refine Cy ?_ ?_;focus (first|rfl|(simp [go_sem,hx,hcq,hql];done)))
       refine Ey ?_
       refine zhM _ _ ?_;clear zhN zhM
       refine zhM _ _ ?_;clear zhN zhM
       refine zbx _ ?_;clear zbn zbx zbr zbi
       refine zbn _ ?_;clear zbn zbx zbr zbi
       refine zhN ⟨z,hzl,hzd,hzm⟩ _ ?_ ?_ ?_
       · (exact hdec)
       · (simp only [go_sem,leX,List.cons_append,List.nil_append];try simp)
       · (simp only [go_sem,leX,List.cons_append,List.nil_append];try simp)
end Lk
end Go.Sy
