/- Walks and what they compute. CONDITIONS: those that each theorem names. -/
import Derived.Test.YtkfcbhgkpknagaaGreatDoorvS22
import Derived.Test.YtkfcbhgkpknagaaGreatDoorvS23
import Derived.Test.YtkfcbhgkpknagaaGreatDoorvE3
import Derived.Test.YtkfcbhgkpknagaaGreatDoorvS21
import Derived.Test.YtkfcbhgkpknagaaGreatDoorvS28
set_option linter.unusedVariables false
set_option linter.unusedSimpArgs false
set_option maxHeartbeats 6400000
set_option maxRecDepth 100000
namespace Go.Sy
structure Stp (x y w k l c:UInt64):Prop where
 e:l.toNat+c.toNat*18446744073709551616=x.toNat*y.toNat+w.toNat+k.toNat
theorem stp {x y w k p h s c1 l c2:UInt64} (hp:x*y=p) (hh:c1e x y=h) (hs:adS p w 0=s) (hc1:adC p w 0=c1) (hl:adS s k 0=l) (hc2:adC s k 0=c2):Stp x y w k l (h+c1+c2):=by
 have:=o0s x y w k
 simp only [stL,stK,hp,hh,hs,hc1,hl,hc2] at this
 exact ⟨this⟩
theorem y1j {lo hi r k P:Nat} (h1:lo+m4*hi=P) (h2:r+m4*k=38*hi+lo):(r+m4*k)%p25=P%p25:=by
 have e:P=r+m4*k+2*p25*hi:=by rw [←h1,h2,n2m];grind
 rw [e,b1a]
theorem g2k {lo hi r k:Nat} (h2:r+m4*k=38*hi+lo) (hl:lo<m4) (hh:hi<m4):k≤38:=by
 have:=f0c
 rcases yZ 38 k with h|h
 ·have:=vS m4 h
  omega
 exact h
end Go.Sy
namespace Go.Sy
def loW (x y w k:UInt64):UInt64:=adS (adS (x*y) w 0) k 0
def caW (x y w k:UInt64):UInt64:=c1e x y+adC (x*y) w 0+adC (adS (x*y) w 0) k 0
def h0e (f g:Nat→UInt64) (o:Nat) (r:List UInt64):Nat→List UInt64×UInt64
 |0=>(r,0)
 |j+1=>((h0e f g o r j).1.set (o+j) (loW (f j) (g j) (fL (h0e f g o r j).1 (o+j)) (h0e f g o r j).2),caW (f j) (g j) (fL (h0e f g o r j).1 (o+j)) (h0e f g o r j).2)
theorem Qw (f g:Nat→UInt64) (o:Nat) (r:List UInt64): ∀ j,(h0e f g o r j).1.length=r.length
 |0=>rfl
 |j+1=>by rw [h0e,List.length_set,Qw f g o r j]
theorem p0l {f g:Nat→UInt64} {o:Nat} {r z:List UInt64} {c:UInt64} {j:Nat} (h:h0e f g o r j=(z,c)):h0e f g o r (j+1)=(z.set (o+j) (loW (f j) (g j) (fL z (o+j)) c),caW (f j) (g j) (fL z (o+j)) c):=by
 rw [h0e,h]
theorem g1h {f g:Nat→UInt64} {o:Nat} {r:List UInt64} {t:Nat}: ∀ {j},o+j≤t→o+j≤r.length→fL (h0e f g o r j).1 t=fL r t
 |0,_,_=>rfl
 |j+1,h,hl=>by
   rw [h0e]
   simp only
   rw [f0k (by rw [Qw];omega),if_neg (by omega),g1h (by omega) (by omega)]
def a2d (f g:Nat→UInt64):Nat→Nat
 |0=>0
 |j+1=>a2d f g j+18446744073709551616 ^ j*((f j).toNat*(g j).toNat)
theorem v0b {f g:Nat→UInt64} {o:Nat} {r:List UInt64}: ∀ {j},o+j≤r.length→
 Ny 18446744073709551616 (fL (h0e f g o r j).1) r.length+18446744073709551616 ^ (o+j)*(h0e f g o r j).2.toNat=Ny 18446744073709551616 (fL r) r.length+18446744073709551616 ^ o*a2d f g j
 |0,_=>by simp [h0e,a2d]
 |j+1,h=>by
   have ih:=v0b (f:=f) (g:=g) (o:=o) (r:=r) (j:=j) (by omega)
   have hz:=Qw f g o r j
   obtain ⟨⟨z,c⟩,e⟩: ∃ s,h0e f g o r j=s:=⟨_,rfl⟩
   rw [e] at ih hz
   simp only at ih hz
   have hs:=p0l e
   have hst:=(stp (x:=f j) (y:=g j) (w:=fL z (o+j)) (k:=c) rfl rfl rfl rfl rfl rfl).e
   rw [show c1e (f j) (g j)+adC (f j*g j) (fL z (o+j)) 0+adC (adS (f j*g j) (fL z (o+j)) 0) c 0=caW (f j) (g j) (fL z (o+j)) c from rfl,show adS (adS (f j*g j) (fL z (o+j)) 0) c 0=loW (f j) (g j) (fL z (o+j)) c from rfl] at hst
   rw [hs,a2d]
   simp only
   generalize loW (f j) (g j) (fL z (o+j)) c=l at hst ⊢
   generalize caW (f j) (g j) (fL z (o+j)) c=k at hst ⊢
   have hv:=i0u (B:=18446744073709551616) (f:=fL (z.set (o+j) l)) (g:=fL z) (k:=o+j) (fun t ht=>by rw [f0k (by omega),if_neg fun q=>ht q.symm]) (n:=r.length) (by omega)
   rw [f0k (by omega),if_pos rfl] at hv
   rw [show o+(j+1)=(o+j)+1 from rfl,vK]
   generalize Ny 18446744073709551616 (fL (z.set (o+j) l)) r.length=v1 at hv ⊢
   generalize Ny 18446744073709551616 (fL z) r.length=v0 at hv ih
   generalize Ny 18446744073709551616 (fL r) r.length=vr at ih ⊢
   rw [Nat.pow_add] at hv ih ⊢
   generalize 18446744073709551616 ^ o=bo at hv ih ⊢
   generalize 18446744073709551616 ^ j=bj at hv ih ⊢
   generalize (18446744073709551616:Nat)=Q at*
   generalize (fL z (o+j)).toNat=w at*
   grind
def n0f (x y:Nat→UInt64):Nat→List UInt64
 |0=>List.replicate 8 0
 |i+1=>(h0e (fun _=>x i) y i (n0f x y i) 4).1.set (i+4) (h0e (fun _=>x i) y i (n0f x y i) 4).2
theorem Yv (x y:Nat→UInt64): ∀ i,(n0f x y i).length=8
 |0=>rfl
 |i+1=>by rw [n0f,List.length_set,Qw,Yv x y i]
theorem s0i (a:UInt64) (y:Nat→UInt64): ∀ n,a2d (fun _=>a) y n=a.toNat*Ny 18446744073709551616 y n
 |0=>rfl
 |n+1=>by rw [a2d,s0i a y n,Ny];grind
theorem m1t (y:Nat→UInt64): ∀ n,a2d y (fun _=>38) n=38*Ny 18446744073709551616 y n
 |0=>rfl
 |n+1=>by rw [a2d,m1t y n,Ny,show (38:UInt64).toNat=38 from rfl];grind
theorem g1i (x y:Nat→UInt64): ∀ {i},i≤4→Ny 18446744073709551616 (fL (n0f x y i)) 8=Ny 18446744073709551616 x i*Ny 18446744073709551616 y 4∧∀ t,i+4≤t→fL (n0f x y i) t=0
 |0,_=>by
   have h0: ∀ t,fL (n0f x y 0) t=0:=fun t=>by
    rw [fL,n0f,List.getD_eq_getElem?_getD,List.getElem?_replicate];split<;>rfl
   refine ⟨?_,fun t _=>h0 t⟩
   rw [a0q (g:=fun _=>0) (fun t _=>h0 t)]
   simp [Ny]
 |i+1,hi=>by
   obtain ⟨ih,hf⟩:=g1i x y (i:=i) (by omega)
   have hl:=Yv x y i
   have hv:=v0b (f:=fun _=>x i) (g:=y) (o:=i) (r:=n0f x y i) (j:=4) (by omega)
   have hfar:=fun t (ht:i+4≤t)=>g1h (f:=fun _=>x i) (g:=y) (o:=i) (r:=n0f x y i) (t:=t) (j:=4) ht (by omega)
   have hjl:=Qw (fun _=>x i) y i (n0f x y i) 4
   rw [n0f]
   obtain ⟨⟨z,c⟩,e⟩: ∃ s,h0e (fun _=>x i) y i (n0f x y i) 4=s:=⟨_,rfl⟩
   rw [e] at hv hjl ⊢
   simp only at hv hjl ⊢
   rw [hl] at hv hjl
   have hz:fL z (i+4)=0:=by
    have:=hfar (i+4) (xL _)
    rw [e,hf _ (xL _)] at this;exact this
   have hs:=i0u (B:=18446744073709551616) (f:=fL (z.set (i+4) c)) (g:=fL z) (k:=i+4) (fun t ht=>by rw [f0k (by omega),if_neg fun q=>ht q.symm]) (n:=8) (by omega)
   rw [f0k (by omega),if_pos rfl,hz,show (0:UInt64).toNat=0 from rfl,Nat.mul_zero,vB] at hs
   refine ⟨?_,fun t ht=>?_⟩
   ·rw [hs,hv,ih,s0i,show Ny 18446744073709551616 x (i+1)=Ny 18446744073709551616 x i+18446744073709551616 ^ i*(x i).toNat from rfl]
    generalize Ny 18446744073709551616 y 4=a
    generalize 18446744073709551616 ^ i=b
    generalize Ny 18446744073709551616 x i=c
    grind
   rw [f0k (by omega),if_neg (by omega)]
   have:=hfar t (by omega)
   rw [e,hf _ (by omega)] at this;exact this
theorem e0k (f:Nat→UInt64):Ny 18446744073709551616 f 4=vQ (f 0) (f 1) (f 2) (f 3):=by
 simp only [Ny,vQ]
 generalize (18446744073709551616:Nat)=Q
 grind
theorem h1w (f:Nat→UInt64):Ny 18446744073709551616 f 8=vQ (f 0) (f 1) (f 2) (f 3)+m4*vQ (f 4) (f 5) (f 6) (f 7):=by
 simp only [Ny,vQ]
 rw [show m4=18446744073709551616*(18446744073709551616*(18446744073709551616*18446744073709551616)) from rfl]
 generalize (18446744073709551616:Nat)=Q
 grind
theorem x1a {x y:List UInt64} {z0 z1 z2 z3 z4 z5 z6 z7 r0 r1 r2 r3 k:UInt64} (hz:n0f (fL x) (fL y) 4=[z0,z1,z2,z3,z4,z5,z6,z7]) (hr:h0e (fun i=>fL [z0,z1,z2,z3,z4,z5,z6,z7] (4+i)) (fun _=>38) 0 [z0,z1,z2,z3] 4=([r0,r1,r2,r3],k)):
 k.toNat≤38∧(vQ r0 r1 r2 r3+m4*k.toNat)%p25=(vQ (fL x 0) (fL x 1) (fL x 2) (fL x 3)*vQ (fL y 0) (fL y 1) (fL y 2) (fL y 3))%p25:=by
 have h1:=(g1i (fL x) (fL y) (i:=4) (by omega)).1
 rw [hz,h1w,e0k,e0k] at h1
 have h2:=v0b (f:=fun i=>fL [z0,z1,z2,z3,z4,z5,z6,z7] (4+i)) (g:=fun _=>38) (o:=0) (r:=[z0,z1,z2,z3]) (j:=4) (xL _)
 rw [hr,m1t,e0k,show ([z0,z1,z2,z3]:List UInt64).length=4 from rfl,e0k,e0k,Nat.pow_zero,Nat.one_mul,show 18446744073709551616 ^ (0+4)=m4 from rfl] at h2
 have h3:vQ r0 r1 r2 r3+m4*k.toNat=38*vQ z4 z5 z6 z7+vQ z0 z1 z2 z3:=h2.trans (vL _ _)
 exact ⟨g2k h3 (b0p _ _ _ _) (b0p _ _ _ _),y1j h1 h3⟩
end Go.Sy
namespace Go.Sy
namespace Lk
open Go.Proofs
attribute [local irreducible] Bw HT Aj Jk onC onE onO onG goV goA goS Lx Bz
theorem x1b (x y:UInt64):
 Ct Tryz.prog 109 [.w (.one (.pl (.u64 x))),.w (.one (.pl (.u64 y)))] (fun v m=>v=.tup [.one (.pl (.u64 (c1e x y))),.one (.pl (.u64 (x*y)))]):=by
 have F0:=trivial
 exact Ct.go Tryz.func109 rfl Tryz.ntmps109 Tryz.results109
theorem w1y {s k:Nat} {t:Nat} (h:(s+m4*k)%p25=t%p25):r0s s (38*k)%p25=t%p25:=by
 rw [g1x s k _ rfl,h]
theorem i2t {a:Int} {n:Nat} (h:a=(n:Int)) (hn:n≤100):Go.RowKit.wrap64 a=(n:Int):=by subst h;exact w64 (by omega)
theorem r2b {z:List UInt64} (h:z.length=4): ∃ a b c d,z=[a,b,c,d]:=by
 match z,h with
 | [a,b,c,d],_=>exact ⟨a,b,c,d,rfl⟩
theorem r2a {z:List UInt64} (h:z.length=8): ∃ a b c d e f g h,z=[a,b,c,d,e,f,g,h]:=by
 match z,h with
 | [a,b,c,d,e,f,g,h],_=>exact ⟨a,b,c,d,e,f,g,h,rfl⟩
theorem q2s (xs ys:List UInt64) (hxl:xs.length=4) (hyl:ys.length=4):
 CtM Tryz.prog 81 [.w (.agg (Dz xs)),.w (.agg (Dz ys))] [(1000001,⟨false,gPr⟩)] (Told (fun v m=>v=.w (.agg (w4C ((vQ (fL xs 0) (fL xs 1) (fL xs 2) (fL xs 3)*vQ (fL ys 0) (fL ys 1) (fL ys 2) (fL ys 3))%p25)))∧m=[])):=by
 have F0:=yA hxl<|hyl
 refine CtM.go Tryz.func81 rfl Tryz.ntmps81 Tryz.results81 fun w0 ro may fx zZ zhY=>?_
 refine (fun zX=>goW) ?_
 refine Bv [0,1,2] ?_
 simp only [Bj,Cx,Bq,yI,yK,Nat.reduceBEq,beq_self_eq_true,yS,yV,yY,yT,yE,reduceIte]
 refine Gx (fun y=>[(21,.w (.one (.pl (.i ((y.1:Nat):Int)))))]) (fun y=>[(5,⟨false,Dz (n0f (fL xs) (fL ys) y.1)⟩)]) (fun y=>4-y.1) (⟨0,xA _⟩:{y:Nat//y≤4}) ?_ (by (simp only [go_sem,leX,yB,yC];first|done|rfl|(simp;done))) (by (simp only [n0f,go_sem,leX,yB,yC];first|done|rfl|(simp [leX,look,Dz];done)))
 intro yy xN0 xM0 xhN0 xhM0
 simp only [yB,yC]
 obtain ⟨i,hi9⟩:=yy
 rcases yZ i 4 with hlt1|hge
 ·have hic:((i:Nat):Int)<4:=by omega
  have hi0:(0:Int)≤((i:Nat):Int):=by omega
  have his:Go.RowKit.wrap64 (((i:Nat):Int)+1)=((i+1:Nat):Int):=i2t (by omega) (by omega)
  have hil:i+1≤4:=by omega
  have ox:=Kk (l:=xs) (i:=i) (by omega)
  change _=[L.pl (PL.u64 (fL xs i))] at ox
  have hml:=Yv (fL xs) (fL ys) i
  have F0:=yA hic<|yA hi0<|yA his<|yA hil<|yA ox<|yA hml<|yA hxl<|F0
  refine (fun zX=>goW) ?_
  refine Gx (fun y=>[(26,.w (.one (.pl (.i ((y.1:Nat):Int))))),(8,.w (.one (.pl (.u64 ((h0e (fun _=>fL xs i) (fL ys) i (n0f (fL xs) (fL ys) i) y.1).2)))))]) (fun y=>[(5,⟨false,Dz (h0e (fun _=>fL xs i) (fL ys) i (n0f (fL xs) (fL ys) i) y.1).1⟩)]) (fun y=>4-y.1) (⟨0,xA _⟩:{y:Nat//y≤4}) ?_ (by (simp only [h0e,go_sem,leX,yB,yC];first|done|rfl|(simp;done))) (by (simp only [h0e,go_sem,leX,yB,yC];first|done|rfl|(simp [leX,look];done)))
  intro yy xN1 xM1 xhN1 xhM1
  simp only [yB,yC]
  obtain ⟨j,hj9⟩:=yy
  rcases yZ j 4 with hlt|hge
  ·have hjc:((j:Nat):Int)<4:=by omega
   have hj0:(0:Int)≤((j:Nat):Int):=by omega
   have hjs:Go.RowKit.wrap64 (((j:Nat):Int)+1)=((j+1:Nat):Int):=i2t (by omega) (by omega)
   have hjl:j+1≤4:=by omega
   obtain ⟨⟨z,c⟩,hz⟩: ∃ s,h0e (fun _=>fL xs i) (fL ys) i (n0f (fL xs) (fL ys) i) j=s:=⟨_,rfl⟩
   have hzl:z.length=8:=by have:=Qw (fun _=>fL xs i) (fL ys) i (n0f (fL xs) (fL ys) i) j;rw [hz] at this;rw [←Yv (fL xs) (fL ys) i];exact this
   have hst:=p0l hz
   have ow:=Kk (l:=z) (i:=i+j) (by omega)
   change _=[L.pl (PL.u64 (fL z (i+j)))] at ow
   have p0:=Sw (q:=z) (j:=i+j) (loW (fL xs i) (fL ys j) (fL z (i+j)) c) (by omega)
   simp only [hz]
   have oy:=Kk (l:=ys) (i:=j) (by omega)
   change _=[L.pl (PL.u64 (fL ys j))] at oy
   have hij:Go.RowKit.wrap64 (((i:Nat):Int)+((j:Nat):Int))=((i+j:Nat):Int):=i2t (by omega) (by omega)
   have hij0:(0:Int)≤((i+j:Nat):Int)∧((i+j:Nat):Int)<8:=by omega
   have hijl:i+j+1≤8:=by omega
   rw [loW] at p0
   have F0:=yA hjc<|yA hj0<|yA hjs<|yA hjl<|yA hzl<|yA ow<|yA p0<|yA oy<|yA hij<|yA hij0<|yA hijl<|yA hyl<|F0
   have zS:ZS 9:=⟨⟩
   refine (fun zX=>goW) ?_
   refine ⟨?_⟩;clear zS
   refine Lj fun zK zhK=>?_
   simp only [go_sem,F0]
   repeat' (first|apply yA|intro _)
   all_goals refine Cv (fun k=>k) (fun _ _=>rfl) (by first|rfl|(simp only [go_sem,F0]<;>rfl)) ((x1b _ _).plain fun _ _ h=>h) ?_
   all_goals (rintro v m ⟨hR,hm⟩;subst hR;subst hm)
   all_goals refine yA (by first|rfl|simp only [go_sem,F0]) (yA (by first|rfl|simp only [go_sem,F0]) ?_)
   all_goals simp only [go_sem,F0]
   all_goals repeat' (first|apply yA|intro _)
   refine zhK _ ?_
   refine Lj fun zK zhK=>?_
   simp only [go_sem,F0]
   repeat' (first|apply yA|intro _)
   all_goals refine Xz (by first|rfl|(simp only [go_sem,F0]<;>rfl)) (Oj _ _ _ (by repeat' (first|assumption|decide|apply Xv))) ?_
   all_goals simp only [go_sem,F0]
   all_goals repeat' (first|apply yA|intro _)
   refine zhK _ ?_
   have zS:ZS 12:=⟨⟩
   refine (fun zX=>goW) ?_
   refine ⟨?_⟩;clear zS
   refine Lj fun zK zhK=>?_
   simp only [go_sem,F0]
   repeat' (first|apply yA|intro _)
   all_goals refine Xz (by first|rfl|(simp only [go_sem,F0]<;>rfl)) (Oj _ _ _ (by repeat' (first|assumption|decide|apply Xv))) ?_
   all_goals simp only [go_sem,F0]
   all_goals repeat' (first|apply yA|intro _)
   refine zhK _ ?_
   refine (fun zX=>goW) ?_
   refine xhN1 ⟨j+1,hlt⟩ _ ?_ ?_ ?_
   ·(exact yP hlt (yQ j))
   ·(simp only [hst,caW,go_sem,leX,yB,yC];first|done|rfl|(simp;done))
   (simp only [hst,←p0,loW,go_sem,leX,yB,yC];first|done|rfl|(simp [leX,look];done))
  obtain rfl:j=4:=by omega
  have hjc:¬((4:Nat):Int)<4:=by omega
  obtain ⟨⟨z,c⟩,hz⟩: ∃ s,h0e (fun _=>fL xs i) (fL ys) i (n0f (fL xs) (fL ys) i) 4=s:=⟨_,rfl⟩
  have hzl:z.length=8:=by have:=Qw (fun _=>fL xs i) (fL ys) i (n0f (fL xs) (fL ys) i) 4;rw [hz] at this;rw [←Yv (fL xs) (fL ys) i];exact this
  have hin:n0f (fL xs) (fL ys) (i+1)=z.set (i+4) c:=by rw [n0f,hz]
  have p0:=Sw (q:=z) (j:=i+4) c (by omega)
  have hi4:Go.RowKit.wrap64 (((i:Nat):Int)+4)=((i+4:Nat):Int):=i2t (by omega) (by omega)
  have hi40:(0:Int)≤((i+4:Nat):Int)∧((i+4:Nat):Int)<8:=by omega
  have hi4l:i+4+1≤8:=by omega
  simp only [hz]
  have F0:=yA hjc<|yA hzl<|yA p0<|yA hi4<|yA hi40<|yA hi4l<|F0
  refine (fun zX=>goW) ?_
  refine xhN0 ⟨i+1,hlt1⟩ _ ?_ ?_ ?_
  ·(exact yP hlt1 (yQ i))
  ·(simp only [go_sem,leX,yB,yC];first|done|rfl|(simp;done))
  (simp only [hin,←p0,go_sem,leX,yB,yC];first|done|rfl|(simp [leX,look];done))
 obtain rfl:i=4:=by omega
 have hic:¬((4:Nat):Int)<4:=by omega
 obtain ⟨zz,hzz⟩: ∃ z,n0f (fL xs) (fL ys) 4=z:=⟨_,rfl⟩
 have hzzl:zz.length=8:=by rw [←hzz];exact Yv _ _ _
 obtain ⟨z0,z1,z2,z3,z4,z5,z6,z7,hz8⟩:=r2a hzzl
 have k0:List.take 1 (Dz zz)=[L.pl (.u64 z0)]:=by rw [hz8];rfl
 have k1:List.take 1 (List.drop 1 (Dz zz))=[L.pl (.u64 z1)]:=by rw [hz8];rfl
 have k2:List.take 1 (List.drop 2 (Dz zz))=[L.pl (.u64 z2)]:=by rw [hz8];rfl
 have k3:List.take 1 (List.drop 3 (Dz zz))=[L.pl (.u64 z3)]:=by rw [hz8];rfl
 have hlo:Dz [z0,z1,z2,z3]=[.pl (.u64 z0),.pl (.u64 z1),.pl (.u64 z2),.pl (.u64 z3)]:=rfl
 simp only [hzz]
 have F0:=yA hic<|yA hzzl<|yA k0<|yA k1<|yA k2<|yA k3<|F0
 refine (fun zX=>goW) ?_
 refine Bv [0,1,2,3,6,7,8,9,10,11,12,13,20,21,22,23,24,25,26,27,28,29,30,31,32,33,34,35,36,37,38,39,40,41,42,43,44,45,46,47,48,49,50,51,52,53,54,55,56,57,58,59,60,61,62,63,64,65,66,67,68,69,70,71,72,73,74,75,76,77] ?_
 simp only [Bj,Cx,Bq,yI,yK,Nat.reduceBEq,beq_self_eq_true,yS,yV,yY,yT,yE,reduceIte]
 refine Gx (fun y=>[(78,.w (.one (.pl (.i ((y.1:Nat):Int))))),(15,.w (.one (.pl (.u64 ((h0e (fun i=>fL zz (4+i)) (fun _=>38) 0 [z0,z1,z2,z3] y.1).2)))))]) (fun y=>[(14,⟨false,Dz (h0e (fun i=>fL zz (4+i)) (fun _=>38) 0 [z0,z1,z2,z3] y.1).1⟩)]) (fun y=>4-y.1) (⟨0,xA _⟩:{y:Nat//y≤4}) ?_ (by (simp only [h0e,go_sem,leX,yB,yC];first|done|rfl|(simp;done))) (by (simp only [h0e,hlo,go_sem,leX,yB,yC];first|done|rfl|(simp [leX,look];done)))
 intro yy xN1 xM1 xhN1 xhM1
 simp only [yB,yC]
 obtain ⟨j,hj9⟩:=yy
 rcases yZ j 4 with hlt|hge
 ·have hjc:((j:Nat):Int)<4:=by omega
  have hj0:(0:Int)≤((j:Nat):Int):=by omega
  have hjs:Go.RowKit.wrap64 (((j:Nat):Int)+1)=((j+1:Nat):Int):=i2t (by omega) (by omega)
  have hjl:j+1≤4:=by omega
  obtain ⟨⟨z,c⟩,hz⟩: ∃ s,h0e (fun i=>fL zz (4+i)) (fun _=>38) 0 [z0,z1,z2,z3] j=s:=⟨_,rfl⟩
  have hzl:z.length=4:=by have:=Qw (fun i=>fL zz (4+i)) (fun _=>38) 0 [z0,z1,z2,z3] j;rw [hz] at this;exact this
  have hst:=p0l hz
  have ow:=Kk (l:=z) (i:=0+j) (by omega)
  change _=[L.pl (PL.u64 (fL z (0+j)))] at ow
  have p0:=Sw (q:=z) (j:=0+j) (loW (fL zz (4+j)) (38) (fL z (0+j)) c) (by omega)
  simp only [hz]
  have oy:=Kk (l:=zz) (i:=4+j) (by omega)
  change _=[L.pl (PL.u64 (fL zz (4+j)))] at oy
  have hij:Go.RowKit.wrap64 ((4:Int)+((j:Nat):Int))=((4+j:Nat):Int):=i2t (by omega) (by omega)
  have hij0:(0:Int)≤((4+j:Nat):Int)∧((4+j:Nat):Int)<8:=by omega
  have hijl:4+j+1≤8:=by omega
  rw [loW] at p0
  rw [xV] at ow p0 hst
  have F0:=yA hjc<|yA hj0<|yA hjs<|yA hjl<|yA hzl<|yA ow<|yA p0<|yA oy<|yA hij<|yA hij0<|yA hijl<|yA hzzl<|F0
  have zS:ZS 22:=⟨⟩
  refine (fun zX=>goW) ?_
  refine ⟨?_⟩;clear zS
  refine Lj fun zK zhK=>?_
  simp only [go_sem,F0]
  repeat' (first|apply yA|intro _)
  all_goals refine Cv (fun k=>k) (fun _ _=>rfl) (by first|rfl|(simp only [go_sem,F0]<;>rfl)) ((x1b _ _).plain fun _ _ h=>h) ?_
  all_goals (rintro v m ⟨hR,hm⟩;subst hR;subst hm)
  all_goals refine yA (by first|rfl|simp only [go_sem,F0]) (yA (by first|rfl|simp only [go_sem,F0]) ?_)
  all_goals simp only [go_sem,F0]
  all_goals repeat' (first|apply yA|intro _)
  refine zhK _ ?_
  refine Lj fun zK zhK=>?_
  simp only [go_sem,F0]
  repeat' (first|apply yA|intro _)
  all_goals refine Xz (by first|rfl|(simp only [go_sem,F0]<;>rfl)) (Oj _ _ _ (by repeat' (first|assumption|decide|apply Xv))) ?_
  all_goals simp only [go_sem,F0]
  all_goals repeat' (first|apply yA|intro _)
  refine zhK _ ?_
  have zS:ZS 25:=⟨⟩
  refine (fun zX=>goW) ?_
  refine ⟨?_⟩;clear zS
  refine Lj fun zK zhK=>?_
  simp only [go_sem,F0]
  repeat' (first|apply yA|intro _)
  all_goals refine Xz (by first|rfl|(simp only [go_sem,F0]<;>rfl)) (Oj _ _ _ (by repeat' (first|assumption|decide|apply Xv))) ?_
  all_goals simp only [go_sem,F0]
  all_goals repeat' (first|apply yA|intro _)
  refine zhK _ ?_
  refine (fun zX=>goW) ?_
  refine xhN1 ⟨j+1,hlt⟩ _ ?_ ?_ ?_
  ·(exact yP hlt (yQ j))
  ·(simp only [hst,caW,go_sem,leX,yB,yC];first|done|rfl|(simp;done))
  (simp only [hst,←p0,loW,go_sem,leX,yB,yC];first|done|rfl|(simp [leX,look];done))
 obtain rfl:j=4:=by omega
 have hjc:¬((4:Nat):Int)<4:=by omega
 obtain ⟨⟨r,k⟩,hr⟩: ∃ s,h0e (fun i=>fL zz (4+i)) (fun _=>38) 0 [z0,z1,z2,z3] 4=s:=⟨_,rfl⟩
 have hrl:r.length=4:=by have:=Qw (fun i=>fL zz (4+i)) (fun _=>38) 0 [z0,z1,z2,z3] 4;rw [hr] at this;exact this
 obtain ⟨r0,r1,r2,r3,rfl⟩:=r2b hrl
 simp only [hr]
 subst hz8
 obtain ⟨hk38,hfm⟩:=x1a hzz hr
 have hfm:=w1y hfm
 have hP:=n0d r0 r1 r2 r3 (38*k)
 rw [r2x hk38] at hP
 have hu:Dz [r0,r1,r2,r3]=[.pl (.u64 r0),.pl (.u64 r1),.pl (.u64 r2),.pl (.u64 r3)]:=rfl
 obtain ⟨p0,p1,p2,p3,hp,hvp⟩:=Cz (r0s (vQ r0 r1 r2 r3) (38*k.toNat)) (g1c (b0p _ _ _ _) (by omega))
 simp only [w4C,hp] at hP
 have hS:=u0f p0 p1 p2 p3
 rw [hvp,hfm] at hS
 obtain ⟨q0,q1,q2,q3,hq,hvq⟩:=Cz ((vQ (fL xs 0) (fL xs 1) (fL xs 2) (fL xs 3)*vQ (fL ys 0) (fL ys 1) (fL ys 2) (fL ys 3))%p25) (j0j _)
 simp only [w4C,hq] at hS
 have hE:w4C ((vQ (fL xs 0) (fL xs 1) (fL xs 2) (fL xs 3)*vQ (fL ys 0) (fL ys 1) (fL ys 2) (fL ys 3))%p25)=Dz [q0,q1,q2,q3]:=by rw [w4C,hq]
 have huq:Dz [q0,q1,q2,q3]=[.pl (.u64 q0),.pl (.u64 q1),.pl (.u64 q2),.pl (.u64 q3)]:=rfl
 have hup:Dz [p0,p1,p2,p3]=[.pl (.u64 p0),.pl (.u64 p1),.pl (.u64 p2),.pl (.u64 p3)]:=rfl
 simp only [huq] at hS
 simp only [hup] at hP
 have F0:=yA hjc<|yA hu<|F0
 have cq:=yA (Ct.cv (hP))<|yA (CtM.ch [] (hS.told))<|trivial
 refine (fun zX=>goW) ?_
 refine zhY _ _ ?_
 simp only [go_sem,F0]
 all_goals (exact told_plain (by simp [Dv,Ew]) ⟨by rw [hE,huq],rfl⟩)
theorem n2c (a b c d e f g h:UInt64):CtM Tryz.prog 81 [.w (.agg [.pl (.u64 a),.pl (.u64 b),.pl (.u64 c),.pl (.u64 d)]),.w (.agg [.pl (.u64 e),.pl (.u64 f),.pl (.u64 g),.pl (.u64 h)])] [(1000001,⟨false,gPr⟩)] (Told (fun v m=>v=.w (.agg (w4C ((vQ a b c d*vQ e f g h)%p25)))∧m=[])):=q2s [a,b,c,d] [e,f,g,h] rfl rfl
end Lk
end Go.Sy
namespace Go.Sy
namespace Lk
open Go.Proofs
attribute [local irreducible] Bw HT Aj Jk onC onE onO onG goV goA goS Lx Bz
theorem p2b (a b c d e f g h:UInt64) (h1:vQ a b c d<p25) (h2:vQ e f g h<p25):
 CtM Tryz.prog 82 [.w (.agg [.pl (.u64 a),.pl (.u64 b),.pl (.u64 c),.pl (.u64 d)]),.w (.agg [.pl (.u64 e),.pl (.u64 f),.pl (.u64 g),.pl (.u64 h)])] [(1000001,⟨false,gPr⟩)] (Told (fun v m=>v=.tup [.agg (w4C ((vQ a b c d*vQ e f g h)%p25)),.one (.pl (.i 0))]∧m=[])):=by
 have hb:=o2q a b c d e f g h h1 h2 ((vQ a b c d*vQ e f g h)%p25) (wP _ (by decide)) (n2c a b c d e f g h)
 obtain ⟨q0,q1,q2,q3,hq,hvq⟩:=Cz ((vQ a b c d*vQ e f g h)%p25) (j0j _)
 simp only [w4C,hq] at hb ⊢
 have F0:=Dz.eq_1
 refine CtM.go Tryz.func82 rfl Tryz.ntmps82 Tryz.results82 fun w0 ro may fx zZ zhY=>?_
 have cq:=yA (CtM.ch [] (hb.told))<|trivial
 refine (fun zX=>goW) ?_
 refine zhY _ _ ?_
 simp only [go_sem,F0]
 all_goals (exact told_plain (by simp [Dv,Ew]) ⟨rfl,rfl⟩)
end Lk
end Go.Sy
namespace Go.Sy
namespace Lk
open Go.Proofs
attribute [local irreducible] Bw HT Aj Jk onC onE onO onG goV goA goS Lx Bz
theorem r0g {n:Nat} (h:n<p25):n<115792089237316195423570985008687907853269984665640564039457584007913129639936:=by
 have:=j0g
 omega
theorem p2o (a b c d e f g h:UInt64) (h1:vQ a b c d<p25) (h2:vQ e f g h<p25):
 CtM Tryz.prog 77 [.w (.agg [.pl (.u64 a),.pl (.u64 b),.pl (.u64 c),.pl (.u64 d)]),.w (.agg [.pl (.u64 e),.pl (.u64 f),.pl (.u64 g),.pl (.u64 h)])] [(1000001,⟨false,gPr⟩)] (Told (fun v m=>v=.w (.agg (w4C (fA (vQ a b c d) (vQ e f g h))))∧m=[])):=by
 have hb:=p2c a b c d e f g h h1 h2
 change CtM _ _ _ _ (Told fun v m=>v=V.tup [W.agg (w4C (fA (vQ a b c d) (vQ e f g h))),_]∧m=[]) at hb
 obtain ⟨q0,q1,q2,q3,hq,hvq⟩:=Cz (fA (vQ a b c d) (vQ e f g h)) (r0g (n0i _ _))
 have huq:Dz [q0,q1,q2,q3]=[.pl (.u64 q0),.pl (.u64 q1),.pl (.u64 q2),.pl (.u64 q3)]:=rfl
 simp only [w4C,hq,huq] at hb ⊢
 have F0:=trivial
 refine CtM.go Tryz.func77 rfl Tryz.ntmps77 Tryz.results77 fun w0 ro may fx zZ zhY=>?_
 have cq:=yA (CtM.ch [] (hb.told))<|trivial
 refine (fun zX=>goW) ?_
 refine zhY _ _ ?_
 simp only [go_sem,F0]
 all_goals (exact told_plain (by simp [Dv,Ew]) ⟨rfl,rfl⟩)
theorem p2k (a b c d e f g h:UInt64) (h1:vQ a b c d<p25) (h2:vQ e f g h<p25):
 CtM Tryz.prog 78 [.w (.agg [.pl (.u64 a),.pl (.u64 b),.pl (.u64 c),.pl (.u64 d)]),.w (.agg [.pl (.u64 e),.pl (.u64 f),.pl (.u64 g),.pl (.u64 h)])] [(1000001,⟨false,gPr⟩)] (Told (fun v m=>v=.w (.agg (w4C (fS (vQ a b c d) (vQ e f g h))))∧m=[])):=by
 have hb:=p2a a b c d e f g h h1 h2
 change CtM _ _ _ _ (Told fun v m=>v=V.tup [W.agg (w4C (fS (vQ a b c d) (vQ e f g h))),_]∧m=[]) at hb
 obtain ⟨q0,q1,q2,q3,hq,hvq⟩:=Cz (fS (vQ a b c d) (vQ e f g h)) (r0g (r0y _ _))
 have huq:Dz [q0,q1,q2,q3]=[.pl (.u64 q0),.pl (.u64 q1),.pl (.u64 q2),.pl (.u64 q3)]:=rfl
 simp only [w4C,hq,huq] at hb ⊢
 have F0:=trivial
 refine CtM.go Tryz.func78 rfl Tryz.ntmps78 Tryz.results78 fun w0 ro may fx zZ zhY=>?_
 have cq:=yA (CtM.ch [] (hb.told))<|trivial
 refine (fun zX=>goW) ?_
 refine zhY _ _ ?_
 simp only [go_sem,F0]
 all_goals (exact told_plain (by simp [Dv,Ew]) ⟨rfl,rfl⟩)
theorem x1p (a b c d e f g h:UInt64) (h1:vQ a b c d<p25) (h2:vQ e f g h<p25):
 CtM Tryz.prog 52 [.w (.agg [.pl (.u64 a),.pl (.u64 b),.pl (.u64 c),.pl (.u64 d)]),.w (.agg [.pl (.u64 e),.pl (.u64 f),.pl (.u64 g),.pl (.u64 h)])] [(1000001,⟨false,gPr⟩)] (Told (fun v m=>v=.w (.agg (w4C (fM (vQ a b c d) (vQ e f g h))))∧m=[])):=by
 have hb:=p2b a b c d e f g h h1 h2
 change CtM _ _ _ _ (Told fun v m=>v=V.tup [W.agg (w4C (fM (vQ a b c d) (vQ e f g h))),_]∧m=[]) at hb
 obtain ⟨q0,q1,q2,q3,hq,hvq⟩:=Cz (fM (vQ a b c d) (vQ e f g h)) (r0g (Tx _ _))
 have huq:Dz [q0,q1,q2,q3]=[.pl (.u64 q0),.pl (.u64 q1),.pl (.u64 q2),.pl (.u64 q3)]:=rfl
 simp only [w4C,hq,huq] at hb ⊢
 have F0:=trivial
 refine CtM.go Tryz.func52 rfl Tryz.ntmps52 Tryz.results52 fun w0 ro may fx zZ zhY=>?_
 have cq:=yA (CtM.ch [] (hb.told))<|trivial
 refine (fun zX=>goW) ?_
 refine zhY _ _ ?_
 simp only [go_sem,F0]
 all_goals (exact told_plain (by simp [Dv,Ew]) ⟨rfl,rfl⟩)
theorem v0f (a b c d:UInt64) (h1:vQ a b c d<p25):
 CtM Tryz.prog 79 [.w (.agg [.pl (.u64 a),.pl (.u64 b),.pl (.u64 c),.pl (.u64 d)])] [(1000001,⟨false,gPr⟩)] (Told (fun v m=>v=.w (.agg (w4C (fM (vQ a b c d) (vQ a b c d))))∧m=[])):=by
 have hb:=x1p a b c d a b c d h1 h1
 obtain ⟨q0,q1,q2,q3,hq,hvq⟩:=Cz (fM (vQ a b c d) (vQ a b c d)) (r0g (Tx _ _))
 have huq:Dz [q0,q1,q2,q3]=[.pl (.u64 q0),.pl (.u64 q1),.pl (.u64 q2),.pl (.u64 q3)]:=rfl
 simp only [w4C,hq,huq] at hb ⊢
 have F0:=trivial
 refine CtM.go Tryz.func79 rfl Tryz.ntmps79 Tryz.results79 fun w0 ro may fx zZ zhY=>?_
 have cq:=yA (CtM.ch [] (hb.told))<|trivial
 refine (fun zX=>goW) ?_
 refine zhY _ _ ?_
 simp only [go_sem,F0]
 all_goals (exact told_plain (by simp [Dv,Ew]) ⟨rfl,rfl⟩)
end Lk
end Go.Sy
namespace Go.Sy
namespace Lk
open Go.Proofs
attribute [local irreducible] Bw HT Aj Jk onC onE onO onG goV goA goS Lx Bz
theorem x1i (x0 x1 x2 x3 y0 y1 y2 y3 z0 z1 z2 z3 v0 v1 v2 v3 u0 u1 u2 u3:UInt64) (X0 X1 Z0 Z1 U:Nat) (hvx:vQ x0 x1 x2 x3=X0) (lx:X0<p25) (hvy:vQ y0 y1 y2 y3=X1) (ly:X1<p25) (hvz:vQ z0 z1 z2 z3=Z0) (lz:Z0<p25) (hvv:vQ v0 v1 v2 v3=Z1) (lv:Z1<p25) (hvu:vQ u0 u1 u2 u3=U) (lu:U<p25):
 CtM Tryz.prog 49 [.w (.agg [.pl (.u64 x0),.pl (.u64 x1),.pl (.u64 x2),.pl (.u64 x3),.pl (.u64 y0),.pl (.u64 y1),.pl (.u64 y2),.pl (.u64 y3),.pl (.u64 z0),.pl (.u64 z1),.pl (.u64 z2),.pl (.u64 z3),.pl (.u64 v0),.pl (.u64 v1),.pl (.u64 v2),.pl (.u64 v3)]),.w (.agg [.pl (.u64 u0),.pl (.u64 u1),.pl (.u64 u2),.pl (.u64 u3)])] [(1000001,⟨false,gPr⟩)] (Told (fun v m=>v=.w (.agg (w4C (h2u ⟨X0,Z0⟩).x++(w4C (w0p ⟨X0,Z0⟩ ⟨X1,Z1⟩ U).x++(w4C (h2u ⟨X0,Z0⟩).z++w4C (w0p ⟨X0,Z0⟩ ⟨X1,Z1⟩ U).z))))∧m=[])):=by
 have hvk:vQ 121665 0 0 0=121665:=rfl
 have lk:(121665:Nat)<p25:=by decide
 obtain ⟨nrA,hnrA⟩: ∃ n,fA X0 Z0=n:=⟨_,rfl⟩
 have lrA:nrA<p25:=by rw [←hnrA];exact n0i _ _
 have k0:=p2o x0 x1 x2 x3 z0 z1 z2 z3 (hvx▸lx) (hvz▸lz)
 rw [hvx,hvz,hnrA] at k0
 obtain ⟨rA0,rA1,rA2,rA3,hrA,hvrA⟩:=Cz nrA (r0g lrA)
 have hurA:w4C nrA=[.pl (.u64 rA0),.pl (.u64 rA1),.pl (.u64 rA2),.pl (.u64 rA3)]:=by rw [w4C,hrA];rfl
 rw [hurA] at k0
 obtain ⟨nrB,hnrB⟩: ∃ n,fS X0 Z0=n:=⟨_,rfl⟩
 have lrB:nrB<p25:=by rw [←hnrB];exact r0y _ _
 have k1:=p2k x0 x1 x2 x3 z0 z1 z2 z3 (hvx▸lx) (hvz▸lz)
 rw [hvx,hvz,hnrB] at k1
 obtain ⟨rB0,rB1,rB2,rB3,hrB,hvrB⟩:=Cz nrB (r0g lrB)
 have hurB:w4C nrB=[.pl (.u64 rB0),.pl (.u64 rB1),.pl (.u64 rB2),.pl (.u64 rB3)]:=by rw [w4C,hrB];rfl
 rw [hurB] at k1
 obtain ⟨nrC,hnrC⟩: ∃ n,fA X1 Z1=n:=⟨_,rfl⟩
 have lrC:nrC<p25:=by rw [←hnrC];exact n0i _ _
 have k2:=p2o y0 y1 y2 y3 v0 v1 v2 v3 (hvy▸ly) (hvv▸lv)
 rw [hvy,hvv,hnrC] at k2
 obtain ⟨rC0,rC1,rC2,rC3,hrC,hvrC⟩:=Cz nrC (r0g lrC)
 have hurC:w4C nrC=[.pl (.u64 rC0),.pl (.u64 rC1),.pl (.u64 rC2),.pl (.u64 rC3)]:=by rw [w4C,hrC];rfl
 rw [hurC] at k2
 obtain ⟨nrD,hnrD⟩: ∃ n,fS X1 Z1=n:=⟨_,rfl⟩
 have lrD:nrD<p25:=by rw [←hnrD];exact r0y _ _
 have k3:=p2k y0 y1 y2 y3 v0 v1 v2 v3 (hvy▸ly) (hvv▸lv)
 rw [hvy,hvv,hnrD] at k3
 obtain ⟨rD0,rD1,rD2,rD3,hrD,hvrD⟩:=Cz nrD (r0g lrD)
 have hurD:w4C nrD=[.pl (.u64 rD0),.pl (.u64 rD1),.pl (.u64 rD2),.pl (.u64 rD3)]:=by rw [w4C,hrD];rfl
 rw [hurD] at k3
 obtain ⟨nrE,hnrE⟩: ∃ n,fM nrA nrA=n:=⟨_,rfl⟩
 have lrE:nrE<p25:=by rw [←hnrE];exact Tx _ _
 have k4:=v0f rA0 rA1 rA2 rA3 (hvrA▸lrA)
 rw [hvrA,hnrE] at k4
 obtain ⟨rE0,rE1,rE2,rE3,hrE,hvrE⟩:=Cz nrE (r0g lrE)
 have hurE:w4C nrE=[.pl (.u64 rE0),.pl (.u64 rE1),.pl (.u64 rE2),.pl (.u64 rE3)]:=by rw [w4C,hrE];rfl
 rw [hurE] at k4
 obtain ⟨nrF,hnrF⟩: ∃ n,fM nrB nrB=n:=⟨_,rfl⟩
 have lrF:nrF<p25:=by rw [←hnrF];exact Tx _ _
 have k5:=v0f rB0 rB1 rB2 rB3 (hvrB▸lrB)
 rw [hvrB,hnrF] at k5
 obtain ⟨rF0,rF1,rF2,rF3,hrF,hvrF⟩:=Cz nrF (r0g lrF)
 have hurF:w4C nrF=[.pl (.u64 rF0),.pl (.u64 rF1),.pl (.u64 rF2),.pl (.u64 rF3)]:=by rw [w4C,hrF];rfl
 rw [hurF] at k5
 obtain ⟨nrG,hnrG⟩: ∃ n,fS nrE nrF=n:=⟨_,rfl⟩
 have lrG:nrG<p25:=by rw [←hnrG];exact r0y _ _
 have k6:=p2k rE0 rE1 rE2 rE3 rF0 rF1 rF2 rF3 (hvrE▸lrE) (hvrF▸lrF)
 rw [hvrE,hvrF,hnrG] at k6
 obtain ⟨rG0,rG1,rG2,rG3,hrG,hvrG⟩:=Cz nrG (r0g lrG)
 have hurG:w4C nrG=[.pl (.u64 rG0),.pl (.u64 rG1),.pl (.u64 rG2),.pl (.u64 rG3)]:=by rw [w4C,hrG];rfl
 rw [hurG] at k6
 obtain ⟨nrH,hnrH⟩: ∃ n,fM nrD nrA=n:=⟨_,rfl⟩
 have lrH:nrH<p25:=by rw [←hnrH];exact Tx _ _
 have k7:=x1p rD0 rD1 rD2 rD3 rA0 rA1 rA2 rA3 (hvrD▸lrD) (hvrA▸lrA)
 rw [hvrD,hvrA,hnrH] at k7
 obtain ⟨rH0,rH1,rH2,rH3,hrH,hvrH⟩:=Cz nrH (r0g lrH)
 have hurH:w4C nrH=[.pl (.u64 rH0),.pl (.u64 rH1),.pl (.u64 rH2),.pl (.u64 rH3)]:=by rw [w4C,hrH];rfl
 rw [hurH] at k7
 obtain ⟨nrI,hnrI⟩: ∃ n,fM nrC nrB=n:=⟨_,rfl⟩
 have lrI:nrI<p25:=by rw [←hnrI];exact Tx _ _
 have k8:=x1p rC0 rC1 rC2 rC3 rB0 rB1 rB2 rB3 (hvrC▸lrC) (hvrB▸lrB)
 rw [hvrC,hvrB,hnrI] at k8
 obtain ⟨rI0,rI1,rI2,rI3,hrI,hvrI⟩:=Cz nrI (r0g lrI)
 have hurI:w4C nrI=[.pl (.u64 rI0),.pl (.u64 rI1),.pl (.u64 rI2),.pl (.u64 rI3)]:=by rw [w4C,hrI];rfl
 rw [hurI] at k8
 obtain ⟨nrJ,hnrJ⟩: ∃ n,fM nrE nrF=n:=⟨_,rfl⟩
 have lrJ:nrJ<p25:=by rw [←hnrJ];exact Tx _ _
 have k9:=x1p rE0 rE1 rE2 rE3 rF0 rF1 rF2 rF3 (hvrE▸lrE) (hvrF▸lrF)
 rw [hvrE,hvrF,hnrJ] at k9
 obtain ⟨rJ0,rJ1,rJ2,rJ3,hrJ,hvrJ⟩:=Cz nrJ (r0g lrJ)
 have hurJ:w4C nrJ=[.pl (.u64 rJ0),.pl (.u64 rJ1),.pl (.u64 rJ2),.pl (.u64 rJ3)]:=by rw [w4C,hrJ];rfl
 rw [hurJ] at k9
 obtain ⟨nrK,hnrK⟩: ∃ n,fA nrH nrI=n:=⟨_,rfl⟩
 have lrK:nrK<p25:=by rw [←hnrK];exact n0i _ _
 have k10:=p2o rH0 rH1 rH2 rH3 rI0 rI1 rI2 rI3 (hvrH▸lrH) (hvrI▸lrI)
 rw [hvrH,hvrI,hnrK] at k10
 obtain ⟨rK0,rK1,rK2,rK3,hrK,hvrK⟩:=Cz nrK (r0g lrK)
 have hurK:w4C nrK=[.pl (.u64 rK0),.pl (.u64 rK1),.pl (.u64 rK2),.pl (.u64 rK3)]:=by rw [w4C,hrK];rfl
 rw [hurK] at k10
 obtain ⟨nrL,hnrL⟩: ∃ n,fM nrK nrK=n:=⟨_,rfl⟩
 have lrL:nrL<p25:=by rw [←hnrL];exact Tx _ _
 have k11:=v0f rK0 rK1 rK2 rK3 (hvrK▸lrK)
 rw [hvrK,hnrL] at k11
 obtain ⟨rL0,rL1,rL2,rL3,hrL,hvrL⟩:=Cz nrL (r0g lrL)
 have hurL:w4C nrL=[.pl (.u64 rL0),.pl (.u64 rL1),.pl (.u64 rL2),.pl (.u64 rL3)]:=by rw [w4C,hrL];rfl
 rw [hurL] at k11
 obtain ⟨nrM,hnrM⟩: ∃ n,fM 121665 nrG=n:=⟨_,rfl⟩
 have lrM:nrM<p25:=by rw [←hnrM];exact Tx _ _
 have k12:=x1p 121665 0 0 0 rG0 rG1 rG2 rG3 (hvk▸lk) (hvrG▸lrG)
 rw [hvk,hvrG,hnrM] at k12
 obtain ⟨rM0,rM1,rM2,rM3,hrM,hvrM⟩:=Cz nrM (r0g lrM)
 have hurM:w4C nrM=[.pl (.u64 rM0),.pl (.u64 rM1),.pl (.u64 rM2),.pl (.u64 rM3)]:=by rw [w4C,hrM];rfl
 rw [hurM] at k12
 obtain ⟨nrN,hnrN⟩: ∃ n,fA nrE nrM=n:=⟨_,rfl⟩
 have lrN:nrN<p25:=by rw [←hnrN];exact n0i _ _
 have k13:=p2o rE0 rE1 rE2 rE3 rM0 rM1 rM2 rM3 (hvrE▸lrE) (hvrM▸lrM)
 rw [hvrE,hvrM,hnrN] at k13
 obtain ⟨rN0,rN1,rN2,rN3,hrN,hvrN⟩:=Cz nrN (r0g lrN)
 have hurN:w4C nrN=[.pl (.u64 rN0),.pl (.u64 rN1),.pl (.u64 rN2),.pl (.u64 rN3)]:=by rw [w4C,hrN];rfl
 rw [hurN] at k13
 obtain ⟨nrO,hnrO⟩: ∃ n,fM nrG nrN=n:=⟨_,rfl⟩
 have lrO:nrO<p25:=by rw [←hnrO];exact Tx _ _
 have k14:=x1p rG0 rG1 rG2 rG3 rN0 rN1 rN2 rN3 (hvrG▸lrG) (hvrN▸lrN)
 rw [hvrG,hvrN,hnrO] at k14
 obtain ⟨rO0,rO1,rO2,rO3,hrO,hvrO⟩:=Cz nrO (r0g lrO)
 have hurO:w4C nrO=[.pl (.u64 rO0),.pl (.u64 rO1),.pl (.u64 rO2),.pl (.u64 rO3)]:=by rw [w4C,hrO];rfl
 rw [hurO] at k14
 obtain ⟨nrP,hnrP⟩: ∃ n,fS nrH nrI=n:=⟨_,rfl⟩
 have lrP:nrP<p25:=by rw [←hnrP];exact r0y _ _
 have k15:=p2k rH0 rH1 rH2 rH3 rI0 rI1 rI2 rI3 (hvrH▸lrH) (hvrI▸lrI)
 rw [hvrH,hvrI,hnrP] at k15
 obtain ⟨rP0,rP1,rP2,rP3,hrP,hvrP⟩:=Cz nrP (r0g lrP)
 have hurP:w4C nrP=[.pl (.u64 rP0),.pl (.u64 rP1),.pl (.u64 rP2),.pl (.u64 rP3)]:=by rw [w4C,hrP];rfl
 rw [hurP] at k15
 obtain ⟨nrQ,hnrQ⟩: ∃ n,fM nrP nrP=n:=⟨_,rfl⟩
 have lrQ:nrQ<p25:=by rw [←hnrQ];exact Tx _ _
 have k16:=v0f rP0 rP1 rP2 rP3 (hvrP▸lrP)
 rw [hvrP,hnrQ] at k16
 obtain ⟨rQ0,rQ1,rQ2,rQ3,hrQ,hvrQ⟩:=Cz nrQ (r0g lrQ)
 have hurQ:w4C nrQ=[.pl (.u64 rQ0),.pl (.u64 rQ1),.pl (.u64 rQ2),.pl (.u64 rQ3)]:=by rw [w4C,hrQ];rfl
 rw [hurQ] at k16
 obtain ⟨nrR,hnrR⟩: ∃ n,fM U nrQ=n:=⟨_,rfl⟩
 have lrR:nrR<p25:=by rw [←hnrR];exact Tx _ _
 have k17:=x1p u0 u1 u2 u3 rQ0 rQ1 rQ2 rQ3 (hvu▸lu) (hvrQ▸lrQ)
 rw [hvu,hvrQ,hnrR] at k17
 obtain ⟨rR0,rR1,rR2,rR3,hrR,hvrR⟩:=Cz nrR (r0g lrR)
 have hurR:w4C nrR=[.pl (.u64 rR0),.pl (.u64 rR1),.pl (.u64 rR2),.pl (.u64 rR3)]:=by rw [w4C,hrR];rfl
 rw [hurR] at k17
 have hfin:(w4C (h2u ⟨X0,Z0⟩).x++(w4C (w0p ⟨X0,Z0⟩ ⟨X1,Z1⟩ U).x++(w4C (h2u ⟨X0,Z0⟩).z++w4C (w0p ⟨X0,Z0⟩ ⟨X1,Z1⟩ U).z)))=[.pl (.u64 rJ0),.pl (.u64 rJ1),.pl (.u64 rJ2),.pl (.u64 rJ3),.pl (.u64 rL0),.pl (.u64 rL1),.pl (.u64 rL2),.pl (.u64 rL3),.pl (.u64 rO0),.pl (.u64 rO1),.pl (.u64 rO2),.pl (.u64 rO3),.pl (.u64 rR0),.pl (.u64 rR1),.pl (.u64 rR2),.pl (.u64 rR3)]:=by simp only [h2u,w0p,hnrA,hnrB,hnrC,hnrD,hnrE,hnrF,hnrG,hnrH,hnrI,hnrJ,hnrK,hnrL,hnrM,hnrN,hnrO,hnrP,hnrQ,hnrR,hurJ,hurL,hurO,hurR];rfl
 rw [hfin]
 have F0:=trivial
 refine CtM.go Tryz.func49 rfl Tryz.ntmps49 Tryz.results49 fun w0 ro may fx zZ zhY=>?_
 have cq:=yA k0.told<|yA k1.told<|yA k2.told<|yA k3.told<|yA k4.told<|yA k5.told<|yA (CtM.ch [] (k6.told))<|yA k7.told<|yA k8.told<|yA k9.told<|yA k10.told<|yA k11.told<|yA k12.told<|yA k13.told<|yA k14.told<|yA k15.told<|yA k16.told<|yA k17.told<|trivial
 have zr0:DS 1:=⟨⟩
 have zr1:DS 2:=⟨⟩
 have zr2:DS 3:=⟨⟩
 have zr3:DS 5:=⟨⟩
 have zr4:DS 6:=⟨⟩
 have zq:DP 0 16 [14,15,16,17,18,19,20,21,22,23,24,25,26,27,5,6] [0,1,3,0,8,24,63,0,128,384,0,1024,3072,8191,0,0,65535,131071] []∧DN 2 18∧DP 0 16 [28,29,30,31,32,33,34,35,36,37,38,39,40,41,7,8] [0,1,3,0,8,24,63,0,128,384,0,1024,3072,8191,0,0,65535,131071] []∧DN 2 18∧DP 0 6 [42,43,44,45,9,10] [0,1,0,7,0,0,63,127] []∧DN 2 8∧DP 0 8 [49,50,51,52,53,54,12,13] [0,0,3,0,0,31,0,0,255,511] []∧DN 2 10∧DP 0 22 [55,56,57,58,59,60,61,62,63,64,65,66,67,68,69,70,71,72,73,74,75,76] [0,0,3,0,0,31,63,127,0,0,0,0,3199,7807,16255,0,0,0,229247,491391,1048447,2097023,4194303,8388607] []∧DN 2 24∧True:=⟨⟨⟩,⟨⟩,⟨⟩,⟨⟩,⟨⟩,⟨⟩,⟨⟩,⟨⟩,⟨⟩,⟨⟩,trivial⟩
 refine (fun zX=>goW) ?_
 refine zhY _ _ ?_
 simp only [go_sem,F0]
 all_goals (exact told_plain (by simp [Dv,Ew]) ⟨rfl,rfl⟩)
end Lk
end Go.Sy
