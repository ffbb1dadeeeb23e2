/- Walks and what they compute. CONDITIONS: those that each theorem names. -/
import Derived.Test.YtkfcbhgkpknagaaGreatDoorvS25
import Derived.Test.YtkfcbhgkpknagaaGreatDoorvE3
set_option linter.unusedVariables false
set_option linter.unusedSimpArgs false
namespace Go.Sy
structure PrI (x y:List UInt64) (i:Nat) (z:List UInt64):Prop where
 len:z.length=32
 le: ∀ l,l<32→(fL z l).toNat≤i*16*4294967296
 val:Ny 65536 (fL z) 32=Ny 65536 (fL x) i*Ny 65536 (fL y) 16
structure PrJ (x y:List UInt64) (i j:Nat) (z:List UInt64):Prop where
 len:z.length=32
 le: ∀ l,l<32→(fL z l).toNat≤(i*16+j)*4294967296
 val:Ny 65536 (fL z) 32=Ny 65536 (fL x) i*Ny 65536 (fL y) 16+65536 ^ i*((fL x i).toNat*Ny 65536 (fL y) j)
def z32 :List UInt64:=List.replicate 32 0
theorem b2g (l:Nat):fL z32 l=0:=by
 simp only [fL,z32,List.getD,List.getElem?_replicate]
 split<;>rfl
theorem w0t {g:Nat→UInt64} (h: ∀ i,g i=0): ∀ n,Ny 65536 g n=0
 |0=>rfl
 |n+1=>by
   rw [Ny,w0t h n,h n]
   have:(0:UInt64).toNat=0:=rfl
   rw [this];simp
variable {x y z:List UInt64} {i j:Nat}
theorem v1q (x y:List UInt64):PrI x y 0 z32:=by
 refine ⟨rfl,fun l _=>?_,?_⟩
 ·rw [b2g];exact xA _
 rw [w0t b2g];simp [Ny]
theorem v1n (h:PrI x y i z):PrJ x y i 0 z:=by
 refine ⟨h.len,fun l hl=>by simpa using h.le l hl,?_⟩
 rw [h.val];simp [Ny]
theorem v1p (h:PrJ x y i 16 z):PrI x y (i+1) z:=by
 refine ⟨h.len,fun l hl=>xR (h.le l hl) (Nat.le_of_eq (by rw [show (i+1)*16=i*16+16 from Nat.succ_mul i 16])),?_⟩
 rw [h.val,show Ny 65536 (fL x) (i+1)=Ny 65536 (fL x) i+65536 ^ i*(fL x i).toNat from rfl]
 generalize Ny 65536 (fL y) 16=Y
 generalize 65536 ^ i=E
 grind
theorem mul_lt {a b:UInt64} (h1:a.toNat<65536) (h2:b.toNat<65536):a.toNat*b.toNat≤4294836225:=by
 have:=Nat.mul_le_mul (Nat.le_of_lt_succ h1) (Nat.le_of_lt_succ h2)
 exact this
theorem v1o (h1: ∀ i,i<16→(fL x i).toNat<65536) (h2: ∀ i,i<16→(fL y i).toNat<65536) (hi:i<16) (hj:j<16) (h:PrJ x y i j z):PrJ x y i (j+1) (z.set (i+j) (fL z (i+j)+fL x i*fL y j)):=by
 have hm:=mul_lt (h1 i hi) (h2 j hj)
 have hz:=h.le (i+j) (by omega)
 have hK:(i*16+j)*4294967296≤255*4294967296:=vY 4294967296 (by omega)
 have hK2:(i*16+(j+1))*4294967296=(i*16+j)*4294967296+4294967296:=by rw [←Nat.add_assoc,Nat.succ_mul]
 have hval:=h.val
 obtain ⟨K,hKe⟩: ∃ K,(i*16+j)*4294967296=K:=⟨_,rfl⟩
 have hle: ∀ l,l<32→(fL z l).toNat≤K:=fun l hl=>hKe▸h.le l hl
 rw [hKe] at hz hK hK2
 have e1:(fL x i*fL y j).toNat=(fL x i).toNat*(fL y j).toNat:=g0z (by omega)
 have e2:(fL z (i+j)+fL x i*fL y j).toNat=(fL z (i+j)).toNat+(fL x i).toNat*(fL y j).toNat:=by
  rw [Gv (by rw [e1];omega),e1]
 have hs:i+j<z.length:=by rw [h.len];omega
 refine ⟨by rw [List.length_set];exact h.len,fun l hl=>?_,?_⟩
 ·rw [f0k hs]
  split
  ·rw [e2,hK2];omega
  have:=hle l hl;rw [hK2];omega
 have hv:=i0u (B:=65536) (f:=fL (z.set (i+j) (fL z (i+j)+fL x i*fL y j))) (g:=fL z) (k:=i+j) (fun l hl=>by rw [f0k hs,if_neg (by omega)]) (n:=32) (by omega)
 rw [f0k hs,if_pos rfl,e2,hval,Nat.pow_add] at hv
 rw [show Ny 65536 (fL y) (j+1)=Ny 65536 (fL y) j+65536 ^ j*(fL y j).toNat from rfl]
 generalize Ny 65536 (fL (z.set (i+j) (fL z (i+j)+fL x i*fL y j))) 32=V at*
 generalize (fL z (i+j)).toNat=a at*
 generalize (fL x i).toNat=p at*
 generalize (fL y j).toNat=q at*
 generalize 65536 ^ i=E at*
 generalize 65536 ^ j=F at*
 grind
theorem s0g (B:Nat) (g:Nat→UInt64) (m:Nat): ∀ n,Ny B g (m+n)=Ny B g m+B ^ m*Ny B (fun i=>g (i+m)) n
 |0=>by simp [Ny]
 |n+1=>by
   rw [←Nat.add_assoc,Ny,s0g B g m n,Ny,Nat.pow_add,vL n m]
   grind
theorem f1e {f g:Nat→UInt64}: ∀ {n:Nat},(∀ i,i<n→(f i).toNat≤1152921504606846976)→(∀ i,i<n→(g i).toNat≤72057594037927936)→Ny 65536 (fun i=>f i+38*g i) n=Ny 65536 f n+38*Ny 65536 g n
 |0,_,_=>rfl
 |n+1,hf,hg=>by
   have h1:=hf n (by omega)
   have h2:=hg n (by omega)
   have e:(f n+38*g n).toNat=(f n).toNat+38*(g n).toNat:=by rw [Gv (by rw [i1h h2];omega),i1h h2]
   simp only [Ny]
   rw [f1e (fun i hi=>hf i (by omega)) (fun i hi=>hg i (by omega)),e]
   grind
def g2l (z:List UInt64):List UInt64:=(List.range 16).map fun i=>fL z i+38*fL z (16+i)
theorem c1u (z:List UInt64):(g2l z).length=16:=by simp [g2l]
theorem y1k (hx:x.length=16) (hy:y.length=16) (h:PrI x y 16 z):Gw 65536 (g2l z)%p25=Gw 65536 x*Gw 65536 y%p25∧∀ i,i<16→(fL (g2l z) i).toNat≤70368744177664:=by
 have hb: ∀ l,l<32→(fL z l).toNat≤1099511627776:=fun l hl=>h.le l hl
 refine ⟨?_,fun i hi=>?_⟩
 ·have hs:=s0g 65536 (fL z) 16 16
  rw [h.val,←Rz hx,←Rz hy,e16] at hs
  have hf:(fun i=>fL z i+38*fL z (16+i))=(fun i=>fL z i+38*(fun i=>fL z (i+16)) i):=by funext i;rw [vL 16 i]
  rw [g2l,g0b,hf,f1e (fun i hi=>by have:=hb i (by omega);omega) (fun i hi=>by have:=hb (i+16) (by omega);omega)]
  rw [hs,←b1a _ (Ny 65536 (fun i=>fL z (i+16)) 16),n2m]
  congr 1
  generalize p25=p
  grind
 rw [g2l,n0q hi]
 have h1:=hb i (by omega)
 have h2:=hb (16+i) (by omega)
 rw [Gv (by rw [i1h (by omega)];omega),i1h (by omega)];omega
end Go.Sy
namespace Go.Sy
namespace Lk
open Go.Proofs
attribute [local irreducible] Bw HT Aj Jk onC onE onO onG goV goA goS Lx Bz
def z16 :List UInt64:=List.replicate 16 0
theorem k0x :z16.length=16:=rfl
set_option maxHeartbeats 3200000 in
set_option maxRecDepth 100000 in
theorem Rv (x y:List UInt64) (hx:x.length=16) (hy:y.length=16) (h1: ∀ i,i<16→(fL x i).toNat<65536) (h2: ∀ i,i<16→(fL y i).toNat<65536):
 CtM Tryz.prog 66 [.w (.agg (Dz x)),.w (.agg (Dz y))] [(1000000,⟨false,Dz Nw⟩)] (Told (fun v m=>v=.w (.agg (Dz (D16 ((Gw 65536 x*Gw 65536 y)%p25))))∧m=[])):=by
 have F0:=yA hx<|hy
 refine CtM.go Tryz.func66 rfl Tryz.ntmps66 Tryz.results66 fun w0 ro may fx zZ zhY=>?_
 refine (fun zX=>goW) ?_
 refine Bv [0,1,2] ?_
 simp only [Bj,Cx,Bq,yI,yK,Nat.reduceBEq,beq_self_eq_true,yS,yV,yY,yT,yE,reduceIte]
 refine Gx (fun y=>[(13,.w (.one (.pl (.i ((y.1.1:Nat):Int)))))]) (fun y=>[(5,⟨false,Dz y.1.2⟩)]) (fun y=>16-y.1.1) (⟨(0,z32),xA _,v1q x y⟩:{p:Nat×List UInt64//p.1≤16∧PrI x y p.1 p.2}) ?_ (by (simp only [go_sem,leX,yB,yC];first|done|rfl|(simp;done))) (by (first|rfl|(simp only [go_sem,leX,yB,yC];first|done|rfl|(simp [leX,look];done))))
 intro yy xN0 xM0 xhN0 xhM0
 simp only [yB,yC]
 obtain ⟨⟨i,z⟩,hi9,hpz⟩:=yy
 simp only at hi9 hpz
 rcases yZ i 16 with hil|hig
 ·have hci:((i:Nat):Int)<16:=by omega
  have hci0:(0:Int)≤((i:Nat):Int):=by omega
  have hi1:i+1≤16:=by omega
  have hzl:=hpz.len
  have ox:=Kk (l:=x) (i:=i) (by omega)
  change _=[L.pl (PL.u64 (fL x i))] at ox
  have hsi:Go.RowKit.wrap64 (((i:Nat):Int)+1)=((i+1:Nat):Int):=Gy (by omega) (by omega)
  have F0:=yA hci<|yA hci0<|yA hi1<|yA hzl<|yA ox<|yA hsi<|F0
  refine (fun zX=>goW) ?_
  refine Gx (fun y=>[(18,.w (.one (.pl (.i ((y.1.1:Nat):Int)))))]) (fun y=>[(5,⟨false,Dz y.1.2⟩)]) (fun y=>16-y.1.1) (⟨(0,z),xA _,v1n hpz⟩:{p:Nat×List UInt64//p.1≤16∧PrJ x y i p.1 p.2}) ?_ (by (simp only [go_sem,leX,yB,yC];first|done|rfl|(simp;done))) (by (first|rfl|(simp only [go_sem,leX,yB,yC];first|done|rfl|(simp [leX,look];done))))
  intro y2 xN1 xM1 xhN1 xhM1
  simp only [yB,yC]
  obtain ⟨⟨j,zz⟩,hj9,hpj⟩:=y2
  simp only at hj9 hpj
  rcases yZ j 16 with hjl|hjg
  ·have hcj:((j:Nat):Int)<16:=by omega
   have hcj0:(0:Int)≤((j:Nat):Int):=by omega
   have hj1:j+1≤16:=by omega
   have hzl2:=hpj.len
   have oy:=Kk (l:=y) (i:=j) (by omega)
   change _=[L.pl (PL.u64 (fL y j))] at oy
   have oz:=Kk (l:=zz) (i:=i+j) (by omega)
   change _=[L.pl (PL.u64 (fL zz (i+j)))] at oz
   have hij0:(0:Int)≤((i+j:Nat):Int):=by omega
   have hij1:((i+j:Nat):Int)<32:=by omega
   have hij2:i+j+1≤32:=by omega
   have hstep:=v1o h1 h2 hil hjl hpj
   have p0:=Sw (q:=zz) (j:=i+j) (fL zz (i+j)+fL x i*fL y j) (by omega)
   obtain ⟨z3,hz3⟩: ∃ q,zz.set (i+j) (fL zz (i+j)+fL x i*fL y j)=q:=⟨_,rfl⟩
   rw [hz3] at p0 hstep
   obtain ⟨hsj,hwij⟩:Go.RowKit.wrap64 (((j:Nat):Int)+1)=((j+1:Nat):Int)∧Go.RowKit.wrap64 (((i:Nat):Int)+((j:Nat):Int))=((i+j:Nat):Int):=⟨Gy (by omega) (by omega),Gy (by omega) (by omega)⟩
   have F0:=yA hcj<|yA hcj0<|yA hj1<|yA hzl2<|yA oy<|yA oz<|yA hij0<|yA hij1<|yA hij2<|yA p0<|yA hsj<|yA hwij<|F0
   have zL:=fun S2=>xhN1 ⟨(j+1,z3),hjl,hstep⟩ S2 (by (exact yP hjl (yQ j)))
   exact goW
  obtain rfl:j=16:=by omega
  have hcq:¬((16:Nat):Int)<16:=by omega
  have hfull:=v1p hpj
  have F0:=yA hcq<|F0
  have zL:=fun S2=>xhN0 ⟨(i+1,zz),hil,hfull⟩ S2 (by (exact yP hil (yQ i)))
  exact goW
 obtain rfl:i=16:=by omega
 have hcq:¬((16:Nat):Int)<16:=by omega
 have hzl:=hpz.len
 have F0:=yA hcq<|yA hzl<|F0
 refine (fun zX=>goW) ?_
 refine Bv [0,1,2,3,6,7,8,9,12,13,14,15,16,17,18,19,20,21,22,23,24,25,26,27,28,29,30,31,32,33] ?_
 simp only [Bj,Cx,Bq,yI,yK,Nat.reduceBEq,beq_self_eq_true,yS,yV,yY,yT,yE,reduceIte]
 refine Gx (fun y=>[(34,.w (.one (.pl (.i ((y.1:Nat):Int)))))]) (fun k=>[(10,⟨false,Dz (i0a (fun i=>fL z i+38*fL z (16+i)) k.1 z16)⟩)]) (fun y=>16-y.1) (⟨0,xA _⟩:{y:Nat//y≤16}) ?_ (by (simp only [go_sem,leX,yB,yC];first|done|rfl|(simp;done))) (by (simp only [e0r];(first|rfl|(simp only [go_sem,leX,yB,yC];first|done|rfl|(simp [leX,look];done)))))
 intro y3 xN1 xM1 xhN1 xhM1
 simp only [yB,yC]
 obtain ⟨k,hk9⟩:=y3
 rcases yZ k 16 with hlt|hge
 ·have hcq:((k:Nat):Int)<16:=by omega
  have hc0:(0:Int)≤((k:Nat):Int):=by omega
  have hk1:k+1≤16:=by omega
  have g5:((k:Nat):Int)<32∧k+1≤32∧(0:Int)≤((16+k:Nat):Int)∧((16+k:Nat):Int)<32∧16+k+1≤32:=by omega
  obtain ⟨w,hw⟩: ∃ q,i0a (fun i=>fL z i+38*fL z (16+i)) k z16=q:=⟨_,rfl⟩
  have hwl:w.length=16:=by rw [←hw,a0v (by rw [k0x];omega),k0x]
  have hset:w.set k (fL z k+38*fL z (16+k))=i0a (fun i=>fL z i+38*fL z (16+i)) (k+1) z16:=by rw [←hw];exact j0b (f:=fun i=>fL z i+38*fL z (16+i)) (by rw [k0x];omega)
  have o1:=Kk (l:=z) (i:=k) (by omega)
  change _=[L.pl (PL.u64 (fL z k))] at o1
  have o2:=Kk (l:=z) (i:=16+k) (by omega)
  change _=[L.pl (PL.u64 (fL z (16+k)))] at o2
  have p0:=Sw (q:=w) (j:=k) (fL z k+38*fL z (16+k)) (by omega)
  rw [hset] at p0
  simp only [hw]
  obtain ⟨hs1,hw2⟩:Go.RowKit.wrap64 (((k:Nat):Int)+1)=((k+1:Nat):Int)∧Go.RowKit.wrap64 (((k:Nat):Int)+16)=((16+k:Nat):Int):=⟨Gy (by omega) (by omega),Gy (by omega) (by omega)⟩
  have F0:=yA hcq<|yA hc0<|yA hk1<|yA g5<|yA hwl<|yA o1<|yA o2<|yA p0<|yA hs1<|yA hw2<|F0
  have zd0:DQ 15 [37,38,39,40,41,42,43,44,45,46,47] [0,0,2,6,0,16,48,112,240,510,1023,2047] []:=⟨⟩
  have zL:=fun S2=>xhN1 ⟨k+1,hlt⟩ S2 (by (exact yP hlt (yQ k)))
  exact goW
 obtain rfl:k=16:=by omega
 have hcq:¬((16:Nat):Int)<16:=by omega
 obtain ⟨hwv,hwd⟩:=y1k hx hy hpz
 obtain ⟨w,hw⟩: ∃ w,g2l z=w:=⟨_,rfl⟩
 have hwl:w.length=16:=by rw [←hw];exact c1u z
 rw [hw] at hwv hwd
 have hpw:i0a (fun i=>fL z i+38*fL z (16+i)) 16 z16=w:=by rw [←hw];exact e0s rfl
 simp only [hpw]
 have hC:=g0o w hwl hwd
 rw [hwv] at hC
 obtain ⟨r,hr⟩: ∃ q9,D16 ((Gw 65536 x*Gw 65536 y)%p25)=q9:=⟨_,rfl⟩
 have hrl:r.length=16:=by rw [←hr];rfl
 rw [hr] at hC
 have hfin:Dz (D16 ((Gw 65536 x*Gw 65536 y)%p25))=Dz r:=by rw [hr]
 have F0:=yA hcq<|yA hwl<|yA hrl<|F0
 have cq:=yA (CtM.ch [] (hC.told))<|trivial
 refine (fun zX=>goW) ?_
 refine zhY _ _ ?_
 simp only [go_sem,F0]
 all_goals (exact told_plain (e0t _) ⟨by rw [hfin],rfl⟩)
end Lk
end Go.Sy
