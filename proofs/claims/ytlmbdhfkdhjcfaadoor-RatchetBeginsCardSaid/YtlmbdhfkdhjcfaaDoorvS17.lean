/- Walks and what they compute. CONDITIONS: those that each theorem names. -/
import Derived.Test.YtlmbdhfkdhjcfaaDoorvS16
import Derived.Test.YtlmbdhfkdhjcfaaDoorvE5
set_option linter.unusedVariables false
set_option linter.unusedSimpArgs false
namespace Go.Sy
structure PrI (x y:List UInt64) (i:Nat) (z:List UInt64):Prop where
 len:z.length=32
 le: ∀ l,l<32→(fL z l).toNat≤i*16*4294967296
 val:Qy 65536 (fL z) 32=Qy 65536 (fL x) i*Qy 65536 (fL y) 16
structure PrJ (x y:List UInt64) (i j:Nat) (z:List UInt64):Prop where
 len:z.length=32
 le: ∀ l,l<32→(fL z l).toNat≤(i*16+j)*4294967296
 val:Qy 65536 (fL z) 32=Qy 65536 (fL x) i*Qy 65536 (fL y) 16+65536 ^ i*((fL x i).toNat*Qy 65536 (fL y) j)
def z32 :List UInt64:=List.replicate 32 0
theorem p1q (l:Nat):fL z32 l=0:=by
 simp only [fL,z32,List.getD,List.getElem?_replicate]
 split<;>rfl
theorem r0a {g:Nat→UInt64} (h: ∀ i,g i=0): ∀ n,Qy 65536 g n=0
 |0=>rfl
 |n+1=>by
  rw [Qy,r0a h n,h n]
  have:(0:UInt64).toNat=0:=rfl
  rw [this];simp
variable {x y z:List UInt64} {i j:Nat}
theorem l1c (x y:List UInt64):PrI x y 0 z32:=by
 refine ⟨rfl,fun l _=>?_,?_⟩
 ·rw [p1q];exact Nat.zero_le _
 ·rw [r0a p1q];simp [Qy]
theorem k1z (h:PrI x y i z):PrJ x y i 0 z:=by
 refine ⟨h.len,fun l hl=>by simpa using h.le l hl,?_⟩
 rw [h.val];simp [Qy]
theorem l1b (h:PrJ x y i 16 z):PrI x y (i+1) z:=by
 refine ⟨h.len,fun l hl=>Nat.le_trans (h.le l hl) (Nat.le_of_eq (by rw [show (i+1)*16=i*16+16 from Nat.succ_mul i 16])),?_⟩
 rw [h.val,show Qy 65536 (fL x) (i+1)=Qy 65536 (fL x) i+65536 ^ i*(fL x i).toNat from rfl]
 generalize Qy 65536 (fL y) 16=Y
 generalize 65536 ^ i=E
 grind
theorem mul_lt {a b:UInt64} (h1:a.toNat<65536) (h2:b.toNat<65536):a.toNat*b.toNat≤4294836225:=by
 have:=Nat.mul_le_mul (Nat.le_of_lt_succ h1) (Nat.le_of_lt_succ h2)
 exact this
theorem l1a (h1: ∀ i,i<16→(fL x i).toNat<65536) (h2: ∀ i,i<16→(fL y i).toNat<65536) (hi:i<16) (hj:j<16) (h:PrJ x y i j z):PrJ x y i (j+1) (z.set (i+j) (fL z (i+j)+fL x i*fL y j)):=by
 have hm:=mul_lt (h1 i hi) (h2 j hj)
 have hz:=h.le (i+j) (by omega)
 have hK:(i*16+j)*4294967296≤255*4294967296:=Nat.mul_le_mul_right 4294967296 (by omega)
 have hK2:(i*16+(j+1))*4294967296=(i*16+j)*4294967296+4294967296:=by rw [←Nat.add_assoc,Nat.succ_mul]
 have hval:=h.val
 obtain ⟨K,hKe⟩: ∃ K,(i*16+j)*4294967296=K:=⟨_,rfl⟩
 have hle: ∀ l,l<32→(fL z l).toNat≤K:=fun l hl=>hKe▸h.le l hl
 rw [hKe] at hz hK hK2
 have e1:(fL x i*fL y j).toNat=(fL x i).toNat*(fL y j).toNat:=n0n (by omega)
 have e2:(fL z (i+j)+fL x i*fL y j).toNat=(fL z (i+j)).toNat+(fL x i).toNat*(fL y j).toNat:=by
  rw [Wy (by rw [e1];omega),e1]
 have hs:i+j<z.length:=by rw [h.len];omega
 refine ⟨by rw [List.length_set];exact h.len,fun l hl=>?_,?_⟩
 ·rw [t0k hs]
  split
  ·rw [e2,hK2];omega
  ·have:=hle l hl;rw [hK2];omega
 ·have hv:=o0w (B:=65536) (f:=fL (z.set (i+j) (fL z (i+j)+fL x i*fL y j))) (g:=fL z) (k:=i+j) (fun l hl=>by rw [t0k hs,if_neg (by omega)]) (n:=32) (by omega)
  rw [t0k hs,if_pos rfl,e2,hval,Nat.pow_add] at hv
  rw [show Qy 65536 (fL y) (j+1)=Qy 65536 (fL y) j+65536 ^ j*(fL y j).toNat from rfl]
  generalize Qy 65536 (fL (z.set (i+j) (fL z (i+j)+fL x i*fL y j))) 32=V at*
  generalize (fL z (i+j)).toNat=a at*
  generalize (fL x i).toNat=p at*
  generalize (fL y j).toNat=q at*
  generalize 65536 ^ i=E at*
  generalize 65536 ^ j=F at*
  grind
theorem n0k (B:Nat) (g:Nat→UInt64) (m:Nat): ∀ n,Qy B g (m+n)=Qy B g m+B ^ m*Qy B (fun i=>g (i+m)) n
 |0=>by simp [Qy]
 |n+1=>by
  rw [←Nat.add_assoc,Qy,n0k B g m n,Qy,Nat.pow_add,Nat.add_comm n m]
  grind
theorem x0t {f g:Nat→UInt64}: ∀ {n:Nat},(∀ i,i<n→(f i).toNat≤1152921504606846976)→(∀ i,i<n→(g i).toNat≤72057594037927936)→Qy 65536 (fun i=>f i+38*g i) n=Qy 65536 f n+38*Qy 65536 g n
 |0,_,_=>rfl
 |n+1,hf,hg=>by
  have h1:=hf n (by omega)
  have h2:=hg n (by omega)
  have e:(f n+38*g n).toNat=(f n).toNat+38*(g n).toNat:=by rw [Wy (by rw [a1d h2];omega),a1d h2]
  simp only [Qy]
  rw [x0t (fun i hi=>hf i (by omega)) (fun i hi=>hg i (by omega)),e]
  grind
def u1i (z:List UInt64):List UInt64:=(List.range 16).map fun i=>fL z i+38*fL z (16+i)
theorem v0o (z:List UInt64):(u1i z).length=16:=by simp [u1i]
theorem n1e (hx:x.length=16) (hy:y.length=16) (h:PrI x y 16 z):Hq 65536 (u1i z)%p25=Hq 65536 x*Hq 65536 y%p25∧∀ i,i<16→(fL (u1i z) i).toNat≤70368744177664:=by
 have hb: ∀ l,l<32→(fL z l).toNat≤1099511627776:=fun l hl=>h.le l hl
 refine ⟨?_,fun i hi=>?_⟩
 ·have hs:=n0k 65536 (fL z) 16 16
  rw [h.val,←Pv hx,←Pv hy,e16] at hs
  have hf:(fun i=>fL z i+38*fL z (16+i))=(fun i=>fL z i+38*(fun i=>fL z (i+16)) i):=by funext i;rw [Nat.add_comm 16 i]
  rw [u1i,d0s,hf,x0t (fun i hi=>by have:=hb i (by omega);omega) (fun i hi=>by have:=hb (i+16) (by omega);omega)]
  rw [hs,←u0j _ (Qy 65536 (fun i=>fL z (i+16)) 16),a2d]
  congr 1
  generalize p25=p
  grind
 ·rw [u1i,j0t hi]
  have h1:=hb i (by omega)
  have h2:=hb (16+i) (by omega)
  rw [Wy (by rw [a1d (by omega)];omega),a1d (by omega)];omega
end Go.Sy
namespace Go.Sy
namespace Lk
open Go.Proofs
attribute [local irreducible] Dv HT Cz Px onC onE onO onG goV goA goS Qx Dw
def z16 :List UInt64:=List.replicate 16 0
theorem h0n :z16.length=16:=rfl
set_option maxHeartbeats 3200000 in
set_option maxRecDepth 100000 in
theorem Pj (x y:List UInt64) (hx:x.length=16) (hy:y.length=16) (h1: ∀ i,i<16→(fL x i).toNat<65536) (h2: ∀ i,i<16→(fL y i).toNat<65536):
 CtM Tryd.prog 34 [.w (.agg (Aw x)),.w (.agg (Aw y))] [(1000000,⟨false,Aw Mk⟩)] (Told (fun v m=>v=.w (.agg (Aw (D16 ((Hq 65536 x*Hq 65536 y)%p25))))∧m=[])):=by
 refine CtM.k Tryd.func34 rfl Tryd.ntmps34 (congrArg Array.toList Tryd.results34) (by simp) fun w0 ro may fx=>?_
 refine Dj fun zZ zhZ=>?_
 iterate 8 first
  |(refine Cx fun zK zhK=>?_;simp only [go_sem,hx,hy];(repeat' (first|apply And.intro|intro _)))
  |refine zhK _ ?_
  |refine Aj fun zB zbn zbx zbr zbi=>?_
  |refine Bz fun zN zM zhN zhM=>?_
 refine Gv [0,1,2] ?_
 simp only [Gj,Iq,Gq,List.contains_cons,List.contains_nil,Nat.reduceBEq,beq_self_eq_true,Bool.or_false,Bool.or_true,Bool.true_or,Bool.false_or,Bool.false_eq_true,reduceIte]
 refine Jz (fun y=>[(13,.w (.one (.pl (.i ((y.1.1:Nat):Int)))))]) (fun y=>[(5,⟨false,Aw y.1.2⟩)]) (fun y=>16-y.1.1) (⟨(0,z32),Nat.zero_le _,l1c x y⟩:{p:Nat×List UInt64//p.1≤16∧PrI x y p.1 p.2}) ?_ ?_ ?_
 · (simp only [go_sem,leX,List.cons_append,List.nil_append];first|done|rfl|(simp;done))
 · (first|rfl|(simp only [go_sem,leX,List.cons_append,List.nil_append];first|done|rfl|(simp [leX,look];done)))
 intro yy zN zM zhN zhM
 simp only [List.cons_append,List.nil_append]
 obtain ⟨⟨i,z⟩,hi9,hpz⟩:=yy
 simp only at hi9 hpz
 rcases Nat.lt_or_ge i 16 with hil|hig
 · have hci:((i:Nat):Int)<16:=by omega
   have hci0:(0:Int)≤((i:Nat):Int):=by omega
   have hi1:i+1≤16:=by omega
   have hzl:=hpz.len
   have ox:=Nw (l:=x) (i:=i) (by omega)
   change _=[L.pl (PL.u64 (fL x i))] at ox
   have hsi:Go.RowKit.wrap64 (((i:Nat):Int)+1)=((i+1:Nat):Int):=Ny (by omega) (by omega)
   have F6:=And.intro hci<|And.intro hci0<|And.intro hi1<|And.intro hzl<|And.intro ox<|hsi
   iterate 13 first
    |(refine Cx fun zK zhK=>?_;simp only [go_sem,hx,hy,F6];(repeat' (first|apply And.intro|intro _)))
    |refine zhK _ ?_
    |refine Aj fun zB zbn zbx zbr zbi=>?_
    |refine Cw ?_
    |(refine zhN _ ?_;clear zhN zhM)
    |refine Bz fun zN zM zhN zhM=>?_
    |(refine Bv ?_ ?_;focus (first|rfl|(simp [go_sem,hx,hy,F6];done)))
   refine Jz (fun y=>[(18,.w (.one (.pl (.i ((y.1.1:Nat):Int)))))]) (fun y=>[(5,⟨false,Aw y.1.2⟩)]) (fun y=>16-y.1.1) (⟨(0,z),Nat.zero_le _,k1z hpz⟩:{p:Nat×List UInt64//p.1≤16∧PrJ x y i p.1 p.2}) ?_ ?_ ?_
   · (simp only [go_sem,leX,List.cons_append,List.nil_append];first|done|rfl|(simp;done))
   · (first|rfl|(simp only [go_sem,leX,List.cons_append,List.nil_append];first|done|rfl|(simp [leX,look];done)))
   intro y2 zN zM zhN zhM
   simp only [List.cons_append,List.nil_append]
   obtain ⟨⟨j,zz⟩,hj9,hpj⟩:=y2
   simp only at hj9 hpj
   rcases Nat.lt_or_ge j 16 with hjl|hjg
   · have hcj:((j:Nat):Int)<16:=by omega
     have hcj0:(0:Int)≤((j:Nat):Int):=by omega
     have hj1:j+1≤16:=by omega
     have hzl2:=hpj.len
     have oy:=Nw (l:=y) (i:=j) (by omega)
     change _=[L.pl (PL.u64 (fL y j))] at oy
     have oz:=Nw (l:=zz) (i:=i+j) (by omega)
     change _=[L.pl (PL.u64 (fL zz (i+j)))] at oz
     have hij0:(0:Int)≤((i+j:Nat):Int):=by omega
     have hij1:((i+j:Nat):Int)<32:=by omega
     have hij2:i+j+1≤32:=by omega
     have hstep:=l1a h1 h2 hil hjl hpj
     have p0:=Vy (q:=zz) (j:=i+j) (fL zz (i+j)+fL x i*fL y j) (by omega)
     obtain ⟨z3,hz3⟩: ∃ q,zz.set (i+j) (fL zz (i+j)+fL x i*fL y j)=q:=⟨_,rfl⟩
     rw [hz3] at p0 hstep
     obtain ⟨hsj,hwij⟩:Go.RowKit.wrap64 (((j:Nat):Int)+1)=((j+1:Nat):Int)∧Go.RowKit.wrap64 (((i:Nat):Int)+((j:Nat):Int))=((i+j:Nat):Int):=⟨Ny (by omega) (by omega),Ny (by omega) (by omega)⟩
     have F14:=And.intro hcj<|And.intro hcj0<|And.intro hj1<|And.intro hzl2<|And.intro oy<|And.intro oz<|And.intro hij0<|And.intro hij1<|And.intro hij2<|And.intro p0<|And.intro hsj<|hwij
     iterate 16 first
      |refine zhK _ ?_
      |(refine Cx fun zK zhK=>?_;simp only [go_sem,hx,hy,F6,F14];(repeat' (first|apply And.intro|intro _)))
      |(refine zhN _ ?_;clear zhN zhM)
      |(refine Av fun zK zhK=>?_;simp only [go_sem,hx,hy,F6,F14];(repeat' (first|apply And.intro|intro _)))
      |refine Cw ?_
      |refine Aj fun zB zbn zbx zbr zbi=>?_
      |(refine zbn _ ?_;clear zbn zbx zbr zbi)
      |refine Bz fun zN zM zhN zhM=>?_
      |(refine Bv ?_ ?_;focus (first|rfl|(simp [go_sem,hx,hy,F6,F14];done)))
     refine zhN ⟨(j+1,z3),hjl,hstep⟩ _ ?_ ?_ ?_
     · (exact Nat.sub_lt_sub_left hjl (Nat.lt_succ_self j))
     · (simp only [go_sem,leX,List.cons_append,List.nil_append];try simp)
     · (simp only [go_sem,leX,List.cons_append,List.nil_append];try simp)
   · obtain rfl:j=16:=by omega
     have hcq:¬((16:Nat):Int)<16:=by omega
     have hfull:=l1b hpj
     refine Cx fun zK zhK=>?_
     simp only [go_sem,hx,hy,F6,hcq]
     repeat' (first|apply And.intro|intro _)
     refine zhK _ ?_
     refine Bz fun zN zM zhN zhM=>?_
     (refine Cy ?_ ?_;focus (first|rfl|(simp [go_sem,hx,hy,F6,hcq];done)))
     refine Ey ?_
     refine zhM _ _ ?_;clear zhN zhM
     refine zhM _ _ ?_;clear zhN zhM
     refine zbx _ ?_;clear zbn zbx zbr zbi
     refine zbn _ ?_;clear zbn zbx zbr zbi
     refine zhN _ ?_;clear zhN zhM
     refine Av fun zK zhK=>?_
     simp only [go_sem,hx,hy,F6,hcq]
     repeat' (first|apply And.intro|intro _)
     refine zhK _ ?_
     refine zhN ⟨(i+1,zz),hil,hfull⟩ _ ?_ ?_ ?_
     · (exact Nat.sub_lt_sub_left hil (Nat.lt_succ_self i))
     · (simp only [go_sem,leX,List.cons_append,List.nil_append];try simp)
     · (simp only [go_sem,leX,List.cons_append,List.nil_append];try simp)
 · obtain rfl:i=16:=by omega
   have hcq:¬((16:Nat):Int)<16:=by omega
   have hzl:=hpz.len
   iterate 15 first
    |(refine Cx fun zK zhK=>?_;simp only [go_sem,hx,hy,hcq,hzl];(repeat' (first|apply And.intro|intro _)))
    |refine zhK _ ?_
    |(refine zhM _ _ ?_;clear zhN zhM)
    |refine Ey ?_
    |(refine zbx _ ?_;clear zbn zbx zbr zbi)
    |(refine zhN _ ?_;clear zhN zhM)
    |refine Aj fun zB zbn zbx zbr zbi=>?_
    |refine Bz fun zN zM zhN zhM=>?_
    |(refine Cy ?_ ?_;focus (first|rfl|(simp [go_sem,hx,hy,hcq,hzl];done)))
   refine Gv [0,1,2,3,6,7,8,9,12,13,14,15,16,17,18,19,20,21,22,23,24,25,26,27,28,29,30,31,32,33] ?_
   simp only [Gj,Iq,Gq,List.contains_cons,List.contains_nil,Nat.reduceBEq,beq_self_eq_true,Bool.or_false,Bool.or_true,Bool.true_or,Bool.false_or,Bool.false_eq_true,reduceIte]
   refine Jz (fun y=>[(34,.w (.one (.pl (.i ((y.1:Nat):Int)))))]) (fun k=>[(10,⟨false,Aw (e0u (fun i=>fL z i+38*fL z (16+i)) k.1 z16)⟩)]) (fun y=>16-y.1) (⟨0,Nat.zero_le _⟩:{y:Nat//y≤16}) ?_ ?_ ?_
   · (simp only [go_sem,leX,List.cons_append,List.nil_append];first|done|rfl|(simp;done))
   · (simp only [c0n];(first|rfl|(simp only [go_sem,leX,List.cons_append,List.nil_append];first|done|rfl|(simp [leX,look];done))))
   intro y3 zN zM zhN zhM
   simp only [List.cons_append,List.nil_append]
   obtain ⟨k,hk9⟩:=y3
   rcases Nat.lt_or_ge k 16 with hlt|hge
   · have hcq:((k:Nat):Int)<16:=by omega
     have hc0:(0:Int)≤((k:Nat):Int):=by omega
     have hk1:k+1≤16:=by omega
     have g5:((k:Nat):Int)<32∧k+1≤32∧(0:Int)≤((16+k:Nat):Int)∧((16+k:Nat):Int)<32∧16+k+1≤32:=by omega
     obtain ⟨w,hw⟩: ∃ q,e0u (fun i=>fL z i+38*fL z (16+i)) k z16=q:=⟨_,rfl⟩
     have hwl:w.length=16:=by rw [←hw,Xx (by rw [h0n];omega),h0n]
     have hset:w.set k (fL z k+38*fL z (16+k))=e0u (fun i=>fL z i+38*fL z (16+i)) (k+1) z16:=by rw [←hw];exact f0u (f:=fun i=>fL z i+38*fL z (16+i)) (by rw [h0n];omega)
     have o1:=Nw (l:=z) (i:=k) (by omega)
     change _=[L.pl (PL.u64 (fL z k))] at o1
     have o2:=Nw (l:=z) (i:=16+k) (by omega)
     change _=[L.pl (PL.u64 (fL z (16+k)))] at o2
     have p0:=Vy (q:=w) (j:=k) (fL z k+38*fL z (16+k)) (by omega)
     rw [hset] at p0
     simp only [hw]
     obtain ⟨hs1,hw2⟩:Go.RowKit.wrap64 (((k:Nat):Int)+1)=((k+1:Nat):Int)∧Go.RowKit.wrap64 (((k:Nat):Int)+16)=((16+k:Nat):Int):=⟨Ny (by omega) (by omega),Ny (by omega) (by omega)⟩
     have F31:=And.intro hcq<|And.intro hc0<|And.intro hk1<|And.intro g5<|And.intro hwl<|And.intro o1<|And.intro o2<|And.intro p0<|And.intro hs1<|hw2
     iterate 16 first
      |refine zhK _ ?_
      |(refine Cx fun zK zhK=>?_;simp only [go_sem,hx,hy,hcq,hzl,F31];(repeat' (first|apply And.intro|intro _)))
      |(refine zhN _ ?_;clear zhN zhM)
      |refine Cw ?_
      |refine Aj fun zB zbn zbx zbr zbi=>?_
      |(refine Vw (id:=15) [37,38,39,40,41,42,43,44,45,46,47] [0,0,2,6,0,16,48,112,240,510,1023,2047] [] mixed (by kernel_rfl) (by simp only [go_sem]) fun zK zhK=>?_;simp only [go_sem,hx,hy,hcq,hzl,F31];(repeat' (first|apply And.intro|intro _)))
      |refine zhK _ _ trivial ?_
      |(refine zbn _ ?_;clear zbn zbx zbr zbi)
      |(refine Av fun zK zhK=>?_;simp only [go_sem,hx,hy,hcq,hzl,F31];(repeat' (first|apply And.intro|intro _)))
      |refine Bz fun zN zM zhN zhM=>?_
      |(refine Bv ?_ ?_;focus (first|rfl|(simp [go_sem,hx,hy,hcq,hzl,F31];done)))
     refine zhN ⟨k+1,hlt⟩ _ ?_ ?_ ?_
     · (exact Nat.sub_lt_sub_left hlt (Nat.lt_succ_self k))
     · (simp only [go_sem,leX,List.cons_append,List.nil_append];try simp)
     · (simp only [go_sem,leX,List.cons_append,List.nil_append];try simp)
   · obtain rfl:k=16:=by omega
     have hcq:¬((16:Nat):Int)<16:=by omega
     obtain ⟨hwv,hwd⟩:=n1e hx hy hpz
     obtain ⟨w,hw⟩: ∃ w,u1i z=w:=⟨_,rfl⟩
     have hwl:w.length=16:=by rw [←hw];exact v0o z
     rw [hw] at hwv hwd
     have hpw:e0u (fun i=>fL z i+38*fL z (16+i)) 16 z16=w:=by rw [←hw];exact c0o rfl
     simp only [hpw]
     have hC:=k0d w hwl hwd
     rw [hwv] at hC
     obtain ⟨r,hr⟩: ∃ q9,D16 ((Hq 65536 x*Hq 65536 y)%p25)=q9:=⟨_,rfl⟩
     have hrl:r.length=16:=by rw [←hr];rfl
     rw [hr] at hC
     have hfin:Aw (D16 ((Hq 65536 x*Hq 65536 y)%p25))=Aw r:=by rw [hr]
     have F38:=And.intro hcq<|And.intro hwl<|hrl
     refine Cx fun zK zhK=>?_
     simp only [go_sem,hx,hy,hcq,hzl,F38]
     repeat' (first|apply And.intro|intro _)
     refine zhK _ ?_
     refine Bz fun zN zM zhN zhM=>?_
     (refine Cy ?_ ?_;focus (first|rfl|(simp [go_sem,hx,hy,hcq,hzl,F38];done)))
     refine Ey ?_
     refine zhM _ _ ?_;clear zhN zhM
     refine zhM _ _ ?_;clear zhN zhM
     refine zbx _ ?_;clear zbn zbx zbr zbi
     refine zhN _ ?_;clear zhN zhM
     refine Cx fun zK zhK=>?_
     simp only [go_sem,hx,hy,hcq,hzl,F38]
     repeat' (first|apply And.intro|intro _)
     all_goals (refine Bq false [] (fun k=>k) (fun _ _=>rfl) ?_ (by decide) ?_ hC.told ?_;iterate 2 (focus (first|rfl|(simp only [go_sem,hx,hy,hcq,hzl,F38]<;>first|done|rfl|simp))))
     all_goals (rintro v m ⟨hR,hm⟩;subst hR;subst hm)
     all_goals (refine And.intro ?_ (And.intro ?_ (And.intro ?_ ?_));iterate 3 (focus (first|rfl|(simp only [go_sem,hx,hy,hcq,hzl,F38];done)|(simp [go_sem,look,hx,hy,hcq,hzl,F38];done))))
     all_goals (try simp only [go_sem,hx,hy,hcq,hzl,F38])
     all_goals (try simp only [go_sem,hx,hy,hcq,hzl,F38])
     all_goals repeat' (first|apply And.intro|intro _)
     refine zhK _ ?_
     refine Dx ?_
     refine zhZ _ _ ?_
     simp only [go_sem,hx,hy,hcq,hzl,F38]
     all_goals (exact told_plain (c0p _) ⟨by rw [hfin],rfl⟩)
end Lk
end Go.Sy
