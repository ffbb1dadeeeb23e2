/- Walks and what they compute. CONDITIONS: those that each theorem names. -/
import Derived.Test.YtlmbdhfkdhjcfaaDoorvE3
set_option linter.unusedVariables false
set_option linter.unusedSimpArgs false
namespace Go.Sy
theorem r0f (x:UInt64) (c:Nat):(Ik x c).toNat=x.toNat*2 ^ c%18446744073709551616:=by
 simp [Ik,UInt64.toNat_ofNat']
theorem k0l (x:UInt64) (c:Nat):(Ux x c).toNat=x.toNat/2 ^ c:=by
 have h:=x.toNat_lt
 have h2:x.toNat/2 ^ c≤x.toNat:=Nat.div_le_self _ _
 simp only [Ux,UInt64.toNat_ofNat']
 exact Nat.mod_eq_of_lt (by omega)
theorem d1k {m:UInt64} (k:Nat) (hm:m.toNat=2 ^ k-1) (x:UInt64):(x&&&m).toNat=x.toNat%2 ^ k:=by
 rw [UInt64.toNat_and,hm,Nat.and_two_pow_sub_one_eq_mod]
theorem j1x {x y:UInt64} (k:Nat) (hx:x.toNat<2 ^ k) {z:Nat} (hy:y.toNat=2 ^ k*z):(x|||y).toNat=x.toNat+y.toNat:=by
 rw [UInt64.toNat_or,hy,Nat.or_comm,←Nat.two_pow_add_eq_or_of_lt hx];omega
theorem Wy {x y:UInt64} (h:x.toNat+y.toNat<18446744073709551616):(x+y).toNat=x.toNat+y.toNat:=by
 rw [UInt64.toNat_add];exact Nat.mod_eq_of_lt h
theorem n0n {x y:UInt64} (h:x.toNat*y.toNat<18446744073709551616):(x*y).toNat=x.toNat*y.toNat:=by
 rw [UInt64.toNat_mul];exact Nat.mod_eq_of_lt h
end Go.Sy
namespace Go.Sy
end Go.Sy
namespace Go.Sy
def leN :List UInt8→Nat
 | []=>0
 |b::r=>b.toNat+256*leN r
def lev (l:List UInt8):UInt64:=UInt64.ofNat (leN l)
theorem p1l : ∀ l:List UInt8,leN l<256 ^ l.length
 | []=>by simp [leN]
 |b::r=>by
  have:=p1l r;have h:=b.toNat_lt
  simp only [leN,List.length_cons,Nat.pow_succ];omega
theorem f1p {l:List UInt8} (h:l.length≤8):(lev l).toNat=leN l:=by
 have h1:=p1l l
 have h2:256 ^ l.length≤256 ^ 8:=Nat.pow_le_pow_right (by decide) h
 simp only [lev,UInt64.toNat_ofNat']
 exact Nat.mod_eq_of_lt (by omega)
theorem v1v (b:UInt8):(UInt64.ofNat b.toNat).toNat=b.toNat:=by
 have:=b.toNat_lt
 simp only [UInt64.toNat_ofNat'];omega
theorem t1j (r:List UInt8) (b:UInt8):lev r*256+UInt64.ofNat b.toNat=lev (b::r):=by
 apply UInt64.toNat_inj.mp
 have e:(256:UInt64).toNat=256:=rfl
 rw [UInt64.toNat_add,UInt64.toNat_mul,v1v,e]
 simp only [lev,UInt64.toNat_ofNat',leN]
 omega
def o0a (n:UInt64):Nat→List UInt8
 |0=>[]
 |k+1=>UInt8.ofNat n.toNat::o0a (n/256) k
theorem Dq : ∀ (n:UInt64) (k:Nat),(o0a n k).length=k
 |_,0=>rfl
 |n,k+1=>by simp [o0a,Dq]
theorem y0z : ∀ (k:Nat) (n:UInt64),leN (o0a n k)=n.toNat%256 ^ k
 |0,n=>by simp [o0a,leN,Nat.mod_one]
 |k+1,n=>by
  have e:(n/256).toNat=n.toNat/256:=by rw [UInt64.toNat_div];rfl
  simp only [o0a,leN,y0z k,e,UInt8.toNat_ofNat']
  show n.toNat%256+256*(n.toNat/256%256 ^ k)=n.toNat%256 ^ (k+1)
  rw [show 256 ^ (k+1)=256*256 ^ k from by rw [Nat.pow_succ,Nat.mul_comm],Nat.mod_mul]
theorem y0y (n:UInt64):lev (o0a n 8)=n:=by
 apply UInt64.toNat_inj.mp
 rw [f1p (by rw [Dq];omega),y0z]
 exact Nat.mod_eq_of_lt n.toNat_lt
end Go.Sy
namespace Go.Sy
structure Kz where
 peer:List UInt8
 n:Int
 key:List UInt8
 deriving DecidableEq,Inhabited
def Kz.ok (k:Kz):Prop:=k.peer.length=32∧k.key.length=32∧ -9223372036854775808≤k.n∧k.n≤9223372036854775807
def inN (n:Int):Bool:=decide (0≤n∧n≤1073741824)
def f0s (a b:Kz):Bool:=decide (a.peer=b.peer)&&decide (a.n=b.n)
def f0g :List Kz→Bool
 | []=>true
 |k::r=>r.all (fun o=>!f0s k o)&&f0g r
def z0b (l:List Kz):Bool:=decide (l.length≤12)&&l.all (fun k=>inN k.n)&&f0g l
def e0b (out inn last:Int) (l:List Kz):Int:=if inN out&&inN inn&&inN last&&z0b l then 0 else 9
theorem g0q : ∀ {l:List Kz},f0g l=true↔l.Pairwise fun a b=>f0s a b=false
 | []=>by simp [f0g]
 |k::r=>by
  rw [f0g,Bool.and_eq_true,List.pairwise_cons,g0q (l:=r),List.all_eq_true]
  simp
theorem n1w {l:List Kz} {i j:Nat} {a b:Kz} (ha:l[i]? =some a) (hb:l[j]? =some b) (hij:i<j) (h:f0s a b=true):f0g l=false:=by
 cases hd:f0g l with
 |false=>rfl
 |true=>
  rw [g0q,List.pairwise_iff_getElem] at hd
  obtain ⟨h1,e1⟩:=List.getElem?_eq_some_iff.mp ha
  obtain ⟨h2,e2⟩:=List.getElem?_eq_some_iff.mp hb
  have:=hd i j h1 h2 hij
  rw [e1,e2,h] at this;cases this
theorem v1k {l:List Kz} (h: ∀ (j:Nat) (b:Kz),l[j]? =some b→∀ (i:Nat) (a:Kz),i<j→l[i]? =some a→f0s a b=false):f0g l=true:=by
 rw [g0q,List.pairwise_iff_getElem]
 intro i j hi hj hij
 exact h j _ (List.getElem?_eq_getElem hj) i _ hij (List.getElem?_eq_getElem hi)
theorem q1l {out inn last:Int} {l:List Kz} (h1:inN out=true) (h2:inN inn=true) (h3:inN last=true) (h4:l.length≤12) (h5: ∀ k∈l,inN k.n=true) (h6:f0g l=true):e0b out inn last l=0:=by
 unfold e0b z0b
 rw [if_pos]
 simp only [h1,h2,h3,h6,Bool.and_true,Bool.true_and,Bool.and_eq_true,decide_eq_true_eq,List.all_eq_true]
 exact ⟨h4,h5⟩
theorem o0z {out inn last:Int} {l:List Kz} (h:inN out=false∨inN inn=false∨inN last=false∨¬l.length≤12∨(∃ k∈l,inN k.n=false)∨f0g l=false):e0b out inn last l=9:=by
 unfold e0b z0b
 rw [if_neg]
 intro hc
 simp only [Bool.and_eq_true,decide_eq_true_eq,List.all_eq_true] at hc
 obtain ⟨⟨⟨c1,c2⟩,c3⟩,⟨c4,c5⟩,c6⟩:=hc
 rcases h with h|h|h|h|⟨k,hk,h⟩|h
 ·rw [h] at c1;cases c1
 ·rw [h] at c2;cases c2
 ·rw [h] at c3;cases c3
 ·exact h c4
 ·rw [c5 k hk] at h;cases h
 ·rw [h] at c6;cases c6
def m0u (k:Kz):List UInt8:=k.peer++o0a (UInt64.ofNat (k.n%18446744073709551616).toNat) 8
def q1v (m:Mp) (k:Kz):Mp:=m0z m (m0u k) (Go.RowKit.wrap64 (getM m (m0u k)+1))
def j0x (l:List Kz):Mp:=l.foldl q1v []
theorem s0y (l:List Kz) (k:Kz):j0x (l++[k])=q1v (j0x l) k:=by simp [j0x]
theorem s0g {s:List UInt8} {n:Int}: ∀ {m:Mp},(∀ t,t∈(m0z m s n).map (·.1)↔t∈m.map (·.1)∨t=s)∧(m0z m s n).length=if s∈m.map (·.1) then m.length else m.length+1
 | []=>by simp [m0z]
 |x::r=>by
  obtain ⟨h1,h2⟩:=s0g (m:=r) (s:=s) (n:=n)
  rw [m0z]
  by_cases hx:x.1=s
  ·rw [if_pos hx]
   subst hx
   refine ⟨fun t=>?_,by simp⟩
   simp only [List.map_cons,List.mem_cons]
   constructor
   ·rintro (h|h)
    ·exact .inl (.inl h)
    ·exact .inl (.inr h)
   ·rintro ((h|h)|h)
    ·exact .inl h
    ·exact .inr h
    ·exact .inl h
  ·rw [if_neg hx]
   refine ⟨fun t=>?_,?_⟩
   ·simp only [List.map_cons,List.mem_cons,h1]
    constructor
    ·rintro (h|h|h)
     ·exact .inl (.inl h)
     ·exact .inl (.inr h)
     ·exact .inr h
    ·rintro ((h|h)|h)
     ·exact .inl h
     ·exact .inr (.inl h)
     ·exact .inr (.inr h)
   ·have hx':¬s=x.1:=fun e=>hx e.symm
    simp only [List.length_cons,h2,List.map_cons,List.mem_cons,hx',false_or]
    split<;>rfl
theorem f1k (l:List Kz):(∀ t,t∈(j0x l).map (·.1)↔t∈l.map m0u)∧(j0x l).length≤l.length∧((j0x l).length=l.length↔(l.map m0u).Nodup):=by
 induction h:l.length generalizing l with
 |zero=>
  have:=List.eq_nil_of_length_eq_zero h
  subst this;simp [j0x]
 |succ n ih=>
  obtain ⟨r,k,rfl⟩: ∃ r k,l=r++[k]:=by
   have hne:l≠[]:=by intro e;subst e;cases h
   exact ⟨l.dropLast,l.getLast hne,(List.dropLast_concat_getLast hne).symm⟩
  have hr:r.length=n:=by simpa using h
  obtain ⟨h1,h2,h3⟩:=ih r hr
  rw [s0y,q1v]
  obtain ⟨p1,p2⟩:=s0g (m:=j0x r) (s:=m0u k) (n:=Go.RowKit.wrap64 (getM (j0x r) (m0u k)+1))
  refine ⟨fun t=>?_,?_,?_⟩
  ·rw [p1,h1];simp
  ·rw [p2];split<;>omega
  ·rw [p2]
   have hn:((r++[k]).map m0u).Nodup↔(r.map m0u).Nodup∧m0u k∉r.map m0u:=by
    rw [List.map_append,List.nodup_append]
    constructor
    ·rintro ⟨a,_,c⟩
     exact ⟨a,fun hm=>c _ hm _ (by simp) rfl⟩
    ·rintro ⟨a,b⟩
     refine ⟨a,by simp,fun x hx y hy e=>?_⟩
     simp only [List.map_cons,List.map_nil,List.mem_singleton] at hy
     rw [←hy,←e] at b
     exact b hx
   rw [hn]
   by_cases hm:m0u k∈(j0x r).map (·.1)
   ·rw [if_pos hm]
    have:=(h1 _).mp hm
    constructor
    ·intro e;omega
    ·rintro ⟨_,hb⟩;exact absurd this hb
   ·rw [if_neg hm]
    constructor
    ·intro e
     exact ⟨h3.mp (by omega),fun hx=>hm ((h1 _).mpr hx)⟩
    ·rintro ⟨ha,_⟩
     have:=h3.mpr ha;omega
theorem m1g {x y:UInt64} (h:o0a x 8=o0a y 8):x=y:=by
 have:=congrArg lev h
 rwa [y0y,y0y] at this
theorem m1n {a b:Kz} (ha:a.peer.length=b.peer.length) (h1:inN a.n=true) (h2:inN b.n=true) (h:m0u a=m0u b):f0s a b=true:=by
 obtain ⟨e1,e2⟩:=List.append_inj h ha
 have e3:=congrArg UInt64.toNat (m1g e2)
 simp only [inN,decide_eq_true_eq] at h1 h2
 have g: ∀ z:Int,0≤z→z≤1073741824→(UInt64.ofNat (z%18446744073709551616).toNat).toNat=z.toNat:=fun z h1 h2=>by
  rw [UInt64.toNat_ofNat'];omega
 rw [g _ h1.1 h1.2,g _ h2.1 h2.2] at e3
 simp only [f0s,Bool.and_eq_true,decide_eq_true_eq]
 exact ⟨e1,by omega⟩
theorem e1c {a b:Kz} (h:f0s a b=true):m0u a=m0u b:=by
 simp only [f0s,Bool.and_eq_true,decide_eq_true_eq] at h
 rw [m0u,m0u,h.1,h.2]
theorem f1i {l:List Kz} (hl: ∀ k∈l,k.ok) (hi: ∀ k∈l,inN k.n=true):(j0x l).length<l.length↔f0g l=false:=by
 obtain ⟨_,h2,h3⟩:=f1k l
 have hd:(l.map m0u).Nodup↔f0g l=true:=by
  rw [g0q,List.Nodup,List.pairwise_map,List.pairwise_iff_getElem,List.pairwise_iff_getElem]
  constructor
  ·intro h i j h1 h2 hij
   cases hq:f0s l[i] l[j] with
   |false=>rfl
   |true=>exact absurd (e1c hq) (h i j h1 h2 hij)
  ·intro h i j h1 h2 hij e
   have m1:=List.getElem_mem h1
   have m2:=List.getElem_mem h2
   have:=m1n ((hl _ m1).1.trans (hl _ m2).1.symm) (hi _ m1) (hi _ m2) e
   rw [h i j h1 h2 hij] at this;cases this
 constructor
 ·intro h
  cases hq:f0g l with
  |false=>rfl
  |true=>have:=h3.mpr (hd.mpr hq);omega
 ·intro h
  refine Nat.lt_of_le_of_ne h2 fun e=>?_
  rw [hd.mp (h3.mp e)] at h;cases h
def okI (k0:Bool) (l:List Kz) (i:Nat):Bool:=k0&&(l.take i).all fun k=>inN k.n
theorem p0r (k0:Bool) (l:List Kz):okI k0 l 0=k0:=by simp [okI]
theorem y0q {k0:Bool} {l:List Kz} {i:Nat} {k:Kz} (h:l[i]? =some k):okI k0 l (i+1)=(okI k0 l i&&inN k.n):=by
 have e:l.take (i+1)=l.take i++[k]:=by rw [List.take_add_one,h];rfl
 rw [okI,okI,e,List.all_append];simp [Bool.and_assoc]
theorem s0x {l:List Kz} {i:Nat} {k:Kz} (h:l[i]? =some k):j0x (l.take (i+1))=m0z (j0x (l.take i)) (m0u k) (Go.RowKit.wrap64 (getM (j0x (l.take i)) (m0u k)+1)):=by
 have e:l.take (i+1)=l.take i++[k]:=by rw [List.take_add_one,h];rfl
 rw [e,s0y];rfl
theorem f1b (k0:Bool) (l:List Kz):okI k0 l l.length=(k0&&l.all fun k=>inN k.n):=by rw [okI,List.take_length]
theorem d1n {out inn last:Int} {l:List Kz} {k0:Bool} (h:(inN out&&(inN inn&&(inN last&&decide (l.length≤12))))=k0):e0b out inn last l=if okI k0 l l.length=true∧f0g l=true then 0 else 9:=by
 rw [f1b,←h]
 unfold e0b z0b
 simp only [Bool.and_eq_true,decide_eq_true_eq,and_assoc]
theorem a2q {out inn last:Int} {l:List Kz} {k0:Bool} (h:(inN out&&(inN inn&&(inN last&&decide (l.length≤12))))=k0) (ho:okI k0 l l.length=false):e0b out inn last l=9:=by
 rw [d1n h,if_neg];rintro ⟨h1,_⟩;rw [ho] at h1;cases h1
theorem t0j {out inn last:Int} {l:List Kz} {k0:Bool} (h:(inN out&&(inN inn&&(inN last&&decide (l.length≤12))))=k0) (hl: ∀ k∈l,k.ok) (ho:okI k0 l l.length=true):e0b out inn last l=if (j0x l).length<l.length then 9 else 0:=by
 have hi: ∀ k∈l,inN k.n=true:=by
  rw [f1b,Bool.and_eq_true,List.all_eq_true] at ho
  exact ho.2
 rw [d1n h]
 have hm:=f1i hl hi
 by_cases hs:(j0x l).length<l.length
 ·rw [if_pos hs,if_neg];rintro ⟨_,h1⟩;rw [hm.mp hs] at h1;cases h1
 ·rw [if_neg hs,if_pos]
  refine ⟨ho,?_⟩
  cases hq:f0g l with
  |true=>rfl
  |false=>exact absurd (hm.mpr hq) hs
end Go.Sy
