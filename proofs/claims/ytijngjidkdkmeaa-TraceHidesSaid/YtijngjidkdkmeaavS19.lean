/- Walks and what they compute. CONDITIONS: those that each theorem names. -/
import Derived.Test.YtijngjidkdkmeaavS16
import Derived.Test.YtijngjidkdkmeaavE3
import Derived.Test.YtijngjidkdkmeaavS17
import Derived.Test.YtijngjidkdkmeaavS18
set_option linter.unusedVariables false
set_option linter.unusedSimpArgs false
namespace Go.Sy
def s0m (c:UInt8):Bool:=decide (48≤c.toNat)&&decide (c.toNat≤57)
theorem w0f (n:Nat):(c2p n).toNat=48+n%10:=by
 have h: ∀ m:Fin 10,((48:UInt8)+UInt8.ofNat m.val).toNat=48+m.val:=by decide
 exact h ⟨n%10,Nat.mod_lt _ (by decide)⟩
theorem a2u (n:Nat):s0m (c2p n)=true:=by
 have:=Nat.mod_lt n (y:=10) (by decide)
 rw [s0m,w0f,yF,decide_eq_true_eq,decide_eq_true_eq]
 omega
theorem w0h : ∀ (k n:Nat),∀ x∈q1p k n,s0m x=true
 |0,_,x,h=>by rw [q1p] at h;cases h
 |k+1,n,x,h=>by
   rw [q1p,yU] at h
   rcases h with h|h
   ·split at h
    ·exact w0h k _ x h
    cases h
   rw [xW.mp h];exact a2u n
def j2q (l:List UInt8):Nat:=l.foldl (fun a c=>10*a+(c.toNat-48)) 0
theorem a1t : ∀ (k n:Nat),n<k→j2q (f0g n)=n
 |0,_,h=>by omega
 |k+1,n,h=>by
   by_cases h1:10≤n
   ·have ih:=a1t k (n/10) (by omega)
    rw [j2q] at ih
    rw [q1o h1,j2q,List.foldl_append,ih,List.foldl_cons,List.foldl_nil,w0f]
    omega
   rw [dec_lt h1,j2q,List.foldl_cons,List.foldl_nil,w0f]
   omega
theorem i2s {n m:Nat} (h:f0g n=f0g m):n=m:=by
 have:=congrArg j2q h
 rwa [a1t (n+1) n (by omega),a1t (m+1) m (by omega)] at this
theorem z0q : ∀ {a b:List UInt8} {c d:UInt8} {r s:List UInt8},(∀ x∈a,s0m x=true)→(∀ x∈b,s0m x=true)→s0m c=false→s0m d=false→a++c::r=b++d::s→a=b∧c::r=d::s
 | [],[],c,d,r,s,_,_,_,_,h=>⟨rfl,h⟩
 | [],y::b,c,d,r,s,_,hb,hc,_,h=>by
   have:c=y:=by simpa using congrArg List.head? h
   rw [this,hb y (by simp)] at hc;cases hc
 |x::a,[],c,d,r,s,ha,_,_,hd,h=>by
   have:x=d:=by simpa using congrArg List.head? h
   rw [←this,ha x (by simp)] at hd;cases hd
 |x::a,y::b,c,d,r,s,ha,hb,hc,hd,h=>by
   rw [yC,yC,List.cons.injEq] at h
   obtain ⟨h1,h2⟩:=z0q (fun z hz=>ha z (by simp [hz])) (fun z hz=>hb z (by simp [hz])) hc hd h.2
   exact ⟨by rw [h.1,h1],h2⟩
theorem r0o {n m:Nat} {c d:UInt8} {r s:List UInt8} (hc:s0m c=false) (hd:s0m d=false) (h:f0g n++c::r=f0g m++d::s):n=m∧c::r=d::s:=by
 obtain ⟨h1,h2⟩:=z0q (w0h _ _) (w0h _ _) hc hd h
 exact ⟨i2s h1,h2⟩
mutual
def f2d :Aw→Prop
 | .mk k i o l=>0≤k∧0≤i∧0≤o∧b2y l
def b2y :List Aw→Prop
 | []=>True
 |a::l=>f2d a∧b2y l
end
mutual
theorem o0l : ∀ t:Aw,Bq t=0→f2d t
 | .mk k i o l,h=>by
   obtain ⟨h1,h2,h3⟩:=o0m h
   rw [okT,yF,yF,yF,decide_eq_true_eq,decide_eq_true_eq,decide_eq_true_eq] at h2
   rw [f2d]
   exact ⟨by omega,h2.1.1.2,h2.1.2,z0j l h3⟩
theorem z0j : ∀ l:List Aw,Cq l=0→b2y l
 | [],_=>by rw [b2y];trivial
 |a::l,h=>by
   rw [Cq] at h
   split at h
   ·rename_i ha;rw [b2y];exact ⟨o0l a ha,z0j l h⟩
   contradiction
end
theorem p0t (t:Aw): ∃ q,Jq t=40::q:=by
 obtain ⟨k,i,o,l⟩:=t
 rw [Jq];exact ⟨_,rfl⟩
theorem x0u (l:List Aw) (r:List UInt8): ∃ c q,i0b l++41::r=c::q∧s0m c=false:=by
 cases l with
 |nil=>exact ⟨41,r,by rw [i0b];rfl,by decide⟩
 |cons a l=>
   obtain ⟨q,hq⟩:=p0t a
   exact ⟨40,q++i0b l++41::r,by rw [i0b,hq];simp,by decide⟩
mutual
theorem m1k : ∀ (t u:Aw) (r s:List UInt8),f2d t→f2d u→Jq t++r=Jq u++s→t=u∧r=s
 | .mk k i o l,.mk k2 i2 o2 l2,r,s,ht,hu,h=>by
   rw [f2d] at ht hu
   rw [Jq,Jq] at h
   simp only [wD,yC,yD,List.cons.injEq,true_and] at h
   obtain ⟨h1,h⟩:=r0o (by decide) (by decide) h
   rw [List.cons.injEq] at h
   obtain ⟨h2,h⟩:=r0o (by decide) (by decide) h.2
   rw [List.cons.injEq] at h
   have h:=h.2
   obtain ⟨c,q,e1,d1⟩:=x0u l r
   obtain ⟨c2,q2,e2,d2⟩:=x0u l2 s
   rw [e1,e2] at h
   obtain ⟨h3,h⟩:=r0o d1 d2 h
   rw [←e1,←e2] at h
   obtain ⟨h4,h5⟩:=e1w l l2 r s ht.2.2.2 hu.2.2.2 h
   refine ⟨?_,h5⟩
   rw [h4,show k=k2 by omega,show i=i2 by omega,show o=o2 by omega]
theorem e1w : ∀ (l l2:List Aw) (r s:List UInt8),b2y l→b2y l2→i0b l++41::r=i0b l2++41::s→l=l2∧r=s
 | [],[],r,s,_,_,h=>by
   rw [i0b,yD,yD,List.cons.injEq] at h
   exact ⟨rfl,h.2⟩
 | [],b::l2,r,s,_,_,h=>by
   obtain ⟨q,hq⟩:=p0t b
   rw [i0b,i0b,hq,yD,yC,yC,List.cons.injEq] at h
   exact absurd h.1 (by decide)
 |a::l,[],r,s,_,_,h=>by
   obtain ⟨q,hq⟩:=p0t a
   rw [i0b,i0b,hq,yD,yC,yC,List.cons.injEq] at h
   exact absurd h.1 (by decide)
 |a::l,b::l2,r,s,ha,hb,h=>by
   rw [b2y] at ha hb
   rw [i0b,i0b,wD,wD] at h
   obtain ⟨h1,h2⟩:=m1k a b _ _ ha.1 hb.1 h
   obtain ⟨h3,h4⟩:=e1w l l2 r s ha.2 hb.2 h2
   exact ⟨by rw [h1,h3],h4⟩
end
theorem e2m {t u:Aw} (ht:wfT t) (hu:wfT u) (h:Jq t=Jq u):t=u:=
 (m1k t u [] [] (o0l t ht.2) (o0l u hu.2) (by rw [h])).1
theorem p0n (t:Aw):t∈Lj t:=by
 obtain ⟨k,i,o,l⟩:=t
 rw [Lj];simp
theorem u0o : ∀ {l:List Aw} {a:Aw},a∈l→∀ x∈Lj a,x∈Nz l
 |b::l,a,ha,x,hx=>by
   rw [Nz,yU]
   rcases yT.mp ha with rfl|ha
   ·exact .inl hx
   exact .inr (u0o ha x hx)
theorem e1r : ∀ {l:List Aw} {x:Aw},x∈Nz l→∃ a∈l,x∈Lj a
 | [],x,h=>by rw [Nz] at h;cases h
 |b::l,x,h=>by
   rw [Nz,yU] at h
   rcases h with h|h
   ·exact ⟨b,by simp,h⟩
   obtain ⟨a,ha,hx⟩:=e1r h
   exact ⟨a,by simp [ha],hx⟩
mutual
theorem x0g : ∀ t:Aw,∀ x∈Lj t,∀ a∈x.args,a∈Lj t
 | .mk k i o l,x,hx,a,ha=>by
   rw [Lj,yT] at hx ⊢
   rcases hx with rfl|hx
   ·exact .inr (u0o ha a (p0n a))
   exact .inr (l0m l x hx a ha)
theorem l0m : ∀ l:List Aw,∀ x∈Nz l,∀ a∈x.args,a∈Nz l
 | [],x,hx,a,ha=>by rw [Nz] at hx;cases hx
 |b::l,x,hx,a,ha=>by
   rw [Nz,yU] at hx ⊢
   rcases hx with hx|hx
   ·exact .inl (x0g b x hx a ha)
   exact .inr (l0m l x hx a ha)
end
mutual
theorem k1p : ∀ t:Aw,wfT t→∀ x∈Lj t,wfT x
 | .mk k i o l,h,x,hx=>by
   rw [Lj,yT] at hx
   rcases hx with rfl|hx
   ·exact h
   exact u0n l (o0z h) x hx
theorem u0n : ∀ l:List Aw,(∀ a∈l,wfT a)→∀ x∈Nz l,wfT x
 | [],_,x,hx=>by rw [Nz] at hx;cases hx
 |b::l,h,x,hx=>by
   rw [Nz,yU] at hx
   rcases hx with hx|hx
   ·exact k1p b (h b (by simp)) x hx
   exact u0n l (fun a ha=>h a (by simp [ha])) x hx
end
mutual
theorem p0m : ∀ (t:Aw) (d:Int),Kz t d≤300→((Lj t).length:Int)≤Kz t d
 | .mk k i o l,d,h=>by
   rw [Kz] at h ⊢
   split at h
   ·omega
   rename_i hd
   have:=s0r l d 1 (by omega) h
   rw [if_neg hd,Lj,yH]
   omega
theorem s0r : ∀ (l:List Aw) (d n:Int),0≤n→c0y l d n≤300→n+((Nz l).length:Int)≤c0y l d n
 | [],d,n,_,h=>by rw [c0y,Nz];simp
 |a::l,d,n,hn,h=>by
   have h0:=j0q (a::l) d n
   have hc:¬300<n:=by omega
   rw [c0y,if_neg hc] at h ⊢
   have h1:=j0q l d (n+Kz a (d+1))
   have h2:=p0m a (d+1) (by omega)
   have h3:=Yq a (d+1)
   have h4:=s0r l d _ (by omega) h
   rw [Nz,yL]
   omega
end
mutual
theorem m1j : ∀ t:Aw,t.ok→(Jq t).length≤64*(Lj t).length
 | .mk k i o l,h=>by
   rw [Aw.ok] at h
   have h1:=r0p k.toNat (by have:=h.1.2;omega)
   have h2:=r0p i.toNat (by have:=h.2.1.2;omega)
   have h3:=r0p o.toNat (by have:=h.2.2.1.2;omega)
   have h4:=e1v l h.2.2.2.2
   rw [Jq,Lj]
   simp only [yL,yH,xE]
   omega
theorem e1v : ∀ l:List Aw,Dq l→(i0b l).length≤64*(Nz l).length
 | [],_=>by rw [i0b];simp
 |a::l,h=>by
   rw [Dq] at h
   have h1:=m1j a h.1
   have h2:=e1v l h.2
   rw [i0b,Nz,yL,yL]
   omega
end
theorem u0l : ∀ {l:List Aw} {a:Aw},a∈l→(Lj a).length≤(Nz l).length
 |b::l,a,h=>by
   rw [Nz,yL]
   rcases yT.mp h with rfl|h
   ·omega
   have:=u0l h;omega
theorem p0o {t x:Aw} (h:x∈Lj t):(Lj x).length≤(Lj t).length:=by
 have key:(∀ t:Aw,∀ x∈Lj t,(Lj x).length≤(Lj t).length):=by
  intro t
  refine Aw.rec (motive_1:=fun t=>∀ x∈Lj t,(Lj x).length≤(Lj t).length) (motive_2:=fun l=>∀ x∈Nz l,(Lj x).length≤(Nz l).length) ?_ ?_ ?_ t
  ·intro k i o l ih x hx
   rw [Lj,yT] at hx
   rcases hx with rfl|hx
   ·exact yV _
   have:=ih x hx
   rw [Lj,yH];omega
  ·intro x hx;rw [Nz] at hx;cases hx
  intro a l h1 h2 x hx
  rw [Nz,yU] at hx
  rw [Nz,yL]
  rcases hx with hx|hx
  ·have:=h1 x hx;omega
  have:=h2 x hx;omega
 exact key t x h
theorem v1q (l:List Aw):l.length≤(Nz l).length:=by
 induction l with
 |nil=>simp
 |cons a l ih=>
   obtain ⟨k,i,o,m⟩:=a
   rw [Nz,Lj,yL,yH,yH]
   omega
theorem p1l {s u:List UInt8} (n:Int) (h:¬s=u): ∀ l:Mp,getM (Oj l s n) u=getM l u
 | []=>by rw [Oj,getM];exact if_neg h
 |x::r=>by
   rw [Oj]
   by_cases hx:x.1=s
   ·rw [if_pos hx,getM,if_neg h,getM,if_neg (by rw [hx];exact h)]
   rw [if_neg hx,getM,getM,p1l n h r]
theorem g1n {s:List UInt8}: ∀ {l:Mp},¬getM l s=0→∃ x∈l,x.1=s
 | [],h=>absurd rfl h
 |x::r,h=>by
   rw [getM] at h
   split at h
   ·rename_i hx;exact ⟨x,by simp,hx⟩
   obtain ⟨y,hy,e⟩:=g1n h
   exact ⟨y,by simp [hy],e⟩
theorem put_mem {s:List UInt8} {n:Int}: ∀ {l:Mp} {x:List UInt8×Int},x∈Oj l s n→x∈l∨x=(s,n)
 | [],x,h=>by rw [Oj] at h;exact .inr (xW.mp h)
 |y::r,x,h=>by
   rw [Oj] at h
   split at h
   ·rcases yT.mp h with h|h
    ·exact .inr h
    exact .inl (by simp [h])
   rcases yT.mp h with h|h
   ·exact .inl (by simp [h])
   rcases put_mem h with h|h
   ·exact .inl (by simp [h])
   exact .inr h
def q0u (l:Mp):List (List UInt8):=l.map (·.1)
theorem b1l {s:List UInt8} (n:Int): ∀ {l:Mp},s∉q0u l→Oj l s n=l++[(s,n)]
 | [],_=>by rw [Oj];rfl
 |x::r,h=>by
   rw [q0u,yM,yT,not_or] at h
   rw [Oj,if_neg (Ne.symm h.1),b1l n h.2];rfl
def e0h (l:Mp):Prop:=∀ x∈l,x.2=1
theorem b1k {s:List UInt8}: ∀ {l:Mp},e0h l→s∈q0u l→Oj l s 1=l
 | [],_,h=>by cases h
 |x::r,ho,h=>by
   rw [Oj]
   split
   ·rename_i hx
    obtain ⟨a,b⟩:=x
    have:b=1:=ho (a,b) (by simp)
    rw [this,←hx]
   rename_i hx
   rw [q0u,yM,yT] at h
   rcases h with h|h
   ·exact absurd h.symm hx
   rw [b1k (fun y hy=>ho y (by simp [hy])) h]
structure Grow (a b:Mp):Prop where
 le:a.length≤b.length
 eq:b.length=a.length→b=a
 mo: ∀ t,knB a t=true→knB b t=true
theorem Grow.refl (a:Mp):Grow a a:=⟨yV _,fun _=>rfl,fun _ h=>h⟩
theorem Grow.trans {a b c:Mp} (h:Grow a b) (g:Grow b c):Grow a c:=
 ⟨yJ h.le g.le,fun e=>by
  have h1:=h.le
  have h2:=g.le
  rw [g.eq (by omega),h.eq (by omega)],fun t k=>g.mo t (h.mo t k)⟩
theorem h0b {l:Mp} (ho:e0h l) (s:List UInt8):Grow l (Oj l s 1):=by
 have hm: ∀ t,knB l t=true→knB (Oj l s 1) t=true:=by
  intro t h
  rw [knB,decide_eq_true_eq] at h ⊢
  by_cases hs:s=Jq t
  ·rw [hs,v0s]
  rw [p1l 1 hs,h]
 by_cases h:s∈q0u l
 ·rw [b1k ho h] at hm ⊢;exact Grow.refl l
 rw [b1l 1 h] at hm ⊢
 refine ⟨by simp,fun e=>?_,hm⟩
 simp at e
structure MpOk (AL:List Aw) (Q:Aw→Prop) (l:Mp):Prop where
 one:e0h l
 key: ∀ x∈l,∃ t∈AL,x.1=Jq t∧Q t
 nd:(q0u l).Nodup
theorem c0l {AL:List Aw} {Q:Aw→Prop} {l:Mp} (h:MpOk AL Q l) {t:Aw} (ht:t∈AL) (hq:Q t):MpOk AL Q (Oj l (Jq t) 1):=by
 by_cases hk:Jq t∈q0u l
 ·rw [b1k h.one hk];exact h
 rw [b1l 1 hk]
 refine ⟨fun x hx=>?_,fun x hx=>?_,?_⟩
 ·rcases yU.mp hx with hx|hx
  ·exact h.one x hx
  rw [xW.mp hx]
 ·rcases yU.mp hx with hx|hx
  ·exact h.key x hx
  rw [xW.mp hx];exact ⟨t,ht,rfl,hq⟩
 rw [q0u,xK,List.nodup_append]
 refine ⟨h.nd,by simp,?_⟩
 intro a ha b hb
 simp only [yM,wC,xW] at hb
 rintro rfl
 rw [hb] at ha
 exact hk ha
theorem j2l {AL:List Aw} {Q:Aw→Prop} {l:Mp} (h:MpOk AL Q l) (hA: ∀ x∈AL,wfT x) {t:Aw} (ht:wfT t) (hk:knB l t=true):t∈AL∧Q t:=by
 rw [knB,decide_eq_true_eq] at hk
 obtain ⟨x,hx,hs⟩:=g1n (l:=l) (s:=Jq t) (by rw [hk];decide)
 obtain ⟨u,hu,he,hq⟩:=h.key x hx
 have:t=u:=e2m ht (hA u hu) (by rw [←hs,he])
 rw [this];exact ⟨hu,hq⟩
theorem f1j {α:Type} [DecidableEq α]: ∀ {a b:List α},a.Nodup→(∀ x∈a,x∈b)→a.length≤b.length
 | [],_,_,_=>yP _
 |x::a,b,hn,h=>by
   rw [vE] at hn
   have hx:=h x (by simp)
   have hp:0<b.length:=List.length_pos_of_mem hx
   have ih:=f1j (a:=a) (b:=b.erase x) hn.2 fun y hy=>by
    have hne:y≠x:=fun e=>hn.1 (e▸hy)
    exact (List.mem_erase_of_ne hne).mpr (h y (by simp [hy]))
   rw [List.length_erase_of_mem hx] at ih
   rw [yH];omega
theorem n1i {AL:List Aw} {Q:Aw→Prop} {l:Mp} (h:MpOk AL Q l):l.length≤AL.length:=by
 have:=f1j (a:=q0u l) (b:=AL.map Jq) h.nd fun x hx=>by
  obtain ⟨y,hy,rfl⟩:=yY.mp hx
  obtain ⟨t,ht,he,_⟩:=h.key y hy
  exact yY.mpr ⟨t,ht,he.symm⟩
 simpa [q0u] using this
end Go.Sy
namespace Go.Sy
theorem q1s {mp:Mp}: ∀ {l:List Aw},k1a mp l=l.length→∀ a∈l,knB mp a=true
 | [],_,a,h=>by cases h
 |b::l,h,a,ha=>by
   have hle:=q1r mp l
   rw [g0n,yH] at h
   split at h
   ·rename_i hb
    rcases yT.mp ha with rfl|ha
    ·exact hb
    exact q1s (by omega) a ha
   omega
theorem s1b {mp:Mp}: ∀ {l:List Aw},(∀ a∈l,knB mp a=true)→k1a mp l=l.length
 | [],_=>rfl
 |b::l,h=>by
   rw [g0n,if_pos (h b (by simp)),s1b fun a ha=>h a (by simp [ha]),yH];omega
theorem t0n {b:List Aw}: ∀ {l:List Aw},(∀ a∈l,Lv b a=true)→a0x b l=true
 | [],_=>t0m b
 |a::l,h=>by rw [b0r,h a (by simp),t0n fun x hx=>h x (by simp [hx])];rfl
theorem u0d {b:List Aw}: ∀ {l:List Aw},a0x b l=true→∀ a∈l,Lv b a=true
 | [],_,a,h=>by cases h
 |c::l,h,a,ha=>by
   rw [b0r,yF] at h
   rcases yT.mp ha with rfl|ha
   ·exact h.1
   exact u0d h.2 a ha
theorem z0e {b:List Aw} {t:Aw} (h:hasB b t=true):Lv b t=true:=by
 obtain ⟨k,i,o,l⟩:=t
 rw [e0j,h];rfl
theorem k1q {b:List Aw} (h:d0k b=none) {t x:Aw} (ht:t∈b) (hx:x∈f0v b t):hasB b x=true:=by
 have:=List.find?_eq_none.mp h x (List.mem_flatMap.mpr ⟨t,ht,hx⟩)
 simpa using this
theorem c2z {k i o:Int} {l:List Aw} (h:wfT (.mk k i o l)):(0≤i∧i≤9223372036854775807)∧0≤o∧o≤9223372036854775807:=by
 have h1:=h.1
 have h2:=o0l _ h.2
 rw [Aw.ok] at h1
 rw [f2d] at h2
 exact ⟨⟨h2.2.1,h1.2.1.2⟩,h2.2.2.1,h1.2.2.1.2⟩
theorem j0h {k n:Int} (hk:k=1∨k=2) (hn:0≤n∧n≤9223372036854775807):wfT (.mk k n 0 []):=by
 refine ⟨?_,?_⟩
 ·rw [Aw.ok,Dq]
  refine ⟨?_,⟨by omega,hn.2⟩,⟨by decide,by decide⟩,by decide,trivial⟩
  rcases hk with rfl|rfl<;>exact ⟨by decide,by decide⟩
 rw [Bq]
 rcases hk with rfl|rfl
 ·rw [if_neg (by decide),if_pos (by simp [okT,h0x,hn.1]),Cq]
 rw [if_neg (by decide),if_pos (by simp [okT,h0x,hn.1]),Cq]
theorem j1v {b:List Aw} {n:Int} (h:Lv b (.mk 1 n 0 [])=true):a0r b n=true:=by
 rw [e0j,if_pos rfl,xM] at h;exact h
theorem m1z {b:List Aw} {n:Int} (h:Lv b (.mk 2 n 0 [])=true):y0g b n=true:=by
 rw [e0j,if_neg (by decide),if_pos rfl] at h
 rw [y0g,Bool.or_comm];exact h
theorem mk_Q {AL F:List Aw} (hA: ∀ x∈AL,wfT x) (hC: ∀ x∈AL,∀ a∈x.args,a∈AL) {mp:Mp} (h:MpOk AL (fun t=>Lv F t=true) mp) {x:Aw} (hx:x∈AL) (hm:mkB mp x=true):Lv F x=true:=by
 obtain ⟨k,i,o,l⟩:=x
 have hn:=c2z (hA _ hx)
 have ka: ∀ n:Int,0≤n∧n≤9223372036854775807→kaB mp n=true→a0r F n=true:=fun n hn hk=>j1v (j2l h hA (j0h (.inl rfl) hn) hk).2
 have kp: ∀ n:Int,0≤n∧n≤9223372036854775807→kpB mp n=true→y0g F n=true:=fun n hn hk=>by
  rw [kpB,xQ] at hk
  rcases hk with hk|hk
  ·rw [y0g,ka n hn hk];rfl
  exact m1z (j2l h hA (j0h (.inr rfl) hn) hk).2
 rw [e0j,xQ]
 rw [mkB] at hm
 refine .inr ?_
 split
 ·rename_i h1;rw [if_pos h1] at hm;cases hm
 rename_i h1
 rw [if_neg h1] at hm
 split
 ·rename_i h2;rw [if_pos h2] at hm;exact ka i hn.1 hm
 rename_i h2
 rw [if_neg h2] at hm
 split
 ·rename_i h3
  rw [if_pos h3,kdB,xQ,yF,yF] at hm
  rw [dhB,xQ,yF,yF]
  rcases hm with hm|hm
  ·exact .inl ⟨ka i hn.1 hm.1,kp o hn.2 hm.2⟩
  exact .inr ⟨ka o hn.2 hm.1,kp i hn.1 hm.2⟩
 rename_i h3
 rw [if_neg h3,decide_eq_true_eq] at hm
 exact t0n fun a ha=>(j2l h hA (hA a (hC _ hx a ha)) (q1s hm a ha)).2
theorem b2z {F:List Aw} (hF:d0k F=none) {k i o:Int} {l:List Aw} (hk:¬k=1∧¬k=2∧¬k=3) (hq:Lv F (.mk k i o l)=true) {a:Aw} (ha:a∈l) (ho: .mk k i o l∈F→a∈f0v F (.mk k i o l)):Lv F a=true:=by
 rw [e0j,xQ,if_neg hk.1,if_neg hk.2.1,if_neg hk.2.2] at hq
 rcases hq with hq|hq
 ·have hm:=e0m.mp hq
  exact z0e (k1q hF hm (ho hm))
 exact u0d hq a ha
theorem p2o {AL F:List Aw} (hA: ∀ x∈AL,wfT x) (hC: ∀ x∈AL,∀ a∈x.args,a∈AL) (hF:d0k F=none) {mp:Mp} (h:MpOk AL (fun t=>Lv F t=true) mp) {x:Aw} (hx:x∈AL) (hk:knB mp x=true):MpOk AL (fun t=>Lv F t=true) (opM mp x):=by
 have hq:=(j2l h hA (hA x hx) hk).2
 obtain ⟨k,i,o,l⟩:=x
 have hargs:=hC _ hx
 by_cases h4:k=4
 ·subst h4
  obtain ⟨a,b,rfl⟩:=len2 ((f0i (hA _ hx)).trans rfl)
  rw [o2k i o rfl]
  have hop: ∀ y∈[a,b],Lv F y=true:=fun y hy=>b2z hF (by decide) hq hy fun _=>by rw [f0v,if_pos rfl];exact hy
  exact c0l (c0l h (hargs a (by simp [Aw.args])) (hop a (by simp))) (hargs b (by simp [Aw.args])) (hop b (by simp))
 by_cases h7:k=7
 ·subst h7
  obtain ⟨a,b,c,rfl⟩:=g2y ((f0i (hA _ hx)).trans rfl)
  cases ha:knB mp a with
  |false=>rw [f2q i o rfl ha];exact h
  |true=>
    rw [x1d i o rfl ha]
    have haq:=(j2l h hA (hA a (hargs a (by simp [Aw.args]))) ha).2
    refine c0l h (hargs c (by simp [Aw.args])) (b2z hF (by decide) hq (by simp) fun _=>?_)
    rw [f0v,if_neg (by decide),if_pos rfl,if_pos (by simpa using haq)]
    simp
 rw [v0c mp i o l h4 h7];exact h
theorem v1s {AL F:List Aw} (hA: ∀ x∈AL,wfT x) (hC: ∀ x∈AL,∀ a∈x.args,a∈AL) (hF:d0k F=none) {mp:Mp} (h:MpOk AL (fun t=>Lv F t=true) mp) {x:Aw} (hx:x∈AL):MpOk AL (fun t=>Lv F t=true) (stepM mp x):=by
 have h1:MpOk AL (fun t=>Lv F t=true) (f0w mp x):=by
  rw [f0w];split
  ·rename_i hm;exact c0l h hx (mk_Q hA hC h hx hm)
  exact h
 rw [stepM];split
 ·rename_i hk;exact p2o hA hC hF h1 hx hk
 exact h1
theorem f1f {AL F:List Aw} (hA: ∀ x∈AL,wfT x) (hC: ∀ x∈AL,∀ a∈x.args,a∈AL) (hF:d0k F=none): ∀ {l:List Aw} {mp:Mp},(∀ x∈l,x∈AL)→MpOk AL (fun t=>Lv F t=true) mp→MpOk AL (fun t=>Lv F t=true) (Nv mp l)
 | [],_,_,h=>h
 |a::l,mp,hl,h=>by
   rw [h0d]
   exact f1f hA hC hF (fun x hx=>hl x (by simp [hx])) (v1s hA hC hF h (hl a (by simp)))
theorem e0g {mp:Mp} (h:e0h mp) (s:List UInt8):e0h (Oj mp s 1):=fun x hx=>by
 rcases put_mem hx with hx|rfl
 ·exact h x hx
 rfl
theorem j0z {mp:Mp} (h:e0h mp) (x:Aw):e0h (f0w mp x)∧Grow mp (f0w mp x):=by
 rw [f0w];split
 ·exact ⟨e0g h _,h0b h _⟩
 exact ⟨h,Grow.refl _⟩
theorem f2o {mp:Mp} (h:e0h mp) (x:Aw):e0h (opM mp x)∧Grow mp (opM mp x):=by
 obtain ⟨k,i,o,l⟩:=x
 rw [opM];split
 ·exact ⟨e0g (e0g h _) _,(h0b h _).trans (h0b (e0g h _) _)⟩
 split
 ·split
  ·exact ⟨e0g h _,h0b h _⟩
  exact ⟨h,Grow.refl _⟩
 exact ⟨h,Grow.refl _⟩
theorem j0o {mp:Mp} (h:e0h mp) (x:Aw):e0h (stepM mp x)∧Grow (f0w mp x) (stepM mp x):=by
 have h1:=j0z h x
 rw [stepM];split
 ·exact f2o h1.1 x
 exact ⟨h1.1,Grow.refl _⟩
theorem f0u : ∀ {l:List Aw} {mp:Mp},e0h mp→e0h (Nv mp l)∧Grow mp (Nv mp l)
 | [],mp,h=>⟨h,Grow.refl _⟩
 |a::l,mp,h=>by
   have h1:=j0z h a
   have h2:=j0o h a
   have h3:=f0u (l:=l) h2.1
   rw [h0d]
   exact ⟨h3.1,(h1.2.trans h2.2).trans h3.2⟩
theorem f1g : ∀ {l:List Aw} {mp:Mp},e0h mp→Nv mp l=mp→∀ x∈l,stepM mp x=mp
 | [],_,_,_,x,hx=>by cases hx
 |a::l,mp,h,he,x,hx=>by
   have h1:=(j0z h a).2.trans (j0o h a).2
   have h3:=f0u (l:=l) (j0o h a).1
   rw [h0d] at he
   have hs:stepM mp a=mp:=h1.eq (by
    have e1:=h1.le
    have e2:=h3.2.le
    rw [he] at e2;omega)
   rw [hs] at he
   rcases yT.mp hx with rfl|hx
   ·exact hs
   exact f1g h he x hx
theorem c2j {mp:Mp} (h:e0h mp) {x:Aw} (hs:stepM mp x=mp):(mkB mp x=true→knB mp x=true)∧(knB mp x=true→opM mp x=mp):=by
 have h1:=(j0z h x).2
 have h2:=(j0o h x).2
 rw [hs] at h2
 have hm:f0w mp x=mp:=h1.eq (by have:=h1.le;have:=h2.le;omega)
 constructor
 ·intro hk
  rw [←hm,f0w,if_pos hk];exact i0e mp x
 intro hk
 rw [stepM,hm,if_pos hk] at hs;exact hs
mutual
theorem v0j {AL:List Aw} {FM:Mp} (hC: ∀ x∈AL,∀ a∈x.args,a∈AL) (ho:e0h FM) (hfix: ∀ x∈AL,stepM FM x=FM) {b:List Aw} (hb: ∀ t∈b,knB FM t=true): ∀ y:Aw,y∈AL→Lv b y=true→knB FM y=true
 | .mk k i o l,hy,h=>by
   rw [e0j,xQ] at h
   rcases h with h|h
   ·exact hb _ (e0m.mp h)
   have ka: ∀ n:Int,a0r b n=true→kaB FM n=true:=fun n h=>hb _ (e0m.mp h)
   have kp: ∀ n:Int,y0g b n=true→kpB FM n=true:=fun n h=>by
    rw [y0g,xQ] at h
    rw [kpB,xQ]
    rcases h with h|h
    ·exact .inl (ka n h)
    exact .inr (hb _ (e0m.mp h))
   refine (c2j ho (hfix _ hy)).1 ?_
   rw [mkB]
   split
   ·rename_i h1;rw [if_pos h1] at h;cases h
   rename_i h1
   rw [if_neg h1] at h
   split
   ·rename_i h2;rw [if_pos h2] at h;exact ka i h
   rename_i h2
   rw [if_neg h2] at h
   split
   ·rename_i h3
    rw [if_pos h3,dhB,xQ,yF,yF] at h
    rw [kdB,xQ,yF,yF]
    rcases h with h|h
    ·exact .inl ⟨ka i h.1,kp o h.2⟩
    exact .inr ⟨ka o h.1,kp i h.2⟩
   rename_i h3
   rw [if_neg h3] at h
   exact decide_eq_true_eq.mpr (s1b (y0z hC ho hfix hb l (fun a ha=>hC _ hy a ha) h))
theorem y0z {AL:List Aw} {FM:Mp} (hC: ∀ x∈AL,∀ a∈x.args,a∈AL) (ho:e0h FM) (hfix: ∀ x∈AL,stepM FM x=FM) {b:List Aw} (hb: ∀ t∈b,knB FM t=true): ∀ l:List Aw,(∀ a∈l,a∈AL)→a0x b l=true→∀ a∈l,knB FM a=true
 | [],_,_,a,ha=>by cases ha
 |c::l,hl,h,a,ha=>by
   rw [b0r,yF] at h
   have h1:=v0j hC ho hfix hb c (hl c (by simp)) h.1
   have h2:=y0z hC ho hfix hb l (fun x hx=>hl x (by simp [hx])) h.2
   rcases yT.mp ha with e|ha
   ·rw [e];exact h1
   exact h2 a ha
end
theorem c2x {AL:List Aw} {FM:Mp} (hA: ∀ x∈AL,wfT x) (hC: ∀ x∈AL,∀ a∈x.args,a∈AL) (ho:e0h FM) (hfix: ∀ x∈AL,stepM FM x=FM): ∀ {n:Nat} {b:List Aw},(∀ t∈b,t∈AL∧knB FM t=true)→∀ t∈b0e n b,t∈AL∧knB FM t=true
 |0,b,h,t,ht=>h t ht
 |n+1,b,h,t,ht=>by
   cases hs:d0k b with
   |none=>rw [b0y hs] at ht;exact h t ht
   |some x=>
     rw [g0g hs] at ht
     refine c2x hA hC ho hfix (n:=n) (b:=b++[x]) (fun u hu=>?_) t ht
     rcases yU.mp hu with hu|hu
     ·exact h u hu
     rw [xW.mp hu]
     obtain ⟨_,v,hv,hx⟩:=e1s hs
     have hvA:=(h v hv).1
     refine ⟨hC v hvA x (n0t hx),?_⟩
     have hop:=(c2j ho (hfix v hvA)).2 (h v hv).2
     obtain ⟨k,i,o,l⟩:=v
     rw [f0v] at hx
     split at hx
     ·rename_i h4
      subst h4
      obtain ⟨p,q,rfl⟩:=len2 ((f0i (hA _ hvA)).trans rfl)
      rw [o2k i o rfl] at hop
      have hp:knB FM p=true:=by
       rw [←hop];exact (h0b (e0g ho _) _).mo _ (i0e FM p)
      have hq:knB FM q=true:=by
       rw [←hop];exact i0e _ q
      simp only [yT,List.not_mem_nil,or_false] at hx
      rcases hx with rfl|rfl
      ·exact hp
      exact hq
     split at hx
     ·rename_i h7
      subst h7
      obtain ⟨p,q,r,rfl⟩:=g2y ((f0i (hA _ hvA)).trans rfl)
      split at hx
      ·rename_i hm
       have hp:=v0j hC ho hfix (fun t ht=>(h t ht).2) p (hC _ hvA p (by simp [Aw.args])) (by simpa using hm)
       rw [x1d i o rfl hp] at hop
       obtain rfl:x=r:=by simpa using hx
       rw [←hop];exact i0e _ x
      cases hx
     cases hx
theorem g0h {U:List Aw} (hU:g0o U): ∀ {n:Nat} {b:List Aw},BagOk U n b→d0k (b0e n b)=none∧(∀ t∈b,t∈b0e n b)∧∀ t∈b0e n b,t∈U
 |0,b,h=>by
   cases hs:d0k b with
   |none=>exact ⟨by rw [b0e,hs],fun t ht=>ht,h.sub⟩
   |some x=>
     obtain ⟨n',e,_⟩:=w0o hU h hs
     omega
 |n+1,b,h=>by
   cases hs:d0k b with
   |none=>rw [b0y hs];exact ⟨hs,fun t ht=>ht,h.sub⟩
   |some x=>
     obtain ⟨n',e,h'⟩:=w0o hU h hs
     obtain rfl:n=n':=by omega
     rw [g0g hs]
     obtain ⟨h1,h2,h3⟩:=g0h hU h'
     exact ⟨h1,fun t ht=>h2 t (by simp [ht]),h3⟩
theorem m1e {AL:List Aw} {Q:Aw→Prop}: ∀ {l:List Aw} {mp:Mp},(∀ t∈l,t∈AL∧Q t)→MpOk AL Q mp→MpOk AL Q (f0p mp l)
 | [],_,_,h=>h
 |a::l,mp,hl,h=>by
   rw [l0q]
   exact m1e (fun t ht=>hl t (by simp [ht])) (c0l h (hl a (by simp)).1 (hl a (by simp)).2)
theorem m1f : ∀ {l:List Aw} {mp:Mp},e0h mp→(∀ t,knB mp t=true→knB (f0p mp l) t=true)∧∀ t∈l,knB (f0p mp l) t=true
 | [],_,_=>⟨fun _ h=>h,fun t h=>by cases h⟩
 |a::l,mp,h=>by
   obtain ⟨h1,h2⟩:=m1f (l:=l) (e0g h (Jq a))
   rw [l0q]
   refine ⟨fun t ht=>h1 t ((h0b h _).mo t ht),fun t ht=>?_⟩
   rcases yT.mp ht with rfl|ht
   ·exact h1 _ (i0e mp _)
   exact h2 t ht
theorem c2c (AL:List Aw) (Q:Aw→Prop):MpOk AL Q []:=⟨fun _ h=>(by cases h),fun _ h=>(by cases h),by simp [q0u]⟩
theorem f1u {AL:List Aw} {Q:Aw→Prop} (hp: ∀ mp,MpOk AL Q mp→MpOk AL Q (Nv mp AL)): ∀ {n:Nat} {mp:Mp},MpOk AL Q mp→AL.length-mp.length≤n→MpOk AL Q (f0e AL n mp)∧Nv (f0e AL n mp) AL=f0e AL n mp∧Grow mp (f0e AL n mp)
 |0,mp,h,hn=>by
   have h1:=n1i (hp mp h)
   have h2:=(f0u (l:=AL) h.one).2
   have he:Nv mp AL=mp:=h2.eq (by have:=h2.le;omega)
   rw [f0e,he,he];exact ⟨h,rfl,Grow.refl _⟩
 |n+1,mp,h,hn=>by
   have h2:=(f0u (l:=AL) h.one).2
   rw [f0e]
   split
   ·rename_i hl
    have he:=h2.eq hl
    rw [he,he];exact ⟨h,rfl,Grow.refl _⟩
   rename_i hl
   have h3:=n1i (hp mp h)
   obtain ⟨g1,g2,g3⟩:=f1u hp (n:=n) (hp mp h) (by have:=h2.le;omega)
   exact ⟨g1,g2,h2.trans g3⟩
theorem v0l {l l2:List Aw} {t:Aw} (hl: ∀ a∈l,wfT a) (hm: ∀ x,x∈l↔x∈l2) (ht:wfT t) {AL F:List Aw} {n0:Nat} {FM:Mp} (hA:Lj t++Nz l=AL) (hB:BagOk AL n0 l2) (hF:b0e n0 l2=F) (hFM:f0e AL AL.length (f0p [] l)=FM):
 g0o AL∧(∀ q,MpOk AL (fun t=>Lv F t=true) q→MpOk AL (fun t=>Lv F t=true) (Nv q AL)∧q.length≤(Nv q AL).length∧q.length≤AL.length)∧MpOk AL (fun t=>Lv F t=true) (f0p [] l)∧knB FM t=Lv F t:=by
 have hw: ∀ x∈AL,wfT x:=fun x hx=>by
  rw [←hA,yU] at hx
  rcases hx with hx|hx
  ·exact k1p t ht x hx
  exact u0n l hl x hx
 have hc: ∀ x∈AL,∀ a∈x.args,a∈AL:=fun x hx a ha=>by
  rw [←hA,yU] at hx ⊢
  rcases hx with hx|hx
  ·exact .inl (x0g t x hx a ha)
  exact .inr (l0m l x hx a ha)
 have hU:g0o AL:=fun x hx=>⟨hw x hx,hc x hx⟩
 have htA:t∈AL:=by rw [←hA];simp [p0n]
 obtain ⟨f1,f2,f3⟩:=g0h hU hB
 rw [hF] at f1 f2 f3
 have hp: ∀ q,MpOk AL (fun t=>Lv F t=true) q→MpOk AL (fun t=>Lv F t=true) (Nv q AL):=fun q hq=>f1f hw hc f1 (fun _ h=>h) hq
 have hseed:MpOk AL (fun t=>Lv F t=true) (f0p [] l):=m1e (fun x hx=>⟨f3 x (f2 x ((hm x).mp hx)),z0e (e0m.mpr (f2 x ((hm x).mp hx)))⟩) (c2c _ _)
 refine ⟨hU,fun q hq=>⟨hp q hq,(f0u hq.one).2.le,n1i hq⟩,hseed,?_⟩
 obtain ⟨g1,g2,g3⟩:=f1u hp (n:=AL.length) hseed (Nat.sub_le _ _)
 rw [hFM] at g1 g2 g3
 have hfix:=f1g g1.one g2
 have hlk: ∀ x∈l2,x∈AL∧knB FM x=true:=fun x hx=>⟨f3 x (f2 x hx),g3.mo x ((m1f (c2c AL (fun _=>True)).one).2 x ((hm x).mpr hx))⟩
 have hbk:=c2x hw hc g1.one hfix (n:=n0) hlk
 rw [hF] at hbk
 cases hk:Lv F t with
 |true=>exact v0j hc g1.one hfix (fun x hx=>(hbk x hx).2) t htA hk
 |false=>
   cases hk2:knB FM t with
   |false=>rfl
   |true=>rw [(j2l g1 hw ht hk2).2] at hk;cases hk
end Go.Sy
namespace Go.Sy
open Go.Proofs
attribute [local irreducible] Cj HT Bv Rj onC onE onO onG goV goA goS Tj Ck
theorem e1q : ∀ (l:List Aw) (n:Int),0≤n→l0a Kz l n≤300→n+((Nz l).length:Int)≤l0a Kz l n
 | [],n,_,_=>by rw [c0k,Nz];simp
 |a::l,n,hn,h=>by
  rw [Sj] at h ⊢
  by_cases hb:300<n+Kz a 1
  ·rw [if_pos hb] at h;omega
  rw [if_neg hb] at h ⊢
  have h1:=Yq a 1
  have h2:=p0m a 1 (by omega)
  have h3:=e1q l _ (by omega) h
  rw [Nz,yL];omega
theorem s0q : ∀ (l:List Aw) (n:Int),0≤n→(300<l0a Kz l n↔300<l0a Ej l n)
 | [],n,_=>by rw [c0k,c0k]
 |a::l,n,hn=>by
  have h1:=Yq a 1
  rw [Sj,Sj]
  rcases l0o a 1 with ⟨h,e⟩|⟨h,e⟩
  ·rw [e];split
   ·exact Iff.rfl
   exact s0q l _ (by omega)
  rw [if_pos (by omega),if_pos (by omega)];omega
theorem i0z (l:List Aw):Jz Ej l=Jz Kz l:=by
 have h:=s0q l 0 (by omega)
 rw [Jz,Jz]
 by_cases h1:300<l0a Kz l 0
 ·rw [if_pos h1,if_pos (h.mp h1)]
 rw [if_neg h1,if_neg (fun q=>h1 (h.mpr q))]
theorem i1w {l:List Aw} (h:Jz Kz l=0):(Nz l).length≤300∧∀ a∈l,Bq a=0:=by
 rw [Jz] at h
 split at h
 ·simp at h
 rename_i hs
 have:=e1q l 0 (by omega) (by omega)
 exact ⟨by omega,m0a h⟩
theorem j1d {t:Aw} (h:Tv t=0):(Lj t).length≤300∧Bq t=0:=by
 rw [Tv] at h
 split at h
 ·simp at h
 have:=p0m t 1 (by omega)
 exact ⟨by omega,h⟩
theorem g1p : ∀ (n:Nat) (b:List Aw),(b0e n b).length≤b.length+n
 |0,b=>yV _
 |n+1,b=>by
  rw [b0e];split
  ·omega
  have:=g1p n (b++[‹Aw›]);simp only [yL,yH,xE] at this;omega
def allT (l:List Aw) (t:Aw):List Aw:=Lj t++Nz l
def o2d (l:List Aw) (t:Aw):List Aw:=b0e (rkB (allT l t) l) l
def j2k (l:List Aw) (t:Aw):Mp:=f0e (allT l t) (allT l t).length (f0p [] l)
def k0d (l:List Aw) (t:Aw):Int:=if Jz Kz l=0 then Tv t else Jz Kz l
def y1d (l:List Aw) (t:Aw):Bool:=decide (k0d l t=0)&&Lv (o2d l t) t
def y1c (l:List Aw) (t:Aw):Bool:=decide (k0d l t=0)&&knB (j2k l t) t
structure s0d (l:List Aw) (t:Aw):Prop where
 wl: ∀ a∈l,wfT a
 wt:wfT t
 sl:(Nz l).length≤300
 st:(Lj t).length≤300
theorem v0m {l:List Aw} {t:Aw} (hk:Dq l) (ht:t.ok) (hf:Jz Kz l=0) (hg:Tv t=0):s0d l t:=by
 have h1:=i1w hf
 have h2:=j1d hg
 exact ⟨fun a ha=>⟨Dw hk a ha,h1.2 a ha⟩,⟨ht,h2.2⟩,h1.1,h2.1⟩
theorem s0d.bag {l l2:List Aw} {t:Aw} (h:s0d l t) (hm: ∀ x,x∈l↔x∈l2):BagOk (allT l t) (rkB (allT l t) l2) l2∧rkB (allT l t) l2≤600:=by
 refine ⟨⟨fun x hx=>?_,yV _⟩,?_⟩
 ·exact yU.mpr (.inr (u0o ((hm x).mpr hx) x (p0n x)))
 have h1:=List.length_filter_le (fun u=>!hasB l2 u) (allT l t)
 rw [rkB]
 have h2:=h.sl
 have h3:=h.st
 have h4:(allT l t).length=(Lj t).length+(Nz l).length:=by rw [allT,yL]
 omega
theorem s0d.closed {l:List Aw} {t:Aw} (h:s0d l t):g0o (allT l t):=
 (v0l h.wl (fun x=>Iff.rfl) h.wt (rfl:Lj t++Nz l=allT l t) (h.bag fun x=>Iff.rfl).1 rfl (rfl:_=j2k l t)).1
theorem z0i : ∀ (n m:Nat) (b:List Aw),d0k (b0e n b)=none→d0k (b0e m b)=none→b0e n b=b0e m b
 |0,m,b,h,_=>by rw [b0y (n:=m) (b:=b) h];rfl
 |n+1,0,b,_,h=>by rw [b0y (n:=n+1) (b:=b) h];rfl
 |n+1,m+1,b,h,g=>by
  cases hs:d0k b with
  |none=>rw [b0y hs,b0y hs]
  |some x=>
   rw [g0g hs] at h ⊢
   rw [g0g hs] at g ⊢
   exact z0i n m _ h g
theorem y1b {l l2:List Aw} {t:Aw} (h:s0d l t) (h2:s0d l2 t) (hm: ∀ x,x∈l↔x∈l2):knB (j2k l t) t=Lv (o2d l2 t) t:=by
 rw [(v0l h.wl hm h.wt (rfl:Lj t++Nz l=allT l t) (h.bag hm).1 rfl (rfl:_=j2k l t)).2.2.2,o2d,
  z0i _ _ _ (g0h h.closed (h.bag hm).1).1 (g0h h2.closed (h2.bag fun x=>Iff.rfl).1).1]
theorem m2l (l:List Aw) (hl:l.length≤9223372036854775807) (hk:Dq l) (t:Aw) (ht:t.ok):Ct Try.prog 5 [(.w (.one (.pl (.R false 4 (Ay l))))),Yy t] (fun v m=>v=.tup [.one (.pl (.b (y1d l t))),.one (.pl (.i (k0d l t)))]):=by
 obtain ⟨k,i,o,ms⟩:=t
 rw [Bw,y1d,k0d]
 by_cases hf:Jz Kz l=0
 ·by_cases hg:Tv (.mk k i o ms)=0
  ·have hK:=v0m hk ht hf hg
   obtain ⟨hB,hr⟩:=hK.bag fun x=>Iff.rfl
   have hl3:=v1q l
   have hsl:=hK.sl
   have hF:=(g0h hK.closed hB).2.2
   have hlen:=g1p (rkB (allT l (.mk k i o ms)) l) l
   rw [if_pos hf,hg]
   exact x1z l hl hk k i o ms ht hf hg _ hK.closed _ hB (by omega) (o2d l (.mk k i o ms)) rfl (a0b fun a ha=>(hK.closed a (hF a ha)).1.1) (by rw [o2d];omega)
  rw [if_pos hf,show decide (Tv (.mk k i o ms)=0)=false from decide_eq_false hg,wJ]
  exact y1a l hl hk k i o ms ht hf hg
 rw [if_neg hf,show decide (Jz Kz l=0)=false from decide_eq_false hf,wJ]
 exact o1r l hl hk k i o ms ht hf
theorem m2m (l:List Aw) (hl:l.length≤9223372036854775807) (hk:Dq l) (t:Aw) (ht:t.ok):Ct Try.prog 6 [(.w (.one (.pl (.R false 4 (Ay l))))),Yy t] (fun v m=>v=.tup [.one (.pl (.b (y1c l t))),.one (.pl (.i (k0d l t)))]):=by
 obtain ⟨k,i,o,ms⟩:=t
 rw [Bw,y1c,k0d]
 by_cases hf:Jz Kz l=0
 ·have hfw:Jz Ej l=0:=(i0z l).trans hf
  by_cases hg:Tv (.mk k i o ms)=0
  ·have hK:=v0m hk ht hf hg
   have hsl:=hK.sl
   have hst:=hK.st
   have hla:(allT l (.mk k i o ms)).length=(Lj (.mk k i o ms)).length+(Nz l).length:=by rw [allT,yL]
   have hsub: ∀ a∈.mk k i o ms::l,wfT a∧(Lj a).length≤300:=fun a ha=>by
    rcases yT.mp ha with rfl|ha
    ·exact ⟨hK.wt,hst⟩
    exact ⟨hK.wl a ha,yJ (u0l ha) hsl⟩
   have hall: ∀ x∈allT l (.mk k i o ms),(Lj x).length≤300:=fun x hx=>by
    rcases yU.mp hx with hx|hx
    ·exact yJ (p0o hx) hst
    obtain ⟨a,ha,hx⟩:=e1r hx
    exact yJ (p0o hx) (yJ (u0l ha) hsl)
   have hsay: ∀ x:Aw,x.ok→(Lj x).length≤300→(Jq x).length≤100000000:=fun x h1 h2=>yJ (m1j x h1) (by omega)
   have hq:=v0l hK.wl (fun x=>Iff.rfl) hK.wt (rfl:Lj (.mk k i o ms)++Nz l=allT l (.mk k i o ms)) (hK.bag fun x=>Iff.rfl).1 rfl (rfl:_=j2k l (.mk k i o ms))
   rw [if_pos hf,hg]
   exact p2a l hl hk k i o ms ht hfw hg hK.wl hK.wt (fun a ha=>hsay a (hsub a ha).1.1 (hsub a ha).2) (fun a ha=>yJ (hsub a ha).2 (by decide)) (by omega) (allT l (.mk k i o ms)) rfl (by omega) (fun x hx=>(hK.closed x hx).1) (fun x hx=>hsay x (hK.closed x hx).1.1 (hall x hx)) (fun x hx=>(hK.closed x hx).2) _ _ hq.2.1 hq.2.2.1 (j2k l (.mk k i o ms)) rfl
  rw [if_pos hf,show decide (Tv (.mk k i o ms)=0)=false from decide_eq_false hg,wJ]
  exact p2b l hl hk k i o ms ht hfw hg
 have hfw:¬Jz Ej l=0:=by rw [i0z];exact hf
 rw [if_neg hf,show decide (Jz Kz l=0)=false from decide_eq_false hf,wJ,←i0z]
 exact j2w l hl hk k i o ms ht hfw
end Go.Sy
