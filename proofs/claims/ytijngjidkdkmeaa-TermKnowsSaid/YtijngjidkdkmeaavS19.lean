/- Walks and what they compute. CONDITIONS: those that each theorem names. -/
import Derived.Test.YtijngjidkdkmeaavS16
import Derived.Test.YtijngjidkdkmeaavS17
import Derived.Test.YtijngjidkdkmeaavS18
set_option linter.unusedVariables false
set_option linter.unusedSimpArgs false
namespace Go.Sy
def k0t (c:UInt8):Bool:=decide (48≤c.toNat)&&decide (c.toNat≤57)
theorem n0s (n:Nat):(k1u n).toNat=48+n%10:=by
 have h: ∀ m:Fin 10,((48:UInt8)+UInt8.ofNat m.val).toNat=48+m.val:=by decide
 exact h ⟨n%10,Nat.mod_lt _ (by decide)⟩
theorem j1e (n:Nat):k0t (k1u n)=true:=by
 have:=Nat.mod_lt n (y:=10) (by decide)
 rw [k0t,n0s,Bool.and_eq_true,decide_eq_true_eq,decide_eq_true_eq]
 omega
theorem n0t : ∀ (k n:Nat),∀ x∈d1e k n,k0t x=true
 |0,_,x,h=>by rw [d1e] at h;cases h
 |k+1,n,x,h=>by
  rw [d1e,List.mem_append] at h
  rcases h with h|h
  ·split at h
   ·exact n0t k _ x h
   ·cases h
  ·rw [List.mem_singleton.mp h];exact j1e n
def p1x (l:List UInt8):Nat:=l.foldl (fun a c=>10*a+(c.toNat-48)) 0
theorem r0g : ∀ (k n:Nat),n<k→p1x (a0u n)=n
 |0,_,h=>by omega
 |k+1,n,h=>by
  by_cases h1:10≤n
  ·have ih:=r0g k (n/10) (by omega)
   rw [p1x] at ih
   rw [d1d h1,p1x,List.foldl_append,ih,List.foldl_cons,List.foldl_nil,n0s]
   omega
  ·rw [dec_lt h1,p1x,List.foldl_cons,List.foldl_nil,n0s]
   omega
theorem p1e {n m:Nat} (h:a0u n=a0u m):n=m:=by
 have:=congrArg p1x h
 rwa [r0g (n+1) n (by omega),r0g (m+1) m (by omega)] at this
theorem q0g : ∀ {a b:List UInt8} {c d:UInt8} {r s:List UInt8},(∀ x∈a,k0t x=true)→(∀ x∈b,k0t x=true)→k0t c=false→k0t d=false→a++c::r=b++d::s→a=b∧c::r=d::s
 | [],[],c,d,r,s,_,_,_,_,h=>⟨rfl,h⟩
 | [],y::b,c,d,r,s,_,hb,hc,_,h=>by
  have:c=y:=by simpa using congrArg List.head? h
  rw [this,hb y (by simp)] at hc;cases hc
 |x::a,[],c,d,r,s,ha,_,_,hd,h=>by
  have:x=d:=by simpa using congrArg List.head? h
  rw [←this,ha x (by simp)] at hd;cases hd
 |x::a,y::b,c,d,r,s,ha,hb,hc,hd,h=>by
  rw [List.cons_append,List.cons_append,List.cons.injEq] at h
  obtain ⟨h1,h2⟩:=q0g (fun z hz=>ha z (by simp [hz])) (fun z hz=>hb z (by simp [hz])) hc hd h.2
  exact ⟨by rw [h.1,h1],h2⟩
theorem j0w {n m:Nat} {c d:UInt8} {r s:List UInt8} (hc:k0t c=false) (hd:k0t d=false) (h:a0u n++c::r=a0u m++d::s):n=m∧c::r=d::s:=by
 obtain ⟨h1,h2⟩:=q0g (n0t _ _) (n0t _ _) hc hd h
 exact ⟨p1e h1,h2⟩
mutual
def m1h :Aw→Prop
 | .mk k i o l=>0≤k∧0≤i∧0≤o∧k1g l
def k1g :List Aw→Prop
 | []=>True
 |a::l=>m1h a∧k1g l
end
mutual
theorem h0v : ∀ t:Aw,Bz t=0→m1h t
 | .mk k i o l,h=>by
  obtain ⟨h1,h2,h3⟩:=h0w h
  rw [okT,Bool.and_eq_true,Bool.and_eq_true,Bool.and_eq_true,decide_eq_true_eq,decide_eq_true_eq,decide_eq_true_eq] at h2
  rw [m1h]
  exact ⟨by omega,h2.1.1.2,h2.1.2,p0z l h3⟩
theorem p0z : ∀ l:List Aw,Cv l=0→k1g l
 | [],_=>by rw [k1g];trivial
 |a::l,h=>by
  rw [Cv] at h
  split at h
  ·rename_i ha;rw [k1g];exact ⟨h0v a ha,p0z l h⟩
  ·contradiction
end
theorem i0o (t:Aw): ∃ q,Cw t=40::q:=by
 obtain ⟨k,i,o,l⟩:=t
 rw [Cw];exact ⟨_,rfl⟩
theorem o0t (l:List Aw) (r:List UInt8): ∃ c q,c0y l++41::r=c::q∧k0t c=false:=by
 cases l with
 |nil=>exact ⟨41,r,by rw [c0y];rfl,by decide⟩
 |cons a l=>
  obtain ⟨q,hq⟩:=i0o a
  exact ⟨40,q++c0y l++41::r,by rw [c0y,hq];simp,by decide⟩
mutual
theorem a1e : ∀ (t u:Aw) (r s:List UInt8),m1h t→m1h u→Cw t++r=Cw u++s→t=u∧r=s
 | .mk k i o l,.mk k2 i2 o2 l2,r,s,ht,hu,h=>by
  rw [m1h] at ht hu
  rw [Cw,Cw] at h
  simp only [List.append_assoc,List.cons_append,List.nil_append,List.cons.injEq,true_and] at h
  obtain ⟨h1,h⟩:=j0w (by decide) (by decide) h
  rw [List.cons.injEq] at h
  obtain ⟨h2,h⟩:=j0w (by decide) (by decide) h.2
  rw [List.cons.injEq] at h
  have h:=h.2
  obtain ⟨c,q,e1,d1⟩:=o0t l r
  obtain ⟨c2,q2,e2,d2⟩:=o0t l2 s
  rw [e1,e2] at h
  obtain ⟨h3,h⟩:=j0w d1 d2 h
  rw [←e1,←e2] at h
  obtain ⟨h4,h5⟩:=u0j l l2 r s ht.2.2.2 hu.2.2.2 h
  refine ⟨?_,h5⟩
  rw [h4,show k=k2 by omega,show i=i2 by omega,show o=o2 by omega]
theorem u0j : ∀ (l l2:List Aw) (r s:List UInt8),k1g l→k1g l2→c0y l++41::r=c0y l2++41::s→l=l2∧r=s
 | [],[],r,s,_,_,h=>by
  rw [c0y,List.nil_append,List.nil_append,List.cons.injEq] at h
  exact ⟨rfl,h.2⟩
 | [],b::l2,r,s,_,_,h=>by
  obtain ⟨q,hq⟩:=i0o b
  rw [c0y,c0y,hq,List.nil_append,List.cons_append,List.cons_append,List.cons.injEq] at h
  exact absurd h.1 (by decide)
 |a::l,[],r,s,_,_,h=>by
  obtain ⟨q,hq⟩:=i0o a
  rw [c0y,c0y,hq,List.nil_append,List.cons_append,List.cons_append,List.cons.injEq] at h
  exact absurd h.1 (by decide)
 |a::l,b::l2,r,s,ha,hb,h=>by
  rw [k1g] at ha hb
  rw [c0y,c0y,List.append_assoc,List.append_assoc] at h
  obtain ⟨h1,h2⟩:=a1e a b _ _ ha.1 hb.1 h
  obtain ⟨h3,h4⟩:=u0j l l2 r s ha.2 hb.2 h2
  exact ⟨by rw [h1,h3],h4⟩
end
theorem l1u {t u:Aw} (ht:wfT t) (hu:wfT u) (h:Cw t=Cw u):t=u:=
 (a1e t u [] [] (h0v t ht.2) (h0v u hu.2) (by rw [h])).1
theorem i0j (t:Aw):t∈Hz t:=by
 obtain ⟨k,i,o,l⟩:=t
 rw [Hz];simp
theorem m0u : ∀ {l:List Aw} {a:Aw},a∈l→∀ x∈Hz a,x∈Hq l
 |b::l,a,ha,x,hx=>by
  rw [Hq,List.mem_append]
  rcases List.mem_cons.mp ha with rfl|ha
  ·exact .inl hx
  ·exact .inr (m0u ha x hx)
theorem u0e : ∀ {l:List Aw} {x:Aw},x∈Hq l→∃ a∈l,x∈Hz a
 | [],x,h=>by rw [Hq] at h;cases h
 |b::l,x,h=>by
  rw [Hq,List.mem_append] at h
  rcases h with h|h
  ·exact ⟨b,by simp,h⟩
  ·obtain ⟨a,ha,hx⟩:=u0e h
   exact ⟨a,by simp [ha],hx⟩
mutual
theorem o0f : ∀ t:Aw,∀ x∈Hz t,∀ a∈x.args,a∈Hz t
 | .mk k i o l,x,hx,a,ha=>by
  rw [Hz,List.mem_cons] at hx ⊢
  rcases hx with rfl|hx
  ·exact .inr (m0u ha a (i0j a))
  ·exact .inr (f0t l x hx a ha)
theorem f0t : ∀ l:List Aw,∀ x∈Hq l,∀ a∈x.args,a∈Hq l
 | [],x,hx,a,ha=>by rw [Hq] at hx;cases hx
 |b::l,x,hx,a,ha=>by
  rw [Hq,List.mem_append] at hx ⊢
  rcases hx with hx|hx
  ·exact .inl (o0f b x hx a ha)
  ·exact .inr (f0t l x hx a ha)
end
mutual
theorem y0j : ∀ t:Aw,wfT t→∀ x∈Hz t,wfT x
 | .mk k i o l,h,x,hx=>by
  rw [Hz,List.mem_cons] at hx
  rcases hx with rfl|hx
  ·exact h
  ·exact m0t l (i0c h) x hx
theorem m0t : ∀ l:List Aw,(∀ a∈l,wfT a)→∀ x∈Hq l,wfT x
 | [],_,x,hx=>by rw [Hq] at hx;cases hx
 |b::l,h,x,hx=>by
  rw [Hq,List.mem_append] at hx
  rcases hx with hx|hx
  ·exact y0j b (h b (by simp)) x hx
  ·exact m0t l (fun a ha=>h a (by simp [ha])) x hx
end
mutual
theorem i0i : ∀ (t:Aw) (d:Int),Gx t d≤300→((Hz t).length:Int)≤Gx t d
 | .mk k i o l,d,h=>by
  rw [Gx] at h ⊢
  split at h
  ·omega
  ·rename_i hd
   have:=l0a l d 1 (by omega) h
   rw [if_neg hd,Hz,List.length_cons]
   omega
theorem l0a : ∀ (l:List Aw) (d n:Int),0≤n→Wz l d n≤300→n+((Hq l).length:Int)≤Wz l d n
 | [],d,n,_,h=>by rw [Wz,Hq];simp
 |a::l,d,n,hn,h=>by
  have h0:=e0d (a::l) d n
  have hc:¬300<n:=by omega
  rw [Wz,if_neg hc] at h ⊢
  have h1:=e0d l d (n+Gx a (d+1))
  have h2:=i0i a (d+1) (by omega)
  have h3:=Rj a (d+1)
  have h4:=l0a l d _ (by omega) h
  rw [Hq,List.length_append]
  omega
end
mutual
theorem a1d : ∀ t:Aw,t.ok→(Cw t).length≤64*(Hz t).length
 | .mk k i o l,h=>by
  rw [Aw.ok] at h
  have h1:=j0x k.toNat (by have:=h.1.2;omega)
  have h2:=j0x i.toNat (by have:=h.2.1.2;omega)
  have h3:=j0x o.toNat (by have:=h.2.2.1.2;omega)
  have h4:=u0i l h.2.2.2.2
  rw [Cw,Hz]
  simp only [List.length_append,List.length_cons,List.length_nil]
  omega
theorem u0i : ∀ l:List Aw,Dv l→(c0y l).length≤64*(Hq l).length
 | [],_=>by rw [c0y];simp
 |a::l,h=>by
  rw [Dv] at h
  have h1:=a1d a h.1
  have h2:=u0i l h.2
  rw [c0y,Hq,List.length_append,List.length_append]
  omega
end
theorem m0r : ∀ {l:List Aw} {a:Aw},a∈l→(Hz a).length≤(Hq l).length
 |b::l,a,h=>by
  rw [Hq,List.length_append]
  rcases List.mem_cons.mp h with rfl|h
  ·omega
  ·have:=m0r h;omega
theorem i0k {t x:Aw} (h:x∈Hz t):(Hz x).length≤(Hz t).length:=by
 have key:(∀ t:Aw,∀ x∈Hz t,(Hz x).length≤(Hz t).length):=by
  intro t
  refine Aw.rec (motive_1:=fun t=>∀ x∈Hz t,(Hz x).length≤(Hz t).length) (motive_2:=fun l=>∀ x∈Hq l,(Hz x).length≤(Hq l).length) ?_ ?_ ?_ t
  ·intro k i o l ih x hx
   rw [Hz,List.mem_cons] at hx
   rcases hx with rfl|hx
   ·exact Nat.le_refl _
   ·have:=ih x hx
    rw [Hz,List.length_cons];omega
  ·intro x hx;rw [Hq] at hx;cases hx
  ·intro a l h1 h2 x hx
   rw [Hq,List.mem_append] at hx
   rw [Hq,List.length_append]
   rcases hx with hx|hx
   ·have:=h1 x hx;omega
   ·have:=h2 x hx;omega
 exact key t x h
theorem e1v (l:List Aw):l.length≤(Hq l).length:=by
 induction l with
 |nil=>simp
 |cons a l ih=>
  obtain ⟨k,i,o,m⟩:=a
  rw [Hq,Hz,List.length_append,List.length_cons,List.length_cons]
  omega
theorem c1c {s u:List UInt8} (n:Int) (h:¬s=u): ∀ l:Mp,getM (Dk l s n) u=getM l u
 | []=>by rw [Dk,getM];exact if_neg h
 |x::r=>by
  rw [Dk]
  by_cases hx:x.1=s
  ·rw [if_pos hx,getM,if_neg h,getM,if_neg (by rw [hx];exact h)]
  ·rw [if_neg hx,getM,getM,c1c n h r]
theorem v0d {s:List UInt8}: ∀ {l:Mp},¬getM l s=0→∃ x∈l,x.1=s
 | [],h=>absurd rfl h
 |x::r,h=>by
  rw [getM] at h
  split at h
  ·rename_i hx;exact ⟨x,by simp,hx⟩
  ·obtain ⟨y,hy,e⟩:=v0d h
   exact ⟨y,by simp [hy],e⟩
theorem put_mem {s:List UInt8} {n:Int}: ∀ {l:Mp} {x:List UInt8×Int},x∈Dk l s n→x∈l∨x=(s,n)
 | [],x,h=>by rw [Dk] at h;exact .inr (List.mem_singleton.mp h)
 |y::r,x,h=>by
  rw [Dk] at h
  split at h
  ·rcases List.mem_cons.mp h with h|h
   ·exact .inr h
   ·exact .inl (by simp [h])
  ·rcases List.mem_cons.mp h with h|h
   ·exact .inl (by simp [h])
   ·rcases put_mem h with h|h
    ·exact .inl (by simp [h])
    ·exact .inr h
def j0h (l:Mp):List (List UInt8):=l.map (·.1)
theorem r0s {s:List UInt8} (n:Int): ∀ {l:Mp},s∉j0h l→Dk l s n=l++[(s,n)]
 | [],_=>by rw [Dk];rfl
 |x::r,h=>by
  rw [j0h,List.map_cons,List.mem_cons,not_or] at h
  rw [Dk,if_neg (Ne.symm h.1),r0s n h.2];rfl
def Zv (l:Mp):Prop:=∀ x∈l,x.2=1
theorem r0r {s:List UInt8}: ∀ {l:Mp},Zv l→s∈j0h l→Dk l s 1=l
 | [],_,h=>by cases h
 |x::r,ho,h=>by
  rw [Dk]
  split
  ·rename_i hx
   obtain ⟨a,b⟩:=x
   have:b=1:=ho (a,b) (by simp)
   rw [this,←hx]
  ·rename_i hx
   rw [j0h,List.map_cons,List.mem_cons] at h
   rcases h with h|h
   ·exact absurd h.symm hx
   ·rw [r0r (fun y hy=>ho y (by simp [hy])) h]
structure Grow (a b:Mp):Prop where
 le:a.length≤b.length
 eq:b.length=a.length→b=a
 mo: ∀ t,knB a t=true→knB b t=true
theorem Grow.refl (a:Mp):Grow a a:=⟨Nat.le_refl _,fun _=>rfl,fun _ h=>h⟩
theorem Grow.trans {a b c:Mp} (h:Grow a b) (g:Grow b c):Grow a c:=
 ⟨Nat.le_trans h.le g.le,fun e=>by
  have h1:=h.le
  have h2:=g.le
  rw [g.eq (by omega),h.eq (by omega)],fun t k=>g.mo t (h.mo t k)⟩
theorem c0k {l:Mp} (ho:Zv l) (s:List UInt8):Grow l (Dk l s 1):=by
 have hm: ∀ t,knB l t=true→knB (Dk l s 1) t=true:=by
  intro t h
  rw [knB,decide_eq_true_eq] at h ⊢
  by_cases hs:s=Cw t
  ·rw [hs,n0p]
  ·rw [c1c 1 hs,h]
 by_cases h:s∈j0h l
 ·rw [r0r ho h] at hm ⊢;exact Grow.refl l
 ·rw [r0s 1 h] at hm ⊢
  refine ⟨by simp,fun e=>?_,hm⟩
  simp at e
structure MpOk (AL:List Aw) (Q:Aw→Prop) (l:Mp):Prop where
 one:Zv l
 key: ∀ x∈l,∃ t∈AL,x.1=Cw t∧Q t
 nd:(j0h l).Nodup
theorem Vq {AL:List Aw} {Q:Aw→Prop} {l:Mp} (h:MpOk AL Q l) {t:Aw} (ht:t∈AL) (hq:Q t):MpOk AL Q (Dk l (Cw t) 1):=by
 by_cases hk:Cw t∈j0h l
 ·rw [r0r h.one hk];exact h
 ·rw [r0s 1 hk]
  refine ⟨fun x hx=>?_,fun x hx=>?_,?_⟩
  ·rcases List.mem_append.mp hx with hx|hx
   ·exact h.one x hx
   ·rw [List.mem_singleton.mp hx]
  ·rcases List.mem_append.mp hx with hx|hx
   ·exact h.key x hx
   ·rw [List.mem_singleton.mp hx];exact ⟨t,ht,rfl,hq⟩
  ·rw [j0h,List.map_append,List.nodup_append]
   refine ⟨h.nd,by simp,?_⟩
   intro a ha b hb
   simp only [List.map_cons,List.map_nil,List.mem_singleton] at hb
   rintro rfl
   rw [hb] at ha
   exact hk ha
theorem p1t {AL:List Aw} {Q:Aw→Prop} {l:Mp} (h:MpOk AL Q l) (hA: ∀ x∈AL,wfT x) {t:Aw} (ht:wfT t) (hk:knB l t=true):t∈AL∧Q t:=by
 rw [knB,decide_eq_true_eq] at hk
 obtain ⟨x,hx,hs⟩:=v0d (l:=l) (s:=Cw t) (by rw [hk];decide)
 obtain ⟨u,hu,he,hq⟩:=h.key x hx
 have:t=u:=l1u ht (hA u hu) (by rw [←hs,he])
 rw [this];exact ⟨hu,hq⟩
theorem u0u {α:Type} [DecidableEq α]: ∀ {a b:List α},a.Nodup→(∀ x∈a,x∈b)→a.length≤b.length
 | [],_,_,_=>Nat.zero_le _
 |x::a,b,hn,h=>by
  rw [List.nodup_cons] at hn
  have hx:=h x (by simp)
  have hp:0<b.length:=List.length_pos_of_mem hx
  have ih:=u0u (a:=a) (b:=b.erase x) hn.2 fun y hy=>by
   have hne:y≠x:=fun e=>hn.1 (e▸hy)
   exact (List.mem_erase_of_ne hne).mpr (h y (by simp [hy]))
  rw [List.length_erase_of_mem hx] at ih
  rw [List.length_cons];omega
theorem a1u {AL:List Aw} {Q:Aw→Prop} {l:Mp} (h:MpOk AL Q l):l.length≤AL.length:=by
 have:=u0u (a:=j0h l) (b:=AL.map Cw) h.nd fun x hx=>by
  obtain ⟨y,hy,rfl⟩:=List.mem_map.mp hx
  obtain ⟨t,ht,he,_⟩:=h.key y hy
  exact List.mem_map.mpr ⟨t,ht,he.symm⟩
 simpa [j0h] using this
end Go.Sy
namespace Go.Sy
theorem d1g {mp:Mp}: ∀ {l:List Aw},y0d mp l=l.length→∀ a∈l,knB mp a=true
 | [],_,a,h=>by cases h
 |b::l,h,a,ha=>by
  have hle:=d1f mp l
  rw [b0w,List.length_cons] at h
  split at h
  ·rename_i hb
   rcases List.mem_cons.mp ha with rfl|ha
   ·exact hb
   ·exact d1g (by omega) a ha
  ·omega
theorem e1m {mp:Mp}: ∀ {l:List Aw},(∀ a∈l,knB mp a=true)→y0d mp l=l.length
 | [],_=>rfl
 |b::l,h=>by
  rw [b0w,if_pos (h b (by simp)),e1m fun a ha=>h a (by simp [ha]),List.length_cons];omega
theorem l0t {b:List Aw}: ∀ {l:List Aw},(∀ a∈l,Gj b a=true)→Tz b l=true
 | [],_=>l0s b
 |a::l,h=>by rw [Ux,h a (by simp),l0t fun x hx=>h x (by simp [hx])];rfl
theorem m0l {b:List Aw}: ∀ {l:List Aw},Tz b l=true→∀ a∈l,Gj b a=true
 | [],_,a,h=>by cases h
 |c::l,h,a,ha=>by
  rw [Ux,Bool.and_eq_true] at h
  rcases List.mem_cons.mp ha with rfl|ha
  ·exact h.1
  ·exact m0l h.2 a ha
theorem p0u {b:List Aw} {t:Aw} (h:hasB b t=true):Gj b t=true:=by
 obtain ⟨k,i,o,l⟩:=t
 rw [Zj,h];rfl
theorem y0k {b:List Aw} (h:Xz b=none) {t x:Aw} (ht:t∈b) (hx:x∈b0i b t):hasB b x=true:=by
 have:=List.find?_eq_none.mp h x (List.mem_flatMap.mpr ⟨t,ht,hx⟩)
 simpa using this
theorem l1c {k i o:Int} {l:List Aw} (h:wfT (.mk k i o l)):(0≤i∧i≤9223372036854775807)∧0≤o∧o≤9223372036854775807:=by
 have h1:=h.1
 have h2:=h0v _ h.2
 rw [Aw.ok] at h1
 rw [m1h] at h2
 exact ⟨⟨h2.2.1,h1.2.1.2⟩,h2.2.2.1,h1.2.2.1.2⟩
theorem t0z {k n:Int} (hk:k=1∨k=2) (hn:0≤n∧n≤9223372036854775807):wfT (.mk k n 0 []):=by
 refine ⟨?_,?_⟩
 ·rw [Aw.ok,Dv]
  refine ⟨?_,⟨by omega,hn.2⟩,⟨by decide,by decide⟩,by decide,trivial⟩
  rcases hk with rfl|rfl<;>exact ⟨by decide,by decide⟩
 ·rw [Bz]
  rcases hk with rfl|rfl
  ·rw [if_neg (by decide),if_pos (by simp [okT,g0m,hn.1]),Cv]
  ·rw [if_neg (by decide),if_pos (by simp [okT,g0m,hn.1]),Cv]
theorem x0y {b:List Aw} {n:Int} (h:Gj b (.mk 1 n 0 [])=true):Sq b n=true:=by
 rw [Zj,if_pos rfl,Bool.or_false] at h;exact h
theorem a1n {b:List Aw} {n:Int} (h:Gj b (.mk 2 n 0 [])=true):p0e b n=true:=by
 rw [Zj,if_neg (by decide),if_pos rfl] at h
 rw [p0e,Bool.or_comm];exact h
theorem mk_Q {AL F:List Aw} (hA: ∀ x∈AL,wfT x) (hC: ∀ x∈AL,∀ a∈x.args,a∈AL) {mp:Mp} (h:MpOk AL (fun t=>Gj F t=true) mp) {x:Aw} (hx:x∈AL) (hm:mkB mp x=true):Gj F x=true:=by
 obtain ⟨k,i,o,l⟩:=x
 have hn:=l1c (hA _ hx)
 have ka: ∀ n:Int,0≤n∧n≤9223372036854775807→kaB mp n=true→Sq F n=true:=fun n hn hk=>x0y (p1t h hA (t0z (.inl rfl) hn) hk).2
 have kp: ∀ n:Int,0≤n∧n≤9223372036854775807→kpB mp n=true→p0e F n=true:=fun n hn hk=>by
  rw [kpB,Bool.or_eq_true] at hk
  rcases hk with hk|hk
  ·rw [p0e,ka n hn hk];rfl
  ·exact a1n (p1t h hA (t0z (.inr rfl) hn) hk).2
 rw [Zj,Bool.or_eq_true]
 rw [mkB] at hm
 refine .inr ?_
 split
 ·rename_i h1;rw [if_pos h1] at hm;cases hm
 ·rename_i h1
  rw [if_neg h1] at hm
  split
  ·rename_i h2;rw [if_pos h2] at hm;exact ka i hn.1 hm
  ·rename_i h2
   rw [if_neg h2] at hm
   split
   ·rename_i h3
    rw [if_pos h3,kdB,Bool.or_eq_true,Bool.and_eq_true,Bool.and_eq_true] at hm
    rw [dhB,Bool.or_eq_true,Bool.and_eq_true,Bool.and_eq_true]
    rcases hm with hm|hm
    ·exact .inl ⟨ka i hn.1 hm.1,kp o hn.2 hm.2⟩
    ·exact .inr ⟨ka o hn.2 hm.1,kp i hn.1 hm.2⟩
   ·rename_i h3
    rw [if_neg h3,decide_eq_true_eq] at hm
    exact l0t fun a ha=>(p1t h hA (hA a (hC _ hx a ha)) (d1g hm a ha)).2
theorem k1h {F:List Aw} (hF:Xz F=none) {k i o:Int} {l:List Aw} (hk:¬k=1∧¬k=2∧¬k=3) (hq:Gj F (.mk k i o l)=true) {a:Aw} (ha:a∈l) (ho: .mk k i o l∈F→a∈b0i F (.mk k i o l)):Gj F a=true:=by
 rw [Zj,Bool.or_eq_true,if_neg hk.1,if_neg hk.2.1,if_neg hk.2.2] at hq
 rcases hq with hq|hq
 ·have hm:=a0d.mp hq
  exact p0u (y0k hF hm (ho hm))
 ·exact m0l hq a ha
theorem u1m {AL F:List Aw} (hA: ∀ x∈AL,wfT x) (hC: ∀ x∈AL,∀ a∈x.args,a∈AL) (hF:Xz F=none) {mp:Mp} (h:MpOk AL (fun t=>Gj F t=true) mp) {x:Aw} (hx:x∈AL) (hk:knB mp x=true):MpOk AL (fun t=>Gj F t=true) (opM mp x):=by
 have hq:=(p1t h hA (hA x hx) hk).2
 obtain ⟨k,i,o,l⟩:=x
 have hargs:=hC _ hx
 by_cases h4:k=4
 ·subst h4
  obtain ⟨a,b,rfl⟩:=len2 ((a0w (hA _ hx)).trans rfl)
  rw [t1l i o rfl]
  have hop: ∀ y∈[a,b],Gj F y=true:=fun y hy=>k1h hF (by decide) hq hy fun _=>by rw [b0i,if_pos rfl];exact hy
  exact Vq (Vq h (hargs a (by simp [Aw.args])) (hop a (by simp))) (hargs b (by simp [Aw.args])) (hop b (by simp))
 ·by_cases h7:k=7
  ·subst h7
   obtain ⟨a,b,c,rfl⟩:=n1t ((a0w (hA _ hx)).trans rfl)
   cases ha:knB mp a with
   |false=>rw [m1r i o rfl ha];exact h
   |true=>
    rw [g1a i o rfl ha]
    have haq:=(p1t h hA (hA a (hargs a (by simp [Aw.args]))) ha).2
    refine Vq h (hargs c (by simp [Aw.args])) (k1h hF (by decide) hq (by simp) fun _=>?_)
    rw [b0i,if_neg (by decide),if_pos rfl,if_pos (by simpa using haq)]
    simp
  ·rw [n0f mp i o l h4 h7];exact h
theorem e1x {AL F:List Aw} (hA: ∀ x∈AL,wfT x) (hC: ∀ x∈AL,∀ a∈x.args,a∈AL) (hF:Xz F=none) {mp:Mp} (h:MpOk AL (fun t=>Gj F t=true) mp) {x:Aw} (hx:x∈AL):MpOk AL (fun t=>Gj F t=true) (stepM mp x):=by
 have h1:MpOk AL (fun t=>Gj F t=true) (b0j mp x):=by
  rw [b0j];split
  ·rename_i hm;exact Vq h hx (mk_Q hA hC h hx hm)
  ·exact h
 rw [stepM];split
 ·rename_i hk;exact u1m hA hC hF h1 hx hk
 ·exact h1
theorem u0q {AL F:List Aw} (hA: ∀ x∈AL,wfT x) (hC: ∀ x∈AL,∀ a∈x.args,a∈AL) (hF:Xz F=none): ∀ {l:List Aw} {mp:Mp},(∀ x∈l,x∈AL)→MpOk AL (fun t=>Gj F t=true) mp→MpOk AL (fun t=>Gj F t=true) (Iz mp l)
 | [],_,_,h=>h
 |a::l,mp,hl,h=>by
  rw [c0l]
  exact u0q hA hC hF (fun x hx=>hl x (by simp [hx])) (e1x hA hC hF h (hl a (by simp)))
theorem Zw {mp:Mp} (h:Zv mp) (s:List UInt8):Zv (Dk mp s 1):=fun x hx=>by
 rcases put_mem hx with hx|rfl
 ·exact h x hx
 ·rfl
theorem e0n {mp:Mp} (h:Zv mp) (x:Aw):Zv (b0j mp x)∧Grow mp (b0j mp x):=by
 rw [b0j];split
 ·exact ⟨Zw h _,c0k h _⟩
 ·exact ⟨h,Grow.refl _⟩
theorem m1p {mp:Mp} (h:Zv mp) (x:Aw):Zv (opM mp x)∧Grow mp (opM mp x):=by
 obtain ⟨k,i,o,l⟩:=x
 rw [opM];split
 ·exact ⟨Zw (Zw h _) _,(c0k h _).trans (c0k (Zw h _) _)⟩
 ·split
  ·split
   ·exact ⟨Zw h _,c0k h _⟩
   ·exact ⟨h,Grow.refl _⟩
  ·exact ⟨h,Grow.refl _⟩
theorem e0b {mp:Mp} (h:Zv mp) (x:Aw):Zv (stepM mp x)∧Grow (b0j mp x) (stepM mp x):=by
 have h1:=e0n h x
 rw [stepM];split
 ·exact m1p h1.1 x
 ·exact ⟨h1.1,Grow.refl _⟩
theorem b0h : ∀ {l:List Aw} {mp:Mp},Zv mp→Zv (Iz mp l)∧Grow mp (Iz mp l)
 | [],mp,h=>⟨h,Grow.refl _⟩
 |a::l,mp,h=>by
  have h1:=e0n h a
  have h2:=e0b h a
  have h3:=b0h (l:=l) h2.1
  rw [c0l]
  exact ⟨h3.1,(h1.2.trans h2.2).trans h3.2⟩
theorem u0r : ∀ {l:List Aw} {mp:Mp},Zv mp→Iz mp l=mp→∀ x∈l,stepM mp x=mp
 | [],_,_,_,x,hx=>by cases hx
 |a::l,mp,h,he,x,hx=>by
  have h1:=(e0n h a).2.trans (e0b h a).2
  have h3:=b0h (l:=l) (e0b h a).1
  rw [c0l] at he
  have hs:stepM mp a=mp:=h1.eq (by
   have e1:=h1.le
   have e2:=h3.2.le
   rw [he] at e2;omega)
  rw [hs] at he
  rcases List.mem_cons.mp hx with rfl|hx
  ·exact hs
  ·exact u0r h he x hx
theorem k1n {mp:Mp} (h:Zv mp) {x:Aw} (hs:stepM mp x=mp):(mkB mp x=true→knB mp x=true)∧(knB mp x=true→opM mp x=mp):=by
 have h1:=(e0n h x).2
 have h2:=(e0b h x).2
 rw [hs] at h2
 have hm:b0j mp x=mp:=h1.eq (by have:=h1.le;have:=h2.le;omega)
 constructor
 ·intro hk
  rw [←hm,b0j,if_pos hk];exact d0b mp x
 ·intro hk
  rw [stepM,hm,if_pos hk] at hs;exact hs
mutual
theorem n0i {AL:List Aw} {FM:Mp} (hC: ∀ x∈AL,∀ a∈x.args,a∈AL) (ho:Zv FM) (hfix: ∀ x∈AL,stepM FM x=FM) {b:List Aw} (hb: ∀ t∈b,knB FM t=true): ∀ y:Aw,y∈AL→Gj b y=true→knB FM y=true
 | .mk k i o l,hy,h=>by
  rw [Zj,Bool.or_eq_true] at h
  rcases h with h|h
  ·exact hb _ (a0d.mp h)
  ·have ka: ∀ n:Int,Sq b n=true→kaB FM n=true:=fun n h=>hb _ (a0d.mp h)
   have kp: ∀ n:Int,p0e b n=true→kpB FM n=true:=fun n h=>by
    rw [p0e,Bool.or_eq_true] at h
    rw [kpB,Bool.or_eq_true]
    rcases h with h|h
    ·exact .inl (ka n h)
    ·exact .inr (hb _ (a0d.mp h))
   refine (k1n ho (hfix _ hy)).1 ?_
   rw [mkB]
   split
   ·rename_i h1;rw [if_pos h1] at h;cases h
   ·rename_i h1
    rw [if_neg h1] at h
    split
    ·rename_i h2;rw [if_pos h2] at h;exact ka i h
    ·rename_i h2
     rw [if_neg h2] at h
     split
     ·rename_i h3
      rw [if_pos h3,dhB,Bool.or_eq_true,Bool.and_eq_true,Bool.and_eq_true] at h
      rw [kdB,Bool.or_eq_true,Bool.and_eq_true,Bool.and_eq_true]
      rcases h with h|h
      ·exact .inl ⟨ka i h.1,kp o h.2⟩
      ·exact .inr ⟨ka o h.1,kp i h.2⟩
     ·rename_i h3
      rw [if_neg h3] at h
      exact decide_eq_true_eq.mpr (e1m (p0r hC ho hfix hb l (fun a ha=>hC _ hy a ha) h))
theorem p0r {AL:List Aw} {FM:Mp} (hC: ∀ x∈AL,∀ a∈x.args,a∈AL) (ho:Zv FM) (hfix: ∀ x∈AL,stepM FM x=FM) {b:List Aw} (hb: ∀ t∈b,knB FM t=true): ∀ l:List Aw,(∀ a∈l,a∈AL)→Tz b l=true→∀ a∈l,knB FM a=true
 | [],_,_,a,ha=>by cases ha
 |c::l,hl,h,a,ha=>by
  rw [Ux,Bool.and_eq_true] at h
  have h1:=n0i hC ho hfix hb c (hl c (by simp)) h.1
  have h2:=p0r hC ho hfix hb l (fun x hx=>hl x (by simp [hx])) h.2
  rcases List.mem_cons.mp ha with e|ha
  ·rw [e];exact h1
  ·exact h2 a ha
end
theorem l1a {AL:List Aw} {FM:Mp} (hA: ∀ x∈AL,wfT x) (hC: ∀ x∈AL,∀ a∈x.args,a∈AL) (ho:Zv FM) (hfix: ∀ x∈AL,stepM FM x=FM): ∀ {n:Nat} {b:List Aw},(∀ t∈b,t∈AL∧knB FM t=true)→∀ t∈Tj n b,t∈AL∧knB FM t=true
 |0,b,h,t,ht=>h t ht
 |n+1,b,h,t,ht=>by
  cases hs:Xz b with
  |none=>rw [Uj hs] at ht;exact h t ht
  |some x=>
   rw [b0q hs] at ht
   refine l1a hA hC ho hfix (n:=n) (b:=b++[x]) (fun u hu=>?_) t ht
   rcases List.mem_append.mp hu with hu|hu
   ·exact h u hu
   ·rw [List.mem_singleton.mp hu]
    obtain ⟨_,v,hv,hx⟩:=u0f hs
    have hvA:=(h v hv).1
    refine ⟨hC v hvA x (h0o hx),?_⟩
    have hop:=(k1n ho (hfix v hvA)).2 (h v hv).2
    obtain ⟨k,i,o,l⟩:=v
    rw [b0i] at hx
    split at hx
    ·rename_i h4
     subst h4
     obtain ⟨p,q,rfl⟩:=len2 ((a0w (hA _ hvA)).trans rfl)
     rw [t1l i o rfl] at hop
     have hp:knB FM p=true:=by
      rw [←hop];exact (c0k (Zw ho _) _).mo _ (d0b FM p)
     have hq:knB FM q=true:=by
      rw [←hop];exact d0b _ q
     simp only [List.mem_cons,List.not_mem_nil,or_false] at hx
     rcases hx with rfl|rfl
     ·exact hp
     ·exact hq
    ·split at hx
     ·rename_i h7
      subst h7
      obtain ⟨p,q,r,rfl⟩:=n1t ((a0w (hA _ hvA)).trans rfl)
      split at hx
      ·rename_i hm
       have hp:=n0i hC ho hfix (fun t ht=>(h t ht).2) p (hC _ hvA p (by simp [Aw.args])) (by simpa using hm)
       rw [g1a i o rfl hp] at hop
       obtain rfl:x=r:=by simpa using hx
       rw [←hop];exact d0b _ x
      ·cases hx
     ·cases hx
theorem b0r {U:List Aw} (hU:b0x U): ∀ {n:Nat} {b:List Aw},BagOk U n b→Xz (Tj n b)=none∧(∀ t∈b,t∈Tj n b)∧∀ t∈Tj n b,t∈U
 |0,b,h=>by
  cases hs:Xz b with
  |none=>exact ⟨by rw [Tj,hs],fun t ht=>ht,h.sub⟩
  |some x=>
   obtain ⟨n',e,_⟩:=n0z hU h hs
   omega
 |n+1,b,h=>by
  cases hs:Xz b with
  |none=>rw [Uj hs];exact ⟨hs,fun t ht=>ht,h.sub⟩
  |some x=>
   obtain ⟨n',e,h'⟩:=n0z hU h hs
   obtain rfl:n=n':=by omega
   rw [b0q hs]
   obtain ⟨h1,h2,h3⟩:=b0r hU h'
   exact ⟨h1,fun t ht=>h2 t (by simp [ht]),h3⟩
theorem z0y {AL:List Aw} {Q:Aw→Prop}: ∀ {l:List Aw} {mp:Mp},(∀ t∈l,t∈AL∧Q t)→MpOk AL Q mp→MpOk AL Q (b0d mp l)
 | [],_,_,h=>h
 |a::l,mp,hl,h=>by
  rw [f0w]
  exact z0y (fun t ht=>hl t (by simp [ht])) (Vq h (hl a (by simp)).1 (hl a (by simp)).2)
theorem z0z : ∀ {l:List Aw} {mp:Mp},Zv mp→(∀ t,knB mp t=true→knB (b0d mp l) t=true)∧∀ t∈l,knB (b0d mp l) t=true
 | [],_,_=>⟨fun _ h=>h,fun t h=>by cases h⟩
 |a::l,mp,h=>by
  obtain ⟨h1,h2⟩:=z0z (l:=l) (Zw h (Cw a))
  rw [f0w]
  refine ⟨fun t ht=>h1 t ((c0k h _).mo t ht),fun t ht=>?_⟩
  rcases List.mem_cons.mp ht with rfl|ht
  ·exact h1 _ (d0b mp _)
  ·exact h2 t ht
theorem k1l (AL:List Aw) (Q:Aw→Prop):MpOk AL Q []:=⟨fun _ h=>(by cases h),fun _ h=>(by cases h),by simp [j0h]⟩
theorem u0v {AL:List Aw} {Q:Aw→Prop} (hp: ∀ mp,MpOk AL Q mp→MpOk AL Q (Iz mp AL)): ∀ {n:Nat} {mp:Mp},MpOk AL Q mp→AL.length-mp.length≤n→MpOk AL Q (a0t AL n mp)∧Iz (a0t AL n mp) AL=a0t AL n mp∧Grow mp (a0t AL n mp)
 |0,mp,h,hn=>by
  have h1:=a1u (hp mp h)
  have h2:=(b0h (l:=AL) h.one).2
  have he:Iz mp AL=mp:=h2.eq (by have:=h2.le;omega)
  rw [a0t,he,he];exact ⟨h,rfl,Grow.refl _⟩
 |n+1,mp,h,hn=>by
  have h2:=(b0h (l:=AL) h.one).2
  rw [a0t]
  split
  ·rename_i hl
   have he:=h2.eq hl
   rw [he,he];exact ⟨h,rfl,Grow.refl _⟩
  ·rename_i hl
   have h3:=a1u (hp mp h)
   obtain ⟨g1,g2,g3⟩:=u0v hp (n:=n) (hp mp h) (by have:=h2.le;omega)
   exact ⟨g1,g2,h2.trans g3⟩
theorem n0j {l l2:List Aw} {t:Aw} (hl: ∀ a∈l,wfT a) (hm: ∀ x,x∈l↔x∈l2) (ht:wfT t) {AL F:List Aw} {n0:Nat} {FM:Mp} (hA:Hz t++Hq l=AL) (hB:BagOk AL n0 l2) (hF:Tj n0 l2=F) (hFM:a0t AL AL.length (b0d [] l)=FM):
  b0x AL∧(∀ q,MpOk AL (fun t=>Gj F t=true) q→MpOk AL (fun t=>Gj F t=true) (Iz q AL)∧q.length≤(Iz q AL).length∧q.length≤AL.length)∧MpOk AL (fun t=>Gj F t=true) (b0d [] l)∧knB FM t=Gj F t:=by
 have hw: ∀ x∈AL,wfT x:=fun x hx=>by
  rw [←hA,List.mem_append] at hx
  rcases hx with hx|hx
  ·exact y0j t ht x hx
  ·exact m0t l hl x hx
 have hc: ∀ x∈AL,∀ a∈x.args,a∈AL:=fun x hx a ha=>by
  rw [←hA,List.mem_append] at hx ⊢
  rcases hx with hx|hx
  ·exact .inl (o0f t x hx a ha)
  ·exact .inr (f0t l x hx a ha)
 have hU:b0x AL:=fun x hx=>⟨hw x hx,hc x hx⟩
 have htA:t∈AL:=by rw [←hA];simp [i0j]
 obtain ⟨f1,f2,f3⟩:=b0r hU hB
 rw [hF] at f1 f2 f3
 have hp: ∀ q,MpOk AL (fun t=>Gj F t=true) q→MpOk AL (fun t=>Gj F t=true) (Iz q AL):=fun q hq=>u0q hw hc f1 (fun _ h=>h) hq
 have hseed:MpOk AL (fun t=>Gj F t=true) (b0d [] l):=z0y (fun x hx=>⟨f3 x (f2 x ((hm x).mp hx)),p0u (a0d.mpr (f2 x ((hm x).mp hx)))⟩) (k1l _ _)
 refine ⟨hU,fun q hq=>⟨hp q hq,(b0h hq.one).2.le,a1u hq⟩,hseed,?_⟩
 obtain ⟨g1,g2,g3⟩:=u0v hp (n:=AL.length) hseed (Nat.sub_le _ _)
 rw [hFM] at g1 g2 g3
 have hfix:=u0r g1.one g2
 have hlk: ∀ x∈l2,x∈AL∧knB FM x=true:=fun x hx=>⟨f3 x (f2 x hx),g3.mo x ((z0z (k1l AL (fun _=>True)).one).2 x ((hm x).mpr hx))⟩
 have hbk:=l1a hw hc g1.one hfix (n:=n0) hlk
 rw [hF] at hbk
 cases hk:Gj F t with
 |true=>exact n0i hc g1.one hfix (fun x hx=>(hbk x hx).2) t htA hk
 |false=>
  cases hk2:knB FM t with
  |false=>rfl
  |true=>rw [(p1t g1 hw ht hk2).2] at hk;cases hk
end Go.Sy
namespace Go.Sy
open Go.Proofs
attribute [local irreducible] Ey HT Bq Tk onC onE onO onG goV goA goS Wv Fx
theorem u0d : ∀ (l:List Aw) (n:Int),0≤n→g0p Gx l n≤300→n+((Hq l).length:Int)≤g0p Gx l n
 | [],n,_,_=>by rw [Zx,Hq];simp
 |a::l,n,hn,h=>by
  rw [Nz] at h ⊢
  by_cases hb:300<n+Gx a 1
  · rw [if_pos hb] at h;omega
  · rw [if_neg hb] at h ⊢
    have h1:=Rj a 1
    have h2:=i0i a 1 (by omega)
    have h3:=u0d l _ (by omega) h
    rw [Hq,List.length_append];omega
theorem k0z : ∀ (l:List Aw) (n:Int),0≤n→(300<g0p Gx l n↔300<g0p Dq l n)
 | [],n,_=>by rw [Zx,Zx]
 |a::l,n,hn=>by
  have h1:=Rj a 1
  rw [Nz,Nz]
  rcases f0u a 1 with ⟨h,e⟩|⟨h,e⟩
  · rw [e];split
    · exact Iff.rfl
    · exact k0z l _ (by omega)
  · rw [if_pos (by omega),if_pos (by omega)];omega
theorem d0p (l:List Aw):Fj Dq l=Fj Gx l:=by
 have h:=k0z l 0 (by omega)
 rw [Fj,Fj]
 by_cases h1:300<g0p Gx l 0
 · rw [if_pos h1,if_pos (h.mp h1)]
 · rw [if_neg h1,if_neg (fun q=>h1 (h.mpr q))]
theorem w0w {l:List Aw} (h:Fj Gx l=0):(Hq l).length≤300∧∀ a∈l,Bz a=0:=by
 rw [Fj] at h
 split at h
 · simp at h
 · rename_i hs
   have:=u0d l 0 (by omega) (by omega)
   exact ⟨by omega,g0f h⟩
theorem x0g {t:Aw} (h:Mq t=0):(Hz t).length≤300∧Bz t=0:=by
 rw [Mq] at h
 split at h
 · simp at h
 · have:=i0i t 1 (by omega)
   exact ⟨by omega,h⟩
theorem v0e : ∀ (n:Nat) (b:List Aw),(Tj n b).length≤b.length+n
 |0,b=>Nat.le_refl _
 |n+1,b=>by
  rw [Tj];split
  · omega
  · have:=v0e n (b++[‹Aw›]);simp only [List.length_append,List.length_cons,List.length_nil] at this;omega
def allT (l:List Aw) (t:Aw):List Aw:=Hz t++Hq l
def t1g (l:List Aw) (t:Aw):List Aw:=Tj (rkB (allT l t) l) l
def p1s (l:List Aw) (t:Aw):Mp:=a0t (allT l t) (allT l t).length (b0d [] l)
def n0k (l:List Aw) (t:Aw):Int:=if Fj Gx l=0 then Mq t else Fj Gx l
def b1l (l:List Aw) (t:Aw):Bool:=decide (n0k l t=0)&&Gj (t1g l t) t
def g1s (l:List Aw) (t:Aw):Bool:=decide (n0k l t=0)&&knB (p1s l t) t
structure k0k (l:List Aw) (t:Aw):Prop where
 wl: ∀ a∈l,wfT a
 wt:wfT t
 sl:(Hq l).length≤300
 st:(Hz t).length≤300
theorem s0c {l:List Aw} {t:Aw} (hk:Dv l) (ht:t.ok) (hf:Fj Gx l=0) (hg:Mq t=0):k0k l t:=by
 have h1:=w0w hf
 have h2:=x0g hg
 exact ⟨fun a ha=>⟨Dz hk a ha,h1.2 a ha⟩,⟨ht,h2.2⟩,h1.1,h2.1⟩
theorem k0k.bag {l l2:List Aw} {t:Aw} (h:k0k l t) (hm: ∀ x,x∈l↔x∈l2):BagOk (allT l t) (rkB (allT l t) l2) l2∧rkB (allT l t) l2≤600:=by
 refine ⟨⟨fun x hx=>?_,Nat.le_refl _⟩,?_⟩
 · exact List.mem_append.mpr (.inr (m0u ((hm x).mpr hx) x (i0j x)))
 · have h1:=List.length_filter_le (fun u=>!hasB l2 u) (allT l t)
   rw [rkB]
   have h2:=h.sl
   have h3:=h.st
   have h4:(allT l t).length=(Hz t).length+(Hq l).length:=by rw [allT,List.length_append]
   omega
theorem k0k.closed {l:List Aw} {t:Aw} (h:k0k l t):b0x (allT l t):=
 (n0j h.wl (fun x=>Iff.rfl) h.wt (rfl:Hz t++Hq l=allT l t) (h.bag fun x=>Iff.rfl).1 rfl (rfl:_=p1s l t)).1
theorem p0y : ∀ (n m:Nat) (b:List Aw),Xz (Tj n b)=none→Xz (Tj m b)=none→Tj n b=Tj m b
 |0,m,b,h,_=>by rw [Uj (n:=m) (b:=b) h];rfl
 |n+1,0,b,_,h=>by rw [Uj (n:=n+1) (b:=b) h];rfl
 |n+1,m+1,b,h,g=>by
  cases hs:Xz b with
  |none=>rw [Uj hs,Uj hs]
  |some x=>
   rw [b0q hs] at h ⊢
   rw [b0q hs] at g ⊢
   exact p0y n m _ h g
theorem g1r {l l2:List Aw} {t:Aw} (h:k0k l t) (h2:k0k l2 t) (hm: ∀ x,x∈l↔x∈l2):knB (p1s l t) t=Gj (t1g l2 t) t:=by
 rw [(n0j h.wl hm h.wt (rfl:Hz t++Hq l=allT l t) (h.bag hm).1 rfl (rfl:_=p1s l t)).2.2.2,t1g,
  p0y _ _ _ (b0r h.closed (h.bag hm).1).1 (b0r h2.closed (h2.bag fun x=>Iff.rfl).1).1]
theorem b1k (l:List Aw) (t:Aw) (hk:Dv l) (ht:t.ok):g1s l t=b1l l t:=by
 rw [g1s,b1l]
 by_cases h:n0k l t=0
 · have h':=h
   rw [n0k] at h'
   split at h'
   · rename_i hf
     have hK:=s0c hk ht hf h'
     rw [g1r hK hK fun x=>Iff.rfl]
   · rename_i hf;exact absurd h' hf
 · simp [h]
theorem s1d (l:List Aw) (hl:l.length≤9223372036854775807) (hk:Dv l) (t:Aw) (ht:t.ok):Ct Try.prog 5 [(.w (.one (.pl (.R false 4 (Ay l))))),Pv t] (fun v m=>v=.tup [.one (.pl (.b (b1l l t))),.one (.pl (.i (n0k l t)))]):=by
 obtain ⟨k,i,o,ms⟩:=t
 rw [Ak,b1l,n0k]
 by_cases hf:Fj Gx l=0
 · by_cases hg:Mq (.mk k i o ms)=0
   · have hK:=s0c hk ht hf hg
     obtain ⟨hB,hr⟩:=hK.bag fun x=>Iff.rfl
     have hl3:=e1v l
     have hsl:=hK.sl
     have hF:=(b0r hK.closed hB).2.2
     have hlen:=v0e (rkB (allT l (.mk k i o ms)) l) l
     rw [if_pos hf,hg]
     exact g1p l hl hk k i o ms ht hf hg _ hK.closed _ hB (by omega) (t1g l (.mk k i o ms)) rfl (f0r fun a ha=>(hK.closed a (hF a ha)).1.1) (by rw [t1g];omega)
   · rw [if_pos hf,show decide (Mq (.mk k i o ms)=0)=false from decide_eq_false hg,Bool.false_and]
     exact g1q l hl hk k i o ms ht hf hg
 · rw [if_neg hf,show decide (Fj Gx l=0)=false from decide_eq_false hf,Bool.false_and]
   exact b1j l hl hk k i o ms ht hf
theorem s1e (l:List Aw) (hl:l.length≤9223372036854775807) (hk:Dv l) (t:Aw) (ht:t.ok):Ct Try.prog 6 [(.w (.one (.pl (.R false 4 (Ay l))))),Pv t] (fun v m=>v=.tup [.one (.pl (.b (g1s l t))),.one (.pl (.i (n0k l t)))]):=by
 obtain ⟨k,i,o,ms⟩:=t
 rw [Ak,g1s,n0k]
 by_cases hf:Fj Gx l=0
 · have hfw:Fj Dq l=0:=(d0p l).trans hf
   by_cases hg:Mq (.mk k i o ms)=0
   · have hK:=s0c hk ht hf hg
     have hsl:=hK.sl
     have hst:=hK.st
     have hla:(allT l (.mk k i o ms)).length=(Hz (.mk k i o ms)).length+(Hq l).length:=by rw [allT,List.length_append]
     have hsub: ∀ a∈.mk k i o ms::l,wfT a∧(Hz a).length≤300:=fun a ha=>by
      rcases List.mem_cons.mp ha with rfl|ha
      · exact ⟨hK.wt,hst⟩
      · exact ⟨hK.wl a ha,Nat.le_trans (m0r ha) hsl⟩
     have hall: ∀ x∈allT l (.mk k i o ms),(Hz x).length≤300:=fun x hx=>by
      rcases List.mem_append.mp hx with hx|hx
      · exact Nat.le_trans (i0k hx) hst
      · obtain ⟨a,ha,hx⟩:=u0e hx
        exact Nat.le_trans (i0k hx) (Nat.le_trans (m0r ha) hsl)
     have hsay: ∀ x:Aw,x.ok→(Hz x).length≤300→(Cw x).length≤100000000:=fun x h1 h2=>Nat.le_trans (a1d x h1) (by omega)
     have hq:=n0j hK.wl (fun x=>Iff.rfl) hK.wt (rfl:Hz (.mk k i o ms)++Hq l=allT l (.mk k i o ms)) (hK.bag fun x=>Iff.rfl).1 rfl (rfl:_=p1s l (.mk k i o ms))
     rw [if_pos hf,hg]
     exact u1a l hl hk k i o ms ht hfw hg hK.wl hK.wt (fun a ha=>hsay a (hsub a ha).1.1 (hsub a ha).2) (fun a ha=>Nat.le_trans (hsub a ha).2 (by decide)) (by omega) (allT l (.mk k i o ms)) rfl (by omega) (fun x hx=>(hK.closed x hx).1) (fun x hx=>hsay x (hK.closed x hx).1.1 (hall x hx)) (fun x hx=>(hK.closed x hx).2) _ _ hq.2.1 hq.2.2.1 (p1s l (.mk k i o ms)) rfl
   · rw [if_pos hf,show decide (Mq (.mk k i o ms)=0)=false from decide_eq_false hg,Bool.false_and]
     exact u1b l hl hk k i o ms ht hfw hg
 · have hfw:¬Fj Dq l=0:=by rw [d0p];exact hf
   rw [if_neg hf,show decide (Fj Gx l=0)=false from decide_eq_false hf,Bool.false_and,←d0p]
   exact q1b l hl hk k i o ms ht hfw
set_option maxHeartbeats 400000 in
set_option maxRecDepth 100000 in
theorem r0i (l:List Aw) (hl:l.length≤9223372036854775807) (hk:Dv l) (k i o:Int) (ms:List Aw) (ht:(Aw.mk k i o ms).ok):
 Ct Try.prog 3 [(.w (.one (.pl (.R false 4 (Ay l))))),Fy k i o ms] (fun v m=>v=.w (.one (.pl (.b true)))):=by
 have hc:=s1d l hl hk (.mk k i o ms) ht
 have hd:=s1e l hl hk (.mk k i o ms) ht
 rw [Ak] at hc hd
 rw [b1k l (.mk k i o ms) hk ht] at hd
 obtain ⟨b,hb⟩: ∃ b,b1l l (.mk k i o ms)=b:=⟨_,rfl⟩
 obtain ⟨e,he⟩: ∃ e,n0k l (.mk k i o ms)=e:=⟨_,rfl⟩
 rw [hb,he] at hc hd
 have F0:=decide_true
 have cv0:=Ct.cv (hc)
 have cv1:=Ct.cv (hd)
 exact Ct.w Try.func3 rfl Try.ntmps3 Try.results3
theorem y0i (l:List Aw) (hl:l.length≤9223372036854775807) (hk:Dv l) (t:Aw) (ht:t.ok):Ct Try.prog 3 [(.w (.one (.pl (.R false 4 (Ay l))))),Pv t] (fun v m=>v=.w (.one (.pl (.b true)))):=by
 obtain ⟨k,i,o,ms⟩:=t
 rw [Ak]
 exact r0i l hl hk k i o ms ht
end Go.Sy
