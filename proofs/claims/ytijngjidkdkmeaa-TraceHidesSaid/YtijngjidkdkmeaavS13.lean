/- Walks and what they compute. CONDITIONS: those that each theorem names. -/
import Derived.Test.YtijngjidkdkmeaavS11
import Derived.Test.YtijngjidkdkmeaavE3
import Derived.Test.YtijngjidkdkmeaavS12
import Derived.Test.YtijngjidkdkmeaavS10
set_option linter.unusedVariables false
set_option linter.unusedSimpArgs false
set_option maxHeartbeats 1600000
set_option maxRecDepth 100000
namespace Go.Sy
mutual
theorem t0b : ∀ t:Aw,b0b t t=true
 | .mk k i o l=>by rw [b0b,s0z l];simp
theorem s0z : ∀ l:List Aw,h0t l l=true
 | []=>by rw [h0t]
 |a::l=>by rw [h0t,t0b a,s0z l];rfl
end
mutual
theorem e1y : ∀ t u:Aw,b0b t u=true→t=u
 | .mk k i o l,.mk k2 i2 o2 l2,h=>by
   rw [b0b] at h
   simp only [yF,decide_eq_true_eq] at h
   obtain ⟨⟨⟨⟨rfl,rfl⟩,rfl⟩,hn⟩,hl⟩:=h
   rw [e1x l l2 hn hl]
theorem e1x : ∀ l l2:List Aw,l.length=l2.length→h0t l l2=true→l=l2
 | [],[],_,_=>rfl
 | [],_::_,h,_=>by simp at h
 |_::_,[],h,_=>by simp at h
 |a::l,b::l2,hn,h=>by
   rw [h0t,yF] at h
   rw [e1y a b h.1,e1x l l2 (by simpa using hn) h.2]
end
theorem e0m {b:List Aw} {t:Aw}:hasB b t=true↔t∈b:=by
 rw [hasB,List.any_eq_true]
 constructor
 ·rintro ⟨x,hx,h⟩;rw [←e1y _ _ h];exact hx
 intro h;exact ⟨t,h,t0b t⟩
theorem g1l {b:List Aw} {t:Aw}:hasB b t=false↔t∉b:=by
 rw [←Bool.not_eq_true,e0m]
def wfT (t:Aw):Prop:=t.ok∧Bq t=0
theorem m0a : ∀ {l:List Aw},Cq l=0→∀ a∈l,Bq a=0
 | [],_,a,h=>by cases h
 |b::l,h,a,ha=>by
   rw [Cq] at h
   split at h
   ·rename_i hb
    rcases yT.mp ha with rfl|ha
    ·exact hb
    exact m0a h a ha
   contradiction
theorem o0m {k i o:Int} {l:List Aw} (h:Bq (.mk k i o l)=0):¬(k<1∨7<k)∧okT k i o l.length=true∧Cq l=0:=by
 rw [Bq] at h
 split at h
 ·simp at h
 split at h
 ·rename_i h1 h2;exact ⟨h1,h2,h⟩
 simp at h
theorem o0z {t:Aw} (h:wfT t): ∀ a∈t.args,wfT a:=by
 obtain ⟨k,i,o,l⟩:=t
 intro a ha
 have hk:=h.1
 rw [Aw.ok] at hk
 exact ⟨Dw hk.2.2.2.2 a ha,m0a (o0m h.2).2.2 a ha⟩
theorem f0i {k i o:Int} {l:List Aw} (h:wfT (.mk k i o l)):(l.length:Int)=h0x k:=by
 have:=(o0m h.2).2.1
 rw [okT,yF,yF,yF,decide_eq_true_eq] at this
 exact this.1.1.1
theorem g2y {α:Type} {l:List α} (h:(l.length:Int)=3): ∃ x y z,l=[x,y,z]:=by
 match l,h with
 | [x,y,z],_=>exact ⟨x,y,z,rfl⟩
 | [],h=>simp at h
 | [_],h=>simp at h
 | [_,_],h=>simp at h
 |_::_::_::_::_,h=>simp at h;omega
theorem len2 {α:Type} {l:List α} (h:(l.length:Int)=2): ∃ x y,l=[x,y]:=by
 match l,h with
 | [x,y],_=>exact ⟨x,y,rfl⟩
 | [],h=>simp at h
 | [_],h=>simp at h
 |_::_::_::_,h=>simp at h;omega
theorem n0t {b:List Aw} {t x:Aw} (h:x∈f0v b t):x∈t.args:=by
 obtain ⟨k,i,o,l⟩:=t
 rw [f0v] at h
 split at h
 ·exact h
 split at h
 ·split at h
  ·exact List.mem_of_mem_drop h
  cases h
 cases h
def d0k (b:List Aw):Option Aw:=(b.flatMap (f0v b)).find? fun x=>!hasB b x
def b0e :Nat→List Aw→List Aw
 |0,b=>b
 |n+1,b=>match d0k b with
   |none=>b
   |some x=>b0e n (b++[x])
def rkB (U b:List Aw):Nat:=(U.filter fun u=>!hasB b u).length
structure BagOk (U:List Aw) (n:Nat) (b:List Aw):Prop where
 sub: ∀ t∈b,t∈U
 rk:rkB U b≤n
def g0o (U:List Aw):Prop:=∀ t∈U,wfT t∧∀ a∈t.args,a∈U
theorem filter_lt {α:Type} {p q:α→Bool}: ∀ {l:List α} {x:α},(∀ a,q a=true→p a=true)→x∈l→p x=true→q x=false→(l.filter q).length<(l.filter p).length
 |a::l,x,hpq,hx,hp,hq=>by
   have hle: ∀ l:List α,(l.filter q).length≤(l.filter p).length:=by
    intro l
    induction l with
    |nil=>simp
    |cons a l ih=>
      rw [List.filter_cons,List.filter_cons]
      split
      ·rename_i h;rw [if_pos (hpq a h)];simp only [yH];omega
      split
      ·simp only [yH];omega
      exact ih
   rw [List.filter_cons,List.filter_cons]
   rcases yT.mp hx with rfl|hx
   ·rw [if_pos hp,if_neg (by rw [hq];simp)]
    have:=hle l
    simp only [yH];omega
   have ih:=filter_lt hpq hx hp hq
   split
   ·rename_i h;rw [if_pos (hpq a h)];simp only [yH];omega
   split
   ·simp only [yH];omega
   exact ih
theorem e1s {b:List Aw} {x:Aw} (h:d0k b=some x):hasB b x=false∧∃ t∈b,x∈f0v b t:=by
 have h1:=List.find?_some h
 have h2:=List.mem_of_find?_eq_some h
 rw [List.mem_flatMap] at h2
 exact ⟨by simpa using h1,h2⟩
theorem w0o {U:List Aw} {n:Nat} {b:List Aw} {x:Aw} (hU:g0o U) (h:BagOk U n b) (hs:d0k b=some x): ∃ n',n=n'+1∧BagOk U n' (b++[x]):=by
 obtain ⟨hx,t,ht,ho⟩:=e1s hs
 have hxU:x∈U:=(hU t (h.sub t ht)).2 x (n0t ho)
 have hlt:rkB U (b++[x])<rkB U b:=by
  refine filter_lt (fun a ha=>?_) hxU (by rw [hx];rfl) ?_
  ·have:=g1l.mp (by simpa using ha)
   simp only [yS,g1l]
   exact fun hm=>this (yU.mpr (.inl hm))
  simp only [Bool.not_eq_false',e0m];simp
 refine ⟨n-1,?_,?_,?_⟩
 ·have:=h.rk;omega
 ·intro u hu
  rcases yU.mp hu with hu|hu
  ·exact h.sub u hu
  rw [xW.mp hu];exact hxU
 have:=h.rk;omega
theorem b0y {n:Nat} {b:List Aw} (h:d0k b=none):b0e n b=b:=by
 cases n with
 |zero=>rfl
 |succ n=>rw [b0e,h]
theorem g0g {n:Nat} {b:List Aw} {x:Aw} (h:d0k b=some x):b0e (n+1) b=b0e n (b++[x]):=by rw [b0e,h]
theorem o2c {U:List Aw} {n:Nat} {b:List Aw} (hU:g0o U) (h:BagOk U n b): ∀ t∈b,wfT t:=fun t ht=>(hU t (h.sub t ht)).1
theorem a0b : ∀ {l:List Aw},(∀ a∈l,a.ok)→Dq l
 | [],_=>by rw [Dq];trivial
 |a::l,h=>by rw [Dq];exact ⟨h a (by simp),a0b fun b hb=>h b (by simp [hb])⟩
end Go.Sy
namespace Go.Sy
open Go.Proofs
attribute [local irreducible] Cj HT Bv Rj onC onE onO onG goV goA goS Tj Ck
theorem w0m (b:List Aw) (hb:b.length≤9223372036854775807) (hk:Dq b): ∀ (t:Aw),t.ok→Ct Try.prog 12 [(.w (.one (.pl (.R false 4 (Ay b))))),Yy t] (fun v m=>v=.w (.one (.pl (.b (Lv b t)))))
 | .mk k i o l,ht=>by
  have ht2:=ht
  rw [Aw.ok] at ht2
  rw [Bw,e0j]
  have ih: ∀ a,a∈l→Ct Try.prog 12 [(.w (.one (.pl (.R false 4 (Ay b))))),Yy a] (fun v m=>v=.w (.one (.pl (.b (Lv b a))))):=fun a ha=>w0m b hb hk a (Dw ht2.2.2.2.2 a ha)
  rcases hh:hasB b (.mk k i o l) with _|_
  ·rw [xD]
   by_cases h1:k=1
   ·subst h1;rw [if_pos rfl];exact g2n b hb hk i o l ht hh
   rw [if_neg h1]
   by_cases h2:k=2
   ·subst h2;rw [if_pos rfl];exact g2m b hb hk i o l ht hh
   rw [if_neg h2]
   by_cases h3:k=3
   ·subst h3
    rw [if_pos rfl,dhB]
    rcases ha:a0r b i with _|_
    ·rw [wJ,xD]
     rcases hc:a0r b o with _|_
     ·rw [wJ];exact x1s b hb hk i o l ht hh ha hc
     rw [xY];exact x1r b hb hk i o l ht hh ha hc
    rw [xY]
    rcases hp:y0g b o with _|_
    ·rw [xD]
     rcases hc:a0r b o with _|_
     ·rw [wJ];exact x1u b hb hk i o l ht hh ha hp hc
     rw [xY];exact x1t b hb hk i o l ht hh ha hp hc
    rw [xO];exact x1v b hb hk i o l ht hh ha hp
   rw [if_neg h3];exact g2l b hb hk k i o l ht hh h1 h2 h3 ih
  rw [xO];exact o1h b hb hk k i o l ht hh
termination_by t=>SizeOf.sizeOf t
decreasing_by
 have:=vB ha
 simp only [Aw.mk.sizeOf_spec]
 omega
theorem k2s (kx ix ox:Int) (lx:List Aw) (y z:Aw):Ay [.mk kx ix ox lx,y,z]=[[.i kx,.i ix,.i ox,.R false 4 (Ay lx)],y.cells,z.cells]:=by
 rw [Ay,Ay,Ay,Ay,Aw.cells]
theorem p2f (z:Aw):Ay [z]=[z.cells]:=by rw [Ay,Ay]
end Go.Sy
namespace Go.Sy
open Go.Proofs
attribute [local irreducible] Cj HT Bv Rj onC onE onO onG goV goA goS Tj Ck
theorem Fj : ∀ l:List Aw,(Ay l).flatten.length=l.length*4
 | []=>by rw [Ay];rfl
 | .mk k i o m::r=>by
  rw [Ay,xU,yL,Fj r,Aw.cells]
  simp only [yH,xE];omega
theorem Wv : ∀ l:List Aw,chunks 4 l.length (Ay l).flatten=Ay l
 | []=>by rw [Ay];rfl
 | .mk k i o m::r=>by
  have ih:=Wv r
  rw [Ay,Aw.cells]
  simp only [xU,yH]
  simp only [chunks]
  rw [List.take_left' (by rfl),List.drop_left' (by rfl),ih]
theorem b1e : ∀ {l:List Aw} {n:Nat} {k i o:Int} {m:List Aw},n<l.length→l.getD n (.mk 0 0 0 [])=.mk k i o m→List.take 4 (List.drop (n*4) (pls (Ay l).flatten))=[.pl (.i k),.pl (.i i),.pl (.i o),.pl (.R false 4 (Ay m))]
 | .mk k2 i2 o2 m2::l,0,k,i,o,m,h,he=>by
  obtain ⟨rfl,rfl,rfl,rfl⟩:k2=k∧i2=i∧o2=o∧m2=m:=by simpa using he
  rw [Ay,Aw.cells];simp [pls]
 | .mk k2 i2 o2 m2::l,n+1,k,i,o,m,h,he=>by
  have ih:=b1e (l:=l) (n:=n) (k:=k) (i:=i) (o:=o) (m:=m) (by simpa using h) (by simpa using he)
  rw [←ih,Ay,Aw.cells,Nat.succ_mul]
  simp [pls]
theorem w1s {b:List Aw} {t:Aw} (h:wfT t):(f0v b t).length≤9223372036854775807:=by
 obtain ⟨k,i,o,l⟩:=t
 have hk:=h.1
 rw [Aw.ok] at hk
 rw [f0v]
 split
 ·exact hk.2.2.2.1
 split
 ·split
  ·exact yJ (by rw [List.length_drop];exact Nat.sub_le _ _) hk.2.2.2.1
  simp
 simp
theorem p1r (l:List Aw) (k i o:Int) (m:List Aw):(Ay (l++[.mk k i o m])).flatten=(Ay l).flatten++[.i k,.i i,.i o,.R false 4 (Ay m)]:=by
 simp only [Xx,xK,List.flatten_append,yM,wC,xU,List.flatten_nil,xX,Aw.cells]
theorem p2n (b:List Aw) (hb:b.length≤9223372036854775807) (hk:Dq b) (i o:Int) (l:List Aw):
 CtM Try.prog 29 [(.w (.one (.s 500000 [] b.length 4))),Jy 4 i o l] [(500000,⟨true,pls (Ay b).flatten⟩)] (Told (fun v m=>v=.w (.one (.pl (.R false 4 (Ay l))))∧m=[(500000,⟨true,pls (Ay b).flatten⟩)])):=by
 have hbl:=Fj b
 have hbc:=Wv b
 have hun:m0o (pls (Ay b).flatten)=some (Ay b).flatten:=Uw _
 have F0:=yA hbl<|yA hbc<|yA hun<|yA Fq<|yA Ez<|decide_true
 exact CtM.go Try.func29 rfl Try.ntmps29 Try.results29
theorem p2m (b:List Aw) (hb:b.length≤9223372036854775807) (hk:Dq b) (i o:Int) (kx ix ox:Int) (lx:List Aw) (y z:Aw) (hx:(Aw.mk kx ix ox lx).ok) (hm:Lv b (.mk kx ix ox lx)=true):
 CtM Try.prog 29 [(.w (.one (.s 500000 [] b.length 4))),Jy 7 i o [.mk kx ix ox lx,y,z]] [(500000,⟨true,pls (Ay b).flatten⟩)] (Told (fun v m=>v=.w (.one (.pl (.R false 4 (Ay [z]))))∧m=[(500000,⟨true,pls (Ay b).flatten⟩)])):=by
 have hbl:=Fj b
 have hbc:=Wv b
 have hun:m0o (pls (Ay b).flatten)=some (Ay b).flatten:=Uw _
 have hc:=w0m b hb hk _ hx
 rw [Bw,hm] at hc
 have F0:=yA hbl<|yA hbc<|yA hun<|yA Fq<|yA Ez<|yA decide_true<|yA k2s<|yA p2f<|(@wU (List PL))
 have cq:=yA (Ct.cv (hc))<|trivial
 exact CtM.go Try.func29 rfl Try.ntmps29 Try.results29
theorem l2g (b:List Aw) (hb:b.length≤9223372036854775807) (hk:Dq b) (i o:Int) (kx ix ox:Int) (lx:List Aw) (y z:Aw) (hx:(Aw.mk kx ix ox lx).ok) (hm:Lv b (.mk kx ix ox lx)=false):
 CtM Try.prog 29 [(.w (.one (.s 500000 [] b.length 4))),Jy 7 i o [.mk kx ix ox lx,y,z]] [(500000,⟨true,pls (Ay b).flatten⟩)] (Told (fun v m=>v=.w (.one (.pl (.R false 4 (Ay []))))∧m=[(500000,⟨true,pls (Ay b).flatten⟩)])):=by
 have hbl:=Fj b
 have hbc:=Wv b
 have hun:m0o (pls (Ay b).flatten)=some (Ay b).flatten:=Uw _
 have hc:=w0m b hb hk _ hx
 rw [Bw,hm] at hc
 have F0:=yA hbl<|yA hbc<|yA hun<|yA Fq<|yA Ez<|yA decide_true<|yA k2s<|(@wU (List PL))
 refine CtM.go Try.func29 rfl Try.ntmps29 Try.results29 fun w0 ro may fx zZ zhY=>?_
 have cq:=yA (Ct.cv (hc))<|trivial
 refine (fun zX=>goW) ?_
 refine zhY _ _ ?_
 simp only [go_sem,F0]
 all_goals (exact p0d (v':=.w (.one (.pl (.R false 4 [])))) (fun d y hd=>c1q hd) (Av rfl (Bz (by simp [look])) ⟨by rw [Ay],rfl⟩))
theorem p2l (b:List Aw) (hb:b.length≤9223372036854775807) (hk:Dq b) (k i o:Int) (l:List Aw) (h4:¬k=4) (h7:¬k=7):
 CtM Try.prog 29 [(.w (.one (.s 500000 [] b.length 4))),Jy k i o l] [(500000,⟨true,pls (Ay b).flatten⟩)] (Told (fun v m=>v=.w (.one (.pl (.R false 4 (Ay []))))∧m=[(500000,⟨true,pls (Ay b).flatten⟩)])):=by
 have hbl:=Fj b
 have hbc:=Wv b
 have hun:m0o (pls (Ay b).flatten)=some (Ay b).flatten:=Uw _
 have F0:=yA hbl<|yA hbc<|yA hun<|yA Fq<|yA Ez<|yA h4<|h7
 refine CtM.go Try.func29 rfl Try.ntmps29 Try.results29 fun w0 ro may fx zZ zhY=>?_
 refine (fun zX=>goW) ?_
 refine zhY _ _ ?_
 simp only [go_sem,F0]
 all_goals (exact p0d (v':=.w (.one (.pl (.R false 4 [])))) (fun d y hd=>c1q hd) (Av rfl (Bz (by simp [look])) ⟨by rw [Ay],rfl⟩))
theorem m2p (b:List Aw) (hb:b.length≤9223372036854775807) (hk:Dq b) (t:Aw) (ht:wfT t):CtM Try.prog 29 [(.w (.one (.s 500000 [] b.length 4))),Yy t] [(500000,⟨true,pls (Ay b).flatten⟩)] (fun v m=>v=.w (.one (.pl (.R false 4 (Ay (f0v b t)))))∧m=[(500000,⟨true,pls (Ay b).flatten⟩)]):=by
 obtain ⟨k,i,o,l⟩:=t
 have hl:=f0i ht
 rw [Bw,f0v]
 by_cases h4:k=4
 ·subst h4;rw [if_pos rfl];exact (p2n b hb hk i o l).told
 rw [if_neg h4]
 by_cases h7:k=7
 ·subst h7
  rw [if_pos rfl]
  obtain ⟨x,y,z,rfl⟩:=g2y hl
  obtain ⟨kx,ix,ox,lx⟩:=x
  have hx:=(o0z ht (.mk kx ix ox lx) (by simp [Aw.args])).1
  show CtM _ _ _ _ (fun v m=>v=.w (.one (.pl (.R false 4 (Ay (if Lv b (.mk kx ix ox lx)=true then [z] else [])))))∧m=[(500000,⟨true,pls (Ay b).flatten⟩)])
  rcases hm:Lv b (.mk kx ix ox lx) with _|_
  ·rw [if_neg (by simp)];exact (l2g b hb hk i o kx ix ox lx y z hx hm).told
  rw [if_pos rfl];exact (p2m b hb hk i o kx ix ox lx y z hx hm).told
 rw [if_neg h7];exact (p2l b hb hk k i o l h4 h7).told
theorem m2u (U:List Aw) (hU:g0o U) (n0:Nat) (b0 F:List Aw) (hB:BagOk U n0 b0) (hF:b0e n0 b0=F) (hL:b0.length+n0≤1000000):
 CtM Try.prog 11 [.w (.one (.s 750000 [] b0.length 4))] [(750000,⟨true,pls (Ay b0).flatten⟩)] (Told (fun v m=>v=.w (.one (.s 750000 [] F.length 4))∧m=[(750000,⟨true,pls (Ay F).flatten⟩)])):=by
 skip
 have F0:=Az
 refine CtM.go Try.func11 rfl Try.ntmps11 Try.results11 fun w0 ro may fx zZ zhY=>?_
 refine (fun zX=>goW) ?_
 refine e2l [] [] (fun y=>[(0,.w (.one (.s 750000 [] y.1.2.length 4)))]) (fun y=>[(750000,⟨true,pls (Ay y.1.2).flatten⟩)]) (fun y=>y.1.1) (⟨(n0,b0),hB,hF,hL⟩:{y:Nat×List Aw//BagOk U y.1 y.2∧b0e y.1 y.2=F∧y.2.length+y.1≤1000000}) ?_ ?_ ?_
 ·(simp only [go_sem,leX,yC,yD,F0];try simp)
 ·(simp only [go_sem,leX,yC,yD,F0];try simp)
 intro ⟨⟨n,b⟩,h1,h2,h3⟩ zZ1 zhG1 zsn1 zsr1 zse1
 simp only [yC,yD]
 have h1:BagOk U n b:=h1
 have h2:b0e n b=F:=h2
 have h3:b.length+n≤1000000:=h3
 have hw:=o2c hU h1
 have hk:Dq b:=a0b fun a ha=>(hw a ha).1
 have hb6:b.length≤1000000:=yJ (Nat.le_add_right _ _) h3
 have hb:b.length≤9223372036854775807:=yJ hb6 (by decide)
 have hbl:=Fj b
 have hbc:=Wv b
 have hun:m0o (pls (Ay b).flatten)=some (Ay b).flatten:=Uw _
 have F0:=yA Fj<|yA Wv<|yA Fq<|F0
 refine (fun zX=>goW) ?_
 refine Nw (fun y=>[(9,.w (.one (.pl (.i ((y.1:Nat):Int)))))]) (fun _=>[]) (fun y=>b.length-y.1) (⟨0,yP _,rfl⟩:{y:Nat//y≤b.length∧((b.drop y).flatMap (f0v b)).find? (fun x=>!hasB b x)=d0k b}) ?_
 intro ⟨i,g1,g4⟩ xN0 xM0 xhN0 xhM0
 simp only [yC,yD]
 rcases yZ i b.length with hlt|hge
 ·obtain ⟨k2,i2,o2,m2,he,hm,hdr,hg⟩:=Cy hlt
  have hc:=m2p b hb hk _ (hw _ hm)
  rw [Bw] at hc
  obtain ⟨ys,hys⟩: ∃ ys,f0v b (.mk k2 i2 o2 m2)=ys:=⟨_,rfl⟩
  rw [hys] at hc
  rw [hdr,List.flatMap_cons,hys] at g4
  have hci:=ltI hlt
  have hj:(0:Int)≤((i:Nat):Int):=yN i
  have hs1:=Zj hlt hb
  have hgt:=b1e hlt he
  have hi4:i*4+4≤b.length*4:=by omega
  have hys6:ys.length≤9223372036854775807:=by rw [←hys];exact w1s (hw _ hm)
  have F0:=yA hci<|yA hj<|yA xC<|yA Az<|yA hs1<|yA hgt<|yA hi4<|yA hbl<|yA hbc<|yA hun<|yA Fq<|yA Ez<|F0
  have ch0:=CtM.ch [(500000,750000)] (hc)
  have cq:=yA (CtM.ch [(500000,750000)] (hc))<|trivial
  refine (fun zX=>goW) ?_
  refine Nw (fun y=>[(17,.w (.one (.pl (.i ((y.1:Nat):Int)))))]) (fun _=>[]) (fun y=>ys.length-y.1) (⟨0,yP _,g4⟩:{y:Nat//y≤ys.length∧(ys.drop y++(b.drop (i+1)).flatMap (f0v b)).find? (fun x=>!hasB b x)=d0k b}) ?_
  intro ⟨j,q1,q4⟩ xN1 xM1 xhN1 xhM1
  simp only [yC,yD]
  rcases yZ j ys.length with qlt|qge
  rcases hsb:hasB b (ys.getD j (.mk 0 0 0 [])) with _|_
  ·obtain ⟨k3,i3,o3,m3,he3,hm3,hdr3,hg3⟩:=Cy qlt
   rw [he3] at hsb
   have hy3:(Aw.mk k3 i3 o3 m3).ok:=(o0z (hw _ hm) _ (n0t (b:=b) (by rw [hys];exact hm3))).1
   have hd:=n0k b hb hk _ hy3
   rw [Bw,hsb] at hd
   have qci:=ltI qlt
   have qj:(0:Int)≤((j:Nat):Int):=yN j
   have qjl:j<(Ay ys).length:=by rw [Az];exact qlt
   rw [hdr3,yC,List.find?_cons,hsb] at q4
   obtain ⟨n',hn,hB'⟩:=w0o hU h1 q4.symm
   have h2':b0e n' (b++[.mk k3 i3 o3 m3])=F:=by rw [←h2,hn];exact (g0g q4.symm).symm
   have hln:(b++[Aw.mk k3 i3 o3 m3]).length=b.length+1:=by simp
   have h3':(b++[Aw.mk k3 i3 o3 m3]).length+n'≤1000000:=by rw [hln];omega
   have hsn:=p1r b k3 i3 o3 m3
   have hcap:(b.length+1)*48≤140737488355328:=by omega
   have hl4:(b.length+1)*4=b.length*4+4:=Nat.succ_mul _ _
   have hpa:pls ((Ay b).flatten++[.i k3,.i i3,.i o3,.R false 4 (Ay m3)])=pls (Ay b).flatten++[.pl (.i k3),.pl (.i i3),.pl (.i o3),.pl (.R false 4 (Ay m3))]:=by simp [pls]
   have F0:=yA qci<|yA qj<|yA qjl<|yA hg3<|yA xC<|yA Az<|yA hbl<|yA hbc<|yA hun<|yA hln<|yA hsn<|yA hcap<|yA Ez<|yA Fq<|yA hl4<|yA hpa<|F0
   have cv0:=Ct.cv (hd)
   have cq:=yA (Ct.cv (hd))<|trivial
   refine (fun zX=>goW) ?_
   refine zhG1 ⟨(n',b++[.mk k3 i3 o3 m3]),hB',h2',h3'⟩ _ ?_ ?_ ?_
   ·exact hn▸yE _
   ·(simp only [go_sem,leX,yC,yD,F0];try simp)
   (simp only [go_sem,leX,yC,yD,F0];try simp)
  ·obtain ⟨k3,i3,o3,m3,he3,hm3,hdr3,hg3⟩:=Cy qlt
   rw [he3] at hsb
   have hy3:(Aw.mk k3 i3 o3 m3).ok:=(o0z (hw _ hm) _ (n0t (b:=b) (by rw [hys];exact hm3))).1
   have hd:=n0k b hb hk _ hy3
   rw [Bw,hsb] at hd
   have qci:=ltI qlt
   have qj:(0:Int)≤((j:Nat):Int):=yN j
   have qjl:j<(Ay ys).length:=by rw [Az];exact qlt
   rw [hdr3,yC,List.find?_cons,hsb] at q4
   have qs1:=Zj qlt hys6
   have F0:=yA qci<|yA qj<|yA qjl<|yA hg3<|yA xC<|yA Az<|yA hbl<|yA hbc<|yA hun<|yA qs1<|F0
   have cv0:=Ct.cv (hd)
   have cq:=yA (Ct.cv (hd))<|trivial
   have zL:=fun S2=>xhN1 ⟨j+1,qlt,q4⟩ S2 (by (exact yB qlt (yE j)))
   exact goW
  obtain rfl:j=ys.length:=xJ q1 qge
  rw [yG,yD] at q4
  have g6:((b.drop (i+1)).flatMap (f0v b)).find? (fun x=>!hasB b x)=d0k b:=q4
  have F0:=yA (@a1p ys.length)<|F0
  have zL:=fun S2=>xhN0 ⟨i+1,hlt,g6⟩ S2 (by (exact yB hlt (yE i)))
  exact goW
 obtain rfl:i=b.length:=xJ g1 hge
 rw [yG] at g4
 have hFb:b=F:=(b0y (n:=n) (g4.symm.trans rfl)).symm.trans h2
 have F0:=yA (@a1p b.length)<|F0
 refine (fun zX=>goW) ?_
 refine zsr1 _ ?_
 refine zhY _ _ ?_
 simp only [go_sem,F0]
 all_goals (subst hFb;exact Vv (m2:=[(750000,⟨true,pls (Ay b).flatten⟩)]) (by simp [look]) ⟨rfl,rfl⟩)
end Go.Sy
namespace Go.Sy
open Go.Proofs
attribute [local irreducible] Cj HT Bv Rj onC onE onO onG goV goA goS Tj Ck
def l0a (N:Aw→Int→Int):List Aw→Int→Int
 | [],n=>n
 |a::l,n=>if 300<n+N a 1 then n+N a 1 else l0a N l (n+N a 1)
def Jz (N:Aw→Int→Int) (l:List Aw):Int:=if 300<l0a N l 0 then 1 else Cq l
theorem c0k (N:Aw→Int→Int) (n:Int):l0a N [] n=n:=rfl
theorem Sj (N:Aw→Int→Int) (a:Aw) (l:List Aw) (n:Int):l0a N (a::l) n=if 300<n+N a 1 then n+N a 1 else l0a N l (n+N a 1):=rfl
theorem Uq (a:Aw) (l:List Aw):Cq (a::l)=if Bq a=0 then Cq l else Bq a:=by rw [Cq]
theorem g0j :Cq []=0:=by rw [Cq]
theorem size_range (a:Aw):1≤Kz a 1∧Kz a 1≤100000000:=⟨Yq a 1,Int.le_trans (n0o a 1 40 (by omega)) (by decide)⟩
theorem Zk (a:Aw):1≤Ej a 1∧Ej a 1≤100000000:=⟨d0g a 1,Int.le_trans (j0j a 1 40 (by omega)) (by decide)⟩
theorem u0k (l:List Aw) (hl:l.length≤9223372036854775807) (hk:Dq l):
 Ct Try.prog 9 [(.w (.one (.pl (.R false 4 (Ay l)))))] (fun v m=>v=.w (.one (.pl (.i (Jz Kz l))))):=by
 skip
 have F0:=Az
 refine Ct.go Try.func9 rfl Try.ntmps9 Try.results9 fun w0 ro zZ zhZ=>?_
 refine (fun zX=>goW) ?_
 refine Nw (fun y=>[(3,.w (.one (.pl (.i y.1.2)))),(11,.w (.one (.pl (.i ((y.1.1:Nat):Int)))))]) (fun _=>[]) (fun y=>l.length-y.1.1) (⟨(0,0),yP _,by decide,by decide,rfl⟩:{y:Nat×Int//y.1≤l.length∧0≤y.2∧y.2≤300∧l0a Kz (l.drop y.1) y.2=l0a Kz l 0}) ?_
 intro ⟨⟨j,n⟩,h1,h2,h3,h4⟩ xN0 xM0 xhN0 xhM0
 simp only [yC,yD]
 have h1:j≤l.length:=h1
 have h2:0≤n:=h2
 have h3:n≤300:=h3
 have h4:l0a Kz (l.drop j) n=l0a Kz l 0:=h4
 rcases yZ j l.length with hlt|hge
 rcases Int.lt_or_le 300 (n+Kz (l.getD j (.mk 0 0 0 [])) 1) with hbig|hbig
 ·obtain ⟨k2,i2,o2,m2,he,hm,hdr,hg⟩:=Cy hlt
  have hj:(0:Int)≤((j:Nat):Int):=yN j
  have hjl:j<(Ay l).length:=by rw [Az];exact hlt
  have hci:=ltI hlt
  have hs1:=Zj hlt hl
  have hc:=k1x _ (Dw hk _ hm) 1 (by decide) (by decide)
  rw [Bw] at hc
  have hr:=size_range (.mk k2 i2 o2 m2)
  rw [hdr,Sj] at h4
  obtain ⟨w,hw⟩: ∃ w,Kz (.mk k2 i2 o2 m2) 1=w:=⟨_,rfl⟩
  rw [hw] at hc hr h4
  have hwr:Go.RowKit.wrap64 (n+w)=n+w:=w64 (by omega)
  rw [he,hw] at hbig
  rw [if_pos hbig] at h4
  have hfe:Jz Kz l=1:=by rw [Jz,if_pos (by rw [←h4];exact hbig)]
  have zE:V.w (.one (.pl (.i 1)))=V.w (.one (.pl (.i (Jz Kz l)))):=by rw [hfe]
  have F0:=yA hci<|yA hj<|yA hjl<|yA hg<|yA xC<|yA Az<|yA hs1<|yA hwr<|yA hbig<|F0
  have cv0:=Ct.cv (hc)
  exact goW
 ·obtain ⟨k2,i2,o2,m2,he,hm,hdr,hg⟩:=Cy hlt
  have hj:(0:Int)≤((j:Nat):Int):=yN j
  have hjl:j<(Ay l).length:=by rw [Az];exact hlt
  have hci:=ltI hlt
  have hs1:=Zj hlt hl
  have hc:=k1x _ (Dw hk _ hm) 1 (by decide) (by decide)
  rw [Bw] at hc
  have hr:=size_range (.mk k2 i2 o2 m2)
  rw [hdr,Sj] at h4
  obtain ⟨w,hw⟩: ∃ w,Kz (.mk k2 i2 o2 m2) 1=w:=⟨_,rfl⟩
  rw [hw] at hc hr h4
  have hwr:Go.RowKit.wrap64 (n+w)=n+w:=w64 (by omega)
  rw [he,hw] at hbig
  have hnb:¬300<n+w:=by omega
  rw [if_neg hnb] at h4
  have F0:=yA hci<|yA hj<|yA hjl<|yA hg<|yA xC<|yA Az<|yA hs1<|yA hwr<|yA hnb<|F0
  have cv0:=Ct.cv (hc)
  have zL:=fun S2=>xhN0 ⟨(j+1,n+w),hlt,by omega,hbig,h4⟩ S2 (by (exact yB hlt (yE j)))
  exact goW
 obtain rfl:j=l.length:=xJ h1 hge
 rw [yG,c0k] at h4
 have hfl:Jz Kz l=Cq l:=by rw [Jz,if_neg (by rw [←h4];omega)]
 have F0:=yA (@a1p l.length)<|F0
 refine (fun zX=>goW) ?_
 refine Nw (fun y=>[(24,.w (.one (.pl (.i ((y.1:Nat):Int)))))]) (fun _=>[]) (fun y=>l.length-y.1) (⟨0,yP _,rfl⟩:{y:Nat//y≤l.length∧Cq (l.drop y)=Cq l}) ?_
 intro ⟨j,h1,h4⟩ xN1 xM1 xhN1 xhM1
 simp only [yC,yD]
 have h1:j≤l.length:=h1
 have h4:Cq (l.drop j)=Cq l:=h4
 rcases yZ j l.length with hlt|hge
 rcases Int.decEq (Bq (l.getD j (.mk 0 0 0 []))) 0 with hbad|hbad
 ·obtain ⟨k2,i2,o2,m2,he,hm,hdr,hg⟩:=Cy hlt
  have hj:(0:Int)≤((j:Nat):Int):=yN j
  have hjl:j<(Ay l).length:=by rw [Az];exact hlt
  have hci:=ltI hlt
  have hs1:=Zj hlt hl
  have hc:=p1o _ (Dw hk _ hm)
  rw [Bw] at hc
  rw [hdr,Uq] at h4
  obtain ⟨w,hw⟩: ∃ w,Bq (.mk k2 i2 o2 m2)=w:=⟨_,rfl⟩
  rw [hw] at hc h4
  rw [he,hw] at hbad
  rw [if_neg hbad] at h4
  have zE:V.w (.one (.pl (.i w)))=V.w (.one (.pl (.i (Jz Kz l)))):=by rw [hfl,h4]
  have F0:=yA hci<|yA hj<|yA hjl<|yA hg<|yA xC<|yA Az<|yA hs1<|yA hbad<|F0
  have cv0:=Ct.cv (hc)
  exact goW
 ·obtain ⟨k2,i2,o2,m2,he,hm,hdr,hg⟩:=Cy hlt
  have hj:(0:Int)≤((j:Nat):Int):=yN j
  have hjl:j<(Ay l).length:=by rw [Az];exact hlt
  have hci:=ltI hlt
  have hs1:=Zj hlt hl
  have hc:=p1o _ (Dw hk _ hm)
  rw [Bw] at hc
  rw [hdr,Uq] at h4
  obtain ⟨w,hw⟩: ∃ w,Bq (.mk k2 i2 o2 m2)=w:=⟨_,rfl⟩
  rw [hw] at hc h4
  rw [he,hw] at hbad
  rw [if_pos hbad] at h4
  have F0:=yA hci<|yA hj<|yA hjl<|yA hg<|yA xC<|yA Az<|yA hs1<|yA hbad<|F0
  have cv0:=Ct.cv (hc)
  have zL:=fun S2=>xhN1 ⟨j+1,hlt,h4⟩ S2 (by (exact yB hlt (yE j)))
  exact goW
 obtain rfl:j=l.length:=xJ h1 hge
 rw [yG,g0j] at h4
 have zE:V.w (.one (.pl (.i 0)))=V.w (.one (.pl (.i (Jz Kz l)))):=by rw [hfl,h4]
 have F0:=yA (@a1p l.length)<|F0
 exact goW
end Go.Sy
