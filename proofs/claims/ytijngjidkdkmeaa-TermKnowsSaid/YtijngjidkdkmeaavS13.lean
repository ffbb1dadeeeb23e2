/- Walks and what they compute. CONDITIONS: those that each theorem names. -/
import Derived.Test.YtijngjidkdkmeaavS11
import Derived.Test.YtijngjidkdkmeaavS12
import Derived.Test.YtijngjidkdkmeaavE3
import Derived.Test.YtijngjidkdkmeaavS10
set_option linter.unusedVariables false
set_option linter.unusedSimpArgs false
set_option maxHeartbeats 1600000
set_option maxRecDepth 100000
namespace Go.Sy
mutual
theorem l0i : ∀ t:Aw,Tw t t=true
 | .mk k i o l=>by rw [Tw,l0g l];simp
theorem l0g : ∀ l:List Aw,c0t l l=true
 | []=>by rw [c0t]
 |a::l=>by rw [c0t,l0i a,l0g l];rfl
end
mutual
theorem u0l : ∀ t u:Aw,Tw t u=true→t=u
 | .mk k i o l,.mk k2 i2 o2 l2,h=>by
  rw [Tw] at h
  simp only [Bool.and_eq_true,decide_eq_true_eq] at h
  obtain ⟨⟨⟨⟨rfl,rfl⟩,rfl⟩,hn⟩,hl⟩:=h
  rw [u0k l l2 hn hl]
theorem u0k : ∀ l l2:List Aw,l.length=l2.length→c0t l l2=true→l=l2
 | [],[],_,_=>rfl
 | [],_::_,h,_=>by simp at h
 |_::_,[],h,_=>by simp at h
 |a::l,b::l2,hn,h=>by
  rw [c0t,Bool.and_eq_true] at h
  rw [u0l a b h.1,u0k l l2 (by simpa using hn) h.2]
end
theorem a0d {b:List Aw} {t:Aw}:hasB b t=true↔t∈b:=by
 rw [hasB,List.any_eq_true]
 constructor
 ·rintro ⟨x,hx,h⟩;rw [←u0l _ _ h];exact hx
 ·intro h;exact ⟨t,h,l0i t⟩
theorem v0c {b:List Aw} {t:Aw}:hasB b t=false↔t∉b:=by
 rw [←Bool.not_eq_true,a0d]
def wfT (t:Aw):Prop:=t.ok∧Bz t=0
theorem g0f : ∀ {l:List Aw},Cv l=0→∀ a∈l,Bz a=0
 | [],_,a,h=>by cases h
 |b::l,h,a,ha=>by
  rw [Cv] at h
  split at h
  ·rename_i hb
   rcases List.mem_cons.mp ha with rfl|ha
   ·exact hb
   ·exact g0f h a ha
  ·contradiction
theorem h0w {k i o:Int} {l:List Aw} (h:Bz (.mk k i o l)=0):¬(k<1∨7<k)∧okT k i o l.length=true∧Cv l=0:=by
 rw [Bz] at h
 split at h
 ·simp at h
 ·split at h
  ·rename_i h1 h2;exact ⟨h1,h2,h⟩
  ·simp at h
theorem i0c {t:Aw} (h:wfT t): ∀ a∈t.args,wfT a:=by
 obtain ⟨k,i,o,l⟩:=t
 intro a ha
 have hk:=h.1
 rw [Aw.ok] at hk
 exact ⟨Dz hk.2.2.2.2 a ha,g0f (h0w h.2).2.2 a ha⟩
theorem a0w {k i o:Int} {l:List Aw} (h:wfT (.mk k i o l)):(l.length:Int)=g0m k:=by
 have:=(h0w h.2).2.1
 rw [okT,Bool.and_eq_true,Bool.and_eq_true,Bool.and_eq_true,decide_eq_true_eq] at this
 exact this.1.1.1
theorem n1t {α:Type} {l:List α} (h:(l.length:Int)=3): ∃ x y z,l=[x,y,z]:=by
 match l,h with
 | [x,y,z],_=>exact ⟨x,y,z,rfl⟩
 | [],h=>simp at h
 | [_],h=>simp at h
 | [_,_],h=>simp at h
 |_::_::_::_::_,h=>simp at h;omega
theorem len2 {α:Type} {l:List α} (h:(l.length:Int)=2): ∃ x y,l=[x,y]:=by
 match l,h with
 | [x,y],_=>exact ⟨x,y,rfl⟩
 | [],h=>simp at h
 | [_],h=>simp at h
 |_::_::_::_,h=>simp at h;omega
theorem h0o {b:List Aw} {t x:Aw} (h:x∈b0i b t):x∈t.args:=by
 obtain ⟨k,i,o,l⟩:=t
 rw [b0i] at h
 split at h
 ·exact h
 ·split at h
  ·split at h
   ·exact List.mem_of_mem_drop h
   ·cases h
  ·cases h
def Xz (b:List Aw):Option Aw:=(b.flatMap (b0i b)).find? fun x=>!hasB b x
def Tj :Nat→List Aw→List Aw
 |0,b=>b
 |n+1,b=>match Xz b with
  |none=>b
  |some x=>Tj n (b++[x])
def rkB (U b:List Aw):Nat:=(U.filter fun u=>!hasB b u).length
structure BagOk (U:List Aw) (n:Nat) (b:List Aw):Prop where
 sub: ∀ t∈b,t∈U
 rk:rkB U b≤n
def b0x (U:List Aw):Prop:=∀ t∈U,wfT t∧∀ a∈t.args,a∈U
theorem filter_lt {α:Type} {p q:α→Bool}: ∀ {l:List α} {x:α},(∀ a,q a=true→p a=true)→x∈l→p x=true→q x=false→(l.filter q).length<(l.filter p).length
 |a::l,x,hpq,hx,hp,hq=>by
  have hle: ∀ l:List α,(l.filter q).length≤(l.filter p).length:=by
   intro l
   induction l with
   |nil=>simp
   |cons a l ih=>
    rw [List.filter_cons,List.filter_cons]
    split
    ·rename_i h;rw [if_pos (hpq a h)];simp only [List.length_cons];omega
    ·split
     ·simp only [List.length_cons];omega
     ·exact ih
  rw [List.filter_cons,List.filter_cons]
  rcases List.mem_cons.mp hx with rfl|hx
  ·rw [if_pos hp,if_neg (by rw [hq];simp)]
   have:=hle l
   simp only [List.length_cons];omega
  ·have ih:=filter_lt hpq hx hp hq
   split
   ·rename_i h;rw [if_pos (hpq a h)];simp only [List.length_cons];omega
   ·split
    ·simp only [List.length_cons];omega
    ·exact ih
theorem u0f {b:List Aw} {x:Aw} (h:Xz b=some x):hasB b x=false∧∃ t∈b,x∈b0i b t:=by
 have h1:=List.find?_some h
 have h2:=List.mem_of_find?_eq_some h
 rw [List.mem_flatMap] at h2
 exact ⟨by simpa using h1,h2⟩
theorem n0z {U:List Aw} {n:Nat} {b:List Aw} {x:Aw} (hU:b0x U) (h:BagOk U n b) (hs:Xz b=some x): ∃ n',n=n'+1∧BagOk U n' (b++[x]):=by
 obtain ⟨hx,t,ht,ho⟩:=u0f hs
 have hxU:x∈U:=(hU t (h.sub t ht)).2 x (h0o ho)
 have hlt:rkB U (b++[x])<rkB U b:=by
  refine filter_lt (fun a ha=>?_) hxU (by rw [hx];rfl) ?_
  ·have:=v0c.mp (by simpa using ha)
   simp only [Bool.not_eq_true',v0c]
   exact fun hm=>this (List.mem_append.mpr (.inl hm))
  ·simp only [Bool.not_eq_false',a0d];simp
 refine ⟨n-1,?_,?_,?_⟩
 ·have:=h.rk;omega
 ·intro u hu
  rcases List.mem_append.mp hu with hu|hu
  ·exact h.sub u hu
  ·rw [List.mem_singleton.mp hu];exact hxU
 ·have:=h.rk;omega
theorem Uj {n:Nat} {b:List Aw} (h:Xz b=none):Tj n b=b:=by
 cases n with
 |zero=>rfl
 |succ n=>rw [Tj,h]
theorem b0q {n:Nat} {b:List Aw} {x:Aw} (h:Xz b=some x):Tj (n+1) b=Tj n (b++[x]):=by rw [Tj,h]
theorem t1f {U:List Aw} {n:Nat} {b:List Aw} (hU:b0x U) (h:BagOk U n b): ∀ t∈b,wfT t:=fun t ht=>(hU t (h.sub t ht)).1
theorem f0r : ∀ {l:List Aw},(∀ a∈l,a.ok)→Dv l
 | [],_=>by rw [Dv];trivial
 |a::l,h=>by rw [Dv];exact ⟨h a (by simp),f0r fun b hb=>h b (by simp [hb])⟩
end Go.Sy
namespace Go.Sy
open Go.Proofs
attribute [local irreducible] Ey HT Bq Tk onC onE onO onG goV goA goS Wv Fx
theorem n0w (b:List Aw) (hb:b.length≤9223372036854775807) (hk:Dv b): ∀ (t:Aw),t.ok→Ct Try.prog 12 [(.w (.one (.pl (.R false 4 (Ay b))))),Pv t] (fun v m=>v=.w (.one (.pl (.b (Gj b t)))))
 | .mk k i o l,ht=>by
  have ht2:=ht
  rw [Aw.ok] at ht2
  rw [Ak,Zj]
  have ih: ∀ a,a∈l→Ct Try.prog 12 [(.w (.one (.pl (.R false 4 (Ay b))))),Pv a] (fun v m=>v=.w (.one (.pl (.b (Gj b a))))):=fun a ha=>n0w b hb hk a (Dz ht2.2.2.2.2 a ha)
  rcases hh:hasB b (.mk k i o l) with _|_
  · rw [Bool.false_or]
    by_cases h1:k=1
    · subst h1;rw [if_pos rfl];exact n1o b hb hk i o l ht hh
    · rw [if_neg h1]
      by_cases h2:k=2
      · subst h2;rw [if_pos rfl];exact n1n b hb hk i o l ht hh
      · rw [if_neg h2]
        by_cases h3:k=3
        · subst h3
          rw [if_pos rfl,dhB]
          rcases ha:Sq b i with _|_
          · rw [Bool.false_and,Bool.false_or]
            rcases hc:Sq b o with _|_
            · rw [Bool.false_and];exact g1h b hb hk i o l ht hh ha hc
            · rw [Bool.true_and];exact g1g b hb hk i o l ht hh ha hc
          · rw [Bool.true_and]
            rcases hp:p0e b o with _|_
            · rw [Bool.false_or]
              rcases hc:Sq b o with _|_
              · rw [Bool.false_and];exact g1j b hb hk i o l ht hh ha hp hc
              · rw [Bool.true_and];exact g1i b hb hk i o l ht hh ha hp hc
            · rw [Bool.true_or];exact g1l b hb hk i o l ht hh ha hp
        · rw [if_neg h3];exact n1m b hb hk k i o l ht hh h1 h2 h3 ih
  · rw [Bool.true_or];exact a1z b hb hk k i o l ht hh
termination_by t=>SizeOf.sizeOf t
decreasing_by
 have:=List.sizeOf_lt_of_mem ha
 simp only [Aw.mk.sizeOf_spec]
 omega
theorem q1s (kx ix ox:Int) (lx:List Aw) (y z:Aw):Ay [.mk kx ix ox lx,y,z]=[[.i kx,.i ix,.i ox,.R false 4 (Ay lx)],y.cells,z.cells]:=by
 rw [Ay,Ay,Ay,Ay,Aw.cells]
theorem u1e (z:Aw):Ay [z]=[z.cells]:=by rw [Ay,Ay]
end Go.Sy
namespace Go.Sy
open Go.Proofs
attribute [local irreducible] Ey HT Bq Tk onC onE onO onG goV goA goS Wv Fx
theorem Gz : ∀ l:List Aw,(Ay l).flatten.length=l.length*4
 | []=>by rw [Ay];rfl
 | .mk k i o m::r=>by
  rw [Ay,List.flatten_cons,List.length_append,Gz r,Aw.cells]
  simp only [List.length_cons,List.length_nil];omega
theorem Vv : ∀ l:List Aw,chunks 4 l.length (Ay l).flatten=Ay l
 | []=>by rw [Ay];rfl
 | .mk k i o m::r=>by
  have ih:=Vv r
  rw [Ay,Aw.cells]
  simp only [List.flatten_cons,List.length_cons]
  simp only [chunks]
  rw [List.take_left' (by rfl),List.drop_left' (by rfl),ih]
theorem r0o : ∀ {l:List Aw} {n:Nat} {k i o:Int} {m:List Aw},n<l.length→l.getD n (.mk 0 0 0 [])=.mk k i o m→List.take 4 (List.drop (n*4) (pls (Ay l).flatten))=[.pl (.i k),.pl (.i i),.pl (.i o),.pl (.R false 4 (Ay m))]
 | .mk k2 i2 o2 m2::l,0,k,i,o,m,h,he=>by
  obtain ⟨rfl,rfl,rfl,rfl⟩:k2=k∧i2=i∧o2=o∧m2=m:=by simpa using he
  rw [Ay,Aw.cells];simp [pls]
 | .mk k2 i2 o2 m2::l,n+1,k,i,o,m,h,he=>by
  have ih:=r0o (l:=l) (n:=n) (k:=k) (i:=i) (o:=o) (m:=m) (by simpa using h) (by simpa using he)
  rw [←ih,Ay,Aw.cells,Nat.succ_mul]
  simp [pls]
theorem f1r {b:List Aw} {t:Aw} (h:wfT t):(b0i b t).length≤9223372036854775807:=by
 obtain ⟨k,i,o,l⟩:=t
 have hk:=h.1
 rw [Aw.ok] at hk
 rw [b0i]
 split
 · exact hk.2.2.2.1
 · split
   · split
     · exact Nat.le_trans (by rw [List.length_drop];exact Nat.sub_le _ _) hk.2.2.2.1
     · simp
   · simp
theorem c1i (l:List Aw) (k i o:Int) (m:List Aw):(Ay (l++[.mk k i o m])).flatten=(Ay l).flatten++[.i k,.i i,.i o,.R false 4 (Ay m)]:=by
 simp only [Rq,List.map_append,List.flatten_append,List.map_cons,List.map_nil,List.flatten_cons,List.flatten_nil,List.append_nil,Aw.cells]
theorem u1l (b:List Aw) (hb:b.length≤9223372036854775807) (hk:Dv b) (i o:Int) (l:List Aw):
 CtM Try.prog 29 [(.w (.one (.s 500000 [] b.length 4))),Fy 4 i o l] [(500000,⟨true,pls (Ay b).flatten⟩)] (Told (fun v m=>v=.w (.one (.pl (.R false 4 (Ay l))))∧m=[(500000,⟨true,pls (Ay b).flatten⟩)])):=by
 have hbl:=Gz b
 have hbc:=Vv b
 have hun:k0x (pls (Ay b).flatten)=some (Ay b).flatten:=Zy _
 have F0:=And.intro hbl<|And.intro hbc<|And.intro hun<|And.intro Sj<|And.intro Pk<|decide_true
 refine CtM.k Try.func29 rfl Try.ntmps29 (congrArg Array.toList Try.results29) (by simp) fun w0 ro may fx=>?_
 refine Ck fun zZ zhZ=>?_
 iterate 15 first
  |(refine Dw fun zK zhK=>?_;simp only [go_sem,F0];(repeat' (first|apply And.intro|intro _)))
  |refine zhK _ ?_
  |refine Bw fun zB zbn zbx zbr zbi=>?_
  |refine Cq ?_
  |(refine zbr _ ?_;clear zbn zbx zbr zbi)
  |(refine zhM _ _ ?_;clear zhN zhM)
  |(refine zhZ _ _ ?_;simp only [go_sem,F0];(all_goals (exact Uy rfl (a0c (by simp [look])) ⟨rfl,rfl⟩)))
  |refine Bj fun zN zM zhN zhM=>?_
  |(refine Aj ?_ ?_;focus (first|rfl|(simp [go_sem,F0];done)))
theorem u1k (b:List Aw) (hb:b.length≤9223372036854775807) (hk:Dv b) (i o:Int) (kx ix ox:Int) (lx:List Aw) (y z:Aw) (hx:(Aw.mk kx ix ox lx).ok) (hm:Gj b (.mk kx ix ox lx)=true):
 CtM Try.prog 29 [(.w (.one (.s 500000 [] b.length 4))),Fy 7 i o [.mk kx ix ox lx,y,z]] [(500000,⟨true,pls (Ay b).flatten⟩)] (Told (fun v m=>v=.w (.one (.pl (.R false 4 (Ay [z]))))∧m=[(500000,⟨true,pls (Ay b).flatten⟩)])):=by
 have hbl:=Gz b
 have hbc:=Vv b
 have hun:k0x (pls (Ay b).flatten)=some (Ay b).flatten:=Zy _
 have hc:=n0w b hb hk _ hx
 rw [Ak,hm] at hc
 have F0:=And.intro hbl<|And.intro hbc<|And.intro hun<|And.intro Sj<|And.intro Pk<|And.intro decide_true<|And.intro q1s<|And.intro u1e<|(@List.getD_cons_zero (List PL))
 refine CtM.k Try.func29 rfl Try.ntmps29 (congrArg Array.toList Try.results29) (by simp) fun w0 ro may fx=>?_
 refine Ck fun zZ zhZ=>?_
 iterate 22 first
  |(refine Dw fun zK zhK=>?_;simp only [go_sem,F0];(repeat' (first|apply And.intro|intro _)))
  |refine zhK _ ?_
  |refine Bw fun zB zbn zbx zbr zbi=>?_
  |refine Cq ?_
  |(refine zbr _ ?_;clear zbn zbx zbr zbi)
  |(refine zhM _ _ ?_;clear zhN zhM)
  |(refine zhZ _ _ ?_;simp only [go_sem,F0];(all_goals (exact Uy rfl (a0c (by simp [look])) ⟨rfl,rfl⟩)))
  |((all_goals (refine Cz (fun k=>k) (fun _ _=>rfl) ?_ ((hc).plain fun _ _ h=>h) ?_;focus (first|rfl|(simp only [go_sem,F0]<;>rfl))));(all_goals (rintro v m ⟨hR,hm⟩;subst hR;subst hm));(all_goals refine And.intro (by first|rfl|simp only [go_sem,F0]) (And.intro (by first|rfl|simp only [go_sem,F0]) ?_));(all_goals simp only [go_sem,F0]);(all_goals repeat' (first|apply And.intro|intro _)))
  |refine Bj fun zN zM zhN zhM=>?_
  |(refine Aj ?_ ?_;focus (first|rfl|(simp [go_sem,F0];done)))
  |(refine Av ?_ ?_;focus (first|rfl|(simp [go_sem,F0];done)))
theorem r1f (b:List Aw) (hb:b.length≤9223372036854775807) (hk:Dv b) (i o:Int) (kx ix ox:Int) (lx:List Aw) (y z:Aw) (hx:(Aw.mk kx ix ox lx).ok) (hm:Gj b (.mk kx ix ox lx)=false):
 CtM Try.prog 29 [(.w (.one (.s 500000 [] b.length 4))),Fy 7 i o [.mk kx ix ox lx,y,z]] [(500000,⟨true,pls (Ay b).flatten⟩)] (Told (fun v m=>v=.w (.one (.pl (.R false 4 (Ay []))))∧m=[(500000,⟨true,pls (Ay b).flatten⟩)])):=by
 have hbl:=Gz b
 have hbc:=Vv b
 have hun:k0x (pls (Ay b).flatten)=some (Ay b).flatten:=Zy _
 have hc:=n0w b hb hk _ hx
 rw [Ak,hm] at hc
 have F0:=And.intro hbl<|And.intro hbc<|And.intro hun<|And.intro Sj<|And.intro Pk<|And.intro decide_true<|And.intro q1s<|(@List.getD_cons_zero (List PL))
 refine CtM.k Try.func29 rfl Try.ntmps29 (congrArg Array.toList Try.results29) (by simp) fun w0 ro may fx=>?_
 refine Ck fun zZ zhZ=>?_
 iterate 23 first
  |(refine Dw fun zK zhK=>?_;simp only [go_sem,F0];(repeat' (first|apply And.intro|intro _)))
  |refine zhK _ ?_
  |refine Bw fun zB zbn zbx zbr zbi=>?_
  |refine Bv ?_
  |(refine zbn _ ?_;clear zbn zbx zbr zbi)
  |(refine zhN _ ?_;clear zhN zhM)
  |refine Cq ?_
  |(refine zhZ _ _ ?_;simp only [go_sem,F0];(all_goals (exact o0e (v':=.w (.one (.pl (.R false 4 [])))) (fun d y hd=>s0m hd) (Uy rfl (a0c (by simp [look])) ⟨by rw [Ay],rfl⟩))))
  |((all_goals (refine Cz (fun k=>k) (fun _ _=>rfl) ?_ ((hc).plain fun _ _ h=>h) ?_;focus (first|rfl|(simp only [go_sem,F0]<;>rfl))));(all_goals (rintro v m ⟨hR,hm⟩;subst hR;subst hm));(all_goals refine And.intro (by first|rfl|simp only [go_sem,F0]) (And.intro (by first|rfl|simp only [go_sem,F0]) ?_));(all_goals simp only [go_sem,F0]);(all_goals repeat' (first|apply And.intro|intro _)))
  |refine Bj fun zN zM zhN zhM=>?_
  |(refine Av ?_ ?_;focus (first|rfl|(simp [go_sem,F0];done)))
  |(refine Aj ?_ ?_;focus (first|rfl|(simp [go_sem,F0];done)))
theorem u1j (b:List Aw) (hb:b.length≤9223372036854775807) (hk:Dv b) (k i o:Int) (l:List Aw) (h4:¬k=4) (h7:¬k=7):
 CtM Try.prog 29 [(.w (.one (.s 500000 [] b.length 4))),Fy k i o l] [(500000,⟨true,pls (Ay b).flatten⟩)] (Told (fun v m=>v=.w (.one (.pl (.R false 4 (Ay []))))∧m=[(500000,⟨true,pls (Ay b).flatten⟩)])):=by
 have hbl:=Gz b
 have hbc:=Vv b
 have hun:k0x (pls (Ay b).flatten)=some (Ay b).flatten:=Zy _
 have F0:=And.intro hbl<|And.intro hbc<|And.intro hun<|And.intro Sj<|And.intro Pk<|And.intro h4<|h7
 refine CtM.k Try.func29 rfl Try.ntmps29 (congrArg Array.toList Try.results29) (by simp) fun w0 ro may fx=>?_
 refine Ck fun zZ zhZ=>?_
 iterate 19 first
  |(refine Dw fun zK zhK=>?_;simp only [go_sem,F0];(repeat' (first|apply And.intro|intro _)))
  |refine zhK _ ?_
  |refine Bw fun zB zbn zbx zbr zbi=>?_
  |refine Bv ?_
  |(refine zbn _ ?_;clear zbn zbx zbr zbi)
  |(refine zhN _ ?_;clear zhN zhM)
  |refine Cq ?_
  |(refine zhZ _ _ ?_;simp only [go_sem,F0];(all_goals (exact o0e (v':=.w (.one (.pl (.R false 4 [])))) (fun d y hd=>s0m hd) (Uy rfl (a0c (by simp [look])) ⟨by rw [Ay],rfl⟩))))
  |refine Bj fun zN zM zhN zhM=>?_
  |(refine Av ?_ ?_;focus (first|rfl|(simp [go_sem,F0];done)))
theorem s1h (b:List Aw) (hb:b.length≤9223372036854775807) (hk:Dv b) (t:Aw) (ht:wfT t):CtM Try.prog 29 [(.w (.one (.s 500000 [] b.length 4))),Pv t] [(500000,⟨true,pls (Ay b).flatten⟩)] (fun v m=>v=.w (.one (.pl (.R false 4 (Ay (b0i b t)))))∧m=[(500000,⟨true,pls (Ay b).flatten⟩)]):=by
 obtain ⟨k,i,o,l⟩:=t
 have hl:=a0w ht
 rw [Ak,b0i]
 by_cases h4:k=4
 · subst h4;rw [if_pos rfl];exact (u1l b hb hk i o l).told
 · rw [if_neg h4]
   by_cases h7:k=7
   · subst h7
     rw [if_pos rfl]
     obtain ⟨x,y,z,rfl⟩:=n1t hl
     obtain ⟨kx,ix,ox,lx⟩:=x
     have hx:=(i0c ht (.mk kx ix ox lx) (by simp [Aw.args])).1
     show CtM _ _ _ _ (fun v m=>v=.w (.one (.pl (.R false 4 (Ay (if Gj b (.mk kx ix ox lx)=true then [z] else [])))))∧m=[(500000,⟨true,pls (Ay b).flatten⟩)])
     rcases hm:Gj b (.mk kx ix ox lx) with _|_
     · rw [if_neg (by simp)];exact (r1f b hb hk i o kx ix ox lx y z hx hm).told
     · rw [if_pos rfl];exact (u1k b hb hk i o kx ix ox lx y z hx hm).told
   · rw [if_neg h7];exact (u1j b hb hk k i o l h4 h7).told
theorem s1j (U:List Aw) (hU:b0x U) (n0:Nat) (b0 F:List Aw) (hB:BagOk U n0 b0) (hF:Tj n0 b0=F) (hL:b0.length+n0≤1000000):
 CtM Try.prog 11 [.w (.one (.s 750000 [] b0.length 4))] [(750000,⟨true,pls (Ay b0).flatten⟩)] (Told (fun v m=>v=.w (.one (.s 750000 [] F.length 4))∧m=[(750000,⟨true,pls (Ay F).flatten⟩)])):=by
 skip
 have F0:=Az
 refine CtM.k Try.func11 rfl Try.ntmps11 (congrArg Array.toList Try.results11) (by simp) fun w0 ro may fx=>?_
 refine Ck fun zZ zhZ=>?_
 refine Dw fun zK zhK=>?_
 simp only [go_sem,F0]
 repeat' (first|apply And.intro|intro _)
 refine zhK _ ?_
 refine l1t [] [] (fun y=>[(0,.w (.one (.s 750000 [] y.1.2.length 4)))]) (fun y=>[(750000,⟨true,pls (Ay y.1.2).flatten⟩)]) (fun y=>y.1.1) (⟨(n0,b0),hB,hF,hL⟩:{y:Nat×List Aw//BagOk U y.1 y.2∧Tj y.1 y.2=F∧y.2.length+y.1≤1000000}) ?_ ?_ ?_
 · (simp only [go_sem,leX,List.cons_append,List.nil_append,F0];try simp)
 · (simp only [go_sem,leX,List.cons_append,List.nil_append,F0];try simp)
 intro ⟨⟨n,b⟩,h1,h2,h3⟩ zZ2 zhG2 zsn2 zsr2 zse2
 simp only [List.cons_append,List.nil_append]
 have h1:BagOk U n b:=h1
 have h2:Tj n b=F:=h2
 have h3:b.length+n≤1000000:=h3
 have hw:=t1f hU h1
 have hk:Dv b:=f0r fun a ha=>(hw a ha).1
 have hb6:b.length≤1000000:=Nat.le_trans (Nat.le_add_right _ _) h3
 have hb:b.length≤9223372036854775807:=Nat.le_trans hb6 (by decide)
 have hbl:=Gz b
 have hbc:=Vv b
 have hun:k0x (pls (Ay b).flatten)=some (Ay b).flatten:=Zy _
 have F0:=And.intro Gz<|And.intro Vv<|And.intro Sj<|F0
 refine Bj fun zN zM zhN zhM=>?_
 refine Dw fun zK zhK=>?_
 simp only [go_sem,F0]
 repeat' (first|apply And.intro|intro _)
 refine zhK _ ?_
 refine n0x fun zB zbn zbx zbr zbi zbg=>?_
 refine Iy (fun y=>[(9,.w (.one (.pl (.i ((y.1:Nat):Int)))))]) (fun _=>[]) (fun y=>b.length-y.1) (⟨0,Nat.zero_le _,rfl⟩:{y:Nat//y≤b.length∧((b.drop y).flatMap (b0i b)).find? (fun x=>!hasB b x)=Xz b}) ?_ ?_ ?_
 · (simp only [go_sem,leX,List.cons_append,List.nil_append,F0];try simp)
 · (simp only [go_sem,leX,List.cons_append,List.nil_append,F0];try simp)
 intro ⟨i,g1,g4⟩ zN zM zhN zhM
 simp only [List.cons_append,List.nil_append]
 have yN0:=zhN
 rcases Nat.lt_or_ge i b.length with hlt|hge
 · obtain ⟨k2,i2,o2,m2,he,hm,hdr,hg⟩:=Cy hlt
   have hc:=s1h b hb hk _ (hw _ hm)
   rw [Ak] at hc
   obtain ⟨ys,hys⟩: ∃ ys,b0i b (.mk k2 i2 o2 m2)=ys:=⟨_,rfl⟩
   rw [hys] at hc
   rw [hdr,List.flatMap_cons,hys] at g4
   have hci:=ltI hlt
   have hj:(0:Int)≤((i:Nat):Int):=Int.natCast_nonneg i
   have hs1:=Qv hlt hb
   have hgt:=r0o hlt he
   have hi4:i*4+4≤b.length*4:=by omega
   have hys6:ys.length≤9223372036854775807:=by rw [←hys];exact f1r (hw _ hm)
   have F0:=And.intro hci<|And.intro hj<|And.intro Int.toNat_natCast<|And.intro Az<|And.intro hs1<|And.intro hgt<|And.intro hi4<|And.intro hbl<|And.intro hbc<|And.intro hun<|And.intro Sj<|And.intro Pk<|F0
   have ch0:=CtM.ch [(500000,750000)] (hc)
   iterate 14 first
    |(refine Dw fun zK zhK=>?_;simp only [go_sem,F0];(repeat' (first|apply And.intro|intro _)))
    |refine zhK _ ?_
    |refine n0x fun zB zbn zbx zbr zbi zbg=>?_
    |refine Bv ?_
    |(refine zhN _ ?_;clear zhN zhM)
    |((all_goals (refine Sw false [(500000,750000)] (fun k=>k) (fun _ _=>rfl) ?_ (by decide) ?_ hc ?_;iterate 2 (focus (first|rfl|(simp only [go_sem,F0]<;>first|done|rfl|simp)))));(all_goals (rintro v m ⟨hR,hm⟩;subst hR;subst hm));(all_goals (refine And.intro ?_ (And.intro ?_ (And.intro ?_ ?_));iterate 3 (focus (first|rfl|(simp only [go_sem,F0];done)|(simp [go_sem,look,F0];done)))));(all_goals (try simp only [go_sem,F0]));(all_goals (try simp only [go_sem,F0]));(all_goals repeat' (first|apply And.intro|intro _)))
    |refine Bj fun zN zM zhN zhM=>?_
    |(refine Aj ?_ ?_;focus (first|rfl|(simp [go_sem,F0];done)))
   refine Iy (fun y=>[(17,.w (.one (.pl (.i ((y.1:Nat):Int)))))]) (fun _=>[]) (fun y=>ys.length-y.1) (⟨0,Nat.zero_le _,g4⟩:{y:Nat//y≤ys.length∧(ys.drop y++(b.drop (i+1)).flatMap (b0i b)).find? (fun x=>!hasB b x)=Xz b}) ?_ ?_ ?_
   · (simp only [go_sem,leX,List.cons_append,List.nil_append,F0];try simp)
   · (simp only [go_sem,leX,List.cons_append,List.nil_append,F0];try simp)
   intro ⟨j,q1,q4⟩ zN zM zhN zhM
   simp only [List.cons_append,List.nil_append]
   have yN1:=zhN
   rcases Nat.lt_or_ge j ys.length with qlt|qge
   rcases hsb:hasB b (ys.getD j (.mk 0 0 0 [])) with _|_
   · obtain ⟨k3,i3,o3,m3,he3,hm3,hdr3,hg3⟩:=Cy qlt
     rw [he3] at hsb
     have hy3:(Aw.mk k3 i3 o3 m3).ok:=(i0c (hw _ hm) _ (h0o (b:=b) (by rw [hys];exact hm3))).1
     have hd:=h0j b hb hk _ hy3
     rw [Ak,hsb] at hd
     have qci:=ltI qlt
     have qj:(0:Int)≤((j:Nat):Int):=Int.natCast_nonneg j
     have qjl:j<(Ay ys).length:=by rw [Az];exact qlt
     rw [hdr3,List.cons_append,List.find?_cons,hsb] at q4
     obtain ⟨n',hn,hB'⟩:=n0z hU h1 q4.symm
     have h2':Tj n' (b++[.mk k3 i3 o3 m3])=F:=by rw [←h2,hn];exact (b0q q4.symm).symm
     have hln:(b++[Aw.mk k3 i3 o3 m3]).length=b.length+1:=by simp
     have h3':(b++[Aw.mk k3 i3 o3 m3]).length+n'≤1000000:=by rw [hln];omega
     have hsn:=c1i b k3 i3 o3 m3
     have hcap:(b.length+1)*48≤140737488355328:=by omega
     have hl4:(b.length+1)*4=b.length*4+4:=Nat.succ_mul _ _
     have hpa:pls ((Ay b).flatten++[.i k3,.i i3,.i o3,.R false 4 (Ay m3)])=pls (Ay b).flatten++[.pl (.i k3),.pl (.i i3),.pl (.i o3),.pl (.R false 4 (Ay m3))]:=by simp [pls]
     have F0:=And.intro qci<|And.intro qj<|And.intro qjl<|And.intro hg3<|And.intro Int.toNat_natCast<|And.intro Az<|And.intro hbl<|And.intro hbc<|And.intro hun<|And.intro hln<|And.intro hsn<|And.intro hcap<|And.intro Pk<|And.intro Sj<|And.intro hl4<|And.intro hpa<|F0
     have cv0:=Ct.cv (hd)
     iterate 27 first
      |(refine zhM _ _ ?_;clear zhN zhM)
      |(refine Dw fun zK zhK=>?_;simp only [go_sem,F0];(repeat' (first|apply And.intro|intro _)))
      |refine zhK _ ?_
      |(refine zbg _ _ ?_;clear zbn zbx zbr zbi zbg)
      |refine Bv ?_
      |(refine zhN _ ?_;clear zhN zhM)
      |refine n0x fun zB zbn zbx zbr zbi zbg=>?_
      |refine s1i ?_
      |refine zhG2 ⟨(n',b++[.mk k3 i3 o3 m3]),hB',h2',h3'⟩ _ ?_ ?_ ?_
      |((all_goals (refine Cz (fun k=>k) (fun _ _=>rfl) ?_ ((hd).plain fun _ _ h=>h) ?_;focus (first|rfl|(simp only [go_sem,F0]<;>rfl))));(all_goals (rintro v m ⟨hR,hm⟩;subst hR;subst hm));(all_goals refine And.intro (by first|rfl|simp only [go_sem,F0]) (And.intro (by first|rfl|simp only [go_sem,F0]) ?_));(all_goals simp only [go_sem,F0]);(all_goals repeat' (first|apply And.intro|intro _)))
      |refine Bj fun zN zM zhN zhM=>?_
      |(refine Aj ?_ ?_;focus (first|rfl|(simp [go_sem,F0];done)))
     · exact hn▸Nat.lt_succ_self _
     · (simp only [go_sem,leX,List.cons_append,List.nil_append,F0];try simp)
     · (simp only [go_sem,leX,List.cons_append,List.nil_append,F0];try simp)
   · obtain ⟨k3,i3,o3,m3,he3,hm3,hdr3,hg3⟩:=Cy qlt
     rw [he3] at hsb
     have hy3:(Aw.mk k3 i3 o3 m3).ok:=(i0c (hw _ hm) _ (h0o (b:=b) (by rw [hys];exact hm3))).1
     have hd:=h0j b hb hk _ hy3
     rw [Ak,hsb] at hd
     have qci:=ltI qlt
     have qj:(0:Int)≤((j:Nat):Int):=Int.natCast_nonneg j
     have qjl:j<(Ay ys).length:=by rw [Az];exact qlt
     rw [hdr3,List.cons_append,List.find?_cons,hsb] at q4
     have qs1:=Qv qlt hys6
     have F0:=And.intro qci<|And.intro qj<|And.intro qjl<|And.intro hg3<|And.intro Int.toNat_natCast<|And.intro Az<|And.intro hbl<|And.intro hbc<|And.intro hun<|And.intro qs1<|F0
     have cv0:=Ct.cv (hd)
     iterate 19 first
      |refine zhK _ ?_
      |(refine Dw fun zK zhK=>?_;simp only [go_sem,F0];(repeat' (first|apply And.intro|intro _)))
      |refine Bv ?_
      |(refine zhN _ ?_;clear zhN zhM)
      |refine n0x fun zB zbn zbx zbr zbi zbg=>?_
      |(refine zbn _ ?_;clear zbn zbx zbr zbi zbg)
      |(refine Aq fun zK zhK=>?_;simp only [go_sem,F0];(repeat' (first|apply And.intro|intro _)))
      |((all_goals (refine Cz (fun k=>k) (fun _ _=>rfl) ?_ ((hd).plain fun _ _ h=>h) ?_;focus (first|rfl|(simp only [go_sem,F0]<;>rfl))));(all_goals (rintro v m ⟨hR,hm⟩;subst hR;subst hm));(all_goals refine And.intro (by first|rfl|simp only [go_sem,F0]) (And.intro (by first|rfl|simp only [go_sem,F0]) ?_));(all_goals simp only [go_sem,F0]);(all_goals repeat' (first|apply And.intro|intro _)))
      |refine Bj fun zN zM zhN zhM=>?_
      |(refine Aj ?_ ?_;focus (first|rfl|(simp [go_sem,F0];done)))
      |(refine Av ?_ ?_;focus (first|rfl|(simp [go_sem,F0];done)))
     refine zhN ⟨j+1,qlt,q4⟩ _ ?_ ?_ ?_
     · (exact Nat.sub_lt_sub_left qlt (Nat.lt_succ_self j))
     · (simp only [go_sem,leX,List.cons_append,List.nil_append,F0];try simp)
     · (simp only [go_sem,leX,List.cons_append,List.nil_append,F0];try simp)
   · obtain rfl:j=ys.length:=Nat.le_antisymm q1 qge
     rw [List.drop_length,List.nil_append] at q4
     have g6:((b.drop (i+1)).flatMap (b0i b)).find? (fun x=>!hasB b x)=Xz b:=q4
     have F0:=And.intro (@r0e ys.length)<|F0
     refine Dw fun zK zhK=>?_
     simp only [go_sem,F0]
     repeat' (first|apply And.intro|intro _)
     refine zhK _ ?_
     refine Bj fun zN zM zhN zhM=>?_
     (refine Av ?_ ?_;focus (first|rfl|(simp [go_sem,F0];done)))
     refine Iw ?_
     refine zhM _ _ ?_;clear zhN zhM
     refine zhM _ _ ?_;clear zhN zhM
     refine zbx _ ?_;clear zbn zbx zbr zbi zbg
     refine zbn _ ?_;clear zbn zbx zbr zbi zbg
     refine zhN _ ?_;clear zhN zhM
     refine Aq fun zK zhK=>?_
     simp only [go_sem,F0]
     repeat' (first|apply And.intro|intro _)
     refine zhK _ ?_
     refine zhN ⟨i+1,hlt,g6⟩ _ ?_ ?_ ?_
     · (exact Nat.sub_lt_sub_left hlt (Nat.lt_succ_self i))
     · (simp only [go_sem,leX,List.cons_append,List.nil_append,F0];try simp)
     · (simp only [go_sem,leX,List.cons_append,List.nil_append,F0];try simp)
 · obtain rfl:i=b.length:=Nat.le_antisymm g1 hge
   rw [List.drop_length] at g4
   have hFb:b=F:=(Uj (n:=n) (g4.symm.trans rfl)).symm.trans h2
   have F0:=And.intro (@r0e b.length)<|F0
   refine Dw fun zK zhK=>?_
   simp only [go_sem,F0]
   repeat' (first|apply And.intro|intro _)
   refine zhK _ ?_
   refine Bj fun zN zM zhN zhM=>?_
   (refine Av ?_ ?_;focus (first|rfl|(simp [go_sem,F0];done)))
   refine Iw ?_
   refine zhM _ _ ?_;clear zhN zhM
   refine zhM _ _ ?_;clear zhN zhM
   refine zbx _ ?_;clear zbn zbx zbr zbi zbg
   refine zhN _ ?_;clear zhN zhM
   refine Dw fun zK zhK=>?_
   simp only [go_sem,F0]
   repeat' (first|apply And.intro|intro _)
   refine zhK _ ?_
   refine Cq ?_
   refine zsr2 _ ?_
   refine zhZ _ _ ?_
   simp only [go_sem,F0]
   all_goals (subst hFb;exact b0c (m2:=[(750000,⟨true,pls (Ay b).flatten⟩)]) (by simp [look]) ⟨rfl,rfl⟩)
end Go.Sy
namespace Go.Sy
open Go.Proofs
attribute [local irreducible] Ey HT Bq Tk onC onE onO onG goV goA goS Wv Fx
def g0p (N:Aw→Int→Int):List Aw→Int→Int
 | [],n=>n
 |a::l,n=>if 300<n+N a 1 then n+N a 1 else g0p N l (n+N a 1)
def Fj (N:Aw→Int→Int) (l:List Aw):Int:=if 300<g0p N l 0 then 1 else Cv l
theorem Zx (N:Aw→Int→Int) (n:Int):g0p N [] n=n:=rfl
theorem Nz (N:Aw→Int→Int) (a:Aw) (l:List Aw) (n:Int):g0p N (a::l) n=if 300<n+N a 1 then n+N a 1 else g0p N l (n+N a 1):=rfl
theorem Py (a:Aw) (l:List Aw):Cv (a::l)=if Bz a=0 then Cv l else Bz a:=by rw [Cv]
theorem e0y :Cv []=0:=by rw [Cv]
theorem size_range (a:Aw):1≤Gx a 1∧Gx a 1≤100000000:=⟨Rj a 1,Int.le_trans (h0n a 1 40 (by omega)) (by decide)⟩
theorem Qq (a:Aw):1≤Dq a 1∧Dq a 1≤100000000:=⟨Wq a 1,Int.le_trans (d0w a 1 40 (by omega)) (by decide)⟩
theorem m0q (l:List Aw) (hl:l.length≤9223372036854775807) (hk:Dv l):
 Ct Try.prog 9 [(.w (.one (.pl (.R false 4 (Ay l)))))] (fun v m=>v=.w (.one (.pl (.i (Fj Gx l))))):=by
 skip
 have F0:=Az
 refine Ct.k Try.func9 rfl Try.ntmps9 (congrArg Array.toList Try.results9) (by simp) fun w0 ro=>?_
 refine Ck fun zZ zhZ=>?_
 iterate 8 first
  |(refine Dw fun zK zhK=>?_;simp only [go_sem,F0];(repeat' (first|apply And.intro|intro _)))
  |refine zhK _ ?_
  |refine Bw fun zB zbn zbx zbr zbi=>?_
  |refine Bj fun zN zM zhN zhM=>?_
 refine Iy (fun y=>[(3,.w (.one (.pl (.i y.1.2)))),(11,.w (.one (.pl (.i ((y.1.1:Nat):Int)))))]) (fun _=>[]) (fun y=>l.length-y.1.1) (⟨(0,0),Nat.zero_le _,by decide,by decide,rfl⟩:{y:Nat×Int//y.1≤l.length∧0≤y.2∧y.2≤300∧g0p Gx (l.drop y.1) y.2=g0p Gx l 0}) ?_ ?_ ?_
 · (simp only [go_sem,leX,List.cons_append,List.nil_append,F0];try simp)
 · (simp only [go_sem,leX,List.cons_append,List.nil_append,F0];try simp)
 intro ⟨⟨j,n⟩,h1,h2,h3,h4⟩ zN zM zhN zhM
 simp only [List.cons_append,List.nil_append]
 have yN0:=zhN
 have h1:j≤l.length:=h1
 have h2:0≤n:=h2
 have h3:n≤300:=h3
 have h4:g0p Gx (l.drop j) n=g0p Gx l 0:=h4
 rcases Nat.lt_or_ge j l.length with hlt|hge
 rcases Int.lt_or_le 300 (n+Gx (l.getD j (.mk 0 0 0 [])) 1) with hbig|hbig
 · obtain ⟨k2,i2,o2,m2,he,hm,hdr,hg⟩:=Cy hlt
   have hj:(0:Int)≤((j:Nat):Int):=Int.natCast_nonneg j
   have hjl:j<(Ay l).length:=by rw [Az];exact hlt
   have hci:=ltI hlt
   have hs1:=Qv hlt hl
   have hc:=y0r _ (Dz hk _ hm) 1 (by decide) (by decide)
   rw [Ak] at hc
   have hr:=size_range (.mk k2 i2 o2 m2)
   rw [hdr,Nz] at h4
   obtain ⟨w,hw⟩: ∃ w,Gx (.mk k2 i2 o2 m2) 1=w:=⟨_,rfl⟩
   rw [hw] at hc hr h4
   have hwr:Go.RowKit.wrap64 (n+w)=n+w:=w64 (by omega)
   rw [he,hw] at hbig
   rw [if_pos hbig] at h4
   have hfe:Fj Gx l=1:=by rw [Fj,if_pos (by rw [←h4];exact hbig)]
   have zE:V.w (.one (.pl (.i 1)))=V.w (.one (.pl (.i (Fj Gx l)))):=by rw [hfe]
   have F0:=And.intro hci<|And.intro hj<|And.intro hjl<|And.intro hg<|And.intro Int.toNat_natCast<|And.intro Az<|And.intro hs1<|And.intro hwr<|And.intro hbig<|F0
   have cv0:=Ct.cv (hc)
   exact HT.w
 · obtain ⟨k2,i2,o2,m2,he,hm,hdr,hg⟩:=Cy hlt
   have hj:(0:Int)≤((j:Nat):Int):=Int.natCast_nonneg j
   have hjl:j<(Ay l).length:=by rw [Az];exact hlt
   have hci:=ltI hlt
   have hs1:=Qv hlt hl
   have hc:=y0r _ (Dz hk _ hm) 1 (by decide) (by decide)
   rw [Ak] at hc
   have hr:=size_range (.mk k2 i2 o2 m2)
   rw [hdr,Nz] at h4
   obtain ⟨w,hw⟩: ∃ w,Gx (.mk k2 i2 o2 m2) 1=w:=⟨_,rfl⟩
   rw [hw] at hc hr h4
   have hwr:Go.RowKit.wrap64 (n+w)=n+w:=w64 (by omega)
   rw [he,hw] at hbig
   have hnb:¬300<n+w:=by omega
   rw [if_neg hnb] at h4
   have F0:=And.intro hci<|And.intro hj<|And.intro hjl<|And.intro hg<|And.intro Int.toNat_natCast<|And.intro Az<|And.intro hs1<|And.intro hwr<|And.intro hnb<|F0
   have cv0:=Ct.cv (hc)
   have zL:=fun S2=>yN0 ⟨(j+1,n+w),hlt,by omega,hbig,h4⟩ S2 (by (exact Nat.sub_lt_sub_left hlt (Nat.lt_succ_self j)))
   exact HT.w
 · obtain rfl:j=l.length:=Nat.le_antisymm h1 hge
   rw [List.drop_length,Zx] at h4
   have hfl:Fj Gx l=Cv l:=by rw [Fj,if_neg (by rw [←h4];omega)]
   have F0:=And.intro (@r0e l.length)<|F0
   iterate 13 first
    |(refine Dw fun zK zhK=>?_;simp only [go_sem,F0];(repeat' (first|apply And.intro|intro _)))
    |refine zhK _ ?_
    |(refine zhM _ _ ?_;clear zhN zhM)
    |refine Iw ?_
    |(refine zbx _ ?_;clear zbn zbx zbr zbi)
    |(refine zhN _ ?_;clear zhN zhM)
    |refine Bw fun zB zbn zbx zbr zbi=>?_
    |refine Bj fun zN zM zhN zhM=>?_
    |(refine Av ?_ ?_;focus (first|rfl|(simp [go_sem,F0];done)))
   refine Iy (fun y=>[(24,.w (.one (.pl (.i ((y.1:Nat):Int)))))]) (fun _=>[]) (fun y=>l.length-y.1) (⟨0,Nat.zero_le _,rfl⟩:{y:Nat//y≤l.length∧Cv (l.drop y)=Cv l}) ?_ ?_ ?_
   · (simp only [go_sem,leX,List.cons_append,List.nil_append,F0];try simp)
   · (simp only [go_sem,leX,List.cons_append,List.nil_append,F0];try simp)
   intro ⟨j,h1,h4⟩ zN zM zhN zhM
   simp only [List.cons_append,List.nil_append]
   have yN1:=zhN
   have h1:j≤l.length:=h1
   have h4:Cv (l.drop j)=Cv l:=h4
   rcases Nat.lt_or_ge j l.length with hlt|hge
   rcases Int.decEq (Bz (l.getD j (.mk 0 0 0 []))) 0 with hbad|hbad
   · obtain ⟨k2,i2,o2,m2,he,hm,hdr,hg⟩:=Cy hlt
     have hj:(0:Int)≤((j:Nat):Int):=Int.natCast_nonneg j
     have hjl:j<(Ay l).length:=by rw [Az];exact hlt
     have hci:=ltI hlt
     have hs1:=Qv hlt hl
     have hc:=c1f _ (Dz hk _ hm)
     rw [Ak] at hc
     rw [hdr,Py] at h4
     obtain ⟨w,hw⟩: ∃ w,Bz (.mk k2 i2 o2 m2)=w:=⟨_,rfl⟩
     rw [hw] at hc h4
     rw [he,hw] at hbad
     rw [if_neg hbad] at h4
     have zE:V.w (.one (.pl (.i w)))=V.w (.one (.pl (.i (Fj Gx l)))):=by rw [hfl,h4]
     have F0:=And.intro hci<|And.intro hj<|And.intro hjl<|And.intro hg<|And.intro Int.toNat_natCast<|And.intro Az<|And.intro hs1<|And.intro hbad<|F0
     have cv0:=Ct.cv (hc)
     exact HT.w
   · obtain ⟨k2,i2,o2,m2,he,hm,hdr,hg⟩:=Cy hlt
     have hj:(0:Int)≤((j:Nat):Int):=Int.natCast_nonneg j
     have hjl:j<(Ay l).length:=by rw [Az];exact hlt
     have hci:=ltI hlt
     have hs1:=Qv hlt hl
     have hc:=c1f _ (Dz hk _ hm)
     rw [Ak] at hc
     rw [hdr,Py] at h4
     obtain ⟨w,hw⟩: ∃ w,Bz (.mk k2 i2 o2 m2)=w:=⟨_,rfl⟩
     rw [hw] at hc h4
     rw [he,hw] at hbad
     rw [if_pos hbad] at h4
     have F0:=And.intro hci<|And.intro hj<|And.intro hjl<|And.intro hg<|And.intro Int.toNat_natCast<|And.intro Az<|And.intro hs1<|And.intro hbad<|F0
     have cv0:=Ct.cv (hc)
     have zL:=fun S2=>yN1 ⟨j+1,hlt,h4⟩ S2 (by (exact Nat.sub_lt_sub_left hlt (Nat.lt_succ_self j)))
     exact HT.w
   · obtain rfl:j=l.length:=Nat.le_antisymm h1 hge
     rw [List.drop_length,e0y] at h4
     have zE:V.w (.one (.pl (.i 0)))=V.w (.one (.pl (.i (Fj Gx l)))):=by rw [hfl,h4]
     have F0:=And.intro (@r0e l.length)<|F0
     exact HT.w
end Go.Sy
