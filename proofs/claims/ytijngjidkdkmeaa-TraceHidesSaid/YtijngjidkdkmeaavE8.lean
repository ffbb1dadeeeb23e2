/- The layer that reckons a function out: what it says of states, operations, regions, loops, calls. CONDITIONS: those that each theorem names. -/
import Derived.Test.YtijngjidkdkmeaavE7
set_option linter.unusedVariables false
set_option linter.unusedSimpArgs false
namespace Go.Sy
def f0d (r:List (Nat×V)):List (Nat×V)→List Bool→List (Nat×V)
 |x::vs,b::bs=>if b=true then x::f0d r vs bs else f0d r vs bs
 |_,_=>r
theorem h0e {r:List (Nat×V)} {k:Nat}: ∀ {vs:List (Nat×V)} {bs:List Bool},(vs.all fun x=>decide (k≠x.1))=true→look (f0d r vs bs) k=look r k
 | [],[],_=>rfl
 | [],_::_,_=>rfl
 |_::_,[],_=>rfl
 |x::vs,b::bs,h=>by
   simp only [wN,yF,decide_eq_true_eq] at h
   have ih:=h0e (r:=r) (bs:=bs) h.2
   rw [f0d]
   split
   ·rw [look,if_neg h.1];exact ih
   exact ih
theorem Ky {r:List (Nat×V)} {k:Nat} {v:V}: ∀ {vs:List (Nat×V)} {bs:List Bool} {i:Nat},bs.getD i false=true→vs[i]? =some (k,v)→((vs.map (·.1)).Nodup)→look (f0d r vs bs) k=some v
 | [],_,i,_,h,_=>by simp at h
 |_::_,[],i,h,_,_=>by simp at h
 |x::vs,b::bs,0,hb,hv,_=>by
   obtain rfl:b=true:=by simpa using hb
   obtain rfl:x=(k,v):=by simpa using hv
   rw [f0d,if_pos rfl,look,if_pos rfl]
 |x::vs,b::bs,i+1,hb,hv,hn=>by
   simp only [yM,vE] at hn
   have ih:=Ky (r:=r) (bs:=bs) (i:=i) (by simpa using hb) (by simpa using hv) hn.2
   have hx:k≠x.1:=by
    rintro rfl
    have hv':vs[i]? =some (x.1,v):=by simpa using hv
    exact hn.1 (yY.mpr ⟨_,wR hv',rfl⟩)
   rw [f0d]
   split
   ·rw [look,if_neg hx];exact ih
   exact ih
theorem v0b {r:List (Nat×V)} {k:Nat} {v:V} {j:Nat}: ∀ {vs:List (Nat×V)} {bs:List Bool} {i:Nat},i<bs.length→vs[i]? =some (k,v)→((vs.map (·.1)).Nodup)→look (f0d r vs (bs.set i true)) j=if j=k then some v else look (f0d r vs bs) j
 | [],_,i,_,h,_=>by simp at h
 |_::_,[],i,h,_,_=>by simp at h
 |x::vs,b::bs,0,hb,hv,hn=>by
   obtain rfl:x=(k,v):=by simpa using hv
   rw [List.set_cons_zero,f0d,if_pos rfl,look,f0d]
   by_cases hj:j=k
   ·rw [if_pos hj,if_pos hj]
   rw [if_neg hj,if_neg hj]
   split
   ·rw [look,if_neg hj]
   rfl
 |x::vs,b::bs,i+1,hb,hv,hn=>by
   simp only [yM,vE] at hn
   have ih:=v0b (r:=r) (j:=j) (bs:=bs) (i:=i) (by simpa using hb) (by simpa using hv) hn.2
   have hx:x.1≠k:=by
    rintro rfl
    have hv':vs[i]? =some (x.1,v):=by simpa using hv
    exact hn.1 (yY.mpr ⟨_,wR hv',rfl⟩)
   rw [List.set_cons_succ,f0d,f0d]
   split
   ·rw [look,look,ih]
    by_cases hj:j=x.1
    ·rw [if_pos hj,if_pos hj,if_neg (fun e=>hx (hj.symm.trans e))]
    rw [if_neg hj,if_neg hj]
   exact ih
theorem o1q {B:Base} {S S':St} (he: ∀ k v,look S'.env k=some v→Go.Sy.look S.env k=some v) (hm: ∀ k o,Go.Sy.look S'.mem k=some o→Go.Sy.look S.mem k=some o):Le B S S':=by
 intro d a w h
 have hsome: ∀ j,(Go.Sy.look S'.mem j).isSome=true→(Go.Sy.look S.mem j).isSome=true:=by
  intro j hj
  cases ho:Go.Sy.look S'.mem j with
  |none=>simp [ho] at hj
  |some o=>rw [hm _ _ ho];rfl
 exact ⟨d,h.defers,h.nt,fun n v hv=>h.env n v (he _ _ hv),fun k o hk=>h.mem k o (hm _ _ hk),fun k k' h1 h2=>h.inj k k' (hsome _ h1) (hsome _ h2),fun k hk=>h.own k (hsome _ hk),h.ro,h.old,h.os,h.tape,h.output,h.size,h.block,h.gat,fun k o hk=>h.glob k o (hm _ _ hk),fun k o p hk=>h.fix k o p (hm _ _ hk),h.fxn,fun b l hb=>h.mp b l (hm _ _ hb)⟩
theorem DrS.le {P:Program} {B:Base} {l:List Oper} {dn:List Bool} {S T:St} {K:St→Prop} (h:DrS P B l dn T K) (hl:Le B S T):DrS P B l dn S K:=by
 intro d a w hs Q hQ listed hl'
 obtain ⟨d',hs'⟩:=hl d a w hs
 exact h d' a w hs' Q hQ listed hl'
end Go.Sy
namespace Go.Sy
def m0g (l:List Oper) (i:Nat):List Nat:=match l[i]? with
 |some o=>(o.after.toList.filter fun e=>Region.binds .any e).map (·.on)
 |none=>[]
def y0c (l:List Oper):Nat→Nat→Nat→Bool
 |0,_,_=>false
 |n+1,i,j=>(m0g l i).any fun e=>decide (e=j)||y0c l n e j
def q1t (l:List Oper) (dn:List Bool):Prop:=∀ i,i<l.length→dn.getD i false=true→∀ j∈m0g l i,dn.getD j false=true
theorem t0g {l:List Oper} {dn:List Bool} (hc:q1t l dn) (hlen:dn.length=l.length): ∀ {n i j:Nat},(∀ e∈m0g l i,dn.getD e false=true)→y0c l n i j=true→dn.getD j false=true
 |0,i,j,_,h=>by simp [y0c] at h
 |n+1,i,j,hd,h=>by
   rw [y0c,List.any_eq_true] at h
   obtain ⟨e,he,h⟩:=h
   have h1:=hd e he
   rw [xQ,decide_eq_true_eq] at h
   rcases h with rfl|h
   ·exact h1
   refine t0g hc hlen (fun f hf=>?_) h
   have hel:e<l.length:=by
    rw [←hlen]
    by_cases hq:e<dn.length
    ·exact hq
    rw [wE,List.getElem?_eq_none (by omega)] at h1;simp at h1
   exact hc e hel h1 f hf
def q2f (l:List Oper) (q:Nat):Bool:=
 (List.range l.length).all fun i=>(m0g l i).all (fun j=>decide (j<i))&&(decide (i<q)||(List.range q).all fun j=>y0c l l.length i j)
structure Pd (l:List Oper) (q:Nat) (dn:List Bool):Prop where
 len:dn.length=l.length
 cl:q1t l dn
 hi: ∀ i,q≤i→dn.getD i false=false
theorem l0t {l:List Oper} {dn:List Bool} {i:Nat} (h:i∈e0y l dn):i<l.length∧dn.getD i true=false∧∀ e∈m0g l i,dn.getD e false=true:=by
 rw [e0y,vF,wL,yF,yS] at h
 refine ⟨h.1,h.2.1,fun e he=>?_⟩
 have h3:=h.2.2
 unfold m0g at he
 cases ho:l[i]? with
 |none=>rw [ho] at he;cases he
 |some o=>
   rw [ho] at he h3
   obtain ⟨x,hx,rfl⟩:=yY.mp he
   have hx:=vF.mp hx
   have:=yI.mp h3 x hx.1
   simpa [hx.2] using this
theorem t0v {l:List Oper} {dn:List Bool} {i:Nat} (h1:i<l.length) (h2:dn.getD i true=false) (h3: ∀ e∈m0g l i,dn.getD e false=true):i∈e0y l dn:=by
 rw [e0y,vF,wL,yF,yS]
 refine ⟨h1,h2,?_⟩
 cases ho:l[i]? with
 |none=>rfl
 |some o=>
   refine yI.mpr fun e he=>?_
   cases hb:Region.binds .any e with
   |false=>rfl
   |true=>
     have:=h3 e.on (by unfold m0g;rw [ho];exact yY.mpr ⟨e,vF.mpr ⟨he,hb⟩,rfl⟩)
     rw [this];rfl
theorem v0t {dn:List Bool} {i:Nat} (h:i<dn.length):dn.getD i false=dn.getD i true:=by
 rw [wE,wE,yX h];rfl
theorem k0j {dn:List Bool} {i j:Nat} (h:i<dn.length):(dn.set i true).getD j false=if j=i then true else dn.getD j false:=by
 rw [wE,wE,List.getElem?_set]
 by_cases e:i=j
 ·subst e;rw [if_pos rfl,if_pos rfl,if_pos h];rfl
 rw [if_neg e,if_neg (Ne.symm e)]
theorem Pd.step {l:List Oper} {q:Nat} {dn:List Bool} {i:Nat} (hp:Pd l q dn) (hi:i∈e0y l dn) (hq:i<q):Pd l q (dn.set i true):=by
 obtain ⟨h1,h2,h3⟩:=l0t hi
 have hil:i<dn.length:=by rw [hp.len];exact h1
 refine ⟨by rw [List.length_set];exact hp.len,fun j hj hd e he=>?_,fun j hj=>?_⟩
 ·rw [k0j hil] at hd ⊢
  split
  ·rfl
  split at hd
  ·rename_i e2;subst e2;exact h3 e he
  exact hp.cl j hj hd e he
 rw [k0j hil,if_neg (by omega)];exact hp.hi j hj
theorem Pd.full {l:List Oper} {q:Nat} {dn:List Bool} (hp:Pd l q dn) (h: ∀ j,j<q→dn.getD j false=true) (hq:q≤l.length):dn=j0g l.length q:=by
 refine List.ext_getElem? fun i=>?_
 by_cases hi:i<dn.length
 ·have hb:dn.getD i false=decide (i<q):=by
   by_cases hiq:i<q
   ·rw [h i hiq];simp [hiq]
   rw [hp.hi i (by omega)];simp [hiq]
  rw [wE,yX hi] at hb
  have hb':dn[i]=decide (i<q):=by simpa using hb
  have hi2:i<l.length:=by rw [←hp.len];exact hi
  rw [yX hi,hb']
  simp [j0g,hi2]
 rw [List.getElem?_eq_none (by omega),List.getElem?_eq_none (by simp [j0g];rw [←hp.len];omega)]
theorem n2m {P:Program} {B:Base} {l:List Oper} {ds:List (Option Tmp)} {K:St→Prop} (q:Nat) (T:List Bool→St) (hds:f0f l=ds) (hq:q≤l.length) (hcut:q2f l q=true)
 (hend:Dr P B l q (T (j0g l.length q)) K)
 (h: ∀ i,i<q→∀ dn,Pd l q dn→(∀ e∈m0g l i,dn.getD e false=true)→dn.getD i false=false→∀ N:St→Prop,(∀ S',Le B S' (T (dn.set i true))→N S')→∃ o,l[i]? =some o∧Bv P B ds [o] (T dn) N):
 ∀ n dn,dn.count false=n→Pd l q dn→DrS P B l dn (T dn) K:=by
 have hcut':=yI.mp hcut
 intro n
 induction n using Nat.strongRecOn with
 |_ n ih=>
   intro dn hn hp
   by_cases hall: ∀ j,j<q→dn.getD j false=true
   ·rw [hp.full hall hq]
    exact c2o rfl hq rfl hend
   obtain ⟨j0,hj0⟩: ∃ j,j<q∧dn.getD j false=false:=by
    simp only [Classical.not_forall] at hall
    obtain ⟨j,hj,hd⟩:=hall
    exact ⟨j,hj,by simpa using hd⟩
   have hleast: ∀ m j,j≤m→j<q→dn.getD j false=false→∃ i,i<q∧i∈e0y l dn:=by
    intro m
    induction m with
    |zero=>
      intro j hj hjq hd
      obtain rfl:j=0:=by omega
      refine ⟨0,hjq,t0v (by omega) (by rw [←v0t (by rw [hp.len];omega)];exact hd) fun e he=>?_⟩
      have h1:=hcut' 0 (wL.mpr (by omega))
      rw [yF] at h1
      have:=yI.mp h1.1 e he
      simp at this
    |succ m ihm=>
      intro j hj hjq hd
      by_cases hdeps: ∀ e∈m0g l j,dn.getD e false=true
      ·exact ⟨j,hjq,t0v (by omega) (by rw [←v0t (by rw [hp.len];omega)];exact hd) hdeps⟩
      simp only [Classical.not_forall] at hdeps
      obtain ⟨e,he,hde⟩:=hdeps
      have h1:=hcut' j (wL.mpr (by omega))
      rw [yF] at h1
      have hej:e<j:=by simpa using yI.mp h1.1 e he
      exact ihm e (by omega) (by omega) (by simpa using hde)
   obtain ⟨i0,_,hi0⟩:=hleast j0 j0 (yV _) hj0.1 hj0.2
   have hlow: ∀ i∈e0y l dn,i<q:=by
    intro i hi
    obtain ⟨h1,h2,h3⟩:=l0t hi
    by_cases hiq:i<q
    ·exact hiq
    exfalso
    have h4:=hcut' i (wL.mpr h1)
    rw [yF,xQ] at h4
    rcases h4.2 with h5|h5
    ·simp [hiq] at h5
    have h6:=yI.mp h5 j0 (wL.mpr hj0.1)
    have:=t0g hp.cl hp.len h3 h6
    rw [hj0.2] at this;cases this
   refine a0v (e0y l dn) hds rfl (fun e=>by rw [e] at hi0;cases hi0) fun N hN=>?_
   have key: ∀ rs:List Nat,(∀ i∈rs,i∈e0y l dn)→x0k P B ds l (T dn) N rs:=by
    intro rs
    induction rs with
    |nil=>intro _;trivial
    |cons i r ihr=>
      intro hr
      refine ⟨?_,ihr fun j hj=>hr j (by simp [hj])⟩
      have hi:=hr i (by simp)
      obtain ⟨h1,h2,h3⟩:=l0t hi
      have hc:=count_set h2
      have hf:dn.getD i false=false:=by rw [v0t (by rw [hp.len];exact h1)];exact h2
      obtain ⟨o,ho,hrun⟩:=h i (hlow i hi) dn hp h3 hf (N i) (fun S' hle=>hN i S' (DrS.le (ih _ (by omega) (dn.set i true) rfl (hp.step hi (hlow i hi))) hle))
      rw [ho];exact hrun
   exact key _ fun _ h=>h
theorem Pd.start (l:List Oper) (q:Nat):Pd l q (j0g l.length 0):=by
 have hz: ∀ i,(j0g l.length 0).getD i false=false:=by
  intro i
  rw [wE]
  by_cases hi:i<l.length
  ·simp [j0g,hi]
  rw [List.getElem?_eq_none (by simp [j0g];omega)];rfl
 exact ⟨by simp [j0g],fun i _ h=>absurd h (by rw [hz];simp),fun i _=>hz i⟩
theorem n2n {P:Program} {B:Base} {l:List Oper} {ds:List (Option Tmp)} {K:St→Prop} {S:St} (q:Nat) (T:List Bool→St) (hds:f0f l=ds) (hcut:(decide (q≤l.length)&&q2f l q)=true)
 (h0:Le B S (T (j0g l.length 0))) (hend:Dr P B l q (T (j0g l.length q)) K)
 (h: ∀ i,i<q→∀ dn,Pd l q dn→(∀ e∈m0g l i,dn.getD e false=true)→dn.getD i false=false→∀ N:St→Prop,(∀ S',Le B S' (T (dn.set i true))→N S')→∃ o,l[i]? =some o∧Bv P B ds [o] (T dn) N):Dr P B l 0 S K:=by
 rw [yF,decide_eq_true_eq] at hcut
 exact q1k (j0g l.length 0) rfl (yP _) rfl (DrS.le (n2m q T hds hcut.1 hcut.2 hend h _ _ rfl (Pd.start l q)) h0)
end Go.Sy
namespace Go.Sy
def m0d (M:List (Nat×Ob)) (mk i1:Nat) (o1:Ob) (i2:Nat) (o2:Ob) (dn:List Bool):List (Nat×Ob):=
 if dn.getD i2 false=true then a0c M mk o2 else if dn.getD i1 false=true then a0c M mk o1 else M
theorem o0r {M:List (Nat×Ob)} {mk i1:Nat} {o1:Ob} {i2:Nat} {o2:Ob} {dn:List Bool} {k:Nat} (h:k≠mk):look (m0d M mk i1 o1 i2 o2 dn) k=look M k:=by
 unfold m0d
 split
 ·rw [Fw,if_neg h]
 split
 ·rw [Fw,if_neg h]
 rfl
theorem i1x {M:List (Nat×Ob)} {mk i1:Nat} {o1:Ob} {i2:Nat} {o2:Ob} {dn:List Bool} {i:Nat} (h1:i≠i1) (h2:i≠i2):m0d M mk i1 o1 i2 o2 (dn.set i true)=m0d M mk i1 o1 i2 o2 dn:=by
 have hg: ∀ j,i≠j→(dn.set i true).getD j false=dn.getD j false:=fun j hj=>by
  rw [wE,wE,List.getElem?_set,if_neg hj]
 unfold m0d
 rw [hg _ h1,hg _ h2]
def z0n (Q:Nat→Prop):Nat→Prop
 |0=>True
 |n+1=>z0n Q n∧Q n
theorem t0t {Q:Nat→Prop}: ∀ {n i:Nat},z0n Q n→i<n→Q i
 |n+1,i,h,hi=>by
   by_cases e:i=n
   ·subst e;exact h.2
   exact t0t h.1 (by omega)
theorem z0m {l:List Oper} {q:Nat} {dn:List Bool} {i j:Nat} (hp:Pd l q dn) (hd:(m0g l j).contains i=true) (hj:j<l.length) (h:dn.getD i false=false):dn.getD j false=false:=by
 cases hc:dn.getD j false with
 |false=>rfl
 |true=>
   have:=hp.cl j hj hc i (by simpa using hd)
   rw [h] at this;cases this
theorem i0d {M:List (Nat×Ob)} {k:Nat} {o o':Ob} (h:look M k=some o):look (a0c M k o') k=some o':=by
 rw [Fw,if_pos rfl,h];rfl
theorem Qx {B:Base} {E:List (Nat×V)} {VS:List (Nat×V)} {dn:List Bool} {i k:Nat} {v:V} {M M':List (Nat×Ob)} (hi:i<dn.length) (hv:VS[i]? =some (k,v)) (hn:(VS.map (·.1)).Nodup) (hm: ∀ k o,look M' k=some o→look M k=some o):Le B ⟨(k,v)::f0d E VS dn,M⟩ ⟨f0d E VS (dn.set i true),M'⟩:=by
 refine o1q (fun j u hu=>?_) hm
 have hu:Go.Sy.look (f0d E VS (dn.set i true)) j=some u:=hu
 rw [v0b hi hv hn] at hu
 show Go.Sy.look ((k,v)::f0d E VS dn) j=some u
 rw [look]
 split
 ·rename_i e;rw [if_pos e] at hu;exact hu
 rename_i e;rw [if_neg e] at hu;exact hu
theorem o1p {B:Base} {E:List (Nat×V)} {VS:List (Nat×V)} {dn:List Bool} {i k:Nat} {v:V} {M M':List (Nat×Ob)} (hi:i<dn.length) (hv:VS[i]? =some (k,v)) (hn:(VS.map (·.1)).Nodup) (he:look (f0d E VS dn) k=some v) (hm: ∀ k o,look M' k=some o→look M k=some o):Le B ⟨f0d E VS dn,M⟩ ⟨f0d E VS (dn.set i true),M'⟩:=by
 refine o1q (fun j u hu=>?_) hm
 have hu:Go.Sy.look (f0d E VS (dn.set i true)) j=some u:=hu
 rw [v0b hi hv hn] at hu
 show Go.Sy.look (f0d E VS dn) j=some u
 split at hu
 ·rename_i e;rw [e,he];exact hu
 exact hu
theorem b1v {r:List (Nat×V)} {k:Nat} {v:V}: ∀ {vs:List (Nat×V)} {bs:List Bool} {i:Nat},bs.getD i false=false→vs[i]? =some (k,v)→((vs.map (·.1)).Nodup)→look (f0d r vs bs) k=look r k
 | [],_,i,_,h,_=>by simp at h
 |_::_,[],i,h,_,_=>rfl
 |x::vs,b::bs,0,hb,hv,hn=>by
   obtain rfl:b=false:=by simpa using hb
   obtain rfl:x=(k,v):=by simpa using hv
   rw [f0d,if_neg (by simp)]
   simp only [yM,vE] at hn
   refine h0e (yI.mpr fun y hy=>?_)
   simp only [decide_eq_true_eq]
   rintro rfl
   exact hn.1 (yY.mpr ⟨y,hy,rfl⟩)
 |x::vs,b::bs,i+1,hb,hv,hn=>by
   simp only [yM,vE] at hn
   have ih:=b1v (r:=r) (bs:=bs) (i:=i) (by simpa using hb) (by simpa using hv) hn.2
   have hx:k≠x.1:=by
    rintro rfl
    have hv':vs[i]? =some (x.1,v):=by simpa using hv
    exact hn.1 (yY.mpr ⟨_,wR hv',rfl⟩)
   rw [f0d]
   split
   ·rw [look,if_neg hx];exact ih
   exact ih
theorem q1l {P:Program} {B:Base} {l:List Oper} {ds:List (Option Tmp)} {K:St→Prop} {E:List (Nat×V)} {M:List (Nat×Ob)} (q:Nat) (VS:List (Nat×V)) (mk i1:Nat) (o1:Ob) (i2:Nat) (o2:Ob) (d0 d1:List Bool) (hds:f0f l=ds) (hcut:(decide (q≤l.length)&&q2f l q)=true) (hd0:j0g l.length 0=d0) (hd1:j0g l.length q=d1)
 (hE:f0d E VS d0=E) (hM:m0d M mk i1 o1 i2 o2 d0=M)
 (h: ∀ E0 V0 M0,E0=E→V0=VS→M0=M→z0n (fun i=>∀ dn,Pd l q dn→(∀ e∈m0g l i,dn.getD e false=true)→dn.getD i false=false→∀ N:St→Prop,(∀ S',Le B S' ⟨f0d E0 V0 (dn.set i true),m0d M0 mk i1 o1 i2 o2 (dn.set i true)⟩→N S')→∃ o,l[i]? =some o∧Bv P B ds [o] ⟨f0d E0 V0 dn,m0d M0 mk i1 o1 i2 o2 dn⟩ N) q)
 (hend:Dr P B l q ⟨f0d E VS d1,m0d M mk i1 o1 i2 o2 d1⟩ K):Dr P B l 0 ⟨E,M⟩ K:=by
 subst hd0;subst hd1
 refine n2n q (fun dn=>⟨f0d E VS dn,m0d M mk i1 o1 i2 o2 dn⟩) hds hcut ?_ hend fun i hi dn hp hd hn N hN=>t0t (h E VS M rfl rfl rfl) hi dn hp hd hn N hN
 show Le B ⟨E,M⟩ ⟨f0d E VS (j0g l.length 0),m0d M mk i1 o1 i2 o2 (j0g l.length 0)⟩
 rw [hE,hM]
 exact Le.refl _
theorem o2h {P:Program} {B:Base} {S:St} {K:St→Prop} {ds:List (Option Tmp)} {r:List Oper} {ty:TypeId} {pos:String} {af:Array Edge} {xt:TypeId} {x k y:Operand} {b:Nat} {m:Int} (mp:Mp) (s:List UInt8) (hown:B.w0.heap.size≤b) (hx:S.get x=some (.w (.one (.pl (.val (.map (some b))))))) (hk:S.get k=some (.w (.one (.pl (.i ((o0i mp s:Nat):Int)))))) (hy:S.get y=some (.w (.one (.pl (.i m))))) (hl:look S.mem (2000000+b)=some ⟨.m (Qy mp s),[]⟩)
 (hK:Bv P B ds r ⟨S.env,a0c S.mem (2000000+b) ⟨.m (Oj mp s m),[]⟩⟩ K):Cj P B ⟨none,.entryStore xt x k y,ty,pos,af,none⟩ S ds r K:=
 b2n hown hx hk hy hl (p1a s mp) (by rw [p0r];exact hK)
end Go.Sy
namespace Go.Sy
theorem z0h {dn:List Bool} {i:Nat} (h:i<dn.length):(dn.set i true).getD i false=true:=by
 rw [k0j h,if_pos rfl]
theorem g1r {M:List (Nat×Ob)} {mk i1:Nat} {o1:Ob} {i2:Nat} {o2:Ob} {dn:List Bool} (h2:dn.getD i2 false=false) (h1:dn.getD i1 false=false) (hi:i1<dn.length) (hne:i2≠i1):m0d M mk i1 o1 i2 o2 dn=M∧m0d M mk i1 o1 i2 o2 (dn.set i1 true)=a0c M mk o1:=by
 constructor
 ·rw [m0d,h2,h1,if_neg (by simp),if_neg (by simp)]
 rw [m0d,k0j hi,if_neg hne,h2,z0h hi,if_neg (by simp),if_pos rfl]
theorem g1q {M:List (Nat×Ob)} {mk i1:Nat} {o1:Ob} {i2:Nat} {o2:Ob} {dn:List Bool} (h2:dn.getD i2 false=false) (h1:dn.getD i1 false=true) (hi:i2<dn.length):m0d M mk i1 o1 i2 o2 dn=a0c M mk o1∧m0d M mk i1 o1 i2 o2 (dn.set i2 true)=a0c M mk o2:=by
 constructor
 ·rw [m0d,h2,h1,if_neg (by simp),if_pos rfl]
 rw [m0d,z0h hi,if_pos rfl]
theorem s0v {M:List (Nat×Ob)} {k:Nat} {a b:Ob} (j:Nat) (o:Ob) (h:look (a0c M k b) j=some o):look (a0c (a0c M k a) k b) j=some o:=by
 rw [Fw] at h ⊢
 split
 ·rename_i e
  rw [if_pos e] at h
  rw [Fw,if_pos rfl]
  cases hl:look M k with
  |none=>rw [hl] at h;exact h
  |some x=>rw [hl] at h;exact h
 rename_i e
 rw [if_neg e] at h
 rw [Fw,if_neg e];exact h
theorem Hy {M:List (Nat×Ob)} {mk i1:Nat} {o1:Ob} {i2:Nat} {o2:Ob} {dn:List Bool} {i:Nat} (h1:i≠i1) (h2:i≠i2) (k:Nat) (o:Ob) (h:look (m0d M mk i1 o1 i2 o2 (dn.set i true)) k=some o):look (m0d M mk i1 o1 i2 o2 dn) k=some o:=by
 rwa [i1x h1 h2] at h
end Go.Sy
