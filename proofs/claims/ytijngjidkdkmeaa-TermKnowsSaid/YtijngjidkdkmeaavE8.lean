/- The layer that reckons a function out: what it says of states, operations, regions, loops, calls. CONDITIONS: those that each theorem names. -/
import Derived.Test.YtijngjidkdkmeaavE7
set_option linter.unusedVariables false
set_option linter.unusedSimpArgs false
namespace Go.Sy
def a0s (r:List (Nat×V)):List (Nat×V)→List Bool→List (Nat×V)
 |x::vs,b::bs=>if b=true then x::a0s r vs bs else a0s r vs bs
 |_,_=>r
theorem c0m {r:List (Nat×V)} {k:Nat}: ∀ {vs:List (Nat×V)} {bs:List Bool},(vs.all fun x=>decide (k≠x.1))=true→look (a0s r vs bs) k=look r k
 | [],[],_=>rfl
 | [],_::_,_=>rfl
 |_::_,[],_=>rfl
 |x::vs,b::bs,h=>by
  simp only [List.all_cons,Bool.and_eq_true,decide_eq_true_eq] at h
  have ih:=c0m (r:=r) (bs:=bs) h.2
  rw [a0s]
  split
  ·rw [look,if_neg h.1];exact ih
  ·exact ih
theorem Fq {r:List (Nat×V)} {k:Nat} {v:V}: ∀ {vs:List (Nat×V)} {bs:List Bool} {i:Nat},bs.getD i false=true→vs[i]? =some (k,v)→((vs.map (·.1)).Nodup)→look (a0s r vs bs) k=some v
 | [],_,i,_,h,_=>by simp at h
 |_::_,[],i,h,_,_=>by simp at h
 |x::vs,b::bs,0,hb,hv,_=>by
  obtain rfl:b=true:=by simpa using hb
  obtain rfl:x=(k,v):=by simpa using hv
  rw [a0s,if_pos rfl,look,if_pos rfl]
 |x::vs,b::bs,i+1,hb,hv,hn=>by
  simp only [List.map_cons,List.nodup_cons] at hn
  have ih:=Fq (r:=r) (bs:=bs) (i:=i) (by simpa using hb) (by simpa using hv) hn.2
  have hx:k≠x.1:=by
   rintro rfl
   have hv':vs[i]? =some (x.1,v):=by simpa using hv
   exact hn.1 (List.mem_map.mpr ⟨_,List.mem_of_getElem? hv',rfl⟩)
  rw [a0s]
  split
  ·rw [look,if_neg hx];exact ih
  ·exact ih
theorem n0e {r:List (Nat×V)} {k:Nat} {v:V} {j:Nat}: ∀ {vs:List (Nat×V)} {bs:List Bool} {i:Nat},i<bs.length→vs[i]? =some (k,v)→((vs.map (·.1)).Nodup)→look (a0s r vs (bs.set i true)) j=if j=k then some v else look (a0s r vs bs) j
 | [],_,i,_,h,_=>by simp at h
 |_::_,[],i,h,_,_=>by simp at h
 |x::vs,b::bs,0,hb,hv,hn=>by
  obtain rfl:x=(k,v):=by simpa using hv
  rw [List.set_cons_zero,a0s,if_pos rfl,look,a0s]
  by_cases hj:j=k
  ·rw [if_pos hj,if_pos hj]
  ·rw [if_neg hj,if_neg hj]
   split
   ·rw [look,if_neg hj]
   ·rfl
 |x::vs,b::bs,i+1,hb,hv,hn=>by
  simp only [List.map_cons,List.nodup_cons] at hn
  have ih:=n0e (r:=r) (j:=j) (bs:=bs) (i:=i) (by simpa using hb) (by simpa using hv) hn.2
  have hx:x.1≠k:=by
   rintro rfl
   have hv':vs[i]? =some (x.1,v):=by simpa using hv
   exact hn.1 (List.mem_map.mpr ⟨_,List.mem_of_getElem? hv',rfl⟩)
  rw [List.set_cons_succ,a0s,a0s]
  split
  ·rw [look,look,ih]
   by_cases hj:j=x.1
   ·rw [if_pos hj,if_pos hj,if_neg (fun e=>hx (hj.symm.trans e))]
   ·rw [if_neg hj,if_neg hj]
  ·exact ih
theorem b1i {B:Base} {S S':St} (he: ∀ k v,look S'.env k=some v→Go.Sy.look S.env k=some v) (hm: ∀ k o,Go.Sy.look S'.mem k=some o→Go.Sy.look S.mem k=some o):Le B S S':=by
 intro d a w h
 have hsome: ∀ j,(Go.Sy.look S'.mem j).isSome=true→(Go.Sy.look S.mem j).isSome=true:=by
  intro j hj
  cases ho:Go.Sy.look S'.mem j with
  |none=>simp [ho] at hj
  |some o=>rw [hm _ _ ho];rfl
 exact ⟨d,h.defers,h.nt,fun n v hv=>h.env n v (he _ _ hv),fun k o hk=>h.mem k o (hm _ _ hk),fun k k' h1 h2=>h.inj k k' (hsome _ h1) (hsome _ h2),fun k hk=>h.own k (hsome _ hk),h.ro,h.old,h.os,h.tape,h.output,h.size,h.block,h.gat,fun k o hk=>h.glob k o (hm _ _ hk),fun k o p hk=>h.fix k o p (hm _ _ hk),h.fxn,fun b l hb=>h.mp b l (hm _ _ hb)⟩
theorem DrS.le {P:Program} {B:Base} {l:List Oper} {dn:List Bool} {S T:St} {K:St→Prop} (h:DrS P B l dn T K) (hl:Le B S T):DrS P B l dn S K:=by
 intro d a w hs Q hQ listed hl'
 obtain ⟨d',hs'⟩:=hl d a w hs
 exact h d' a w hs' Q hQ listed hl'
end Go.Sy
namespace Go.Sy
def g0i (l:List Oper) (i:Nat):List Nat:=match l[i]? with
 |some o=>(o.after.toList.filter fun e=>Region.binds .any e).map (·.on)
 |none=>[]
def p0b (l:List Oper):Nat→Nat→Nat→Bool
 |0,_,_=>false
 |n+1,i,j=>(g0i l i).any fun e=>decide (e=j)||p0b l n e j
def d1h (l:List Oper) (dn:List Bool):Prop:=∀ i,i<l.length→dn.getD i false=true→∀ j∈g0i l i,dn.getD j false=true
theorem l0n {l:List Oper} {dn:List Bool} (hc:d1h l dn) (hlen:dn.length=l.length): ∀ {n i j:Nat},(∀ e∈g0i l i,dn.getD e false=true)→p0b l n i j=true→dn.getD j false=true
 |0,i,j,_,h=>by simp [p0b] at h
 |n+1,i,j,hd,h=>by
  rw [p0b,List.any_eq_true] at h
  obtain ⟨e,he,h⟩:=h
  have h1:=hd e he
  rw [Bool.or_eq_true,decide_eq_true_eq] at h
  rcases h with rfl|h
  ·exact h1
  ·refine l0n hc hlen (fun f hf=>?_) h
   have hel:e<l.length:=by
    rw [←hlen]
    by_cases hq:e<dn.length
    ·exact hq
    ·rw [List.getD_eq_getElem?_getD,List.getElem?_eq_none (by omega)] at h1;simp at h1
   exact hc e hel h1 f hf
def u1y (l:List Oper) (q:Nat):Bool:=
 (List.range l.length).all fun i=>(g0i l i).all (fun j=>decide (j<i))&&(decide (i<q)||(List.range q).all fun j=>p0b l l.length i j)
structure Pd (l:List Oper) (q:Nat) (dn:List Bool):Prop where
 len:dn.length=l.length
 cl:d1h l dn
 hi: ∀ i,q≤i→dn.getD i false=false
theorem f0y {l:List Oper} {dn:List Bool} {i:Nat} (h:i∈a0n l dn):i<l.length∧dn.getD i true=false∧∀ e∈g0i l i,dn.getD e false=true:=by
 rw [a0n,List.mem_filter,List.mem_range,Bool.and_eq_true,Bool.not_eq_true'] at h
 refine ⟨h.1,h.2.1,fun e he=>?_⟩
 have h3:=h.2.2
 unfold g0i at he
 cases ho:l[i]? with
 |none=>rw [ho] at he;cases he
 |some o=>
  rw [ho] at he h3
  obtain ⟨x,hx,rfl⟩:=List.mem_map.mp he
  have hx:=List.mem_filter.mp hx
  have:=List.all_eq_true.mp h3 x hx.1
  simpa [hx.2] using this
theorem m0c {l:List Oper} {dn:List Bool} {i:Nat} (h1:i<l.length) (h2:dn.getD i true=false) (h3: ∀ e∈g0i l i,dn.getD e false=true):i∈a0n l dn:=by
 rw [a0n,List.mem_filter,List.mem_range,Bool.and_eq_true,Bool.not_eq_true']
 refine ⟨h1,h2,?_⟩
 cases ho:l[i]? with
 |none=>rfl
 |some o=>
  refine List.all_eq_true.mpr fun e he=>?_
  cases hb:Region.binds .any e with
  |false=>rfl
  |true=>
   have:=h3 e.on (by unfold g0i;rw [ho];exact List.mem_map.mpr ⟨e,List.mem_filter.mpr ⟨he,hb⟩,rfl⟩)
   rw [this];rfl
theorem n0q {dn:List Bool} {i:Nat} (h:i<dn.length):dn.getD i false=dn.getD i true:=by
 rw [List.getD_eq_getElem?_getD,List.getD_eq_getElem?_getD,List.getElem?_eq_getElem h];rfl
theorem e0v {dn:List Bool} {i j:Nat} (h:i<dn.length):(dn.set i true).getD j false=if j=i then true else dn.getD j false:=by
 rw [List.getD_eq_getElem?_getD,List.getD_eq_getElem?_getD,List.getElem?_set]
 by_cases e:i=j
 ·subst e;rw [if_pos rfl,if_pos rfl,if_pos h];rfl
 ·rw [if_neg e,if_neg (Ne.symm e)]
theorem Pd.step {l:List Oper} {q:Nat} {dn:List Bool} {i:Nat} (hp:Pd l q dn) (hi:i∈a0n l dn) (hq:i<q):Pd l q (dn.set i true):=by
 obtain ⟨h1,h2,h3⟩:=f0y hi
 have hil:i<dn.length:=by rw [hp.len];exact h1
 refine ⟨by rw [List.length_set];exact hp.len,fun j hj hd e he=>?_,fun j hj=>?_⟩
 ·rw [e0v hil] at hd ⊢
  split
  ·rfl
  ·split at hd
   ·rename_i e2;subst e2;exact h3 e he
   ·exact hp.cl j hj hd e he
 ·rw [e0v hil,if_neg (by omega)];exact hp.hi j hj
theorem Pd.full {l:List Oper} {q:Nat} {dn:List Bool} (hp:Pd l q dn) (h: ∀ j,j<q→dn.getD j false=true) (hq:q≤l.length):dn=d0u l.length q:=by
 refine List.ext_getElem? fun i=>?_
 by_cases hi:i<dn.length
 ·have hb:dn.getD i false=decide (i<q):=by
   by_cases hiq:i<q
   ·rw [h i hiq];simp [hiq]
   ·rw [hp.hi i (by omega)];simp [hiq]
  rw [List.getD_eq_getElem?_getD,List.getElem?_eq_getElem hi] at hb
  have hb':dn[i]=decide (i<q):=by simpa using hb
  have hi2:i<l.length:=by rw [←hp.len];exact hi
  rw [List.getElem?_eq_getElem hi,hb']
  simp [d0u,hi2]
 ·rw [List.getElem?_eq_none (by omega),List.getElem?_eq_none (by simp [d0u];rw [←hp.len];omega)]
theorem s1z {P:Program} {B:Base} {l:List Oper} {ds:List (Option Tmp)} {K:St→Prop} (q:Nat) (T:List Bool→St) (hds:c0v l=ds) (hq:q≤l.length) (hcut:u1y l q=true)
  (hend:Dr P B l q (T (d0u l.length q)) K)
  (h: ∀ i,i<q→∀ dn,Pd l q dn→(∀ e∈g0i l i,dn.getD e false=true)→dn.getD i false=false→∀ N:St→Prop,(∀ S',Le B S' (T (dn.set i true))→N S')→∃ o,l[i]? =some o∧Bq P B ds [o] (T dn) N):
  ∀ n dn,dn.count false=n→Pd l q dn→DrS P B l dn (T dn) K:=by
 have hcut':=List.all_eq_true.mp hcut
 intro n
 induction n using Nat.strongRecOn with
 |_ n ih=>
  intro dn hn hp
  by_cases hall: ∀ j,j<q→dn.getD j false=true
  ·rw [hp.full hall hq]
   exact k1s rfl hq rfl hend
  ·obtain ⟨j0,hj0⟩: ∃ j,j<q∧dn.getD j false=false:=by
    simp only [Classical.not_forall] at hall
    obtain ⟨j,hj,hd⟩:=hall
    exact ⟨j,hj,by simpa using hd⟩
   have hleast: ∀ m j,j≤m→j<q→dn.getD j false=false→∃ i,i<q∧i∈a0n l dn:=by
    intro m
    induction m with
    |zero=>
     intro j hj hjq hd
     obtain rfl:j=0:=by omega
     refine ⟨0,hjq,m0c (by omega) (by rw [←n0q (by rw [hp.len];omega)];exact hd) fun e he=>?_⟩
     have h1:=hcut' 0 (List.mem_range.mpr (by omega))
     rw [Bool.and_eq_true] at h1
     have:=List.all_eq_true.mp h1.1 e he
     simp at this
    |succ m ihm=>
     intro j hj hjq hd
     by_cases hdeps: ∀ e∈g0i l j,dn.getD e false=true
     ·exact ⟨j,hjq,m0c (by omega) (by rw [←n0q (by rw [hp.len];omega)];exact hd) hdeps⟩
     ·simp only [Classical.not_forall] at hdeps
      obtain ⟨e,he,hde⟩:=hdeps
      have h1:=hcut' j (List.mem_range.mpr (by omega))
      rw [Bool.and_eq_true] at h1
      have hej:e<j:=by simpa using List.all_eq_true.mp h1.1 e he
      exact ihm e (by omega) (by omega) (by simpa using hde)
   obtain ⟨i0,_,hi0⟩:=hleast j0 j0 (Nat.le_refl _) hj0.1 hj0.2
   have hlow: ∀ i∈a0n l dn,i<q:=by
    intro i hi
    obtain ⟨h1,h2,h3⟩:=f0y hi
    by_cases hiq:i<q
    ·exact hiq
    ·exfalso
     have h4:=hcut' i (List.mem_range.mpr h1)
     rw [Bool.and_eq_true,Bool.or_eq_true] at h4
     rcases h4.2 with h5|h5
     ·simp [hiq] at h5
     ·have h6:=List.all_eq_true.mp h5 j0 (List.mem_range.mpr hj0.1)
      have:=l0n hp.cl hp.len h3 h6
      rw [hj0.2] at this;cases this
   refine Sk (a0n l dn) hds rfl (fun e=>by rw [e] at hi0;cases hi0) fun N hN=>?_
   have key: ∀ rs:List Nat,(∀ i∈rs,i∈a0n l dn)→o0j P B ds l (T dn) N rs:=by
    intro rs
    induction rs with
    |nil=>intro _;trivial
    |cons i r ihr=>
     intro hr
     refine ⟨?_,ihr fun j hj=>hr j (by simp [hj])⟩
     have hi:=hr i (by simp)
     obtain ⟨h1,h2,h3⟩:=f0y hi
     have hc:=count_set h2
     have hf:dn.getD i false=false:=by rw [n0q (by rw [hp.len];exact h1)];exact h2
     obtain ⟨o,ho,hrun⟩:=h i (hlow i hi) dn hp h3 hf (N i) (fun S' hle=>hN i S' (DrS.le (ih _ (by omega) (dn.set i true) rfl (hp.step hi (hlow i hi))) hle))
     rw [ho];exact hrun
   exact key _ fun _ h=>h
theorem Pd.start (l:List Oper) (q:Nat):Pd l q (d0u l.length 0):=by
 have hz: ∀ i,(d0u l.length 0).getD i false=false:=by
  intro i
  rw [List.getD_eq_getElem?_getD]
  by_cases hi:i<l.length
  ·simp [d0u,hi]
  ·rw [List.getElem?_eq_none (by simp [d0u];omega)];rfl
 exact ⟨by simp [d0u],fun i _ h=>absurd h (by rw [hz];simp),fun i _=>hz i⟩
theorem t1a {P:Program} {B:Base} {l:List Oper} {ds:List (Option Tmp)} {K:St→Prop} {S:St} (q:Nat) (T:List Bool→St) (hds:c0v l=ds) (hcut:(decide (q≤l.length)&&u1y l q)=true)
  (h0:Le B S (T (d0u l.length 0))) (hend:Dr P B l q (T (d0u l.length q)) K)
  (h: ∀ i,i<q→∀ dn,Pd l q dn→(∀ e∈g0i l i,dn.getD e false=true)→dn.getD i false=false→∀ N:St→Prop,(∀ S',Le B S' (T (dn.set i true))→N S')→∃ o,l[i]? =some o∧Bq P B ds [o] (T dn) N):Dr P B l 0 S K:=by
 rw [Bool.and_eq_true,decide_eq_true_eq] at hcut
 exact c1y (d0u l.length 0) rfl (Nat.zero_le _) rfl (DrS.le (s1z q T hds hcut.1 hcut.2 hend h _ _ rfl (Pd.start l q)) h0)
end Go.Sy
namespace Go.Sy
def j0p (M:List (Nat×Ob)) (mk i1:Nat) (o1:Ob) (i2:Nat) (o2:Ob) (dn:List Bool):List (Nat×Ob):=
 if dn.getD i2 false=true then Qk M mk o2 else if dn.getD i1 false=true then Qk M mk o1 else M
theorem Cj {M:List (Nat×Ob)} {mk i1:Nat} {o1:Ob} {i2:Nat} {o2:Ob} {dn:List Bool} {k:Nat} (h:k≠mk):look (j0p M mk i1 o1 i2 o2 dn) k=look M k:=by
 unfold j0p
 split
 ·rw [Dj,if_neg h]
 ·split
  ·rw [Dj,if_neg h]
  ·rfl
theorem w0x {M:List (Nat×Ob)} {mk i1:Nat} {o1:Ob} {i2:Nat} {o2:Ob} {dn:List Bool} {i:Nat} (h1:i≠i1) (h2:i≠i2):j0p M mk i1 o1 i2 o2 (dn.set i true)=j0p M mk i1 o1 i2 o2 dn:=by
 have hg: ∀ j,i≠j→(dn.set i true).getD j false=dn.getD j false:=fun j hj=>by
  rw [List.getD_eq_getElem?_getD,List.getD_eq_getElem?_getD,List.getElem?_set,if_neg hj]
 unfold j0p
 rw [hg _ h1,hg _ h2]
def q0d (Q:Nat→Prop):Nat→Prop
 |0=>True
 |n+1=>q0d Q n∧Q n
theorem l0z {Q:Nat→Prop}: ∀ {n i:Nat},q0d Q n→i<n→Q i
 |n+1,i,h,hi=>by
  by_cases e:i=n
  ·subst e;exact h.2
  ·exact l0z h.1 (by omega)
theorem q0c {l:List Oper} {q:Nat} {dn:List Bool} {i j:Nat} (hp:Pd l q dn) (hd:(g0i l j).contains i=true) (hj:j<l.length) (h:dn.getD i false=false):dn.getD j false=false:=by
 cases hc:dn.getD j false with
 |false=>rfl
 |true=>
  have:=hp.cl j hj hc i (by simpa using hd)
  rw [h] at this;cases this
theorem d0a {M:List (Nat×Ob)} {k:Nat} {o o':Ob} (h:look M k=some o):look (Qk M k o') k=some o':=by
 rw [Dj,if_pos rfl,h];rfl
theorem Kz {B:Base} {E:List (Nat×V)} {VS:List (Nat×V)} {dn:List Bool} {i k:Nat} {v:V} {M M':List (Nat×Ob)} (hi:i<dn.length) (hv:VS[i]? =some (k,v)) (hn:(VS.map (·.1)).Nodup) (hm: ∀ k o,look M' k=some o→look M k=some o):Le B ⟨(k,v)::a0s E VS dn,M⟩ ⟨a0s E VS (dn.set i true),M'⟩:=by
 refine b1i (fun j u hu=>?_) hm
 have hu:Go.Sy.look (a0s E VS (dn.set i true)) j=some u:=hu
 rw [n0e hi hv hn] at hu
 show Go.Sy.look ((k,v)::a0s E VS dn) j=some u
 rw [look]
 split
 ·rename_i e;rw [if_pos e] at hu;exact hu
 ·rename_i e;rw [if_neg e] at hu;exact hu
theorem b1h {B:Base} {E:List (Nat×V)} {VS:List (Nat×V)} {dn:List Bool} {i k:Nat} {v:V} {M M':List (Nat×Ob)} (hi:i<dn.length) (hv:VS[i]? =some (k,v)) (hn:(VS.map (·.1)).Nodup) (he:look (a0s E VS dn) k=some v) (hm: ∀ k o,look M' k=some o→look M k=some o):Le B ⟨a0s E VS dn,M⟩ ⟨a0s E VS (dn.set i true),M'⟩:=by
 refine b1i (fun j u hu=>?_) hm
 have hu:Go.Sy.look (a0s E VS (dn.set i true)) j=some u:=hu
 rw [n0e hi hv hn] at hu
 show Go.Sy.look (a0s E VS dn) j=some u
 split at hu
 ·rename_i e;rw [e,he];exact hu
 ·exact hu
theorem r0w {r:List (Nat×V)} {k:Nat} {v:V}: ∀ {vs:List (Nat×V)} {bs:List Bool} {i:Nat},bs.getD i false=false→vs[i]? =some (k,v)→((vs.map (·.1)).Nodup)→look (a0s r vs bs) k=look r k
 | [],_,i,_,h,_=>by simp at h
 |_::_,[],i,h,_,_=>rfl
 |x::vs,b::bs,0,hb,hv,hn=>by
  obtain rfl:b=false:=by simpa using hb
  obtain rfl:x=(k,v):=by simpa using hv
  rw [a0s,if_neg (by simp)]
  simp only [List.map_cons,List.nodup_cons] at hn
  refine c0m (List.all_eq_true.mpr fun y hy=>?_)
  simp only [decide_eq_true_eq]
  rintro rfl
  exact hn.1 (List.mem_map.mpr ⟨y,hy,rfl⟩)
 |x::vs,b::bs,i+1,hb,hv,hn=>by
  simp only [List.map_cons,List.nodup_cons] at hn
  have ih:=r0w (r:=r) (bs:=bs) (i:=i) (by simpa using hb) (by simpa using hv) hn.2
  have hx:k≠x.1:=by
   rintro rfl
   have hv':vs[i]? =some (x.1,v):=by simpa using hv
   exact hn.1 (List.mem_map.mpr ⟨_,List.mem_of_getElem? hv',rfl⟩)
  rw [a0s]
  split
  ·rw [look,if_neg hx];exact ih
  ·exact ih
theorem c1z {P:Program} {B:Base} {l:List Oper} {ds:List (Option Tmp)} {K:St→Prop} {E:List (Nat×V)} {M:List (Nat×Ob)} (q:Nat) (VS:List (Nat×V)) (mk i1:Nat) (o1:Ob) (i2:Nat) (o2:Ob) (d0 d1:List Bool) (hds:c0v l=ds) (hcut:(decide (q≤l.length)&&u1y l q)=true) (hd0:d0u l.length 0=d0) (hd1:d0u l.length q=d1)
  (hE:a0s E VS d0=E) (hM:j0p M mk i1 o1 i2 o2 d0=M)
  (h: ∀ E0 V0 M0,E0=E→V0=VS→M0=M→q0d (fun i=>∀ dn,Pd l q dn→(∀ e∈g0i l i,dn.getD e false=true)→dn.getD i false=false→∀ N:St→Prop,(∀ S',Le B S' ⟨a0s E0 V0 (dn.set i true),j0p M0 mk i1 o1 i2 o2 (dn.set i true)⟩→N S')→∃ o,l[i]? =some o∧Bq P B ds [o] ⟨a0s E0 V0 dn,j0p M0 mk i1 o1 i2 o2 dn⟩ N) q)
  (hend:Dr P B l q ⟨a0s E VS d1,j0p M mk i1 o1 i2 o2 d1⟩ K):Dr P B l 0 ⟨E,M⟩ K:=by
 subst hd0;subst hd1
 refine t1a q (fun dn=>⟨a0s E VS dn,j0p M mk i1 o1 i2 o2 dn⟩) hds hcut ?_ hend fun i hi dn hp hd hn N hN=>l0z (h E VS M rfl rfl rfl) hi dn hp hd hn N hN
 show Le B ⟨E,M⟩ ⟨a0s E VS (d0u l.length 0),j0p M mk i1 o1 i2 o2 (d0u l.length 0)⟩
 rw [hE,hM]
 exact Le.refl _
theorem t1j {P:Program} {B:Base} {S:St} {K:St→Prop} {ds:List (Option Tmp)} {r:List Oper} {ty:TypeId} {pos:String} {af:Array Edge} {xt:TypeId} {x k y:Operand} {b:Nat} {m:Int} (mp:Mp) (s:List UInt8) (hown:B.w0.heap.size≤b) (hx:S.get x=some (.w (.one (.pl (.val (.map (some b))))))) (hk:S.get k=some (.w (.one (.pl (.i ((h0s mp s:Nat):Int)))))) (hy:S.get y=some (.w (.one (.pl (.i m))))) (hl:look S.mem (2000000+b)=some ⟨.m (Dx mp s),[]⟩)
  (hK:Bq P B ds r ⟨S.env,Qk S.mem (2000000+b) ⟨.m (Dk mp s m),[]⟩⟩ K):Ey P B ⟨none,.entryStore xt x k y,ty,pos,af,none⟩ S ds r K:=
 j1w hown hx hk hy hl (b1u s mp) (by rw [i0n];exact hK)
end Go.Sy
namespace Go.Sy
theorem p0x {dn:List Bool} {i:Nat} (h:i<dn.length):(dn.set i true).getD i false=true:=by
 rw [e0v h,if_pos rfl]
theorem v0i {M:List (Nat×Ob)} {mk i1:Nat} {o1:Ob} {i2:Nat} {o2:Ob} {dn:List Bool} (h2:dn.getD i2 false=false) (h1:dn.getD i1 false=false) (hi:i1<dn.length) (hne:i2≠i1):j0p M mk i1 o1 i2 o2 dn=M∧j0p M mk i1 o1 i2 o2 (dn.set i1 true)=Qk M mk o1:=by
 constructor
 ·rw [j0p,h2,h1,if_neg (by simp),if_neg (by simp)]
 ·rw [j0p,e0v hi,if_neg hne,h2,p0x hi,if_neg (by simp),if_pos rfl]
theorem v0h {M:List (Nat×Ob)} {mk i1:Nat} {o1:Ob} {i2:Nat} {o2:Ob} {dn:List Bool} (h2:dn.getD i2 false=false) (h1:dn.getD i1 false=true) (hi:i2<dn.length):j0p M mk i1 o1 i2 o2 dn=Qk M mk o1∧j0p M mk i1 o1 i2 o2 (dn.set i2 true)=Qk M mk o2:=by
 constructor
 ·rw [j0p,h2,h1,if_neg (by simp),if_pos rfl]
 ·rw [j0p,p0x hi,if_pos rfl]
theorem l0e {M:List (Nat×Ob)} {k:Nat} {a b:Ob} (j:Nat) (o:Ob) (h:look (Qk M k b) j=some o):look (Qk (Qk M k a) k b) j=some o:=by
 rw [Dj] at h ⊢
 split
 ·rename_i e
  rw [if_pos e] at h
  rw [Dj,if_pos rfl]
  cases hl:look M k with
  |none=>rw [hl] at h;exact h
  |some x=>rw [hl] at h;exact h
 ·rename_i e
  rw [if_neg e] at h
  rw [Dj,if_neg e];exact h
theorem Fz {M:List (Nat×Ob)} {mk i1:Nat} {o1:Ob} {i2:Nat} {o2:Ob} {dn:List Bool} {i:Nat} (h1:i≠i1) (h2:i≠i2) (k:Nat) (o:Ob) (h:look (j0p M mk i1 o1 i2 o2 (dn.set i true)) k=some o):look (j0p M mk i1 o1 i2 o2 dn) k=some o:=by
 rwa [w0x h1 h2] at h
end Go.Sy
