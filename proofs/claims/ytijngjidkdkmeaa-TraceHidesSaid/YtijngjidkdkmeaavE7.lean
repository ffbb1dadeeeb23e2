/- The layer that reckons a function out: what it says of states, operations, regions, loops, calls. CONDITIONS: those that each theorem names. -/
import Derived.Test.YtijngjidkdkmeaavE3
import Derived.Test.YtijngjidkdkmeaavE5
set_option linter.unusedVariables false
set_option linter.unusedSimpArgs false
namespace Go.Sy
theorem w1b {P:Program} {B:Base} {l:List Oper} {ds:List (Option Tmp)} {S:St} {N:St→Prop} {o:Oper} (hds:ds=f0f l) (h:Bv P B ds [o] S N):
 ∀ d a w,Sim B d S a w→∀ (next:Act→World→Prop) (Q:Exit→Act→World→Prop),(∀ S' d' a' w',N S'→Sim B d' S' a' w'→next a' w')→(if Region.wanted o (yielded l.toArray a.tmps) then o.wp P a w next Q else next (a.put o.dst undef) w):=by
 intro d a w hs next Q hnext
 have hds':ds=l.toArray.toList.map (·.dst):=by rw [hds,m0f]
 have hK: ∀ S',Bv P B ds [] S' N→N S':=fun S' h'=>by simpa [Bv] using h'
 unfold Bv at h
 split at h
 ·rename_i hg
  rw [if_pos (by simp [Region.wanted,hg])]
  split at h
  ·exact h d a w hs next Q (fun S' d' a' w' hk hs'=>hnext _ _ _ _ (hK _ hk) hs')
  split at h
  ·rename_i S' hst
   exact g0x (K:=fun S'=>Bv P B ds [] S' N) hst h d a w hs next Q (fun S' d' a' w' hk hs'=>hnext _ _ _ _ (hK _ hk) hs')
  exact h.elim
 rename_i g hg
 split at h
 ·rename_i c hc
  have hw:=f0j hs hds' hg hc
  by_cases hcg:c=g.2
  ·rw [hw,hcg,if_pos (by simp)]
   have h1:=h.1 hcg
   have hs2:Sim B d (u0q S ds g.1 g.2) a w:=by have:=l0p hs hc;rwa [hcg] at this
   split at h1
   ·exact h1 d a w hs2 next Q (fun S' d' a' w' hk hs'=>hnext _ _ _ _ (hK _ hk) hs')
   split at h1
   ·rename_i S' hst
    exact g0x (K:=fun S'=>Bv P B ds [] S' N) hst h1 d a w hs2 next Q (fun S' d' a' w' hk hs'=>hnext _ _ _ _ (hK _ hk) hs')
   exact h1.elim
  have hc':c= !g.2:=by cases c<;>cases hg2:g.2<;>simp_all
  rw [hw,if_neg (by simp [hcg])]
  have h2:=h.2 hc'
  have hs2:Sim B d (u0q S ds g.1 (!g.2)) a w:=by have:=l0p hs hc;rwa [hc'] at this
  split at h2
  ·rename_i S' hput
   exact hnext _ _ _ _ (hK _ h2) (St.c0l hs2 hput (f0n d))
  exact h2.elim
 exact h.elim
def DrS (P:Program) (B:Base) (l:List Oper) (dn:List Bool) (S:St) (K:St→Prop):Prop:=
 ∀ d a w,Sim B d S a w→∀ (Q:Exit→Act→World→Prop),(∀ S' d' a' w',K S'→Sim B d' S' a' w'→Q .normal a' w')→∀ listed:Array Bool,listed.toList=dn→wpAny P .any l.toArray Q (dn.count false) listed a w
def e0y (l:List Oper) (dn:List Bool):List Nat:=
 (List.range l.length).filter fun i=>!dn.getD i true&&match l[i]? with
  |none=>true
  |some o=>o.after.toList.all fun e=>!Region.binds .any e||dn.getD e.on false
def x0k (P:Program) (B:Base) (ds:List (Option Tmp)) (l:List Oper) (S:St) (N:Nat→St→Prop):List Nat→Prop
 | []=>True
 |i::r=>(match l[i]? with
   |some o=>Bv P B ds [o] S (N i)
   |none=>False)∧x0k P B ds l S N r
theorem s0u {P:Program} {B:Base} {ds:List (Option Tmp)} {l:List Oper} {S:St} {N:Nat→St→Prop}: ∀ {rs:List Nat},x0k P B ds l S N rs→∀ i∈rs,∃ o,l[i]? =some o∧Bv P B ds [o] S (N i)
 | [],_,i,hi=>by cases hi
 |j::r,h,i,hi=>by
   rcases yT.mp hi with rfl|hi
   ·have h1:=h.1
    split at h1
    ·rename_i o ho;exact ⟨o,ho,h1⟩
    exact h1.elim
   exact s0u h.2 i hi
theorem count_set : ∀ {dn:List Bool} {i:Nat},dn.getD i true=false→dn.count false=(dn.set i true).count false+1
 | [],i,h=>by simp at h
 |b::r,0,h=>by
   obtain rfl:b=false:=by simpa using h
   simp
 |b::r,i+1,h=>by
   have ih:=count_set (dn:=r) (i:=i) (by simpa using h)
   rw [List.set_cons_succ,List.count_cons,List.count_cons,ih];omega
theorem a0v {P:Program} {B:Base} {l:List Oper} {dn:List Bool} {ds:List (Option Tmp)} {S:St} {K:St→Prop} (rs:List Nat) (hds:f0f l=ds) (hr:e0y l dn=rs) (hne:rs≠[])
 (h: ∀ N:Nat→St→Prop,(∀ i S',DrS P B l (dn.set i true) S' K→N i S')→x0k P B ds l S N rs):DrS P B l dn S K:=by
 have h:=h (fun i S'=>DrS P B l (dn.set i true) S' K) fun _ _ h=>h
 intro d a w hs Q hQ listed hl
 have hiff: ∀ i,i∈Region.ready .any l.toArray listed↔i∈rs:=by
  intro i
  rw [d0m,←hr,e0y,vF,wL,vO]
  have hg: ∀ j b,listed.getD j b=dn.getD j b:=by
   intro j b
   rw [←hl,xI,wE,wW]
  constructor
  ·rintro ⟨h1,h2,h3⟩
   refine ⟨h1,?_⟩
   rw [hg] at h2
   simp only [h2,wG,xY]
   split
   ·rfl
   rename_i o ho
   refine yI.mpr fun e he=>?_
   have:=h3 o (by rw [wI];exact ho) e (by simpa using he)
   rw [hg] at this
   cases hb:Region.binds .any e with
   |false=>rfl
   |true=>rw [this hb];rfl
  rintro ⟨h1,h2⟩
  simp only [yF,yS] at h2
  refine ⟨h1,by rw [hg];exact h2.1,fun o ho e he hb=>?_⟩
  have h3:=h2.2
  rw [wI] at ho
  rw [ho] at h3
  have:=yI.mp h3 e (by simpa using he)
  rw [hg]
  simpa [hb] using this
 obtain ⟨i0,r0,rfl⟩: ∃ i r,rs=i::r:=by
  cases rs with
  |nil=>exact absurd rfl hne
  |cons i r=>exact ⟨i,r,rfl⟩
 have hnot: ∀ i∈i0::r0,dn.getD i true=false:=by
  intro i hi
  rw [←hr,e0y,vF,yF,yS] at hi
  exact hi.2.1
 have hcnt: ∀ i∈i0::r0,dn.count false=(dn.set i true).count false+1:=fun i hi=>count_set (hnot i hi)
 obtain ⟨n,hn⟩: ∃ n,dn.count false=n+1:=⟨_,hcnt i0 (by simp)⟩
 rw [hn]
 refine ⟨fun hnil=>?_,fun i hi=>?_⟩
 ·have:=(hiff i0).mpr (by simp)
  rw [hnil] at this;cases this
 have hi:=(hiff i).mp hi
 obtain ⟨o,ho,hrun⟩:=s0u h i hi
 have hc:n=(dn.set i true).count false:=by have:=hcnt i hi;omega
 simp only [wpOp,wI,ho]
 have hgo:=w1b hds.symm hrun d a w hs (wpAny P .any l.toArray Q n (listed.setIfInBounds i true)) Q (fun S' d' a' w' hK hs'=>by
  rw [hc]
  exact hK d' a' w' hs' Q hQ _ (by rw [Array.toList_setIfInBounds,hl]))
 split
 ·rename_i hw
  rw [if_pos hw] at hgo;exact .inl hgo
 rename_i hw
 rw [if_neg hw] at hgo;exact hgo
def j0g (n p:Nat):List Bool:=(List.range n).map fun i=>decide (i<p)
theorem w0i : ∀ (n p:Nat),p≤n→(j0g n p).count false=n-p
 |0,p,h=>by simp [j0g]
 |n+1,p,h=>by
   have e:j0g (n+1) p=j0g n p++[decide (n<p)]:=by simp [j0g,List.range_succ]
   rw [e,List.count_append]
   by_cases hp:n<p
   ·have hp2:p=n+1:=by omega
    subst hp2
    have:(j0g n (n+1)).count false=0:=by
     rw [List.count_eq_zero]
     simp [j0g];omega
    rw [this];simp
   rw [w0i n p (by omega)];simp [hp];omega
theorem q1k {P:Program} {B:Base} {l:List Oper} {p n:Nat} {S:St} {K:St→Prop} (dn:List Bool) (hn:l.length=n) (hp:p≤n) (hd:j0g n p=dn) (h:DrS P B l dn S K):Dr P B l p S K:=by
 subst hn;subst hd
 intro d a w hs Q hQ listed hl
 rw [←w0i _ _ hp]
 refine h d a w hs Q hQ listed ?_
 refine List.ext_getElem? fun i=>?_
 rw [wW]
 by_cases hi:i<l.length
 ·have h1:=hl.2 i (by simpa using hi)
  have hi2:i<listed.size:=by rw [hl.1];simpa using hi
  rw [xI,xZ hi2] at h1
  rw [xZ hi2]
  simp only [Option.getD_some] at h1
  simp [j0g,hi,h1]
 rw [Array.getElem?_eq_none (by rw [hl.1];simpa using hi),List.getElem?_eq_none (by simp [j0g];omega)]
theorem c2o {P:Program} {B:Base} {l:List Oper} {p n:Nat} {dn:List Bool} {S:St} {K:St→Prop} (hn:l.length=n) (hp:p≤n) (hd:j0g n p=dn) (h:Dr P B l p S K):DrS P B l dn S K:=by
 subst hn;subst hd
 intro d a w hs Q hQ listed hl
 rw [w0i _ _ hp]
 refine h d a w hs Q hQ listed ⟨?_,fun i hi=>?_⟩
 ·rw [←wB,hl];simp [j0g]
 have hi:i<l.length:=by simpa using hi
 rw [xI,←wW,hl]
 simp [j0g,hi]
theorem Dr.leX {P:Program} {B:Base} {l:List Oper} {p:Nat} {S T:St} {K:St→Prop} (h:Dr P B l p T K) (he:leX [] S.env T.env) (hm:leX [] S.mem T.mem):Dr P B l p S K:=by
 intro d a w hs Q hQ listed hl
 obtain ⟨d',hs'⟩:=Le.ofX (S:=S) (S':=T) he hm d a w hs
 exact h d' a w hs' Q hQ listed hl
theorem a2s {P:Program} {B:Base} {l:List Oper} {p n:Nat} {S:St} {K:St→Prop} (dn:List Bool) (q:Nat) (T:St) (hn:l.length=n) (hp:p≤n) (hd:j0g n p=dn) (h:Dr P B l q T K→DrS P B l dn S K) (hT:Dr P B l q T K):Dr P B l p S K:=q1k dn hn hp hd (h hT)
attribute [go_sem] x0k List.getElem?_cons_zero List.getElem?_cons_succ
end Go.Sy
namespace Go.Sy
theorem Sim.killEnv {B:Base} {d:Va} {S:St} {a:Act} {w:World} (k:Nat) (h:Sim B d S a w):Sim B d ⟨g0a k S.env,S.mem⟩ a w:=by
 refine {h with env:=fun n v hv=>?_}
 rw [b0h] at hv
 obtain ⟨v0,hv0,rfl⟩:=yO.mp hv
 obtain ⟨y,hy,hd⟩:=h.env n v0 hv0
 exact ⟨y,hy,V.kill_den hd⟩
theorem m0t {vw:Bool} {S:St} {hd:Hand} {e:List (Nat×V)}: ∀ cs:List L,Kv vw ⟨e,S.mem⟩ hd cs=Kv vw S hd cs
 | []=>rfl
 |l::r=>by
   have h1:Xq vw ⟨e,S.mem⟩ hd l=Xq vw S hd l:=by cases l<;>rfl
   simp only [Kv,h1,m0t r]
theorem t0s {S:St} {hd:Hand} {e:List (Nat×V)}: ∀ {m:List (Nat×Ob)},Pj S hd m→Pj ⟨e,S.mem⟩ hd m
 | [],_=>trivial
 |x::r,h=>by
   refine ⟨?_,t0s h.2⟩
   have h1:=h.1
   simp only [m0t]
   exact h1
open Classical in
theorem j1e {P:Program} {B:Base} {S:St} {K:St→Prop} {dst:Option Tmp} {ty:TypeId} {pos:String} {af:Array Edge} {f:FuncId} {args:List Operand} {ts:Array TypeId} {ds:List (Option Tmp)} {r:List Oper} {vs:List V} {m:List (Nat×Ob)} {R:V→List (Nat×Ob)→Prop}
 (kj:Nat) (vw:Bool) (hd:Hand) (nm:Nat→Nat) (hgo: ∀ vals w,(callFunc f vals).run P w=.ok (.enter f vals) w) (hargs:Sq vw S hd args=some vs) (hok:Vx hd=true) (hmv:x1i hd ⟨g0a kj S.env,S.mem⟩=true) (hm:Pj S hd m) (hc:CtM P f vs m R)
 (hK: ∀ v m',R v m'→Mj vw m' v=true∧c0h vw nm hd ⟨g0a kj S.env,S.mem⟩ m m' m'∧hd.all (fun x=>(look m' x.1).isSome)=true∧(match dst with
  |some n=>n<B.nt∧Bv P B ds r ⟨(n,v.ren (Sz nm hd))::g0a kj S.env,Ux nm hd m' S.mem⟩ K
  |none=>Bv P B ds r ⟨g0a kj S.env,Ux nm hd m' S.mem⟩ K)):
 Cj P B ⟨dst,.call ⟨.value (.func f),args.toArray,ts⟩,ty,pos,af,none⟩ S ds r K:=by
 intro d a w h next Q hn
 have hrun:(execOp a.eval ⟨dst,.call ⟨.value (.func f),args.toArray,ts⟩,ty,pos,af,none⟩).run P w=.ok (.enter f (args.map a.eval).toArray) w:=by
  simp [execOp,resolve,Deferred.ofValue,Act.eval,invoke,hgo]
 unfold Oper.wp
 rw [hrun,Oper.upon_enter]
 obtain ⟨ro,hr,hrv,hrw,hrn⟩: ∃ ro:Ro,RoOk S hd d w vw ro∧(vw=false→ro=d.ro)∧(∀ b o y,ro b o=some y→w.cell? ⟨b,o,none⟩=some y)∧(∀ k j,look hd k=some j→(look S.mem j).isSome=true→∀ o,ro (d.at_ j) o=none):=by
  cases vw with
  |false=>exact ⟨d.ro,b1g,fun _=>rfl,h.ro,fun k j hk hj o=>(h.own j hj (Gy hok hk).2.2).1 o⟩
  |true=>
    refine ⟨fun b o=>if (∃ k j,look hd k=some j∧(look S.mem j).isSome=true∧d.at_ j=b) then none else w.cell? ⟨b,o,none⟩,⟨fun b o y hy=>?_,fun _ j hj hjl hn o y hy=>?_⟩,(fun h=>by cases h),fun b o y hy=>?_,fun k j hk hj o=>?_⟩
    ·rw [if_neg]
     ·exact h.ro b o y hy
     rintro ⟨k,j,hk,hj,rfl⟩
     have:=(h.own j hj (Gy hok hk).2.2).1 o
     rw [this] at hy;cases hy
    ·rw [if_neg]
     ·exact hy
     rintro ⟨k,j',hk,hj',he⟩
     have:=h.inj j' j hj' hj (Gy hok hk).2.2 hjl he
     subst this
     have:Tw hd j'≠none:=by
      have key: ∀ {hd:Hand},look hd k=some j'→Tw hd j'≠none:=by
       intro hd
       induction hd with
       |nil=>intro h;cases h
       |cons x r ih=>
         intro h
         simp only [Tw]
         split
         ·simp
         rename_i hne
         simp only [look] at h
         split at h
         ·cases h;exact absurd rfl hne
         exact ih h
      exact key hk
     exact this hn
    ·have hy':(if (∃ k j,look hd k=some j∧(look S.mem j).isSome=true∧d.at_ j=b) then none else w.cell? ⟨b,o,none⟩)=some y:=hy
     split at hy'
     ·cases hy'
     exact hy'
    exact if_pos ⟨k,j,hk,hj,rfl⟩
 have hmem:=r0a h hr hrw hrn hok hm
 have hda:=f0k h hr hok hargs
 have h2:Sim B d ⟨g0a kj S.env,S.mem⟩ a w:=Sim.killEnv kj h
 refine (hc w (d.hand hd ro) (args.map a.eval).toArray hmem (by simpa using hda)).mono ?_
 rintro e w' ⟨y,v,d',m',rfl,hR,hvd,a2,hs⟩
 obtain ⟨hlo,hou,hall,hk⟩:=hK v m' hR
 obtain ⟨hsim,hnm,hro⟩:=d1z h2 hrv hok hmv (t0s hm) hs hall hou
 have hvd2:=f0z hro hnm hlo hvd
 cases dst with
 |none=>exact hn _ _ _ _ hk hsim
 |some n=>exact hn _ _ _ _ hk.2 (hsim.put hk.1 hvd2)
end Go.Sy
