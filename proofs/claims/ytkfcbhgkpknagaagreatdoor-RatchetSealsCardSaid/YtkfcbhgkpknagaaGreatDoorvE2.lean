/- The layer that reckons a function out: what it says of states, operations, regions, loops, calls. CONDITIONS: those that each theorem names. -/
import Derived.Test.YtkfcbhgkpknagaaGreatDoorvE1
import Derived.Orders
import Derived.Laws.CopyRow
import Derived.LoopN
import Derived.ProofKit
import Derived.Below
import Derived.ChangeSame
import Derived.Carry
set_option linter.unusedVariables false
set_option linter.unusedSimpArgs false
namespace Go.Sy
attribute [go_sem] reduceIte Option.getD_some yR Option.bind_some yS yT vC Bool.not_true List.any_nil vX Nat.reduceEqDiff reduceCtorEq Nat.reduceLT Nat.reduceLeDiff Nat.reduceBEq Nat.reduceAdd yE and_self and_true true_and ne_eq not_false_eq_true xD xW vR List.drop_succ_cons wE wH vT List.getElem?_cons_zero List.getElem?_cons_succ forall_const decide_eq_true_eq decide_eq_false_iff_not Bool.cond_true Bool.cond_false imp_self false_implies List.take_nil List.drop_nil xL xV beq_self_eq_true m0v n0g mkW pok psz rd win j1o x0r k0e true_or or_true or_false false_or V.ren W.ren L.ren adopt unV yX Bool.not_eq_false'
theorem Ct.plain {P:Program} {f:FuncId} {args:List V} {R:V→List (Nat×Ob)→Prop} {T:V→Prop} (h:Ct P f args R) (hR: ∀ v m,R v m→T v):Ct P f args fun v m=>T v∧m=[]:=by
 intro w d vals hro hg ha
 refine (h w d vals hro hg ha).mono ?_
 rintro e w' ⟨y,v,d',m',he,hr,hd,a,hs⟩
 refine ⟨y,v,d',[],he,⟨hR v m' hr,rfl⟩,hd,a,?_⟩
 exact ⟨hs.defers,hs.nt,fun n v hv=>(by cases hv),fun k o hk=>(by cases hk),fun k k' h1=>(by cases h1),fun k h1=>(by cases h1),hs.ro,hs.old,hs.os,hs.tape,hs.output,hs.size,hs.block,hs.gat,fun k o hk=>(by cases hk),fun k o p hk=>(by cases hk),hs.fxn,fun b l hb=>(by cases hb)⟩
end Go.Sy
namespace Go.Sy
def Va.via (d:Va) (g:Nat→Nat):Va:=⟨fun k=>d.at_ (g k),fun k=>d.size (g k),d.ro⟩
theorem L.den_via {d:Va} {g:Nat→Nat}: ∀ {l:L} {y:Value},(l.ren g).den d y→l.den (d.via g) y
 | .pl _,_,h=>h
 | .p _ _,_,h=>h
 | .s _ _ _ _,_,h=>h
 | .fn f caps,_,h=>by simpa [L.ren,L.den,Va.via,Function.comp_def] using h
theorem Fv.via {d:Va} {g:Nat→Nat}: ∀ {l:List L} {m:List Value},Fv (L.den d) (l.map (L.ren g)) m→Fv (L.den (d.via g)) l m
 | [],_,h=>by cases h;exact .nil
 |_::_,_,h=>by cases h with|cons h1 h2=>exact .cons (L.den_via h1) (Fv.via h2)
theorem W.den_via {d:Va} {g:Nat→Nat}: ∀ {x:W} {y:Value},(x.ren g).den d y→x.den (d.via g) y
 | .one _,_,h=>L.den_via h
 | .agg _,_,⟨vs,h1,h2⟩=>⟨vs,h1,Fv.via h2⟩
theorem Fv.viaW {d:Va} {g:Nat→Nat}: ∀ {l:List W} {m:List Value},Fv (W.den d) (l.map (W.ren g)) m→Fv (W.den (d.via g)) l m
 | [],_,h=>by cases h;exact .nil
 |_::_,_,h=>by cases h with|cons h1 h2=>exact .cons (W.den_via h1) (Fv.viaW h2)
theorem V.den_via {d:Va} {g:Nat→Nat}: ∀ {x:V} {y:Value},(x.ren g).den d y→x.den (d.via g) y
 | .w _,_,h=>W.den_via h
 | .tup _,_,⟨vs,h1,h2⟩=>⟨vs,h1,Fv.viaW h2⟩
 | .any,_,h=>trivial
def Within (g:Nat→Nat) (m m0:List (Nat×Ob)):Prop:=
 (∀ k o,look m k=some o→look m0 (g k)=some ⟨o.row,o.cells.map (L.ren g)⟩)∧(∀ k k',(look m k).isSome=true→(look m k').isSome=true→g k=g k'→k=k')∧(∀ k,k<px0→g k<px0)∧(∀ k,px0≤k→g k=k)
theorem p0n {g:Nat→Nat}: ∀ {l:List L} {c:List PL},l.map (L.ren g)=c.map L.pl→l=c.map L.pl
 | [],[],_=>rfl
 | [],_::_,h=>by simp at h
 |_::_,[],h=>by simp at h
 |x::l,y::c,h=>by
   simp only [yL,List.cons.injEq] at h
   obtain ⟨h1,h2⟩:=h
   have:x=.pl y:=by cases x<;>simp [L.ren] at h1 ⊢;exact h1
   rw [this,p0n h2];rfl
theorem Within.lt {g:Nat→Nat} {m m0:List (Nat×Ob)} (h:Within g m m0) {k:Nat} (hk:k<gl0):g k<gl0:=by
 rcases yZ k px0 with h1|h1
 ·exact wZ (h.2.2.1 k h1) a0m
 rw [h.2.2.2 k h1];exact hk
theorem Within.ge {g:Nat→Nat} {m m0:List (Nat×Ob)} (h:Within g m m0) {k:Nat} (hk:px0≤g k):px0≤k:=by
 rcases yZ k px0 with h1|h1
 ·exact absurd (h.2.2.1 k h1) (xX hk)
 exact h1
theorem m0c.tidy {B:Base} {d:Va} {m m0:List (Nat×Ob)} {w:World} {g:Nat→Nat} (h:m0c B d m0 w) (hw:Within g m m0):m0c B (d.via g) m w:=by
 obtain ⟨a,hs⟩:=h
 have hsome: ∀ k,(look m k).isSome=true→(look m0 (g k)).isSome=true:=fun k hk=>by
  obtain ⟨o,ho⟩:=xP.mp hk
  rw [hw.1 k o ho];rfl
 have hge: ∀ k,gl0≤k→g k=k:=fun k hk=>hw.2.2.2 k (xR (wQ a0m) hk)
 refine ⟨a,hs.defers,hs.nt,fun n v hv=>(by cases hv),fun k o hk hkl=>?_,fun k k' h1 h2 hl1 hl2 h3=>?_,fun k h1 hl=>⟨(hs.own (g k) (hsome k h1) (hw.lt hl)).1,(hs.own (g k) (hsome k h1) (hw.lt hl)).2.imp id fun h2=>⟨hw.ge h2.1,h2.2⟩⟩,hs.ro,hs.old,hs.os,hs.tape,hs.output,hs.size,hs.block,fun k hk=>?_,fun k o hk hkl=>?_,fun k o p hk hp hkl=>?_,hs.fxn,fun b l hb=>?_⟩
 ·obtain ⟨vals,spare,ty,fr,h1,h2,h3,h4⟩:=hs.mem (g k) _ (hw.1 k o hk) (hw.lt hkl)
  exact ⟨vals,spare,ty,fr,h1,h2,Fv.via h3,h4⟩
 ·exact hw.2.1 k k' h1 h2 (hs.inj _ _ (hsome k h1) (hsome k' h2) (hw.lt hl1) (hw.lt hl2) h3)
 ·show d.at_ (g k)=_
  rw [hge k hk];exact hs.gat k hk
 ·have h1:=hw.1 k o hk
  rw [hge k hkl] at h1
  rcases hs.glob k _ h1 hkl with ⟨l,e⟩|⟨h2,cs,h3,h4⟩
  ·obtain ⟨r,cs⟩:=o
   simp only [Ob.mk.injEq,List.map_eq_nil_iff] at e
   obtain ⟨rfl,rfl⟩:=e
   exact .inl ⟨l,rfl⟩
  refine .inr ⟨?_,cs,p0n h3,h4⟩
  show d.size (g k)=_
  rw [hge k hkl,h2];simp
 ·have he:=hw.2.2.2 k (hs.fxn k p hp)
  have h1:=hw.1 k o hk
  rw [he] at h1
  show (k<750000→d.at_ (g k)=_∧d.size (g k)=_)∧(d.at_ (g k)=_∨_≤d.at_ (g k))
  rw [he];exact hs.fix k _ p h1 hp hkl
 have h1:=hw.1 _ _ hb
 rw [hge _ (show gl0≤mp0+b by show 1000000≤2000000+b;omega)] at h1
 exact hs.mp b l h1
end Go.Sy
namespace Go.Sy
def Tidy (R:V→List (Nat×Ob)→Prop) (v:V) (m:List (Nat×Ob)):Prop:=∃ g v' m',v=v'.ren g∧Within g m' m∧R v' m'
theorem Within.empty {m:List (Nat×Ob)}:Within (fun k=>k) [] m:=⟨fun k o h=>(by cases h),fun k k' h=>(by cases h),fun _ h=>h,fun _ _=>rfl⟩
theorem k1j (g:Nat→Nat) (bs:List UInt8):(Az bs).map (L.ren g)=Az bs:=by simp [Az,L.ren]
def only (j k:Nat):Nat:=if k<px0 then j else k
theorem f0z {m:List (Nat×Ob)} {j:Nat} {bs:List UInt8} (h:look m j=some ⟨true,Az bs⟩) (hj:j<px0):Within (only j) [(0,⟨true,Az bs⟩)] m:=by
 refine ⟨fun k o hk=>?_,fun k k' h1 h2 _=>?_,fun k hk=>?_,fun k hk=>?_⟩
 ·simp only [look] at hk
  split at hk
  ·rename_i e;subst e;cases hk;rw [show only j 0=j from rfl,h,k1j]
  cases hk
 ·have e: ∀ k,(look [(0,(⟨true,Az bs⟩:Ob))] k).isSome=true→k=0:=by
   intro k hk
   simp only [look] at hk
   split at hk
   ·rename_i h0
    first|exact h0|exact h0.symm|exact (beq_iff_eq.mp h0).symm|exact beq_iff_eq.mp h0
   cases hk
  rw [e k h1,e k' h2]
 ·rw [only,if_pos hk];exact hj
 rw [only,if_neg (by omega)]
end Go.Sy
namespace Go.Sy
abbrev Hand :=List (Nat×Nat)
def Uy :Hand→Nat→Option Nat
 | [],j=>if 1000000≤j then some j else none
 |x::r,j=>if j=x.2 then some x.1 else Uy r j
def nameOut (hd:Hand) (k:Nat):Nat:=match look hd k with
 |some j=>j
 |none=>k
def c0y (hd:Hand):List Nat→Option (List Nat)
 | []=>some []
 |k::r=>match Uy hd k,c0y hd r with
   |some j,some js=>some (j::js)
   |_,_=>none
def Uv (vw:Bool) (S:St) (hd:Hand):L→Option L
 | .pl x=>some (.pl x)
 | .p j path=>(Uy hd j).map fun k=>.p k path
 | .s j path len sz=>if j<1000000 then match Uy hd j with
    |some k=>some (.s k path len sz)
    |none=>if vw=true then g0t S (.s j path len sz) else none
   else none
 | .fn f caps=>(c0y hd caps).map fun ks=>.fn f ks
def Dq (vw:Bool) (S:St) (hd:Hand):List L→Option (List L)
 | []=>some []
 |l::r=>match Uv vw S hd l,Dq vw S hd r with
   |some x,some xs=>some (x::xs)
   |_,_=>none
def n0c (vw:Bool) (S:St) (hd:Hand):V→Option V
 | .w (.one l)=>(Uv vw S hd l).map fun x=>.w (.one x)
 | .w (.agg cs)=>(Dq vw S hd cs).map fun x=>.w (.agg x)
 |_=>none
def Sz (vw:Bool) (S:St) (hd:Hand):List Operand→Option (List V)
 | []=>some []
 |x::r=>match (S.get x).bind (n0c vw S hd),Sz vw S hd r with
   |some v,some vs=>some (v::vs)
   |_,_=>none
def Pv (S:St) (hd:Hand):List (Nat×Ob)→Prop
 | []=>True
 |x::r=>(if x.1<1000000 then (match look hd x.1 with
    |some j=>(match look S.mem j with
      |some o=>Dq false S hd o.cells=some x.2.cells∧o.row=x.2.row
      |none=>False)
    |none=>False) else look S.mem x.1=some x.2)∧Pv S hd r
def Vz :Hand→Bool
 | []=>true
 |x::r=>decide (500000≤x.1)&&decide (x.1<1000000)&&decide (x.2<1000000∧(x.1<750000∨x.2<500000∨750000≤x.2))&& !(r.any fun y=>y.1==x.1)&& !(r.any fun y=>y.2==x.2)&&Vz r
theorem Fx : ∀ {hd:Hand} {k j:Nat},Vz hd=true→look hd k=some j→px0≤k∧k<gl0∧j<gl0
 |x::r,k,j,h,hl=>by
   simp only [Vz,yD,decide_eq_true_eq] at h
   simp only [look] at hl
   split at hl
   ·rename_i e;subst e;cases hl;exact ⟨h.1.1.1.1.1,h.1.1.1.1.2,h.1.1.1.2.1⟩
   exact Fx h.2 hl
theorem t0e : ∀ {hd:Hand} {k j:Nat},Vz hd=true→look hd k=some j→k<750000∨j<500000∨750000≤j
 |x::r,k,j,h,hl=>by
   simp only [Vz,yD,decide_eq_true_eq] at h
   simp only [look] at hl
   split at hl
   ·rename_i e;subst e;cases hl;exact h.1.1.1.2.2
   exact t0e h.2 hl
theorem Qk {α:Type}: ∀ {l:List (Nat×α)} {k:Nat} {v:α},look l k=some v→(k,v)∈l
 |x::r,k,v,h=>by
   simp only [look] at h
   split at h
   ·rename_i e;subst e;cases h;simp
   exact List.mem_cons_of_mem _ (Qk h)
theorem j0w : ∀ {hd:Hand} {k k' j:Nat},Vz hd=true→look hd k=some j→look hd k'=some j→k=k'
 |x::r,k,k',j,h,h1,h2=>by
   simp only [Vz,yD,yX,xC,beq_iff_eq] at h
   simp only [look] at h1 h2
   split at h1<;>split at h2
   ·rename_i e1 e2;rw [e1,e2]
   ·cases h1;exact absurd rfl (h.1.2 (k',x.2) (Qk h2))
   ·cases h2;exact absurd rfl (h.1.2 (k,x.2) (Qk h1))
   exact j0w h.2 h1 h2
theorem g0i : ∀ {hd:Hand} {j k:Nat},Vz hd=true→Uy hd j=some k→(look hd k=some j∧j<gl0∧k<gl0)∨(gl0≤j∧k=j)
 | [],j,k,_,h=>by
   simp only [Uy] at h
   split at h<;>cases h
   exact .inr ⟨by assumption,rfl⟩
 |x::r,j,k,ho,h=>by
   have ho':=ho
   simp only [Vz,yD,decide_eq_true_eq,yX,xC,beq_iff_eq] at ho'
   simp only [Uy] at h
   split at h
   ·rename_i e;subst e;cases h;left;exact ⟨by simp [look],ho'.1.1.1.2.1,ho'.1.1.1.1.2⟩
   rcases g0i ho'.2 h with ⟨h1,h2,h3⟩|h1
   ·left
    refine ⟨?_,h2,h3⟩
    simp only [look]
    rw [if_neg (fun e=>ho'.1.1.2 _ (Qk h1) e)];exact h1
   exact .inr h1
def Va.hand (d:Va) (hd:Hand) (ro:Ro):Va:=⟨fun k=>if 1000000≤k then k-1000000 else d.at_ (nameOut hd k),fun k=>d.size (nameOut hd k),ro⟩
theorem c1p {d:Va} {hd:Hand} {ro:Ro} {j k:Nat} (hg: ∀ k,gl0≤k→d.at_ k=k-gl0) (ho:Vz hd=true) (h:Uy hd j=some k):(d.hand hd ro).at_ k=d.at_ j:=by
 rcases g0i ho h with ⟨h1,h2,h3⟩|⟨h1,rfl⟩
 ·simp only [Va.hand];rw [if_neg (Nat.not_le_of_lt h3)];simp only [nameOut,h1]
 simp only [Va.hand];rw [if_pos h1,hg _ h1]
theorem q1j {d:Va} {hd:Hand} {ro:Ro} {j k:Nat} (ho:Vz hd=true) (h:Uy hd j=some k) (hl:j<gl0):(d.hand hd ro).size k=d.size j:=by
 rcases g0i ho h with ⟨h1,h2,h3⟩|⟨h1,rfl⟩
 ·simp only [Va.hand,nameOut,h1]
 omega
theorem a0a {d:Va} {ro:Ro} {w:World} {blk:Nat} (hro: ∀ b o y,d.ro b o=some y→ro b o=some y) (hb: ∀ o y,w.cell? ⟨blk,o,none⟩=some y→ro blk o=some y): ∀ {c:List PL} {vals:List Value} {off:Nat},Fv (L.den d) (pls c) vals→Mk w blk off vals→PL.denAt ro blk c off
 | [],_,_,_,_=>by rw [PL.denAt];trivial
 |x::c,vals,off,h,hc=>by
   cases h with
   |cons h1 h2=>
     rename_i y m
     rw [PL.denAt]
     refine ⟨⟨y,hb _ _ (hc 0 y rfl),PL.den_mono hro h1⟩,a0a hro hb h2 (fun j v hv=>?_)⟩
     have:=hc (j+1) v (by simpa using hv)
     rwa [show off+(j+1)=off+1+j from by omega] at this
structure RoOk (S:St) (hd:Hand) (d:Va) (w:World) (vw:Bool) (ro:Ro):Prop where
 mono: ∀ b o y,d.ro b o=some y→ro b o=some y
 view:vw=true→∀ j,(look S.mem j).isSome=true→j<gl0→Uy hd j=none→∀ o y,w.cell? ⟨d.at_ j,o,none⟩=some y→ro (d.at_ j) o=some y
section
variable {B:Base} {d:Va} {S:St} {a:Act} {w:World} {hd:Hand} {vw:Bool} {ro:Ro}
theorem t1y (h:Sim B d S a w) (hr:RoOk S hd d w vw ro) (hv1:vw=true) {j:Nat} {path:Path} {len sz:Nat} {x:L} {y:Value} (hj:j<gl0) (hn:Uy hd j=none) (hv:g0t S (.s j path len sz)=some x) (hdn:(L.s j path len sz).den d y):x.den (d.hand hd ro) y:=by
 simp only [g0t] at hv
 split at hv<;>try (cases hv;done)
 rename_i o hk
 split at hv<;>try (cases hv;done)
 rename_i hc
 obtain ⟨hp,hps⟩:=hc
 cases hu:f1j (rd o.cells path) with
 |none=>simp [hu] at hv
 |some c=>
   simp only [hu,yR,Option.some.injEq] at hv;subst hv
   obtain ⟨vals,hvd,hcell,hl⟩:=h.readObj hk hp
   have hcl:=c0r o.cells hp
   rw [o0n hu] at hvd hcl
   rw [c0s,hps] at hcl
   obtain ⟨oo,cap,rfl,hlc,hcm,ho,_⟩:=hdn
   show PL.den _ _ _
   rw [PL.den]
   right;left
   refine ⟨d.at_ j,oo,cap,by rw [Mj],by rw [Mj];exact hlc,hcm,fun e=>(by cases e),?_⟩
   refine Uj ?_ hcl
   rcases ho with ho|rfl
   ·have hlen:len=0:=by omega
    rw [hlen,vW] at hcl
    have:=xH hcl
    subst this;rw [PL.denAt];trivial
   exact a0a (fun b o y=>hr.mono b o y) (hr.view hv1 j (by rw [hk];rfl) hj hn) hvd hcell
theorem q0r (h:Sim B d S a w) (hok:Vz hd=true): ∀ {caps ks:List Nat},c0y hd caps=some ks→(ks.map fun k=>Value.pointer (some ⟨(d.hand hd ro).at_ k,0,none⟩))=caps.map fun k=>Value.pointer (some ⟨d.at_ k,0,none⟩)
 | [],ks,hc=>by simp only [c0y] at hc;cases hc;rfl
 |k::r,ks,hc=>by
   simp only [c0y] at hc
   split at hc<;>cases hc
   rename_i j js h1 h2
   rw [yL,yL,q0r h hok h2,c1p h.gat hok h1]
theorem j0n (h:Sim B d S a w) (hr:RoOk S hd d w vw ro) (hok:Vz hd=true) {l x:L} {y:Value} (hx:Uv vw S hd l=some x) (hd':l.den d y):x.den (d.hand hd ro) y:=by
 cases l with
 |pl p=>simp only [Uv] at hx;cases hx;exact PL.den_mono hr.mono hd'
 |p j path=>
   obtain ⟨k,hk,rfl⟩:=yM.mp hx
   simp only [L.den] at hd' ⊢
   rw [c1p h.gat hok hk];exact hd'
 |s j path len sz=>
   simp only [Uv] at hx
   split at hx<;>try (cases hx;done)
   rename_i hj
   split at hx
   ·rename_i k hk
    cases hx
    simp only [L.den] at hd' ⊢
    rw [c1p h.gat hok hk,q1j hok hk hj];exact hd'
   rename_i hk
   split at hx<;>try (cases hx;done)
   rename_i hvw
   exact t1y h hr hvw hj hk hx hd'
 |fn f caps=>
   obtain ⟨ks,hk,rfl⟩:=yM.mp hx
   simp only [L.den] at hd' ⊢
   rw [hd'];congr 1
   exact congrArg List.toArray (q0r h hok hk).symm
theorem i0f (h:Sim B d S a w) (hr:RoOk S hd d w vw ro) (hok:Vz hd=true): ∀ {cs xs:List L} {vs:List Value},Dq vw S hd cs=some xs→Fv (L.den d) cs vs→Fv (L.den (d.hand hd ro)) xs vs
 | [],xs,vs,hv,hd'=>by cases hd';simp only [Dq] at hv;cases hv;exact .nil
 |l::r,xs,vs,hv,hd'=>by
   cases hd' with
   |cons h1 h2=>
     simp only [Dq] at hv
     split at hv<;>cases hv
     rename_i e1 e2
     exact .cons (j0n h hr hok e1 h1) (i0f h hr hok e2 h2)
theorem t1z (h:Sim B d S a w) (hr:RoOk S hd d w vw ro) (hok:Vz hd=true) {v x:V} {y:Value} (hv:n0c vw S hd v=some x) (hd':v.den d y):x.den (d.hand hd ro) y:=by
 unfold n0c at hv
 split at hv<;>try (cases hv;done)
 ·obtain ⟨z,hz,rfl⟩:=yM.mp hv
  exact j0n h hr hok hz hd'
 obtain ⟨z,hz,rfl⟩:=yM.mp hv
 obtain ⟨vs,rfl,hall⟩:=hd'
 exact ⟨vs,rfl,i0f h hr hok hz hall⟩
theorem o0l (h:Sim B d S a w) (hr:RoOk S hd d w vw ro) (hok:Vz hd=true): ∀ {xs:List Operand} {vs:List V},Sz vw S hd xs=some vs→Fv (V.den (d.hand hd ro)) vs (xs.map a.eval)
 | [],vs,hv=>by simp only [Sz] at hv;cases hv;exact .nil
 |x::r,vs,hv=>by
   simp only [Sz] at hv
   split at hv<;>cases hv
   rename_i v us e1 e2
   obtain ⟨u,hu,hv⟩:=bind_some e1
   exact .cons (t1z h hr hok hv (h.get hu)) (o0l h hr hok e2)
theorem Qq : ∀ {m:List (Nat×Ob)},Pv S hd m→∀ {k:Nat} {o:Ob},look m k=some o→(k<gl0→∃ j u,look hd k=some j∧look S.mem j=some u∧Dq false S hd u.cells=some o.cells∧u.row=o.row)∧(gl0≤k→look S.mem k=some o)
 |x::r,h,k,o,hl=>by
   simp only [look] at hl
   split at hl
   ·rename_i e;subst e;cases hl
    have h1:=h.1
    refine ⟨fun hk=>?_,fun hk=>?_⟩
    ·rw [if_pos hk] at h1
     split at h1<;>try (exact h1.elim)
     rename_i j hj
     split at h1<;>try (exact h1.elim)
     rename_i u hu
     exact ⟨j,u,hj,hu,h1.1,h1.2⟩
    rw [if_neg (xX hk)] at h1;exact h1
   exact Qq h.2 hl
theorem n1q :RoOk S hd d w false d.ro:=⟨fun _ _ _ h=>h,fun h=>(by cases h)⟩
theorem z0q (h:Sim B d S a w) (hr:RoOk S hd d w vw ro) (hrw: ∀ b o y,ro b o=some y→w.cell? ⟨b,o,none⟩=some y) (hrn: ∀ k j,look hd k=some j→(look S.mem j).isSome=true→∀ o,ro (d.at_ j) o=none) (hok:Vz hd=true) {m:List (Nat×Ob)} (hm:Pv S hd m):
 m0c ⟨w,c1g (d.hand hd ro) m,0,ro,q1o (d.hand hd ro) m⟩ (d.hand hd ro) m w:=by
 have hat: ∀ {k j:Nat},k<gl0→look hd k=some j→(d.hand hd ro).at_ k=d.at_ j:=fun hk hj=>by
  simp only [Va.hand];rw [if_neg (Nat.not_le_of_lt hk)];simp only [nameOut,hj]
 have hsz: ∀ {k j:Nat},look hd k=some j→(d.hand hd ro).size k=d.size j:=fun hj=>by
  simp only [Va.hand,nameOut,hj]
 have hr0:RoOk S hd d w false ro:=⟨hr.mono,fun h=>(by cases h)⟩
 refine ⟨⟨#[],[]⟩,rfl,rfl,fun n v hv=>(by cases hv),fun k o hk hkl=>?_,fun k k' h1 h2 hl1 hl2 he=>?_,fun k h1 hl=>?_,hrw,fun b o y hy _=>hy,rfl,rfl,rfl,xL _,fun _ _ _=>rfl,fun k hk=>?_,fun k o hk hkl=>?_,fun k o p hk hp hkl=>?_,fun k p hp=>?_,fun b l hb=>h.mp b l ((Qq hm hb).2 (show gl0≤mp0+b by show 1000000≤2000000+b;omega))⟩
 ·obtain ⟨j,u,hj,hu,hc,hrow⟩:=(Qq hm hk).1 hkl
  obtain ⟨vals,spare,ty,fr,g1,g2,g3,g4,g5⟩:=h.mem j u hu (Fx hok hj).2.2
  exact ⟨vals,spare,ty,fr,by rw [hat hkl hj];exact g1,g2,i0f h hr0 hok hc g3,fun e=>g4 (by rw [hrow];exact e),by rw [hsz hj];exact g5⟩
 ·obtain ⟨o1,ho1⟩:=xP.mp h1
  obtain ⟨o2,ho2⟩:=xP.mp h2
  obtain ⟨j1,u1,hj1,hu1,_⟩:=(Qq hm ho1).1 hl1
  obtain ⟨j2,u2,hj2,hu2,_⟩:=(Qq hm ho2).1 hl2
  rw [hat hl1 hj1,hat hl2 hj2] at he
  have:=h.inj j1 j2 (by rw [hu1];rfl) (by rw [hu2];rfl) (Fx hok hj1).2.2 (Fx hok hj2).2.2 he
  subst this
  exact j0w hok hj1 hj2
 ·obtain ⟨o1,ho1⟩:=xP.mp h1
  obtain ⟨j1,u1,hj1,hu1,_⟩:=(Qq hm ho1).1 hl
  refine ⟨fun o=>?_,.inr ⟨(Fx hok hj1).1,k,h1,hl,rfl⟩⟩
  rw [hat hl hj1];exact hrn k j1 hj1 (by rw [hu1];rfl) o
 ·simp only [Va.hand];rw [if_pos hk]
 ·have hS:=(Qq hm hk).2 hkl
  rcases h.glob k o hS hkl with ⟨l,rfl⟩|⟨g1,cs,g2,g3⟩
  ·exact .inl ⟨l,rfl⟩
  have hno:look hd k=none:=by
   cases hl:look hd k with
   |none=>rfl
   |some j=>exact absurd (Fx hok hl).2.1 (xX hkl)
  exact .inr ⟨by simp only [Va.hand,nameOut,hno];exact g1,cs,g2,PL.denAt_mono hr.mono g3⟩
 ·simp only [q1o] at hp
  split at hp<;>cases hp
  exact ⟨fun _=>⟨rfl,rfl⟩,.inl rfl⟩
 simp only [q1o] at hp
 split at hp<;>cases hp
 rename_i hc;exact hc.2.1
end
end Go.Sy
namespace Go.Sy
def inv (nm:Nat→Nat):List (Nat×Ob)→Nat→Option Nat
 | [],_=>none
 |x::r,j=>if x.1<500000∧nm x.1=j then some x.1 else inv nm r j
def Px (nm:Nat→Nat) (hd:Hand) (k:Nat):Nat:=if k<500000 then nm k else nameOut hd k
def Ob.ren (f:Nat→Nat) (o:Ob):Ob:=⟨o.row,o.cells.map (L.ren f)⟩
def Vw (nm:Nat→Nat) (hd:Hand):List (Nat×Ob)→List (Nat×Ob)→List (Nat×Ob)
 | [],M=>M
 |x::r,M=>if x.1<500000 then (nm x.1,x.2.ren (Px nm hd))::Vw nm hd r M
   else if x.1<1000000 then h0b (Vw nm hd r M) (Px nm hd x.1) (x.2.ren (Px nm hd)) else Vw nm hd r M
def okN (m:List (Nat×Ob)) (k:Nat):Bool:=if k<1000000 then (look m k).isSome else true
def Nk (vw:Bool) (m:List (Nat×Ob)):L→Bool
 | .pl x=>!vw||Ry (.pl x)
 | .p k _=>okN m k
 | .s k _ _ _=>decide (k<1000000)&&okN m k
 | .fn _ caps=>caps.all (okN m)
def g0j (vw:Bool) (m:List (Nat×Ob)):W→Bool
 | .one l=>Nk vw m l
 | .agg cs=>cs.all (Nk vw m)
def Kj (vw:Bool) (m:List (Nat×Ob)):V→Bool
 | .w x=>g0j vw m x
 | .tup xs=>xs.all (g0j vw m)
 | .any=>true
def e0w (vw : Bool) (nm : Nat → Nat) (hd : Hand) (S : St) (m : List (Nat × Ob)) (mr : List (Nat × Ob)) : List (Nat × Ob) → Prop
  | [] => True
  | x :: r => (x.2.cells.all (Nk vw mr) = true ∧ (look r x.1).isSome = false ∧
      (if x.1 < 500000 then fresh (nm x.1) S = true ∧ (look S.mem (nm x.1)).isSome = false ∧ inv nm r (nm x.1) = none
       else if x.1 < 1000000 then (look m x.1).isSome = true else True)) ∧ e0w vw nm hd S m mr r
section
variable {vw:Bool} {nm:Nat→Nat} {hd:Hand} {S:St} {m mr:List (Nat×Ob)}
theorem Oq : ∀ {l:List (Nat×Ob)},e0w vw nm hd S m mr l→∀ {k:Nat} {o:Ob},look l k=some o→o.cells.all (Nk vw mr)=true∧(k<px0→fresh (nm k) S=true∧(look S.mem (nm k)).isSome=false∧inv nm l (nm k)=some k)∧(px0≤k→k<gl0→(look m k).isSome=true)
 |x::r,h,k,o,hl=>by
   obtain ⟨⟨h1,h2,h3⟩,hr⟩:=h
   simp only [look] at hl
   split at hl
   ·rename_i e;subst e;cases hl
    refine ⟨h1,fun hk=>?_,fun hk hk2=>?_⟩
    ·rw [if_pos hk] at h3
     exact ⟨h3.1,h3.2.1,by simp only [inv];rw [if_pos ⟨hk,trivial⟩]⟩
    rw [if_neg (xX hk),if_pos hk2] at h3;exact h3
   rename_i hne
   obtain ⟨g1,g2,g3⟩:=Oq hr hl
   refine ⟨g1,fun hk=>?_,g3⟩
   obtain ⟨f1,f2,f3⟩:=g2 hk
   refine ⟨f1,f2,?_⟩
   simp only [inv]
   split
   ·rename_i hc
    rw [if_pos hc.1] at h3
    rw [hc.2,f3] at h3
    exact absurd h3.2.2 (by simp)
   exact f3
theorem o0b : ∀ {l:List (Nat×Ob)} {j k:Nat},inv nm l j=some k→k<px0∧nm k=j∧(look l k).isSome=true
 |x::r,j,k,h=>by
   simp only [inv] at h
   split at h
   ·rename_i hc;cases h;exact ⟨hc.1,hc.2,by simp [look]⟩
   obtain ⟨h1,h2,h3⟩:=o0b h
   refine ⟨h1,h2,?_⟩
   simp only [look];split
   ·rfl
   exact h3
theorem c0p : ∀ {l:List (Nat×Ob)},e0w vw nm hd S m mr l→∀ {j:Nat} {o2:Ob},look (Vw nm hd l S.mem) j=some o2→
 (∃ k o',look l k=some o'∧k<gl0∧Px nm hd k=j∧o2=o'.ren (Px nm hd))∨(look S.mem j=some o2∧∀ k,(look l k).isSome=true→k<gl0→Px nm hd k≠j)
 | [],_,j,o2,h=>.inr ⟨h,fun k hk=>(by cases hk)⟩
 |x::r,hok,j,o2,h=>by
   obtain ⟨⟨h1,h2,h3⟩,hr⟩:=hok
   have up: ∀ k o',look r k=some o'→look (x::r) k=some o':=by
    intro k o' hk
    simp only [look]
    rw [if_neg (fun e=>by subst e;rw [hk] at h2;cases h2)];exact hk
   have step:(¬(x.1<gl0∧Px nm hd x.1=j))→look (Vw nm hd r S.mem) j=some o2→(∃ k o',look (x::r) k=some o'∧k<gl0∧Px nm hd k=j∧o2=o'.ren (Px nm hd))∨(look S.mem j=some o2∧∀ k,(look (x::r) k).isSome=true→k<gl0→Px nm hd k≠j):=by
    intro hx hb
    rcases c0p hr hb with ⟨k,o',g1,g2,g3,g4⟩|⟨g1,g2⟩
    ·exact .inl ⟨k,o',up _ _ g1,g2,g3,g4⟩
    refine .inr ⟨g1,fun k hk hkl he=>?_⟩
    simp only [look] at hk
    split at hk
    ·rename_i e;subst e;exact hx ⟨hkl,he⟩
    exact g2 k hk hkl he
   simp only [Vw] at h
   split at h
   ·rename_i hx
    have hout:Px nm hd x.1=nm x.1:=by simp only [Px,if_pos hx]
    simp only [look] at h
    split at h
    ·rename_i e;cases h
     exact .inl ⟨x.1,x.2,by simp [look],wZ hx a0m,by rw [hout,e],rfl⟩
    rename_i e;exact step (fun hc=>e (by rw [←hc.2,hout])) h
   split at h
   ·rename_i hx
    rw [Fz] at h
    split at h
    ·rename_i e
     obtain ⟨u,_,hu⟩:=yM.mp h
     exact .inl ⟨x.1,x.2,by simp [look],hx,e.symm,hu.symm⟩
    rename_i e;exact step (fun hc=>e hc.2.symm) h
   rename_i hx;exact step (fun hc=>hx hc.1) h
end
theorem L.den_agree {d d2:Va} {l:L} {y:Value} (hro: ∀ b o y,d.ro b o=some y→d2.ro b o=some y) (h: ∀ k,l.has k=true→d2.at_ k=d.at_ k∧d2.size k=d.size k) (hd:l.den d y):l.den d2 y:=by
 cases l with
 |pl x=>exact PL.den_mono hro hd
 |p k path=>
   have:=h k (by simp [L.has])
   simp only [L.den] at*;rw [this.1];exact hd
 |s k path len sz=>
   have:=h k (by simp [L.has])
   simp only [L.den] at*;rw [this.1,this.2];exact hd
 |fn f caps=>
   simp only [L.den] at*
   rw [hd];congr 1
   apply congrArg
   apply List.map_congr_left
   intro k hk
   rw [(h k (by simp only [L.has,List.any_eq_true];exact ⟨k,hk,by simp⟩)).1]
theorem t0q {d d2:Va} {cs:List L} {vs:List Value} (hro: ∀ b o y,d.ro b o=some y→d2.ro b o=some y) (h: ∀ k,cs.any (L.has k)=true→d2.at_ k=d.at_ k∧d2.size k=d.size k) (hd:Fv (L.den d) cs vs):Fv (L.den d2) cs vs:=
 hd.mono fun x y hx hr=>L.den_agree hro (fun k hk=>h k (List.any_eq_true.2 ⟨x,hx,hk⟩)) hr
theorem W.den_agree {d d2:Va} {x:W} {y:Value} (hro: ∀ b o y,d.ro b o=some y→d2.ro b o=some y) (h: ∀ k,x.has k=true→d2.at_ k=d.at_ k∧d2.size k=d.size k) (hd:x.den d y):x.den d2 y:=by
 cases x with
 |one l=>exact L.den_agree hro h hd
 |agg cs=>obtain ⟨vs,rfl,hv⟩:=hd;exact ⟨vs,rfl,t0q hro h hv⟩
theorem V.den_agree {d d2:Va} {x:V} {y:Value} (hro: ∀ b o y,d.ro b o=some y→d2.ro b o=some y) (h: ∀ k,x.has k=true→d2.at_ k=d.at_ k∧d2.size k=d.size k) (hd:x.den d y):x.den d2 y:=by
 cases x with
 |w x=>exact W.den_agree hro h hd
 |tup xs=>
   obtain ⟨vs,rfl,hv⟩:=hd
   exact ⟨vs,rfl,hv.mono fun x y hx hr=>W.den_agree hro (fun k hk=>h k (List.any_eq_true.2 ⟨x,hx,hk⟩)) hr⟩
 |any=>trivial
section
variable {vw:Bool} {nm:Nat→Nat} {hd:Hand} {m:List (Nat×Ob)} {d' d2:Va}
theorem p0t (hro:vw=false→∀ b o y,d'.ro b o=some y→d2.ro b o=some y) (hk: ∀ k,okN m k=true→d2.at_ (Px nm hd k)=d'.at_ k∧(k<gl0→d2.size (Px nm hd k)=d'.size k)) {l:L} {y:Value} (h:Nk vw m l=true) (hd':l.den d' y):(l.ren (Px nm hd)).den d2 y:=by
 cases l with
 |pl x=>
   simp only [Nk,uD,yX] at h
   rcases h with h|h
   ·exact PL.den_mono (hro h) hd'
   exact h0t h hd'
 |p k path=>
   simp only [L.ren,L.den] at*
   rw [(hk k h).1];exact hd'
 |s k path len sz=>
   simp only [Nk,yD,decide_eq_true_eq] at h
   simp only [L.ren,L.den] at*
   rw [(hk k h.2).1,(hk k h.2).2 h.1];exact hd'
 |fn f caps=>
   simp only [Nk,yJ] at h
   simp only [L.ren,L.den] at*
   rw [hd',List.map_map];congr 1
   apply congrArg
   apply List.map_congr_left
   intro k hkc
   simp only [Function.comp_def]
   rw [(hk k (h k hkc)).1]
theorem p0u (hro:vw=false→∀ b o y,d'.ro b o=some y→d2.ro b o=some y) (hk: ∀ k,okN m k=true→d2.at_ (Px nm hd k)=d'.at_ k∧(k<gl0→d2.size (Px nm hd k)=d'.size k)) {cs:List L} {vs:List Value} (h:cs.all (Nk vw m)=true) (hd':Fv (L.den d') cs vs):Fv (L.den d2) (cs.map (L.ren (Px nm hd))) vs:=by
 simp only [yJ] at h
 exact Fv.map_left (hd'.mono fun x y hx hr=>p0t hro hk (h x hx) hr)
theorem m0m (hro:vw=false→∀ b o y,d'.ro b o=some y→d2.ro b o=some y) (hk: ∀ k,okN m k=true→d2.at_ (Px nm hd k)=d'.at_ k∧(k<gl0→d2.size (Px nm hd k)=d'.size k)) {x:W} {y:Value} (h:g0j vw m x=true) (hd':x.den d' y):(x.ren (Px nm hd)).den d2 y:=by
 cases x with
 |one l=>exact p0t hro hk h hd'
 |agg cs=>obtain ⟨vs,rfl,hv⟩:=hd';exact ⟨vs,rfl,p0u hro hk h hv⟩
theorem m0o (hro:vw=false→∀ b o y,d'.ro b o=some y→d2.ro b o=some y) (hk: ∀ k,okN m k=true→d2.at_ (Px nm hd k)=d'.at_ k∧(k<gl0→d2.size (Px nm hd k)=d'.size k)) {x:V} {y:Value} (h:Kj vw m x=true) (hd':x.den d' y):(x.ren (Px nm hd)).den d2 y:=by
 cases x with
 |w x=>exact m0m hro hk h hd'
 |tup xs=>
   obtain ⟨vs,rfl,hv⟩:=hd'
   simp only [Kj,yJ] at h
   exact ⟨vs,rfl,Fv.map_left (hv.mono fun x y hx hr=>m0m hro hk (h x hx) hr)⟩
 |any=>trivial
end
end Go.Sy
namespace Go.Sy
def r0h :Hand→Nat→Option Nat
 | [],_=>none
 |x::r,j=>if 750000≤x.1∧x.2=j then some x.1 else r0h r j
theorem Ux : ∀ {hd:Hand} {j k:Nat},Vz hd=true→r0h hd j=some k→look hd k=some j∧750000≤k
 |x::r,j,k,ho,h=>by
   have ho':=ho
   simp only [Vz,yD,decide_eq_true_eq,yX,xC,beq_iff_eq] at ho'
   simp only [r0h] at h
   split at h
   ·rename_i hc;cases h;exact ⟨by simp [look,hc.2],hc.1⟩
   obtain ⟨h1,h2⟩:=Ux ho'.2 h
   refine ⟨?_,h2⟩
   simp only [look]
   split
   ·rename_i e
    exact absurd e.symm (fun e2=>ho'.1.1.2 (k,j) (Qk h1) (by first|exact e2.symm|exact e2))
   exact h1
theorem z0e : ∀ {hd:Hand} {j k:Nat},r0h hd j=none→look hd k=some j→k<750000
 |x::r,j,k,h,hl=>by
   simp only [r0h] at h
   split at h
   ·cases h
   rename_i hc
   simp only [look] at hl
   split at hl
   ·rename_i e;subst e;cases hl
    exact Nat.lt_of_not_le fun h2=>hc ⟨h2,rfl⟩
   exact z0e h hl
def i2z (hd:Hand) (S:St):Bool:=hd.all fun x=>decide (x.1<750000)||(!b1f x.2 S.env&&S.mem.all fun y=>hd.any (fun z=>z.2==y.1)|| !y.2.has x.2)
theorem w1x {hd:Hand} {S:St} (h:i2z hd S=true) {k j:Nat} (hl:look hd k=some j) (hk:750000≤k):b1f j S.env=false:=by
 have:=yJ.mp h (k,j) (Qk hl)
 simp only [uD,decide_eq_true_eq,yD,yX] at this
 rcases this with h1|h1
 ·omega
 exact h1.1
theorem w1w {hd:Hand} {S:St} (h:i2z hd S=true) {k j:Nat} (hl:look hd k=some j) (hk:750000≤k) {i:Nat} {o:Ob} (ho:look S.mem i=some o) (hn: ∀ x∈hd,x.2≠i):o.has j=false:=by
 have:=yJ.mp h (k,j) (Qk hl)
 simp only [uD,decide_eq_true_eq,yD,yX] at this
 rcases this with h1|h1
 ·omega
 have h2:=yJ.mp h1.2 (i,o) (Qk ho)
 simp only [uD,List.any_eq_true,beq_iff_eq,yX] at h2
 rcases h2 with ⟨x,hx,e⟩|h2
 ·exact absurd e (hn x hx)
 exact h2
def Va.back (d d' : Va) (vw : Bool) (nm : Nat → Nat) (hd : Hand) (m' : List (Nat × Ob)) (n : Nat) : Va :=
  ⟨fun j => match inv nm m' j with | some k => d'.at_ k | none => match r0h hd j with | some k => d'.at_ k | none => d.at_ j,
   fun j => match inv nm m' j with | some k => d'.size k | none => match r0h hd j with | some k => d'.size k | none => d.size j,
   fun b o => if vw = true then d.ro b o else if b < n then d.ro b o else d'.ro b o⟩
section
variable {B:Base} {d d':Va} {S:St} {a a2:Act} {w w':World} {hd:Hand} {vw:Bool} {ro:Ro} {nm:Nat→Nat} {m m':List (Nat×Ob)} {nt:Nat}
theorem s1t (h:Sim B d S a w) (hr:vw=false→ro=d.ro) (hok:Vz hd=true) (hmv:i2z hd S=true) (hm:Pv S hd m)
 (hs:Sim ⟨w,c1g (d.hand hd ro) m,nt,ro,q1o (d.hand hd ro) m⟩ d' ⟨[],m'⟩ a2 w') (hall:hd.all (fun x=>(look m' x.1).isSome)=true) (ho:e0w vw nm hd S m m' m'):
 Sim B (d.back d' vw nm hd m' w.heap.size) ⟨S.env,Vw nm hd m' S.mem⟩ a w'∧
 (∀ k,okN m' k=true→(d.back d' vw nm hd m' w.heap.size).at_ (Px nm hd k)=d'.at_ k∧(k<gl0→(d.back d' vw nm hd m' w.heap.size).size (Px nm hd k)=d'.size k))∧
 (vw=false→∀ b o y,d'.ro b o=some y→(d.back d' vw nm hd m' w.heap.size).ro b o=some y):=by
 have hat: ∀ {k j:Nat},k<gl0→look hd k=some j→(d.hand hd ro).at_ k=d.at_ j:=fun hk hj=>by
  simp only [Va.hand];rw [if_neg (Nat.not_le_of_lt hk)];simp only [nameOut,hj]
 have hsz: ∀ {k j:Nat},look hd k=some j→(d.hand hd ro).size k=d.size j:=fun hj=>by
  simp only [Va.hand,nameOut,hj]
 have hmj: ∀ {k:Nat},(look m k).isSome=true→k<gl0→∃ j,look hd k=some j∧(look S.mem j).isSome=true∧j<gl0∧px0≤k:=fun {k} hk hkl=>by
  obtain ⟨o,hko⟩:=xP.mp hk
  obtain ⟨j,u,hj,hu,_⟩:=(Qq hm hko).1 hkl
  exact ⟨j,hj,by rw [hu];rfl,(Fx hok hj).2.2,(Fx hok hj).1⟩
 have hfix: ∀ {k:Nat},(look m k).isSome=true→(look m' k).isSome=true→k<gl0→∃ j,look hd k=some j∧(look S.mem j).isSome=true∧j<gl0∧(k<750000→d'.at_ k=d.at_ j∧d'.size k=d.size j)∧(d'.at_ k=d.at_ j∨w.heap.size≤d'.at_ k):=fun {k} hk hk' hkl=>by
  obtain ⟨j,hj,hjs,hjl,hpx⟩:=hmj hk hkl
  obtain ⟨o',ho'⟩:=xP.mp hk'
  have:=hs.fix k o' ((d.hand hd ro).at_ k,(d.hand hd ro).size k) ho' (by simp only [q1o];rw [if_pos ⟨hk,hpx,hkl⟩]) hkl
  exact ⟨j,hj,hjs,hjl,fun hl=>⟨by rw [(this.1 hl).1,hat hkl hj],by rw [(this.1 hl).2,hsz hj]⟩,this.2.imp (fun e=>by rw [e,hat hkl hj]) id⟩
 have hpres: ∀ {k j:Nat},look hd k=some j→(look m' k).isSome=true:=fun {k j} hj=>by
  simp only [yJ] at hall
  exact hall (k,j) (Qk hj)
 have hmay: ∀ {b:Nat},c1g (d.hand hd ro) m b→∃ k j,(look m k).isSome=true∧k<gl0∧px0≤k∧look hd k=some j∧(look S.mem j).isSome=true∧j<gl0∧d.at_ j=b:=by
  rintro b ⟨k,hk,hkl,rfl⟩
  obtain ⟨j,hj,hjs,hjl,hpx⟩:=hmj hk hkl
  exact ⟨k,j,hk,hkl,hpx,hj,hjs,hjl,(hat hkl hj).symm⟩
 have hnew: ∀ {k:Nat},k<px0→(look m' k).isSome=true→w.heap.size≤d'.at_ k:=fun {k} hk hkm=>by
  rcases (hs.own k hkm (wZ hk a0m)).2 with h1|h1
  ·exact h1
  exact absurd hk (xX h1.1)
 have hinv: ∀ {j k:Nat},inv nm m' j=some k→k<px0∧nm k=j∧(look m' k).isSome=true∧fresh j S=true∧(look S.mem j).isSome=false:=fun {j k} hi=>by
  obtain ⟨h1,h2,h3⟩:=o0b hi
  obtain ⟨o',ho'⟩:=xP.mp h3
  obtain ⟨g1,g2,_⟩:=(Oq ho ho').2.1 h1
  rw [h2] at g1 g2
  exact ⟨h1,h2,h3,g1,g2⟩
 have hinvM: ∀ {j:Nat},(look S.mem j).isSome=true→inv nm m' j=none:=fun {j} hj=>by
  cases hi:inv nm m' j with
  |none=>rfl
  |some k=>have:=(hinv hi).2.2.2.2;rw [hj] at this;cases this
 have hinvG: ∀ {j:Nat},px0≤j→inv nm m' j=none:=fun {j} hj=>by
  cases hi:inv nm m' j with
  |none=>rfl
  |some k=>exact absurd (g0l (hinv hi).2.2.2.1) (xX hj)
 have hmvG: ∀ {j:Nat},gl0≤j→r0h hd j=none:=fun {j} hj=>by
  cases hi:r0h hd j with
  |none=>rfl
  |some k=>exact absurd (Fx hok (Ux hok hi).1).2.2 (xX hj)
 have hmvK: ∀ {k j:Nat},look hd k=some j→k<750000→r0h hd j=none:=fun {k j} hj hk=>by
  cases hi:r0h hd j with
  |none=>rfl
  |some k'=>
    obtain ⟨h1,h2⟩:=Ux hok hi
    have:=j0w hok hj h1
    omega
 have hmvS: ∀ {k j:Nat},look hd k=some j→750000≤k→r0h hd j=some k:=fun {k j} hj hk=>by
  cases hi:r0h hd j with
  |none=>have:=z0e hi hj;omega
  |some k'=>
    obtain ⟨h1,h2⟩:=Ux hok hi
    rw [j0w hok hj h1]
 have hmove: ∀ {k j:Nat},r0h hd j=some k→look hd k=some j∧k<gl0∧px0≤k∧j<gl0∧(look m' k).isSome=true:=fun {k j} hi=>by
  obtain ⟨h1,h2⟩:=Ux hok hi
  obtain ⟨g1,g2,g3⟩:=Fx hok h1
  exact ⟨h1,g2,g1,g3,hpres h1⟩
 have hat2: ∀ {j:Nat},inv nm m' j=none→r0h hd j=none→(d.back d' vw nm hd m' w.heap.size).at_ j=d.at_ j∧(d.back d' vw nm hd m' w.heap.size).size j=d.size j:=fun hi hi2=>by
  simp only [Va.back,hi,hi2,and_self]
 have hatV: ∀ {j k:Nat},inv nm m' j=none→r0h hd j=some k→(d.back d' vw nm hd m' w.heap.size).at_ j=d'.at_ k∧(d.back d' vw nm hd m' w.heap.size).size j=d'.size k:=fun hi hi2=>by
  simp only [Va.back,hi,hi2,and_self]
 have hatN: ∀ {j k:Nat},inv nm m' j=some k→(d.back d' vw nm hd m' w.heap.size).at_ j=d'.at_ k∧(d.back d' vw nm hd m' w.heap.size).size j=d'.size k:=fun hi=>by
  simp only [Va.back,hi,and_self]
 have hroM: ∀ b o y,d.ro b o=some y→(d.back d' vw nm hd m' w.heap.size).ro b o=some y:=fun b o y hy=>by
  simp only [Va.back]
  split
  ·exact hy
  rw [if_pos (f0p (h.ro b o y hy))];exact hy
 have hout: ∀ k,okN m' k=true→(d.back d' vw nm hd m' w.heap.size).at_ (Px nm hd k)=d'.at_ k∧(k<gl0→(d.back d' vw nm hd m' w.heap.size).size (Px nm hd k)=d'.size k):=fun k hk=>by
  simp only [okN] at hk
  split at hk
  ·rename_i hkl
   obtain ⟨o',ho'⟩:=xP.mp hk
   rcases yZ k px0 with hp|hp
   ·have hi:=((Oq ho ho').2.1 hp).2.2
    simp only [Px,if_pos hp]
    obtain ⟨g1,g2⟩:=hatN hi
    exact ⟨g1,fun _=>g2⟩
   have hkm:=(Oq ho ho').2.2 hp hkl
   obtain ⟨j,hj,hjs,hjl,g1,_⟩:=hfix hkm hk hkl
   simp only [Px,if_neg (xX hp),nameOut,hj]
   rcases yZ k 750000 with hq|hq
   ·obtain ⟨f1,f2⟩:=hat2 (hinvM hjs) (hmvK hj hq)
    exact ⟨by rw [f1,(g1 hq).1],fun _=>by rw [f2,(g1 hq).2]⟩
   obtain ⟨f1,f2⟩:=hatV (hinvM hjs) (hmvS hj hq)
   exact ⟨f1,fun _=>f2⟩
  rename_i hkl
  have hkl:gl0≤k:=Nat.le_of_not_lt hkl
  have hno:look hd k=none:=by
   cases hl:look hd k with
   |none=>rfl
   |some j=>exact absurd (Fx hok hl).2.1 (xX hkl)
  have hp:¬k<500000:=xX (xR (wQ a0m) hkl)
  simp only [Px,if_neg hp,nameOut,hno]
  refine ⟨?_,fun hl=>absurd hl (xX hkl)⟩
  rw [(hat2 (hinvG (xR (wQ a0m) hkl)) (hmvG hkl)).1,h.gat k hkl,hs.gat k hkl]
 have hroR:vw=false→∀ b o y,d'.ro b o=some y→(d.back d' vw nm hd m' w.heap.size).ro b o=some y:=fun hv b o y hy=>by
  simp only [Va.back,hv,yE,if_false]
  split
  ·rename_i hb
   have:=hs.old b o y hy hb
   rw [←hr hv];exact this
  exact hy
 refine ⟨?_,hout,hroR⟩
 have hsame: ∀ {b:Nat},b<w.heap.size→(∀ j,(look S.mem j).isSome=true→j<gl0→(∃ k,(look m k).isSome=true∧k<gl0∧look hd k=some j)→d.at_ j≠b)→w'.heap[b]? =w.heap[b]? :=fun {b} hb hne=>by
  refine hs.block b hb fun hmb=>?_
  obtain ⟨k,j,h1,h2,_,h4,h5,h6,h7⟩:=hmay hmb
  exact hne j h5 h6 ⟨k,h1,h2,h4⟩ h7
 have agree: ∀ {v:V},(∀ j,fresh j S=true→v.has j=false)→(∀ j k,r0h hd j=some k→v.has j=false)→∀ j,v.has j=true→(d.back d' vw nm hd m' w.heap.size).at_ j=d.at_ j∧(d.back d' vw nm hd m' w.heap.size).size j=d.size j:=fun hv hv2 j hj=>by
  refine hat2 ?_ ?_
  ·cases hi:inv nm m' j with
   |none=>rfl
   |some k=>have:=hv j (hinv hi).2.2.2.1;rw [hj] at this;cases this
  cases hi:r0h hd j with
  |none=>rfl
  |some k=>have:=hv2 j k hi;rw [hj] at this;cases this
 have hback: ∀ {j:Nat},(∀ k,(look m' k).isSome=true→k<gl0→Px nm hd k≠j)→∀ x∈hd,x.2≠j:=fun {j} hg x hx e=>by
  have hx1: ∃ j',look hd x.1=some j':=by
   have: ∀ {l:Hand},x∈l→∃ j',look l x.1=some j':=by
    intro l
    induction l with
    |nil=>intro h;cases h
    |cons z r ih=>
      intro h
      simp only [look]
      split
      ·exact ⟨_,rfl⟩
      rename_i hne
      rcases xK.mp h with rfl|h2
      ·exact absurd rfl hne
      exact ih h2
   exact this hx
  obtain ⟨j',hj'⟩:=hx1
  have hjj:j'=j:=by
   have key: ∀ {l:Hand},Vz l=true→x∈l→look l x.1=some j'→j'=x.2:=by
    intro l
    induction l with
    |nil=>intro _ h;cases h
    |cons z r ih=>
      intro ho hin hl
      have ho':=ho
      simp only [Vz,yD,decide_eq_true_eq,yX,xC,beq_iff_eq] at ho'
      simp only [look] at hl
      rcases xK.mp hin with rfl|h2
      ·rw [if_pos rfl] at hl;cases hl;rfl
      split at hl
      ·rename_i e2
       exact absurd e2 (fun e3=>ho'.1.1.2 x h2 (by first|exact e3.symm|exact e3))
      exact ih ho'.2 h2 hl
   exact (key hok hx hj').trans e
  subst hjj
  have hp:=(Fx hok hj').1
  exact hg x.1 (hpres hj') (Fx hok hj').2.1 (by simp only [Px,if_neg (xX hp),nameOut,hj'])
 have hbackM: ∀ {j:Nat},(∀ k,(look m' k).isSome=true→k<gl0→Px nm hd k≠j)→r0h hd j=none:=fun {j} hg=>by
  cases hi:r0h hd j with
  |none=>rfl
  |some k=>exact absurd rfl (hback hg (k,j) (Qk (hmove hi).1))
 have cls: ∀ {j:Nat},(look (Vw nm hd m' S.mem) j).isSome=true→j<gl0→(∃ k,k<px0∧(look m' k).isSome=true∧inv nm m' j=some k∧w.heap.size≤d'.at_ k)∨((look S.mem j).isSome=true∧inv nm m' j=none∧r0h hd j=none)∨(∃ k,(look S.mem j).isSome=true∧inv nm m' j=none∧r0h hd j=some k∧(d'.at_ k=d.at_ j∨w.heap.size≤d'.at_ k)):=fun {j} hj hjl=>by
  obtain ⟨o2,ho2⟩:=xP.mp hj
  rcases c0p ho ho2 with ⟨k,o',g1,g2,g3,g4⟩|⟨g1,g2⟩
  ·have hks:(look m' k).isSome=true:=by rw [g1];rfl
   rcases yZ k px0 with hp|hp
   ·have hi:=((Oq ho g1).2.1 hp).2.2
    simp only [Px,if_pos hp] at g3
    rw [g3] at hi
    exact .inl ⟨k,hp,hks,hi,hnew hp hks⟩
   have hkm:=(Oq ho g1).2.2 hp g2
   obtain ⟨j2,hj2,hjs,_,_,f2⟩:=hfix hkm hks g2
   simp only [Px,if_neg (xX hp),nameOut,hj2] at g3
   subst g3
   rcases yZ k 750000 with hq|hq
   ·exact .inr (.inl ⟨hjs,hinvM hjs,hmvK hj2 hq⟩)
   exact .inr (.inr ⟨k,hjs,hinvM hjs,hmvS hj2 hq,f2⟩)
  have:(look S.mem j).isSome=true:=by rw [g1];rfl
  exact .inr (.inl ⟨this,hinvM this,hbackM g2⟩)
 refine ⟨h.defers,h.nt,fun n v hv=>?_,fun j o2 hj hjl=>?_,fun j1 j2 h1 h2 hl1 hl2 he=>?_,fun j hj hjl=>?_,fun b o y hy=>?_,fun b o y hy hb=>?_,hs.os.trans h.os,hs.tape.trans h.tape,hs.output.trans h.output,xR h.size hs.size,fun b hb hnb=>?_,fun j hj=>?_,fun j o hj hjl=>?_,fun j o p hj hp hjl=>?_,h.fxn,fun b l hb=>?_⟩
 ·obtain ⟨y,hy,hyd⟩:=h.env n v hv
  exact ⟨y,hy,V.den_agree hroM (agree (fun j hf=>Wq (f0j hf).1 hv) (fun j k hi=>Wq (w1x hmv (Ux hok hi).1 (Ux hok hi).2) hv)) hyd⟩
 ·rcases c0p ho hj with ⟨k,o',g1,g2,g3,g4⟩|⟨g1,g2⟩
  ·obtain ⟨vals,spare,ty,fr,f1,f2,f3,f4,f5⟩:=hs.mem k o' g1 g2
   have hk:okN m' k=true:=by simp only [okN];rw [if_pos g2,g1];rfl
   obtain ⟨e1,e2⟩:=hout k hk
   rw [g3] at e1 e2
   subst g4
   exact ⟨vals,spare,ty,fr,by rw [e1];exact f1,f2,p0u hroR hout (Oq ho g1).1 f3,f4,by rw [e2 g2];exact f5⟩
  obtain ⟨vals,spare,ty,fr,f1,f2,f3,f4,f5⟩:=h.mem j o2 g1 hjl
  have hjs:(look S.mem j).isSome=true:=by rw [g1];rfl
  obtain ⟨e1,e2⟩:=hat2 (hinvM hjs) (hbackM g2)
  refine ⟨vals,spare,ty,fr,?_,f2,?_,f4,by rw [e2];exact f5⟩
  ·rw [e1,hsame (h.mem_lt hjs hjl)]
   ·exact f1
   rintro j' hj' hjl' ⟨k,hk,hkl,hkj⟩ he
   have:=h.inj j' j hj' hjs hjl' hjl he
   subst this
   refine g2 k (hpres hkj) hkl ?_
   have hp:=(Fx hok hkj).1
   simp only [Px,if_neg (xX hp),nameOut,hkj]
  exact t0q hroM (fun i hi=>agree (v:=.w (.agg o2.cells)) (fun j' hf=>a0y (f0j hf).2 g1) (fun j' k hi=>w1w hmv (Ux hok hi).1 (Ux hok hi).2 g1 (hback g2)) i hi) f3
 ·rcases cls h1 hl1 with ⟨k1,p1,q1,i1,s1⟩|⟨q1,i1,u1⟩|⟨k1,q1,i1,u1,s1⟩<;>rcases cls h2 hl2 with ⟨k2,p2,q2,i2,s2⟩|⟨q2,i2,u2⟩|⟨k2,q2,i2,u2,s2⟩
  ·rw [(hatN i1).1,(hatN i2).1] at he
   have:=hs.inj k1 k2 q1 q2 (wZ p1 a0m) (wZ p2 a0m) he
   subst this
   rw [←(o0b i1).2.1,←(o0b i2).2.1]
  ·rw [(hatN i1).1,(hat2 i2 u2).1] at he
   have:=h.mem_lt q2 hl2
   omega
  ·rw [(hatN i1).1,(hatV i2 u2).1] at he
   have:=hs.inj k1 k2 q1 (hmove u2).2.2.2.2 (wZ p1 a0m) (hmove u2).2.1 he
   have h5:=(hmove u2).2.2.1
   omega
  ·rw [(hat2 i1 u1).1,(hatN i2).1] at he
   have:=h.mem_lt q1 hl1
   omega
  ·rw [(hat2 i1 u1).1,(hat2 i2 u2).1] at he
   exact h.inj j1 j2 q1 q2 hl1 hl2 he
  ·rw [(hat2 i1 u1).1,(hatV i2 u2).1] at he
   rcases s2 with e|e
   ·rw [e] at he
    exact h.inj j1 j2 q1 q2 hl1 hl2 he
   have:=h.mem_lt q1 hl1
   omega
  ·rw [(hatV i1 u1).1,(hatN i2).1] at he
   have:=hs.inj k1 k2 (hmove u1).2.2.2.2 q2 (hmove u1).2.1 (wZ p2 a0m) he
   have h5:=(hmove u1).2.2.1
   omega
  ·rw [(hatV i1 u1).1,(hat2 i2 u2).1] at he
   rcases s1 with e|e
   ·rw [e] at he
    exact h.inj j1 j2 q1 q2 hl1 hl2 he
   have:=h.mem_lt q2 hl2
   omega
  rw [(hatV i1 u1).1,(hatV i2 u2).1] at he
  have:=hs.inj k1 k2 (hmove u1).2.2.2.2 (hmove u2).2.2.2.2 (hmove u1).2.1 (hmove u2).2.1 he
  subst this
  have e1:=(hmove u1).1
  rw [(hmove u2).1] at e1
  exact (Option.some.inj e1).symm
 ·have hnone: ∀ {b:Nat},w.heap.size≤b→∀ o,d.ro b o=none:=fun {b} hb o=>by
   cases hq:d.ro b o with
   |none=>rfl
   |some y=>have:=f0p (h.ro _ _ _ hq);omega
  rcases cls hj hjl with ⟨k,p,q,i,s⟩|⟨q,i,u⟩|⟨k,q,i,u,s⟩
  ·rw [(hatN i).1]
   refine ⟨fun o=>?_,.inl (xR h.size s)⟩
   simp only [Va.back]
   split
   ·exact hnone s o
   split
   ·exact hnone s o
   exact (hs.own k q (wZ p a0m)).1 o
  ·rw [(hat2 i u).1]
   have hlt:=h.mem_lt q hjl
   obtain ⟨g1,g2⟩:=h.own j q hjl
   refine ⟨fun o=>?_,g2⟩
   simp only [Va.back]
   split<;>first
    |exact g1 o
    |(rw [if_pos hlt];exact g1 o)
  rw [(hatV i u).1]
  rcases s with e|e
  ·rw [e]
   have hlt:=h.mem_lt q hjl
   obtain ⟨g1,g2⟩:=h.own j q hjl
   refine ⟨fun o=>?_,g2⟩
   simp only [Va.back]
   split<;>first
    |exact g1 o
    |(rw [if_pos hlt];exact g1 o)
  refine ⟨fun o=>?_,.inl (xR h.size e)⟩
  simp only [Va.back]
  split
  ·exact hnone e o
  split
  ·exact hnone e o
  exact (hs.own k (hmove u).2.2.2.2 (hmove u).2.1).1 o
 ·have key:d.ro b o=some y→w'.cell? ⟨b,o,none⟩=some y:=fun hy=>by
   have hc:=h.ro b o y hy
   have hlt:=f0p hc
   have:=hsame hlt (fun j hj hjl _ he=>by have:=(h.own j hj hjl).1 o;rw [he,hy] at this;cases this)
   simp only [World.cell?] at hc ⊢
   rw [this];exact hc
  simp only [Va.back] at hy
  split at hy
  ·exact key hy
  split at hy
  ·exact key hy
  exact hs.ro b o y hy
 ·simp only [Va.back] at hy
  split at hy
  ·exact h.old b o y hy hb
  rw [if_pos (Nat.lt_of_lt_of_le hb h.size)] at hy;exact h.old b o y hy hb
 ·rw [hsame (Nat.lt_of_lt_of_le hb h.size)]
  ·exact h.block b hb hnb
  intro j hj hjl _ he
  rcases (h.own j hj hjl).2 with g|g
  ·rw [he] at g;omega
  rw [he] at g;exact hnb g.2
 ·rw [(hat2 (hinvG (xR (wQ a0m) hj)) (hmvG hj)).1];exact h.gat j hj
 ·have hi:=hinvG (xR (wQ a0m) hjl)
  rcases c0p ho hj with ⟨k,o',g1,g2,g3,g4⟩|⟨g1,_⟩
  ·exfalso
   rcases yZ k px0 with hp|hp
   ·have:=((Oq ho g1).2.1 hp).2.2
    simp only [Px,if_pos hp] at g3
    rw [g3,hi] at this;cases this
   obtain ⟨j2,hj2,_,hl2,_⟩:=hmj ((Oq ho g1).2.2 hp g2) g2
   simp only [Px,if_neg (xX hp),nameOut,hj2] at g3
   subst g3;exact absurd hl2 (xX hjl)
  rcases h.glob j o g1 hjl with ⟨l,rfl⟩|⟨e1,cs,e2,e3⟩
  ·exact .inl ⟨l,rfl⟩
  exact .inr ⟨by rw [(hat2 hi (hmvG hjl)).2];exact e1,cs,e2,PL.denAt_mono hroM e3⟩
 ·have hi:=hinvG (h.fxn j p hp)
  rcases cls (by rw [hj];rfl) hjl with ⟨k,_,_,i,_⟩|⟨q,i,u⟩|⟨k,q,i,u,s⟩
  ·rw [hi] at i;cases i
  ·obtain ⟨u2,hu⟩:=xP.mp q
   rw [(hat2 hi u).1,(hat2 hi u).2];exact h.fix j u2 p hu hp hjl
  obtain ⟨u2,hu⟩:=xP.mp q
  have hf:=h.fix j u2 p hu hp hjl
  have h6:=h.fxn j p hp
  have h7:=t0e hok (hmove u).1
  have h8:=(Ux hok u).2
  refine ⟨fun hl=>?_,?_⟩
  ·unfold px0 at h6;omega
  rw [(hatV hi u).1]
  rcases s with e|e
  ·rw [e];exact hf.2
  exact .inr (xR h.size e)
 have hjl:gl0≤mp0+b:=by show 1000000≤2000000+b;omega
 have hi:=hinvG (xR (wQ a0m) hjl)
 rcases c0p ho hb with ⟨k,o',g1,g2,g3,g4⟩|⟨g1,_⟩
 ·exfalso
  rcases yZ k px0 with hp|hp
  ·have:=((Oq ho g1).2.1 hp).2.2
   simp only [Px,if_pos hp] at g3
   rw [g3,hi] at this;cases this
  obtain ⟨j2,hj2,_,hl2,_⟩:=hmj ((Oq ho g1).2.2 hp g2) g2
  simp only [Px,if_neg (xX hp),nameOut,hj2] at g3
  subst g3;exact absurd hl2 (xX hjl)
 have hm2:=h.mp b l g1
 exact hm2.of (hsame hm2.lt fun j hj hjl2 _=>h.map_apart hm2 hj hjl2)
end
open Classical in
theorem t0m {P:Program} {B:Base} {S:St} {K:St→Prop} {dst:Option Tmp} {ty:TypeId} {pos:String} {af:Array Edge} {f:FuncId} {args:List Operand} {ts:Array TypeId} {ds:List (Option Tmp)} {r:List Oper} {vs:List V} {m:List (Nat×Ob)} {R:V→List (Nat×Ob)→Prop}
 (vw:Bool) (hd:Hand) (nm:Nat→Nat) (hgo: ∀ vals w,(callFunc f vals).run P w=.ok (.enter f vals) w) (hargs: ∀ {d:Va} {a:Act} {w:World} {ro:Ro},Sim B d S a w→RoOk S hd d w vw ro→Fv (V.den (d.hand hd ro)) vs (args.map a.eval)) (hok:Vz hd=true) (hmv:i2z hd S=true) (hm:Pv S hd m) (hc:CtM P f vs m R)
 (hK: ∀ v m',R v m'→Kj vw m' v=true∧e0w vw nm hd S m m' m'∧hd.all (fun x=>(look m' x.1).isSome)=true∧(match dst with
  |some n=>n<B.nt∧Aj P B ds r ⟨(n,v.ren (Px nm hd))::S.env,Vw nm hd m' S.mem⟩ K
  |none=>Aj P B ds r ⟨S.env,Vw nm hd m' S.mem⟩ K)):
 Bw P B ⟨dst,.call ⟨.value (.func f),args.toArray,ts⟩,ty,pos,af,none⟩ S ds r K:=by
 intro d a w h next Q hn
 have hrun:(execOp a.eval ⟨dst,.call ⟨.value (.func f),args.toArray,ts⟩,ty,pos,af,none⟩).run P w=.ok (.enter f (args.map a.eval).toArray) w:=by
  simp [execOp,resolve,Deferred.ofValue,Act.eval,invoke,hgo]
 unfold Oper.wp
 rw [hrun,Oper.upon_enter]
 obtain ⟨ro,hr,hrv,hrw,hrn⟩: ∃ ro:Ro,RoOk S hd d w vw ro∧(vw=false→ro=d.ro)∧(∀ b o y,ro b o=some y→w.cell? ⟨b,o,none⟩=some y)∧(∀ k j,look hd k=some j→(look S.mem j).isSome=true→∀ o,ro (d.at_ j) o=none):=by
  cases vw with
  |false=>exact ⟨d.ro,n1q,fun _=>rfl,h.ro,fun k j hk hj o=>(h.own j hj (Fx hok hk).2.2).1 o⟩
  |true=>
    refine ⟨fun b o=>if (∃ k j,look hd k=some j∧(look S.mem j).isSome=true∧d.at_ j=b) then none else w.cell? ⟨b,o,none⟩,⟨fun b o y hy=>?_,fun _ j hj hjl hn o y hy=>?_⟩,(fun h=>by cases h),fun b o y hy=>?_,fun k j hk hj o=>?_⟩
    ·rw [if_neg]
     ·exact h.ro b o y hy
     rintro ⟨k,j,hk,hj,rfl⟩
     have:=(h.own j hj (Fx hok hk).2.2).1 o
     rw [this] at hy;cases hy
    ·rw [if_neg]
     ·exact hy
     rintro ⟨k,j',hk,hj',he⟩
     have:=h.inj j' j hj' hj (Fx hok hk).2.2 hjl he
     subst this
     have:Uy hd j'≠none:=by
      have key: ∀ {hd:Hand},look hd k=some j'→Uy hd j'≠none:=by
       intro hd
       induction hd with
       |nil=>intro h;cases h
       |cons x r ih=>
         intro h
         simp only [Uy]
         split
         ·simp
         rename_i hne
         simp only [look] at h
         split at h
         ·cases h;exact absurd rfl hne
         exact ih h
      exact key hk
     exact this hn
    ·have hy':(if (∃ k j,look hd k=some j∧(look S.mem j).isSome=true∧d.at_ j=b) then none else w.cell? ⟨b,o,none⟩)=some y:=hy
     split at hy'
     ·cases hy'
     exact hy'
    exact if_pos ⟨k,j,hk,hj,rfl⟩
 have hmem:=z0q h hr hrw hrn hok hm
 have hda:=hargs h hr
 refine (hc w (d.hand hd ro) (args.map a.eval).toArray hmem (by simpa using hda)).mono ?_
 rintro e w' ⟨y,v,d',m',rfl,hR,hvd,a2,hs⟩
 obtain ⟨hlo,hou,hall,hk⟩:=hK v m' hR
 obtain ⟨hsim,hnm,hro⟩:=s1t h hrv hok hmv hm hs hall hou
 have hvd2:=m0o hro hnm hlo hvd
 cases dst with
 |none=>exact hn _ _ _ _ hk hsim
 |some n=>exact hn _ _ _ _ hk.2 (hsim.put hk.1 hvd2)
def x1x (hd:Hand):Bool:=Vz hd&&hd.all fun x=>decide (x.1<750000)
theorem j0v {hd:Hand} (h:x1x hd=true):Vz hd=true∧∀ S,i2z hd S=true:=by
 simp only [x1x,yD] at h
 refine ⟨h.1,fun S=>yJ.mpr fun x hx=>?_⟩
 have:=yJ.mp h.2 x hx
 rw [this];rfl
theorem Kz {P:Program} {B:Base} {S:St} {K:St→Prop} {dst:Option Tmp} {ty:TypeId} {pos:String} {af:Array Edge} {f:FuncId} {args:List Operand} {ts:Array TypeId} {ds:List (Option Tmp)} {r:List Oper} {vs:List V} {m:List (Nat×Ob)} {R:V→List (Nat×Ob)→Prop}
 (vw:Bool) (hd:Hand) (nm:Nat→Nat) (hgo: ∀ vals w,(callFunc f vals).run P w=.ok (.enter f vals) w) (hargs:Sz vw S hd args=some vs) (hok:x1x hd=true) (hm:Pv S hd m) (hc:CtM P f vs m R)
 (hK: ∀ v m',R v m'→Kj vw m' v=true∧e0w vw nm hd S m m' m'∧hd.all (fun x=>(look m' x.1).isSome)=true∧(match dst with
  |some n=>n<B.nt∧Aj P B ds r ⟨(n,v.ren (Px nm hd))::S.env,Vw nm hd m' S.mem⟩ K
  |none=>Aj P B ds r ⟨S.env,Vw nm hd m' S.mem⟩ K)):
 Bw P B ⟨dst,.call ⟨.value (.func f),args.toArray,ts⟩,ty,pos,af,none⟩ S ds r K:=
 t0m vw hd nm hgo (fun h hr=>o0l h hr (j0v hok).1 hargs) (j0v hok).1 ((j0v hok).2 S) hm hc hK
end Go.Sy
namespace Go.Sy
def e0o (k:Nat) (c:List PL):L→L
 | .pl x=>.pl x
 | .p j path=>if j=k then .pl (.q c path) else .p j path
 | .s j path len sz=>if j=k then if pok c.length path∧psz c.length path=len*sz then .pl (.R false sz (chunks sz len (rd c path))) else .pl .u else .s j path len sz
 | .fn f caps=>if caps.any (fun j=>j==k)=true then .pl .u else .fn f caps
def x0v (k:Nat) (c:List PL):W→W
 | .one l=>.one (e0o k c l)
 | .agg cs=>.agg (cs.map (e0o k c))
def r0q (k:Nat) (c:List PL):V→V
 | .w x=>.w (x0v k c x)
 | .tup xs=>.tup (xs.map (x0v k c))
 | .any=>.any
def u1r (k:Nat) (c:List PL):List (Nat×V)→List (Nat×V)
 | []=>[]
 |x::r=>(x.1,r0q k c x.2)::u1r k c r
def x0x (k:Nat) (c:List PL):List (Nat×Ob)→List (Nat×Ob)
 | []=>[]
 |x::r=>if x.1=k then x0x k c r else (x.1,if x.1<1000000 then ⟨x.2.row,x.2.cells.map (e0o k c)⟩ else x.2)::x0x k c r
def St.laid (k:Nat) (c:List PL) (S:St):St:=⟨u1r k c S.env,x0x k c S.mem⟩
theorem s0z {k:Nat} {c:List PL}: ∀ {l:List (Nat×V)} {n:Nat},look (u1r k c l) n=(look l n).map (r0q k c)
 | [],n=>rfl
 |x::r,n=>by
   simp only [u1r,look]
   split
   ·rfl
   exact s0z
theorem l0n {k:Nat} {c:List PL}: ∀ {l:List (Nat×Ob)} {n:Nat},look (x0x k c l) n=if n=k then none else (look l n).map fun o=>if n<1000000 then ⟨o.row,o.cells.map (e0o k c)⟩ else o
 | [],n=>by simp [x0x,look]
 |x::r,n=>by
   simp only [x0x]
   split
   ·rename_i e
    rw [l0n]
    simp only [look]
    by_cases hn:n=k
    ·rw [if_pos hn,if_pos hn]
    rw [if_neg hn,if_neg hn,if_neg (fun h=>hn (h.trans e))]
   rename_i e
   simp only [look]
   by_cases hx:n=x.1
   ·subst hx;rw [if_pos rfl,if_neg e,if_pos rfl];rfl
   rw [if_neg hx,if_neg hx,l0n]
def Va.seals (d:Va) (k:Nat) (w:World):Va:=⟨d.at_,d.size,fun b o=>if b=d.at_ k then w.cell? ⟨b,o,none⟩ else d.ro b o⟩
section
variable {B:Base} {d:Va} {S:St} {a:Act} {w:World} {k:Nat} {o:Ob} {c:List PL}
theorem x0t (h:Sim B d S a w) (hk:look S.mem k=some o) (hkl:k<gl0): ∀ b o y,d.ro b o=some y→(d.seals k w).ro b o=some y:=fun b o' y hy=>by
 simp only [Va.seals]
 split
 ·rename_i e;rw [e,(h.own k (by rw [hk];rfl) hkl).1] at hy;cases hy
 exact hy
theorem x0y (h:Sim B d S a w) (hk:look S.mem k=some o) (hc:o.cells=pls c) (hkl:k<gl0) {l:L} {y:Value} (hd:l.den d y):(e0o k c l).den (d.seals k w) y:=by
 have hro:=x0t h hk hkl
 have hb: ∀ o' y,w.cell? ⟨d.at_ k,o',none⟩=some y→(d.seals k w).ro (d.at_ k) o'=some y:=fun o' y hy=>by simp only [Va.seals,if_true];exact hy
 have hl:o.cells.length=c.length:=by rw [hc,c0s]
 cases l with
 |pl x=>exact PL.den_mono hro hd
 |p j path=>
   simp only [e0o]
   split
   ·rename_i e;subst e
    simp only [L.den] at hd
    rw [L.den,PL.den]
    obtain ⟨vals,hv,hcell,_⟩:=h.readObj (path:=[]) hk trivial
    simp only [rd,hc,Xj] at hv hcell
    exact ⟨d.at_ j,0,by rw [hd];simp,a0a hro hb hv hcell⟩
   exact hd
 |s j path len sz=>
   simp only [e0o]
   split
   ·rename_i e;subst e
    split
    ·rename_i hp
     obtain ⟨hp,hps⟩:=hp
     obtain ⟨vals,hv,hcell,_⟩:=h.readObj (path:=path) hk (by rw [hl];exact hp)
     have hcl:=c0r c hp
     have e2:rd o.cells path=pls (rd c path):=by rw [hc];unfold pls;rw [g1a]
     rw [e2] at hv
     obtain ⟨oo,cap,rfl,hlc,hcm,ho,_⟩:=hd
     rw [L.den,PL.den]
     right;left
     rw [hps] at hcl
     refine ⟨d.at_ j,oo,cap,by rw [Mj],by rw [Mj];exact hlc,hcm,fun e=>(by cases e),?_⟩
     refine Uj ?_ hcl
     rcases ho with ho|rfl
     ·have hlen:len=0:=by omega
      rw [hlen,vW] at hcl
      have:=xH hcl
      rw [this];rw [PL.denAt];trivial
     exact a0a hro hb hv hcell
    have hs:=L.den_scalar hd
    rw [L.den,PL.den];exact hs
   exact hd
 |fn f caps=>
   simp only [e0o]
   split
   ·have hs:=L.den_scalar hd
    rw [L.den,PL.den];exact hs
   exact hd
theorem x0z (h:Sim B d S a w) (hk:look S.mem k=some o) (hc:o.cells=pls c) (hkl:k<gl0) {cs:List L} {vs:List Value} (hd:Fv (L.den d) cs vs):Fv (L.den (d.seals k w)) (cs.map (e0o k c)) vs:=
 Fv.map_left (hd.mono fun x y _ hr=>x0y h hk hc hkl hr)
theorem x0u (h:Sim B d S a w) (hk:look S.mem k=some o) (hc:o.cells=pls c) (hkl:k<gl0) {x:W} {y:Value} (hd:x.den d y):(x0v k c x).den (d.seals k w) y:=by
 cases x with
 |one l=>exact x0y h hk hc hkl hd
 |agg cs=>obtain ⟨vs,rfl,hv⟩:=hd;exact ⟨vs,rfl,x0z h hk hc hkl hv⟩
theorem x0w (h:Sim B d S a w) (hk:look S.mem k=some o) (hc:o.cells=pls c) (hkl:k<gl0) {x:V} {y:Value} (hd:x.den d y):(r0q k c x).den (d.seals k w) y:=by
 cases x with
 |w x=>exact x0u h hk hc hkl hd
 |tup xs=>obtain ⟨vs,rfl,hv⟩:=hd;exact ⟨vs,rfl,Fv.map_left (hv.mono fun x y _ hr=>x0u h hk hc hkl hr)⟩
 |any=>trivial
theorem Sim.sealed (h:Sim B d S a w) (hk:look S.mem k=some o) (hc:o.cells=pls c) (hkp:k<px0):Sim B (d.seals k w) (S.laid k c) a w:=by
 have hkl:k<gl0:=wZ hkp a0m
 have hmem: ∀ {j:Nat} {p:Ob},look (S.laid k c).mem j=some p→j≠k∧∃ q,look S.mem j=some q∧p=if j<1000000 then ⟨q.row,q.cells.map (e0o k c)⟩ else q:=fun {j p} hj=>by
  simp only [St.laid,l0n] at hj
  split at hj
  ·cases hj
  rename_i hne
  obtain ⟨q,hq,rfl⟩:=yM.mp hj
  exact ⟨hne,q,hq,rfl⟩
 have hsome: ∀ {j:Nat},(look (S.laid k c).mem j).isSome=true→(look S.mem j).isSome=true∧j≠k:=fun {j} hj=>by
  obtain ⟨p,hp⟩:=xP.mp hj
  obtain ⟨h1,q,h2,_⟩:=hmem hp
  exact ⟨by rw [h2];rfl,h1⟩
 refine ⟨h.defers,h.nt,fun n v hv=>?_,fun j p hj hjl=>?_,fun j1 j2 h1 h2 hl1 hl2 he=>h.inj j1 j2 (hsome h1).1 (hsome h2).1 hl1 hl2 he,fun j hj hjl=>?_,fun b o' y hy=>?_,fun b o' y hy hb=>?_,h.os,h.tape,h.output,h.size,h.block,h.gat,fun j p hj hjl=>?_,fun j p q hj hq hjl=>?_,h.fxn,fun b l hb=>?_⟩
 ·simp only [St.laid,s0z] at hv
  obtain ⟨u,hu,rfl⟩:=yM.mp hv
  obtain ⟨y,hy,hd⟩:=h.env n u hu
  exact ⟨y,hy,x0w h hk hc hkl hd⟩
 ·obtain ⟨_,q,hq,rfl⟩:=hmem hj
  rw [if_pos hjl]
  obtain ⟨vals,spare,ty,fr,g1,g2,g3,g4,g5⟩:=h.mem j q hq hjl
  exact ⟨vals,spare,ty,fr,g1,g2,x0z h hk hc hkl g3,g4,g5⟩
 ·obtain ⟨h1,h2⟩:=hsome hj
  obtain ⟨g1,g2⟩:=h.own j h1 hjl
  refine ⟨fun o'=>?_,g2⟩
  simp only [Va.seals]
  rw [if_neg (fun e=>h2 (h.inj j k h1 (by rw [hk];rfl) hjl hkl e))];exact g1 o'
 ·simp only [Va.seals] at hy
  split at hy
  ·exact hy
  exact h.ro b o' y hy
 ·simp only [Va.seals] at hy
  split at hy
  ·rename_i e
   rcases (h.own k (by rw [hk];rfl) hkl).2 with g|g
   ·omega
   exact absurd g.1 (Nat.not_le_of_lt hkp)
  exact h.old b o' y hy hb
 ·obtain ⟨_,q,hq,rfl⟩:=hmem hj
  rw [if_neg (xX hjl)]
  rcases h.glob j q hq hjl with ⟨l,rfl⟩|⟨e1,cs,e2,e3⟩
  ·exact .inl ⟨l,rfl⟩
  exact .inr ⟨e1,cs,e2,PL.denAt_mono (x0t h hk hkl) e3⟩
 ·obtain ⟨_,u,hu,_⟩:=hmem hj
  exact h.fix j u q hu hq hjl
 obtain ⟨_,q,hq,e⟩:=hmem hb
 rw [if_neg (show ¬mp0+b<1000000 by show ¬2000000+b<1000000;omega)] at e
 subst e
 exact h.mp b l hq
end
theorem p1a (d:Va):c1g d []=fun _=>False:=by funext b;simp [c1g,look]
theorem y1h (d:Va):q1o d []=fun _=>none:=by funext b;simp [q1o,look]
theorem Ct.hands {P:Program} {f:FuncId} {args:List V} {R:V→List (Nat×Ob)→Prop} (h:Ct P f args R):CtM P f args [] R:=by
 intro w d vals ⟨a,hs⟩ ha
 rw [p1a,y1h]
 exact h w d vals hs.ro hs.gat ha
theorem CtM.k {P:Program} {f:FuncId} {fn:Func} {c:Code} {args:List V} {m:List (Nat×Ob)} {R:V→List (Nat×Ob)→Prop} {nt:Nat} {rs:List ResultVar} (hf:P.funcs[f]? =some fn) (hb:fn.body=some c) (hnt:fn.ntmps=nt) (hrs:fn.results.toList=rs) (hn:args.length≤nt)
 (h: ∀ (w0:World) (ro:Ro) (may:Nat→Prop) (fx:Nat→Option (Nat×Nat)),HT P ⟨w0,may,nt,ro,fx⟩ c ⟨m0a 0 args,m⟩ (h2e P rs R)):CtM P f args m R:=by
 subst hnt;subst hrs
 refine CtM.of hf hb hn fun w0 ro may fx=>?_
 exact (h w0 ro may fx).mono fun e S hq=>by cases e<;>exact hq
theorem CtM.mono {P:Program} {f:FuncId} {args:List V} {m:List (Nat×Ob)} {R R':V→List (Nat×Ob)→Prop} (h:CtM P f args m R) (hr: ∀ v m,R v m→R' v m):CtM P f args m R':=by
 intro w d vals hm hargs
 exact (h w d vals hm hargs).mono fun e w' ⟨y,v,d',m',h1,h2,h3⟩=>⟨y,v,d',m',h1,hr _ _ h2,h3⟩
end Go.Sy
namespace Go.Sy
theorem a1z {d:Va}: ∀ ks:List Nat,Fv (V.den d) (ks.map fun k=>.w (.one (.p k []))) (ks.map fun k=>Value.pointer (some ⟨d.at_ k,0,none⟩))
 | []=>.nil
 |k::ks=>.cons (by simp [V.den,W.den,L.den,Xj]) (a1z ks)
open Classical in
theorem z1q {P:Program} {B:Base} {S:St} {K:St→Prop} {dst:Option Tmp} {ty:TypeId} {pos:String} {af:Array Edge} {f:FuncId} {args:List Operand} {ts:Array TypeId} {ds:List (Option Tmp)} {r:List Oper} {vs:List V} {m:List (Nat×Ob)} {R:V→List (Nat×Ob)→Prop}
 (vw:Bool) (hd:Hand) (nm:Nat→Nat) {t:Tmp} {caps ks:List Nat} (hfn:S.get (.tmp t)=some (.w (.one (.fn f caps)))) (hcaps:c0y hd caps=some ks) (hgo: ∀ vals w,(callFunc f vals).run P w=.ok (.enter f vals) w) (hargs:Sz vw S hd args=some vs) (hok:Vz hd=true) (hmv:i2z hd S=true) (hm:Pv S hd m) (hc:CtM P f (vs++ks.map fun k=>.w (.one (.p k []))) m R)
 (hK: ∀ v m',R v m'→Kj vw m' v=true∧e0w vw nm hd S m m' m'∧hd.all (fun x=>(look m' x.1).isSome)=true∧(match dst with
  |some n=>n<B.nt∧Aj P B ds r ⟨(n,v.ren (Px nm hd))::S.env,Vw nm hd m' S.mem⟩ K
  |none=>Aj P B ds r ⟨S.env,Vw nm hd m' S.mem⟩ K)):
 Bw P B ⟨dst,.call ⟨.value (.tmp t),args.toArray,ts⟩,ty,pos,af,none⟩ S ds r K:=by
 intro d a w h next Q hn
 have hrun:(execOp a.eval ⟨dst,.call ⟨.value (.tmp t),args.toArray,ts⟩,ty,pos,af,none⟩).run P w=.ok (.enter f (args.map a.eval++caps.map fun k=>Value.pointer (some ⟨d.at_ k,0,none⟩)).toArray) w:=by
  have hv:=h.get hfn
  have hv':a.eval (.tmp t)=.func (.func f) #[] (caps.map fun k=>Value.pointer (some ⟨d.at_ k,0,none⟩)).toArray:=hv
  simp [execOp,resolve,Deferred.ofValue,hv',invoke,hgo]
 unfold Oper.wp
 rw [hrun,Oper.upon_enter]
 obtain ⟨ro,hr,hrv,hrw,hrn⟩: ∃ ro:Ro,RoOk S hd d w vw ro∧(vw=false→ro=d.ro)∧(∀ b o y,ro b o=some y→w.cell? ⟨b,o,none⟩=some y)∧(∀ k j,look hd k=some j→(look S.mem j).isSome=true→∀ o,ro (d.at_ j) o=none):=by
  cases vw with
  |false=>exact ⟨d.ro,n1q,fun _=>rfl,h.ro,fun k j hk hj o=>(h.own j hj (Fx hok hk).2.2).1 o⟩
  |true=>
    refine ⟨fun b o=>if (∃ k j,look hd k=some j∧(look S.mem j).isSome=true∧d.at_ j=b) then none else w.cell? ⟨b,o,none⟩,⟨fun b o y hy=>?_,fun _ j hj hjl hn o y hy=>?_⟩,(fun h=>by cases h),fun b o y hy=>?_,fun k j hk hj o=>?_⟩
    ·rw [if_neg]
     ·exact h.ro b o y hy
     rintro ⟨k,j,hk,hj,rfl⟩
     have:=(h.own j hj (Fx hok hk).2.2).1 o
     rw [this] at hy;cases hy
    ·rw [if_neg]
     ·exact hy
     rintro ⟨k,j',hk,hj',he⟩
     have:=h.inj j' j hj' hj (Fx hok hk).2.2 hjl he
     subst this
     have:Uy hd j'≠none:=by
      have key: ∀ {hd:Hand},look hd k=some j'→Uy hd j'≠none:=by
       intro hd
       induction hd with
       |nil=>intro h;cases h
       |cons x r ih=>
         intro h
         simp only [Uy]
         split
         ·simp
         rename_i hne
         simp only [look] at h
         split at h
         ·cases h;exact absurd rfl hne
         exact ih h
      exact key hk
     exact this hn
    ·have hy':(if (∃ k j,look hd k=some j∧(look S.mem j).isSome=true∧d.at_ j=b) then none else w.cell? ⟨b,o,none⟩)=some y:=hy
     split at hy'
     ·cases hy'
     exact hy'
    exact if_pos ⟨k,j,hk,hj,rfl⟩
 have hmem:=z0q h hr hrw hrn hok hm
 have hda:=o0l h hr hok hargs
 have hcp:=q0r (ro:=ro) h hok hcaps
 have hda2:Fv (V.den (d.hand hd ro)) (vs++ks.map fun k=>.w (.one (.p k []))) (args.map a.eval++caps.map fun k=>Value.pointer (some ⟨d.at_ k,0,none⟩)):=by
  refine hda.append ?_
  rw [←hcp]
  exact a1z ks
 refine (hc w (d.hand hd ro) (args.map a.eval++caps.map fun k=>Value.pointer (some ⟨d.at_ k,0,none⟩)).toArray hmem hda2).mono ?_
 rintro e w' ⟨y,v,d',m',rfl,hR,hvd,a2,hs⟩
 obtain ⟨hlo,hou,hall,hk⟩:=hK v m' hR
 obtain ⟨hsim,hnm,hro⟩:=s1t h hrv hok hmv hm hs hall hou
 have hvd2:=m0o hro hnm hlo hvd
 cases dst with
 |none=>exact hn _ _ _ _ hk hsim
 |some n=>exact hn _ _ _ _ hk.2 (hsim.put hk.1 hvd2)
theorem i0p {P:Program} {B:Base} {S:St} {K:St→Prop} {dst:Option Tmp} {ty:TypeId} {pos:String} {af:Array Edge} {f:FuncId} {args:List Operand} {ts:Array TypeId} {ds:List (Option Tmp)} {r:List Oper} {vs:List V} {m:List (Nat×Ob)} {R:V→List (Nat×Ob)→Prop}
 (vw:Bool) (hd:Hand) (nm:Nat→Nat) {t:Tmp} {caps ks:List Nat} (hfn:S.get (.tmp t)=some (.w (.one (.fn f caps)))) (hcaps:c0y hd caps=some ks) (hgo: ∀ vals w,(callFunc f vals).run P w=.ok (.enter f vals) w) (hargs:Sz vw S hd args=some vs) (hok:x1x hd=true) (hm:Pv S hd m) (hc:CtM P f (vs++ks.map fun k=>.w (.one (.p k []))) m R)
 (hK: ∀ v m',R v m'→Kj vw m' v=true∧e0w vw nm hd S m m' m'∧hd.all (fun x=>(look m' x.1).isSome)=true∧(match dst with
  |some n=>n<B.nt∧Aj P B ds r ⟨(n,v.ren (Px nm hd))::S.env,Vw nm hd m' S.mem⟩ K
  |none=>Aj P B ds r ⟨S.env,Vw nm hd m' S.mem⟩ K)):
 Bw P B ⟨dst,.call ⟨.value (.tmp t),args.toArray,ts⟩,ty,pos,af,none⟩ S ds r K:=
 z1q vw hd nm hfn hcaps hgo hargs (j0v hok).1 ((j0v hok).2 S) hm hc hK
end Go.Sy
namespace Go.Sy
def d0k :Op→Bool
 | .load .. | .convert .. | .slice .. | .store .. | .call _=>true
 |_=>false
section
variable {P:Program} {S S':St}
theorem j1n {t:TypeId} {v:V} (hm: ∀ k,v.has k=true→look S'.mem k=look S.mem k):n0g P S' t v=n0g P S t v:=by
 unfold n0g
 split
 ·rename_i k path
  rw [hm k (by simp [V.has,W.has,L.has])]
 ·rfl
 rfl
theorem k1e {s t:TypeId} {v:V} (hm: ∀ k,v.has k=true→look S'.mem k=look S.mem k):k0e P S' s t v=k0e P S s t v:=by
 unfold k0e
 split<;>try rfl
 rename_i k path len sz _ _
 rw [hm k (by simp [V.has,W.has,L.has])]
theorem b1m {t:TypeId} {v:V} {a b c:Option V} (hm: ∀ k,v.has k=true→look S'.mem k=look S.mem k):i0x P S' t v a b c=i0x P S t v a b c:=by
 unfold i0x
 split<;>try rfl
 rename_i k path _
 rw [hm k (by simp [V.has,W.has,L.has])]
theorem k0y {l:L} (hm: ∀ k,l.has k=true→look S'.mem k=look S.mem k):g0t S' l=g0t S l:=by
 unfold g0t
 split<;>try rfl
 rename_i k path len sz
 rw [hm k (by simp [L.has])]
theorem o0k : ∀ {cs:List L} (hm: ∀ k,cs.any (L.has k)=true→look S'.mem k=look S.mem k),Wy S' cs=Wy S cs
 | [],_=>rfl
 |l::r,hm=>by
   simp only [Wy]
   rw [k0y (fun k h=>hm k (by simp [h])),o0k (cs:=r) (fun k h=>hm k (by simp only [vX,h,yV]))]
theorem h1t {v:V} (hm: ∀ k,v.has k=true→look S'.mem k=look S.mem k):w0r S' v=w0r S v:=by
 unfold w0r
 split
 ·rw [k0y (fun k h=>hm k h)]
 ·rw [o0k (fun k h=>hm k h)]
 rfl
theorem i0b : ∀ {l:List (Nat×Operand)} (hg: ∀ x∈l,S'.get x.2=S.get x.2),Xk S' l=Xk S l
 | [],_=>rfl
 |x::r,hg=>by
   simp only [Xk]
   rw [hg x (by simp),i0b (l:=r) fun y hy=>hg y (by simp [hy])]
theorem t0l : ∀ {l:List Operand} (hg: ∀ x∈l,S'.get x=S.get x),l0y S' l=l0y S l
 | [],_=>rfl
 |x::r,hg=>by
   simp only [l0y]
   rw [hg x (by simp),t0l (l:=r) fun y hy=>hg y (by simp [hy])]
theorem Yx : ∀ {l:List Operand} (hg: ∀ x∈l,S'.get x=S.get x) (hm: ∀ x∈l,∀ v,S.get x=some v→∀ k,v.has k=true→look S'.mem k=look S.mem k),Tj S' l=Tj S l
 | [],_,_=>rfl
 |x::r,hg,hm=>by
   simp only [Tj]
   rw [hg x (by simp),Yx (l:=r) (fun y hy=>hg y (by simp [hy])) (fun y hy=>hm y (by simp [hy]))]
   cases h:S.get x with
   |none=>rfl
   |some v=>simp only [Option.bind_some];rw [h1t (hm x (by simp) v h)]
theorem i0h {x:Option Operand} (hg: ∀ y∈x,S'.get y=S.get y):h0g S' x=h0g S x:=by
 cases x with
 |none=>rfl
 |some x=>simp only [h0g];rw [hg x rfl]
theorem a0d {x:Operand} {f g:V→Option V} (hg:S'.get x=S.get x) (hf: ∀ v,S.get x=some v→g v=f v):(S'.get x).bind g=(S.get x).bind f:=by
 rw [hg]
 cases h:S.get x with
 |none=>rfl
 |some v=>exact hf v h
theorem j1a {op:Op} (hg: ∀ x∈op.operands,S'.get x=S.get x) (hm:d0k op=true→∀ x∈op.operands,∀ v,S.get x=some v→∀ k,v.has k=true→look S'.mem k=look S.mem k):Fq P S' op=Fq P S op:=by
 unfold Fq
 split
 ·exact hg _ (by simp [Op.operands])
 ·exact hg _ (by simp [Op.operands])
 ·rw [hg _ (by simp [Op.operands]),hg _ (by simp [Op.operands]),hg _ (by simp [Op.operands])]
 ·unfold k0m
  rw [i0b fun x hx=>hg x.2 (by simp only [Op.operands];simp;exact ⟨x.1,by simpa using hx⟩)]
 ·exact a0d (hg _ (by simp [Op.operands])) fun v hv=>j1n (hm rfl _ (by simp [Op.operands]) v hv)
 ·exact a0d (hg _ (by simp [Op.operands])) fun v hv=>rfl
 ·rw [hg _ (by simp [Op.operands]),hg _ (by simp [Op.operands])]
 ·exact a0d (hg _ (by simp [Op.operands])) fun v hv=>rfl
 ·exact a0d (hg _ (by simp [Op.operands])) fun v hv=>k1e (hm rfl _ (by simp [Op.operands]) v hv)
 ·rename_i t x lo hi mx
  rw [hg x (by simp [Op.operands]),i0h (x:=lo) fun y hy=>hg y (by simp only [Option.mem_def] at hy;subst hy;simp [Op.operands]),
   i0h (x:=hi) fun y hy=>hg y (by simp only [Option.mem_def] at hy;subst hy;simp [Op.operands]),i0h (x:=mx) fun y hy=>hg y (by simp only [Option.mem_def] at hy;subst hy;simp [Op.operands])]
  split
  ·rename_i v l h m hv _ _ _
   exact b1m (hm rfl _ (by simp [Op.operands]) v hv)
  rfl
 ·exact a0d (hg _ (by simp [Op.operands])) fun v hv=>rfl
 ·exact a0d (hg _ (by simp [Op.operands])) fun v hv=>rfl
 ·rw [hg _ (by simp [Op.operands]),hg _ (by simp [Op.operands])]
 ·rw [hg _ (by simp [Op.operands]),hg _ (by simp [Op.operands])]
 ·exact a0d (hg _ (by simp [Op.operands])) fun v hv=>rfl
 ·rename_i f first caps
  rw [t0l fun x hx=>hg x (by simp [Op.operands];exact .inr (by simpa using hx))]
 ·split
  ·rename_i x t ha ht
   exact a0d (hg _ (by simp only [Op.operands,Call.operands];first|exact Array.mem_def.2 (by rw [ha];simp)|(simp;exact Array.mem_def.2 (by rw [ha];simp)))) fun v hv=>rfl
  rfl
 ·split
  ·rename_i x y ha
   rw [hg x (by simp only [Op.operands,Call.operands];first|exact Array.mem_def.2 (by rw [ha];simp)|(simp;exact Array.mem_def.2 (by rw [ha];simp))),hg y (by simp only [Op.operands,Call.operands];first|exact Array.mem_def.2 (by rw [ha];simp)|(simp;exact Array.mem_def.2 (by rw [ha];simp)))]
  rfl
 ·split
  ·rename_i x y ha
   rw [hg x (by simp only [Op.operands,Call.operands];first|exact Array.mem_def.2 (by rw [ha];simp)|(simp;exact Array.mem_def.2 (by rw [ha];simp))),hg y (by simp only [Op.operands,Call.operands];first|exact Array.mem_def.2 (by rw [ha];simp)|(simp;exact Array.mem_def.2 (by rw [ha];simp)))]
  rfl
 rfl
theorem e1s {k:Nat} {op:Op} (hg: ∀ x∈op.operands,S'.get x=S.get x):Iz P k S' op=Iz P k S op:=by
 unfold Iz
 split
 ·rfl
 ·rw [hg _ (by simp [Op.operands])]
 ·rw [i0b fun x hx=>hg x.2 (by simp only [Op.operands];simp;exact ⟨x.1,by simpa using hx⟩)]
 ·rw [hg _ (by simp [Op.operands]),hg _ (by simp [Op.operands])]
 ·rw [hg _ (by simp [Op.operands])]
 rfl
theorem x0k {e tx:TypeId} {v:V} (hm: ∀ k,v.has k=true→look S'.mem k=look S.mem k):l1j P S' e tx v=l1j P S e tx v:=by
 unfold l1j
 split<;>try rfl
 rename_i k path len sz _
 rw [hm k (by simp [V.has,W.has,L.has])]
theorem m1x {e tx:TypeId} {v:V} (hm: ∀ k,v.has k=true→look S'.mem k=look S.mem k):t1o P S' e tx v=t1o P S e tx v:=by
 unfold t1o
 split
 ·rfl
 exact x0k hm
end
end Go.Sy
namespace Go.Sy
def Fr (k:Nat) (S:St):Prop:=(∀ n v,look S.env n=some v→v.has k=false)∧(∀ n o,look S.mem n=some o→o.has k=false)∧k<px0
section
variable {P:Program} {S S':St} {k:Nat}
theorem Yy {x:Operand} {v:V} (hf:Fr k S) (h:S.get x=some v):v.has k=false:=by
 cases x with
 |tmp t=>exact hf.1 _ _ h
 |const c=>
   simp only [St.get] at h
   cases hl:lit c with
   |none=>simp [hl] at h
   |some y=>simp only [hl,yR,Option.some.injEq] at h;subst h;exact p1k hl k
 |func f=>simp only [St.get] at h;cases h;rfl
 | «global» g=>
   simp only [St.get,Option.some.injEq] at h;subst h
   have h1:=hf.2.2;have h2:=a0m
   simp only [V.has,W.has,L.has,beq_eq_false_iff_ne];omega
theorem e1r {cs:List L} (h:cs.any (L.has k)=false) (o n:Nat):(win cs o n).any (L.has k)=false:=by
 simp only [xC] at h ⊢
 intro x hx
 exact h x (List.mem_of_mem_drop (List.mem_of_mem_take hx))
theorem a1v {cs:List L} (h:cs.any (L.has k)=false): ∀ p,(rd cs p).any (L.has k)=false
 | []=>h
 |x::p=>e1r (a1v h p) _ _
theorem v0c {t:TypeId} {cs:List L} {x:W} (h:mkW P t cs=some x) (hc:cs.any (L.has k)=false):x.has k=false:=by
 unfold mkW at h
 split at h<;>try (cases h;done)
 ·cases h;exact hc
 ·cases h;exact hc
 split at h<;>cases h
 simpa [W.has] using hc
theorem x1o (hf:Fr k S) {t:TypeId} {v z:V} (h:n0g P S t v=some z):z.has k=false:=by
 unfold n0g at h
 split at h
 ·split at h<;>try (cases h;done)
  rename_i o ho
  split at h<;>try (cases h;done)
  obtain ⟨x,hx,rfl⟩:=yM.mp h
  exact v0c hx (a1v (hf.2.1 _ _ ho) _)
 ·split at h<;>try (cases h;done)
  obtain ⟨x,hx,rfl⟩:=yM.mp h
  refine v0c hx ?_
  simp only [xC,pls,xG]
  rintro y ⟨z,_,rfl⟩
  simp [L.has]
 cases h
theorem v0q {place:Nat→Option (Nat×Nat)}: ∀ {cells:List L} {ps:List (Nat×V)} {out:List L},b0f place cells ps=some out→cells.any (L.has k)=false→(∀ p∈ps,p.2.has k=false)→out.any (L.has k)=false:=
 fun h hc hp=>q0d h hc hp
theorem j0f (hf:Fr k S): ∀ {l:List (Nat×Operand)} {vs:List (Nat×V)},Xk S l=some vs→∀ p∈vs,p.2.has k=false
 | [],vs,h=>by simp only [Xk] at h;cases h;intro p hp;cases hp
 |x::r,vs,h=>by
   simp only [Xk] at h
   split at h
   ·rename_i v us hv hu
    cases h
    intro p hp
    rcases xK.mp hp with rfl|hp
    ·exact Yy hf hv
    exact j0f hf hu p hp
   cases h
theorem s1b (hf:Fr k S) {t:TypeId} {l:List (Nat×Operand)} {v:V} (h:k0m P S t l=some v):v.has k=false:=by
 unfold k0m at h
 split at h
 ·rename_i hz hp _
  split at h<;>try (cases h;done)
  obtain ⟨x,hx,rfl⟩:=yM.mp h
  exact v0q hx (Wz hz k) (j0f hf hp)
 ·rename_i hz hp _
  split at h<;>try (cases h;done)
  obtain ⟨x,hx,rfl⟩:=yM.mp h
  exact v0q hx (Wz hz k) (j0f hf hp)
 cases h
theorem h1j (hf:Fr k S): ∀ {l:List Operand} {ks:List Nat},l0y S l=some ks→(ks.any fun j=>k==j)=false
 | [],ks,h=>by simp only [l0y] at h;cases h;rfl
 |x::r,ks,h=>by
   simp only [l0y] at h
   split at h
   ·rename_i j js hj hjs
    cases h
    have:=Yy hf hj
    simp only [V.has,W.has,L.has] at this
    simp only [vX,this,h1j hf hjs,Bool.or_self]
   cases h
theorem d2v {c:Bool} {x y:V} (hx:x.has k=false) (hy:y.has k=false):(n0e c x y).has k=false:=by
 unfold n0e
 split
 ·rfl
 cases c<;>assumption
theorem f0s {x:Operand} {f:V→Option V} {v:V} (hf:Fr k S) (h:(S.get x).bind f=some v) (hg: ∀ u,u.has k=false→f u=some v→v.has k=false):v.has k=false:=by
 obtain ⟨u,hu,h⟩:=bind_some h
 exact hg u (Yy hf hu) h
theorem z1m {s t:TypeId} {u v:V} (hu:u.has k=false) (h:k0e P S s t u=some v):v.has k=false:=by
 unfold k0e at h
 split at h
 ·split at h
  ·cases h;rfl
  unfold u1v at h
  split at h
  ·split at h
   ·cases h;rfl
   cases h
  cases h
 ·split at h
  ·cases h;rfl
  cases h
 ·cases h;rfl
 ·split at h
  ·split at h
   ·obtain ⟨x,_,rfl⟩:=yM.mp h;rfl
   cases h
  cases h
 ·split at h
  ·split at h
   ·obtain ⟨x,_,rfl⟩:=yM.mp h;rfl
   cases h
  cases h
 cases h
theorem n1d {t:TypeId} {u v:V} {a b c:Option V} (hu:u.has k=false) (h:i0x P S t u a b c=some v):v.has k=false:=by
 unfold i0x at h
 split at h
 ·split at h<;>try (cases h;done)
  split at h<;>try (cases h;done)
  split at h<;>cases h
  rfl
 ·split at h<;>try (cases h;done)
  split at h<;>try (cases h;done)
  split at h<;>try (cases h;done)
  split at h<;>cases h
  exact hu
 ·split at h<;>try (cases h;done)
  split at h<;>try (cases h;done)
  split at h<;>try (cases h;done)
  split at h<;>cases h
  exact hu
 ·split at h<;>try (cases h;done)
  split at h<;>try (cases h;done)
  split at h<;>try (cases h;done)
  split at h
  ·cases h;rfl
  split at h<;>try (cases h;done)
  split at h<;>cases h
  rfl
 cases h
theorem q1y {t f:Nat} {u v:V} (hu:u.has k=false) (h:m0v P t f u=some v):v.has k=false:=by
 unfold m0v at h
 split at h<;>try (cases h;done)
 split at h<;>try (cases h;done)
 split at h<;>try (cases h;done)
 split at h<;>cases h
 ·exact hu
 rfl
theorem v0k {t:TypeId} {u i v:V} (hu:u.has k=false) (h:Vq P t u i=some v):v.has k=false:=by
 unfold Vq at h
 split at h<;>try (cases h;done)
 split at h<;>try (cases h;done)
 ·split at h<;>try (cases h;done)
  split at h<;>cases h
  ·exact hu
  rfl
 split at h<;>try (cases h;done)
 ·split at h<;>cases h
  exact hu
 split at h<;>cases h
 rfl
theorem j1e {t f:Nat} {u v:V} (hu:u.has k=false) (h:i0c P t f u=some v):v.has k=false:=by
 unfold i0c at h
 split at h<;>try (cases h;done)
 split at h<;>try (cases h;done)
 unfold y0q at h
 split at h<;>try (cases h;done)
 obtain ⟨x,hx,rfl⟩:=yM.mp h
 exact v0c hx (e1r hu _ _)
theorem q1d {t:TypeId} {u i v:V} (hu:u.has k=false) (h:m0r P t u i=some v):v.has k=false:=by
 unfold m0r at h
 split at h<;>try (cases h;done)
 split at h<;>try (cases h;done)
 ·split at h<;>try (cases h;done)
  unfold y0q at h
  split at h<;>try (cases h;done)
  obtain ⟨x,hx,rfl⟩:=yM.mp h
  exact v0c hx (e1r hu _ _)
 split at h<;>cases h
 rfl
theorem i2k {op:BinOp} {t:TypeId} {x y v:V} (h:Kv P op t x y=some v):v.has k=false:=by
 unfold Kv at h
 split at h
 ·split at h<;>first
   |(cases h;done)
   |(cases h;rfl)
   |(split at h<;>cases h;rfl)
 ·split at h<;>first
   |(cases h;done)
   |(cases h;rfl)
 ·split at h
  ·split at h
   ·obtain ⟨x,_,rfl⟩:=yM.mp h;rfl
   cases h
  ·split at h
   ·obtain ⟨x,_,rfl⟩:=yM.mp h;rfl
   cases h
  obtain ⟨x,_,rfl⟩:=yM.mp h;rfl
 ·split at h
  ·split at h
   ·obtain ⟨x,_,rfl⟩:=yM.mp h;rfl
   ·obtain ⟨x,_,rfl⟩:=yM.mp h;rfl
   cases h
  cases h
 cases h
theorem v1l {op:Op} {v:V} (hf:Fr k S) (h:Fq P S op=some v):v.has k=false:=by
 unfold Fq at h
 split at h
 ·exact Yy hf h
 ·exact Yy hf h
 ·split at h
  ·rename_i h1 h2 h3
   cases h
   exact d2v (Yy hf h2) (Yy hf h3)
  cases h
 ·exact s1b hf h
 ·exact f0s hf h fun u _ h=>x1o hf h
 ·refine f0s hf h fun u hu h=>?_
  unfold n2a at h
  split at h<;>cases h<;>exact hu
 ·split at h
  ·exact i2k h
  cases h
 ·refine f0s hf h fun u hu h=>?_
  unfold unV at h
  split at h<;>cases h<;>rfl
 ·exact f0s hf h fun u hu h=>z1m hu h
 ·split at h
  ·rename_i h1 _ _ _
   exact n1d (Yy hf h1) h
  cases h
 ·exact f0s hf h fun u hu h=>q1y hu h
 ·exact f0s hf h fun u hu h=>j1e hu h
 ·split at h
  ·rename_i h1 _
   exact v0k (Yy hf h1) h
  cases h
 ·split at h
  ·rename_i h1 _
   exact q1d (Yy hf h1) h
  cases h
 ·refine f0s hf h fun u hu h=>?_
  unfold d0q at h
  split at h
  ·rename_i xs
   obtain ⟨x,hx,rfl⟩:=yM.mp h
   simp only [V.has,xC] at hu ⊢
   simpa using hu x (wF hx)
  cases h
 ·split at h
  ·obtain ⟨ks,hk,rfl⟩:=yM.mp h
   exact h1j hf hk
  cases h
 ·split at h
  ·refine f0s hf h fun u hu h=>?_
   unfold j1o at h
   split at h<;>cases h<;>rfl
  cases h
 ·split at h
  ·split at h
   ·unfold e0z at h
    split at h<;>cases h<;>rfl
   cases h
  cases h
 ·split at h
  ·split at h
   ·unfold e0z at h
    split at h<;>cases h<;>rfl
   cases h
  cases h
 cases h
theorem t1f {j:Nat} {op:Op} {r:V×Ob} (hf:Fr k S) (hj:k≠j) (h:Iz P j S op=some r):r.1.has k=false∧r.2.has k=false:=by
 have hkj:(k==j)=false:=by simpa using hj
 unfold Iz at h
 split at h
 ·obtain ⟨cs,hc,rfl⟩:=yM.mp h
  exact ⟨by simpa [V.has,W.has,L.has] using hj,Wz hc k⟩
 ·split at h<;>cases h
  rename_i v hv
  exact ⟨by simpa [V.has,W.has,L.has] using hj,k0h (Yy hf hv)⟩
 ·split at h<;>try (cases h;done)
  split at h<;>try (cases h;done)
  rename_i hz hp
  split at h<;>try (cases h;done)
  obtain ⟨cs,hc,rfl⟩:=yM.mp h
  exact ⟨by simpa [V.has,W.has,L.has] using hj,v0q hc (any_replicate (Wz hz k) _) (j0f hf hp)⟩
 ·split at h<;>try (cases h;done)
  split at h<;>try (cases h;done)
  rename_i hz
  split at h<;>cases h
  exact ⟨by simpa [V.has,W.has,L.has] using hj,any_replicate (Wz hz k) _⟩
 ·split at h<;>try (cases h;done)
  split at h<;>cases h
  refine ⟨by simpa [V.has,W.has,L.has] using hj,?_⟩
  simp only [Ob.has,Az,xC,xG]
  rintro x ⟨y,_,rfl⟩
  simp [L.has]
 cases h
theorem m1w {e tx:TypeId} {v:V} {r:List L×Nat} (hf:Fr k S) (h:l1j P S e tx v=some r):r.1.any (L.has k)=false:=by
 unfold l1j at h
 split at h
 ·split at h<;>cases h
  exact u0q k _
 ·split at h<;>try (cases h;done)
  rename_i o ho
  split at h<;>cases h
  exact a1v (hf.2.1 _ _ ho) _
 ·split at h<;>cases h
  simp only [Az,xC,xG]
  rintro x ⟨y,_,rfl⟩
  simp [L.has]
 cases h
theorem c2v {e tx:TypeId} {v:V} {r:List L×Nat} (hf:Fr k S) (h:t1o P S e tx v=some r):r.1.any (L.has k)=false:=by
 unfold t1o at h
 split at h
 ·split at h<;>try (cases h;done)
  rename_i z hz
  split at h<;>cases h
  have:=Wz hz k
  simp only [vX,List.any_nil,yS] at this
  rw [xC]
  intro x hx
  rw [(List.mem_replicate.mp hx).2,this];simp
 exact m1w hf h
end
end Go.Sy
namespace Go.Sy
theorem Mk.take {w:World} {b o:Nat} {vals:List Value} (h:Mk w b o vals) (n:Nat):Mk w b o (vals.take n):=by
 intro j v hv
 rw [List.getElem?_take] at hv
 split at hv
 ·exact h j v hv
 cases hv
theorem u1m {P:Program} {B:Base} {d:Va} {S:St} {a:Act} {w:World} (h:Sim B d S a w) {e tx:TypeId} {x:V} {y:Value} {cs:List L} {n m:Nat} (hv:l1j P S e tx x=some (cs,n)) (hx:x.den d y) (hm:m≤n):
 ∃ vals:List Value,(Builtin.lenOf y).run P w=.ok n w∧(Builtin.firstCells (P.cellsOf e) m y).run P w=.ok (vals.take (m*P.cellsOf e)).toArray w∧Fv (L.den d) cs vals∧vals.length=n*P.cellsOf e:=by
 unfold l1j at hv
 split at hv
 ·rename_i e' ex sz rows hu
  split at hv<;>cases hv
  rename_i hc
  change PL.den _ _ _ at hx;rw [PL.den] at hx
  rcases hx with ⟨rfl,rfl⟩|⟨blk,off,cap,rfl,hlc,hcm,_,hrows⟩|⟨sa,cap,rfl,rfl,hcm,_⟩
  ·exact ⟨[],by simp [Builtin.lenOf],by simp [Builtin.firstCells],.nil,by simp⟩
  ·have hrows':PL.denRows d.ro blk (P.cellsOf e) rows off:=by
    rcases hc with rfl|rfl
    ·exact hrows
    simp [PL.denRows]
   obtain ⟨vals,hd,hcell,hl⟩:=b0m h.ro hrows'
   refine ⟨vals,by simp [Builtin.lenOf],?_,hd,hl⟩
   simp only [Builtin.firstCells]
   exact Pw (hcell.take _) (by rw [yH,hl];exact vD (vY _ hm))
  obtain rfl:m=0:=by simpa using hm
  exact ⟨[],by simp [Builtin.lenOf],by simp only [Builtin.firstCells,vW,List.take_nil];exact run_loadCells_list _ sa [] (fun j v hv=>by simp at hv),.nil,by simp⟩
 ·rename_i e' k path len sz hu
  split at hv<;>try (cases hv;done)
  rename_i o hk
  split at hv<;>cases hv
  rename_i hc
  obtain ⟨hp,hps,rfl⟩:=hc
  obtain ⟨vals,hd,hcell,hl⟩:=h.readObj hk hp
  rw [hps] at hl
  obtain ⟨oo,cap,rfl,hlc,hcm,ho,_⟩:=hx
  have hcell':Mk w (d.at_ k) oo vals:=by
   rcases ho with ho|rfl
   ·have hz:n=0:=by omega
    rw [hz,vW] at hl
    have:=xH hl
    subst this;exact fun j v hv=>by simp at hv
   exact hcell
  refine ⟨vals,by simp [Builtin.lenOf],?_,hd,hl⟩
  simp only [Builtin.firstCells]
  exact Pw (hcell'.take _) (by rw [yH,hl];exact vD (vY _ hm))
 ·rename_i bs hu
  split at hv<;>cases hv
  rename_i hc
  change PL.den _ _ _ at hx;rw [PL.den] at hx
  obtain ⟨rfl,_⟩:=hx
  have hext:((⟨bs.toArray⟩:ByteArray).extract 0 m).data.map (fun b=>Value.int .u8 b.toNat)=((bs.map fun b=>Value.int .u8 b.toNat).take (m*P.cellsOf e)).toArray:=by
   apply Array.ext';simp [ByteArray.data_extract,hc,List.map_take]
  exact ⟨bs.map fun b=>.int .u8 b.toNat,by simp [Builtin.lenOf,f0q],by simp only [Builtin.firstCells,hext,Sem.run_pure],c0z bs,by simp [hc]⟩
 cases hv
def copyV (P:Program) (S:St) (t tx:TypeId) (x y:V):Option (V×Nat×Ob):=
 match P.underlying t with
 |some (.slice e)=>match l1j P S e tx y,x with
   |some r,.w (.one (.s k path len sz))=>match look S.mem k with
     |some o=>if k<1000000∧sz=P.cellsOf e∧P.cellsOf e≠0∧pok o.cells.length path∧psz o.cells.length path=len*sz then
        some (.w (.one (.pl (.i (min r.2 len:Nat)))),k,⟨o.row,wr o.cells ((0,min r.2 len*sz)::path) (r.1.take (min r.2 len*sz))⟩)
       else none
     |none=>none
   |_,_=>none
 |_=>none
theorem u1a {α:Type} (c:List α) (o:Nat):upd c o 0 []=c:=by simp [upd]
theorem z1k {P:Program} {B:Base} {d:Va} {S:St} {a:Act} {w:World} (h:Sim B d S a w) {t tx ty:TypeId} {x y v:V} {k:Nat} {ob:Ob} {p z:Value} (hv:copyV P S t tx x y=some (v,k,ob)) (hp:x.den d p) (hz:y.den d z):
 ∃ u w',(Builtin.copy_ #[t,tx] ty #[p,z]).run P w=.ok u w'∧v.den d u∧Sim B d ⟨S.env,h0b S.mem k ob⟩ a w':=by
 unfold copyV at hv
 split at hv<;>try (cases hv;done)
 rename_i e hu
 split at hv<;>try (cases hv;done)
 rename_i r k' path len sz hsrc
 split at hv<;>try (cases hv;done)
 rename_i o hk
 split at hv<;>cases hv
 rename_i hc
 obtain ⟨hkl,hsz,h0,hpk,hps⟩:=hc
 subst hsz
 obtain ⟨cs,n⟩:=r
 obtain ⟨new,hlen,hfirst,hnd,hnl⟩:=u1m h (m:=min n len) hsrc hz (Nat.min_le_left _ _)
 obtain ⟨oo,cap,rfl,hlc,hcm,ho,_⟩:=hp
 have hsize:=Oy h0 w
 have hm:Nat.min n len=min n len:=rfl
 obtain ⟨vals,spare,tyo,fr,hh,hfr,hd,hs,hl⟩:=h.mem k o hk hkl
 have hlv:=hd.length
 have hle:=j0c hpk
 have htl:(new.take (min n len*P.cellsOf e)).length=min n len*P.cellsOf e:=by
  rw [yH,hnl];exact vD (vY _ (Nat.min_le_left _ _))
 have hpk2:pok o.cells.length ((0,min n len*P.cellsOf e)::path):=⟨hpk,by rw [hps];simp;exact vY _ (Nat.min_le_right _ _)⟩
 have hctl:(cs.take (min n len*P.cellsOf e)).length=psz o.cells.length ((0,min n len*P.cellsOf e)::path):=by
  have:=(hnd.take (min n len*P.cellsOf e)).length
  rw [htl] at this;simpa [psz] using this
 have hnum:V.den d (.w (.one (.pl (.i (min n len:Nat))))) (goInt ((min n len:Nat):Int)):=by
  show PL.den _ _ _;rw [PL.den];rfl
 have hin:Xj path+min n len*P.cellsOf e≤vals.length:=by
  have:min n len*P.cellsOf e≤len*P.cellsOf e:=vY _ (Nat.min_le_right _ _)
  omega
 have hset: ∃ w',(storeCells ⟨d.at_ k,oo,none⟩ (new.take (min n len*P.cellsOf e)) 0).run P w=.ok () w'∧Sim B d ⟨S.env,h0b S.mem k ⟨o.row,wr o.cells ((0,min n len*P.cellsOf e)::path) (cs.take (min n len*P.cellsOf e))⟩⟩ a w':=by
  rcases ho with ho|rfl
  ·have hz0:min n len=0:=by omega
   rw [hz0] at hctl hpk2 ⊢
   simp only [vW,wH,storeCells,Sem.run_pure] at hctl hpk2 ⊢
   refine ⟨w,rfl,?_⟩
   have e2:wr o.cells ((0,0)::path) []=o.cells:=by
    rw [t1u _ _ hpk2 (by simpa using hctl)]
    simp only [psz];exact u1a _ _
   rw [e2]
   have hsame: ∀ {j p},look (h0b S.mem k ⟨o.row,o.cells⟩) j=some p→look S.mem j=some p:=by
    intro j p hp
    rw [Fz] at hp
    split at hp
    ·rename_i e;subst e;rw [hk] at hp;cases hp;exact hk
    exact hp
   have hsome: ∀ j,(look (h0b S.mem k ⟨o.row,o.cells⟩) j).isSome=true→(look S.mem j).isSome=true:=by
    intro j hj
    rw [Fz] at hj
    split at hj
    ·rename_i e;subst e;rw [hk];rfl
    exact hj
   refine ⟨h.defers,h.nt,h.env,fun j p hp hjl=>?_,fun k1 k2 h1 h2=>h.inj k1 k2 (hsome _ h1) (hsome _ h2),fun k' hk'=>h.own k' (hsome _ hk'),h.ro,h.old,h.os,h.tape,h.output,h.size,h.block,h.gat,fun j p hp hjl=>h.glob j p (hsame hp) hjl,fun j p q hp=>h.fix j p q (hsame hp),h.fxn,fun b l hb=>h.mp b l (hsame hb)⟩
   exact h.mem j p (hsame hp) hjl
  have hst:=g0e P (d.at_ k) (Xj path) tyo fr (new.take (min n len*P.cellsOf e)) 0 (vals++spare).toArray w hh (by simpa using hfr) (by rw [htl];simp;omega) (Vx (hnd.take _))
  have e3:upd (vals++spare).toArray.toList (Xj path+0) (new.take (min n len*P.cellsOf e)).length (new.take (min n len*P.cellsOf e))=upd vals (Xj path) (min n len*P.cellsOf e) (new.take (min n len*P.cellsOf e))++spare:=by
   rw [htl,vB]
   show upd (vals++spare) _ _ _=_
   rw [e0l _ _ _ _ _ (by omega)]
  rw [e3] at hst
  have hul:(upd vals (Xj path) (min n len*P.cellsOf e) (new.take (min n len*P.cellsOf e))).length=vals.length:=l0b _ _ _ _ htl (by omega)
  refine ⟨_,hst,h.write hk hkl (cells:=wr o.cells ((0,min n len*P.cellsOf e)::path) (cs.take (min n len*P.cellsOf e))) (vals:=upd vals (Xj path) (min n len*P.cellsOf e) (new.take (min n len*P.cellsOf e))) (spare:=spare) (ty:=tyo) (fr:=fr) ?_ hs ?_ ?_ (setRow_heap w _ _ _ tyo fr hh) (fun b hb=>setRow_other w _ b _ hb) (setRow_size _ _ _) rfl rfl rfl⟩
  ·rw [t1u _ _ hpk2 hctl]
   have e4:Xj ((0,min n len*P.cellsOf e)::path)=Xj path:=by simp [Xj]
   rw [e4]
   exact hd.upd (hnd.take _) _ _
  ·simp only [yG,hul];simpa using hfr
  simp only [yG,hul];simpa using hl
 obtain ⟨w',hst,hsim⟩:=hset
 refine ⟨_,w',?_,hnum,hsim⟩
 unfold Builtin.copy_
 simp [run_underlying hu w,hlen,hsize,hm,hfirst,hst,Result.andThen]
end Go.Sy
namespace Go.Sy
inductive Eff where
 |val (v:V)
 |new (v:V) (ms:List (Nat×Ob))
 |app (v:V) (j:Nat) (o:Ob)
 |sto (v:V) (k:Nat) (o:Ob)
def t1i (dst:Option Tmp) (v:V) (e:List (Nat×V)):List (Nat×V):=match dst with
 |some n=>(n,v)::e
 |none=>e
def Eff.on (dst:Option Tmp):Eff→St→St
 | .val v,S=>⟨t1i dst v S.env,S.mem⟩
 | .new v ms,S=>⟨t1i dst v S.env,ms++S.mem⟩
 | .app v j o,S=>⟨t1i dst v (p0w j S.env),(j,o)::c0t j S.mem⟩
 | .sto v k o,S=>⟨t1i dst v S.env,h0b S.mem k o⟩
def Eff.names :Eff→List Nat
 | .new _ ms=>ms.map (·.1)
 |_=>[]
def Eff.mut :Eff→Bool
 | .app .. | .sto .. =>true
 |_=>false
def h0a (P:Program) (S:St) (t:TypeId) (a x:V):Option Eff:=
 match a,x with
 | .w (.one (.p k path)),.w v=>match look S.mem k with
   |some o=>if k<1000000∧pok o.cells.length path∧psz o.cells.length path=P.cellsOf t∧P.cellsOf t≠0∧v.cells.length=P.cellsOf t then some (.sto .any k ⟨o.row,wr o.cells path v.cells⟩) else none
   |none=>none
 |_,_=>none
def d0w (P:Program) (k:Nat) (S:St) (t tx:TypeId) (s x:V):Option Eff:=
 match P.underlying t with
 |some (.slice e)=>
   match Jq P e,t1o P S e tx x with
   |some z,some r=>
     if z.length=P.cellsOf e∧P.cellsOf e≠0∧P.bytesOf e≠0 then
      match s with
      | .w (.one (.s j [] len sz))=>
        match look S.mem j with
        |some o=>if (j<500000∨750000≤j∧j<1000000)∧o.row=true∧sz=P.cellsOf e∧o.cells.length=len*sz∧(len+r.2)*P.bytesOf e≤140737488355328∧(o.cells++r.1).any (L.has j)=false then
           some (.app (.w (.one (.s j [] (len+r.2) sz))) j ⟨true,o.cells++r.1⟩)
          else none
        |none=>none
      | .w (.one (.pl (.R true sz rows)))=>
        if sz=P.cellsOf e∨rows=[] then
         if r.2=0 then some (.val (.w (.one (.pl (.R true (P.cellsOf e) rows)))))
         else if (rows.length+r.2)*P.bytesOf e≤140737488355328∧r.1.any (L.has k)=false then
          some (.new (.w (.one (.s k [] (rows.length+r.2) (P.cellsOf e)))) [(k,⟨true,pls rows.flatten++r.1⟩)])
         else none
        else none
      |_=>none
     else none
   |_,_=>none
 |_=>none
def r1v (x:Option (V×Nat×Ob)):Option Eff:=x.map fun r=>.sto r.1 r.2.1 r.2.2
def Jw (P:Program) (S:St) (dst:Option Tmp) (op:Op):Option Eff:=
 match op with
 | .store t x y=>match S.get x,S.get y,dst with
   |some u,some v,none=>h0a P S t u v
   |_,_,_=>none
 | .call ⟨.builtin .append,args,ts⟩=>match args.toList,ts.toList,dst with
   | [x,y],[t,tx],some k=>match S.get x,S.get y with
     |some u,some v=>d0w P k S t tx u v
     |_,_=>none
   |_,_,_=>none
 | .call ⟨.builtin .copy,args,ts⟩=>match args.toList,ts.toList with
   | [x,y],[t,tx]=>match S.get x,S.get y with
     |some u,some v=>r1v (copyV P S t tx u v)
     |_,_=>none
   |_,_=>none
 |op=>match Fq P S op with
   |some v=>some (.val v)
   |none=>match dst with
     |some k=>(Iz P k S op).map fun r=>.new r.1 [(k,r.2)]
     |none=>none
structure Eqv (S S':St):Prop where
 env: ∀ n,look S'.env n=look S.env n
 mem: ∀ k,look S'.mem k=look S.mem k
theorem Eqv.rfl' (S:St):Eqv S S:=⟨fun _=>rfl,fun _=>rfl⟩
theorem Eqv.symm {S S':St} (h:Eqv S S'):Eqv S' S:=⟨fun n=>(h.env n).symm,fun n=>(h.mem n).symm⟩
theorem Eqv.trans {S T U:St} (h:Eqv S T) (k:Eqv T U):Eqv S U:=⟨fun n=>(k.env n).trans (h.env n),fun n=>(k.mem n).trans (h.mem n)⟩
theorem Eqv.get {S S':St} (h:Eqv S S') (x:Operand):S'.get x=S.get x:=by
 cases x<;>first|exact h.env _|rfl
theorem Sim.eqv {B:Base} {d:Va} {S S':St} {a:Act} {w:World} (hs:Sim B d S a w) (h:Eqv S S'):Sim B d S' a w:=by
 refine ⟨hs.defers,hs.nt,fun n v hv=>hs.env n v (by rw [←h.env];exact hv),fun k o hk=>hs.mem k o (by rw [←h.mem];exact hk),fun k k' h1 h2=>hs.inj k k' (by rw [←h.mem];exact h1) (by rw [←h.mem];exact h2),fun k h1=>hs.own k (by rw [←h.mem];exact h1),hs.ro,hs.old,hs.os,hs.tape,hs.output,hs.size,hs.block,hs.gat,fun k o hk=>hs.glob k o (by rw [←h.mem];exact hk),fun k o p hk=>hs.fix k o p (by rw [←h.mem];exact hk),hs.fxn,fun b l hb=>hs.mp b l (by rw [←h.mem];exact hb)⟩
section
variable {P:Program} {S S':St}
theorem t0f {dst:Option Tmp} {op:Op} (hg: ∀ x∈op.operands,S'.get x=S.get x) (hm:d0k op=true→∀ x∈op.operands,∀ v,S.get x=some v→∀ k,v.has k=true→look S'.mem k=look S.mem k):Jw P S' dst op=Jw P S dst op:=by
 unfold Jw
 split
 ·rename_i t x y
  rw [hg x (by simp [Op.operands]),hg y (by simp [Op.operands])]
  split
  ·rename_i u v hu hv
   unfold h0a
   split
   ·rename_i k path v'
    rw [hm rfl x (by simp [Op.operands]) _ hu k (by simp [V.has,W.has,L.has])]
   rfl
  rfl
 ·rename_i args ts
  split
  ·rename_i x y t tx k ha ht
   have hx:x∈(Op.call ⟨.builtin .append,args,ts⟩).operands:=by simp only [Op.operands,Call.operands];first|exact Array.mem_def.2 (by rw [ha];simp)|(simp;exact Array.mem_def.2 (by rw [ha];simp))
   have hy:y∈(Op.call ⟨.builtin .append,args,ts⟩).operands:=by simp only [Op.operands,Call.operands];first|exact Array.mem_def.2 (by rw [ha];simp)|(simp;exact Array.mem_def.2 (by rw [ha];simp))
   rw [hg x hx,hg y hy]
   split
   ·rename_i u v hu hv
    unfold d0w
    split
    ·rw [m1x (hm rfl y hy v hv)]
     split
     ·split
      ·split
       ·rename_i j _ _
        rw [hm rfl x hx _ hu j (by simp [V.has,W.has,L.has])]
       ·rfl
       rfl
      rfl
     rfl
    rfl
   rfl
  rfl
 ·rename_i args ts
  split
  ·rename_i x y t tx ha ht
   have hx:x∈(Op.call ⟨.builtin .copy,args,ts⟩).operands:=by simp only [Op.operands,Call.operands];first|exact Array.mem_def.2 (by rw [ha];simp)|(simp;exact Array.mem_def.2 (by rw [ha];simp))
   have hy:y∈(Op.call ⟨.builtin .copy,args,ts⟩).operands:=by simp only [Op.operands,Call.operands];first|exact Array.mem_def.2 (by rw [ha];simp)|(simp;exact Array.mem_def.2 (by rw [ha];simp))
   rw [hg x hx,hg y hy]
   split
   ·rename_i u v hu hv
    congr 1
    unfold copyV
    split
    ·rw [x0k (hm rfl y hy v hv)]
     split
     ·rename_i k path len sz _
      rw [hm rfl x hx _ hu k (by simp [V.has,W.has,L.has])]
     rfl
    rfl
   rfl
  rfl
 rw [j1a hg hm]
 split
 ·rfl
 split
 ·rw [e1s hg]
 rfl
def Eff.free (k:Nat):Eff→Bool
 | .val v=>!v.has k
 | .new v ms=>!v.has k&&ms.all fun m=>!m.2.has k
 | .app v j o=>!v.has k&& !o.has k&&k !=j
 | .sto v j o=>!v.has k&& !o.has k&&k !=j
theorem any_append' {k:Nat} {a b:List L} (ha:a.any (L.has k)=false) (hb:b.any (L.has k)=false):(a++b).any (L.has k)=false:=by
 rw [List.any_append,ha,hb];rfl
theorem t1c {k:Nat} {c d:List L} (hc:c.any (L.has k)=false): ∀ {p:Path} {d:List L},d.any (L.has k)=false→(wr c p d).any (L.has k)=false
 | [],d,hd=>hd
 |x::p,d,hd=>t1c (d:=d) hc (p:=p) (t1e (a1v hc p) hd _ _)
theorem z1w {k:Nat} {c:List L} (hc:c.any (L.has k)=false) (n:Nat):(c.take n).any (L.has k)=false:=by
 simp only [xC] at hc ⊢
 intro x hx
 exact hc x (List.mem_of_mem_take hx)
theorem r2f {k j len sz len' sz':Nat} {p p':Path} (h:V.has k (.w (.one (.s j p len sz)))=false):V.has k (.w (.one (.s j p' len' sz')))=false:=h
theorem y1m {k:Nat} {dst:Option Tmp} {op:Op} {e:Eff} (hf:Fr k S) (h:Jw P S dst op=some e) (hk:k∉e.names):e.free k=true:=by
 unfold Jw at h
 split at h
 ·split at h<;>try (cases h;done)
  rename_i u v hu hv
  unfold h0a at h
  split at h<;>try (cases h;done)
  split at h<;>try (cases h;done)
  rename_i o ho
  split at h<;>cases h
  have hj:=Yy hf hu
  simp only [V.has,W.has,L.has,beq_eq_false_iff_ne] at hj
  simp only [Eff.free,V.has,vC,uE,yD,yX,bne_iff_ne]
  exact ⟨t1c (d:=[]) (hf.2.1 _ _ ho) (k0h (Yy hf hv)),hj⟩
 ·split at h<;>try (cases h;done)
  split at h<;>try (cases h;done)
  rename_i u v hu hv
  unfold d0w at h
  split at h<;>try (cases h;done)
  split at h<;>try (cases h;done)
  rename_i z r hz hr
  have hn:=c2v hf hr
  split at h<;>try (cases h;done)
  split at h
  ·split at h<;>try (cases h;done)
   rename_i o ho
   split at h<;>cases h
   have hj:=Yy hf hu
   have hj':=hj
   simp only [V.has,W.has,L.has,beq_eq_false_iff_ne] at hj'
   simp only [Eff.free,r2f hj,vC,uE,yD,yX,bne_iff_ne]
   exact ⟨any_append' (hf.2.1 _ _ ho) hn,hj'⟩
  ·split at h<;>try (cases h;done)
   split at h
   ·cases h;rfl
   split at h<;>cases h
   simp only [Eff.names,yL,vO,List.mem_singleton] at hk
   simp only [Eff.free,V.has,W.has,L.has,wR,List.all_nil,Bool.and_true,yD,yX,beq_eq_false_iff_ne]
   exact ⟨hk,any_append' (u0q k _) hn⟩
  cases h
 ·split at h<;>try (cases h;done)
  split at h<;>try (cases h;done)
  rename_i u v hu hv
  unfold r1v at h
  obtain ⟨r,hr,rfl⟩:=yM.mp h
  unfold copyV at hr
  split at hr<;>try (cases hr;done)
  split at hr<;>try (cases hr;done)
  rename_i r' _ _ _ _ hs
  split at hr<;>try (cases hr;done)
  rename_i o ho
  split at hr<;>cases hr
  have hj:=Yy hf hu
  simp only [V.has,W.has,L.has,beq_eq_false_iff_ne] at hj
  simp only [Eff.free,V.has,W.has,L.has,vC,uE,yD,yX,bne_iff_ne]
  exact ⟨t1c (d:=[]) (hf.2.1 _ _ ho) (z1w (m1w hf hs) _),hj⟩
 split at h
 ·rename_i v hv
  cases h
  simp only [Eff.free,yX]
  exact v1l hf hv
 split at h<;>try (cases h;done)
 obtain ⟨r,hr,rfl⟩:=yM.mp h
 simp only [Eff.names,yL,vO,List.mem_singleton] at hk
 have:=t1f hf hk hr
 simp only [Eff.free,this.1,this.2,wR,List.all_nil,vC,Bool.and_self]
end
end Go.Sy
namespace Go.Sy
def dedup {α:Type}:List (Nat×α)→List (Nat×α)
 | []=>[]
 |x::r=>x::(dedup r).filter fun y=>y.1 !=x.1
theorem i0e {α:Type} {a:Nat}: ∀ {l:List (Nat×α)} {n:Nat},look (l.filter fun y=>y.1 !=a) n=if n=a then none else look l n
 | [],n=>by simp [look]
 |x::r,n=>by
   rw [List.filter_cons]
   by_cases h:x.1=a
   ·rw [if_neg (by simp [h]),i0e]
    by_cases hn:n=a
    ·rw [if_pos hn,if_pos hn]
    rw [if_neg hn,if_neg hn];simp only [look];rw [if_neg (fun e=>hn (e.trans h))]
   rw [if_pos (by simp [h])]
   simp only [look]
   by_cases hn:n=x.1
   ·rw [if_pos hn,if_neg (fun e=>h (hn.symm.trans e)),if_pos hn]
   rw [if_neg hn,i0e,if_neg hn]
theorem l0o {α:Type}: ∀ {l:List (Nat×α)} {n:Nat},look (dedup l) n=look l n
 | [],n=>rfl
 |x::r,n=>by
   simp only [dedup,look]
   by_cases h:n=x.1
   ·rw [if_pos h,if_pos h]
   rw [if_neg h,if_neg h,i0e,if_neg h,l0o]
theorem p0m {α:Type}: ∀ {l:List (Nat×α)} {y:Nat×α},y∈dedup l→look l y.1=some y.2
 | [],y,h=>by cases h
 |x::r,y,h=>by
   simp only [dedup,xK,List.mem_filter,bne_iff_ne] at h
   simp only [look]
   rcases h with rfl|⟨h,hne⟩
   ·rw [if_pos rfl]
   rw [if_neg hne];exact p0m h
theorem q1i {k:Nat}: ∀ {l:List (Nat×V)},(∀ x∈l,x.2.has k=false)→b1f k l=false
 | [],_=>rfl
 |x::r,h=>by rw [b1f,h x (by simp),q1i (l:=r) fun y hy=>h y (by simp [hy])];rfl
theorem q1h {k:Nat}: ∀ {l:List (Nat×Ob)},(∀ x∈l,x.2.has k=false)→z0p k l=false
 | [],_=>rfl
 |x::r,h=>by rw [z0p,h x (by simp),q1h (l:=r) fun y hy=>h y (by simp [hy])];rfl
def St.norm (S:St):St:=⟨dedup S.env,dedup S.mem⟩
theorem j0i (S:St):Eqv S S.norm:=⟨fun _=>l0o,fun _=>l0o⟩
theorem c0m {S:St} {k:Nat} (h:Fr k S):fresh k S.norm=true:=by
 simp only [fresh,St.norm,q1i (fun x hx=>h.1 _ _ (p0m hx)),q1h (fun x hx=>h.2.1 _ _ (p0m hx)),Bool.or_self,vC,Bool.and_true]
 exact decide_eq_true h.2.2
theorem c0q {dst:Option Tmp} {v:V} {e:List (Nat×V)} {n:Nat} (h:dst≠some n):look (t1i dst v e) n=look e n:=by
 cases dst with
 |none=>rfl
 |some m=>simp only [t1i,look];rw [if_neg (fun e=>h (by rw [e]))]
theorem b0v {v:V} {e:List (Nat×V)} {n:Nat}:look (t1i (some n) v e) n=some v:=by simp [t1i,look]
theorem Dj {α:Type} {a b:List (Nat×α)} {n:Nat}:look (a++b) n=(look a n).or (look b n):=by
 induction a with
 |nil=>simp [look]
 |cons x r ih=>
   simp only [yB,look]
   split
   ·simp
   exact ih
theorem Pz {α:Type} {l:List (Nat×α)} {n:Nat} (h:n∉l.map (·.1)):look l n=none:=by
 induction l with
 |nil=>rfl
 |cons x r ih=>
   simp only [yL,xK,not_or] at h
   simp only [look,if_neg h.1,ih h.2]
theorem s0w {S S':St} (h:Eqv S S') (e:Eff) (dst:Option Tmp):Eqv (e.on dst S) (e.on dst S'):=by
 have he: ∀ {a b:List (Nat×V)} (v:V),(∀ n,look b n=look a n)→∀ n,look (t1i dst v b) n=look (t1i dst v a) n:=by
  intro a b v hab n
  by_cases hd:dst=some n
  ·subst hd;rw [b0v,b0v]
  rw [c0q hd,c0q hd,hab]
 cases e with
 |val v=>exact ⟨he v h.env,h.mem⟩
 |new v ms=>exact ⟨he v h.env,fun k=>by simp only [Eff.on];rw [Dj,Dj,h.mem]⟩
 |app v j o=>
   refine ⟨he v fun n=>by rw [c0n,c0n,h.env],fun k=>?_⟩
   simp only [Eff.on,look]
   rw [Iq,Iq,h.mem]
 |sto v k o=>exact ⟨he v h.env,fun n=>by simp only [Eff.on];rw [Fz,Fz,h.mem,h.mem]⟩
section
variable {P:Program} {S:St}
theorem u1h {t:TypeId} {u v:V} {e:Eff} (h:h0a P S t u v=some e):m0f P S t u v=some (e.on none S):=by
 unfold h0a at h
 unfold m0f
 split at h<;>try (cases h;done)
 rename_i k path v
 simp only
 split at h<;>try (cases h;done)
 rename_i o ho
 simp only [ho]
 split at h<;>cases h
 rename_i hc
 rw [if_pos hc];rfl
theorem t1a {k:Nat} {t tx:TypeId} {u v:V} {e:Eff} (h:d0w P k S t tx u v=some e) (hf: ∀ j∈e.names,fresh j S=true): ∃ z S',d0v P k S t tx u v=some (z,S')∧e.on (some k) S=⟨(k,z)::S'.env,S'.mem⟩:=by
 unfold d0w at h
 unfold d0v
 split at h<;>try (cases h;done)
 rename_i e' he
 simp only [he]
 split at h<;>try (cases h;done)
 rename_i z r hz hr
 simp only [hz,hr]
 split at h<;>try (cases h;done)
 rename_i hc
 rw [if_pos hc]
 split at h
 ·split at h<;>try (cases h;done)
  rename_i o ho
  simp only [ho]
  split at h<;>cases h
  rename_i hc2
  rw [if_pos hc2]
  exact ⟨_,_,rfl,rfl⟩
 ·split at h<;>try (cases h;done)
  rename_i hc2
  simp only
  rw [if_pos hc2]
  split at h
  ·rename_i h0
   cases h
   rw [if_pos h0]
   exact ⟨_,_,rfl,rfl⟩
  rename_i h0
  split at h<;>cases h
  rename_i hc3
  rw [if_neg h0,if_pos ⟨hf k (by simp [Eff.names]),hc3.1,hc3.2⟩]
  exact ⟨_,_,rfl,rfl⟩
 cases h
def Ran (P:Program) (B:Base) (o:Oper) (a:Act) (w:World) (S':St):Prop:=
 (∃ y w' d',(execOp a.eval o).run P w=.ok (.value y) w'∧Sim B d' S' (a.put o.dst y) w')∨
 (∃ w' d',(execOp a.eval o).run P w=.ok .skip w'∧o.dst=none∧Sim B d' S' a w')
theorem Sim.putE {B:Base} {d:Va} {a:Act} {w:World} (h:Sim B d S a w) {dst:Option Tmp} {v:V} {y:Value} (hd:v.den d y) (hn: ∀ n,dst=some n→n<B.nt):Sim B d ⟨t1i dst v S.env,S.mem⟩ (a.put dst y) w:=by
 cases dst with
 |none=>exact h
 |some n=>exact h.put (hn n rfl) hd
theorem j1x {B:Base} {d:Va} {a:Act} {w:World} (h:Sim B d S a w) {o:Oper} {e:Eff} (hev:Jw P S o.dst o.op=some e) (hf: ∀ k∈e.names,fresh k S=true) (hn: ∀ n,o.dst=some n→n<B.nt):Ran P B o a w (e.on o.dst S):=by
 unfold Jw at hev
 split at hev
 ·rename_i t x y ho
  split at hev<;>try (cases hev;done)
  rename_i u v hu hv hdst
  rw [hdst]
  obtain ⟨w',hr,hs⟩:=x0j h (u1h hev) (h.get hu) (h.get hv)
  refine .inr ⟨w',d,?_,hdst,hs⟩
  unfold execOp
  rw [ho]
  simp [hr]
 ·rename_i args ts ho
  split at hev<;>try (cases hev;done)
  rename_i x y t tx k ha ht hdst
  split at hev<;>try (cases hev;done)
  rename_i u v hu hv
  have ea:args= #[x,y]:=by rw [←vG,ha]
  have et:ts= #[t,tx]:=by rw [←vG,ht]
  subst ea;subst et
  rw [hdst]
  obtain ⟨z,S',hz,hS⟩:=t1a hev hf
  obtain ⟨r,w',d',hrun,hd,hs⟩:=t0p (ty:=o.type) h hz (h.get hu) (h.get hv)
  rw [hS]
  refine .inl ⟨r,w',d',?_,by rw [hdst];exact hs.put (hn k hdst) hd⟩
  unfold execOp
  rw [ho]
  simp [resolve,invoke,builtin,hrun]
 ·rename_i args ts ho
  split at hev<;>try (cases hev;done)
  rename_i x y t tx ha ht
  split at hev<;>try (cases hev;done)
  rename_i u v hu hv
  have ea:args= #[x,y]:=by rw [←vG,ha]
  have et:ts= #[t,tx]:=by rw [←vG,ht]
  subst ea;subst et
  unfold r1v at hev
  obtain ⟨⟨r1,k,ob⟩,hr,rfl⟩:=yM.mp hev
  obtain ⟨z,w',hrun,hd,hs⟩:=z1k (ty:=o.type) h hr (h.get hu) (h.get hv)
  refine .inl ⟨z,w',d,?_,Sim.putE hs hd hn⟩
  unfold execOp
  rw [ho]
  simp [resolve,invoke,builtin,hrun]
 split at hev
 ·rename_i v hp
  cases hev
  obtain ⟨y,hrun,hd⟩:=u0n h (o:=o) hp
  exact .inl ⟨y,w,d,hrun,Sim.putE h hd hn⟩
 split at hev<;>try (cases hev;done)
 rename_i k hdst
 obtain ⟨r,hr,rfl⟩:=yM.mp hev
 obtain ⟨y,w',d',hrun,hd,hs⟩:=a1w h (hf k (by simp [Eff.names])) (v:=r.1) (ob:=r.2) (o:=o) hr
 refine .inl ⟨y,w',d',hrun,?_⟩
 rw [hdst]
 exact hs.put (hn k hdst) hd
theorem r1d {B:Base} {d:Va} {a:Act} {w:World} (h:Sim B d S a w) {o:Oper} {e:Eff} (hev:Jw P S o.dst o.op=some e) (hf: ∀ k∈e.names,Fr k S) (hn: ∀ n,o.dst=some n→n<B.nt):Ran P B o a w (e.on o.dst S):=by
 have hq:=j0i S
 have hev':Jw P S.norm o.dst o.op=some e:=by
  rw [t0f (S:=S) (fun x _=>hq.get x) (fun _ _ _ _ _ k _=>hq.mem k)];exact hev
 have hback:=s0w hq.symm e o.dst
 rcases j1x (h.eqv hq) hev' (fun k hk=>c0m (hf k hk)) hn with ⟨y,w',d',hr,hs⟩|⟨w',d',hr,hd,hs⟩
 ·exact .inl ⟨y,w',d',hr,hs.eqv hback⟩
 exact .inr ⟨w',d',hr,hd,hs.eqv hback⟩
end
end Go.Sy
namespace Go.Sy
def n0j (S:St):List L→Option (List PL)
 | []=>some []
 |l::r=>match Uv true S [] l,n0j S r with
   |some (.pl x),some xs=>some (x::xs)
   |_,_=>none
def a1e (S:St) (l:L):Option L:=match Uv true S [] l with
 |some x=>some x
 |none=>match l with
   | .s j path len sz=>if j<1000000 then match look S.mem j with
      |some o=>if pok o.cells.length path∧psz o.cells.length path=len*sz then (n0j S (rd o.cells path)).map fun c=>.pl (.R false sz (chunks sz len c)) else none
      |none=>none
     else none
   |_=>none
def k0d (S:St):List L→Option (List L)
 | []=>some []
 |l::r=>match a1e S l,k0d S r with
   |some x,some xs=>some (x::xs)
   |_,_=>none
def a1c (S:St):V→Option V
 | .w (.one l)=>(a1e S l).map fun x=>.w (.one x)
 | .w (.agg cs)=>(k0d S cs).map fun x=>.w (.agg x)
 |_=>none
def a0f (S:St):List Operand→Option (List V)
 | []=>some []
 |x::r=>match (S.get x).bind (a1c S),a0f S r with
   |some v,some vs=>some (v::vs)
   |_,_=>none
section
variable {B:Base} {d:Va} {S:St} {a:Act} {w:World} {ro:Ro}
theorem h1f (h:Sim B d S a w) (hr:RoOk S [] d w true ro): ∀ {cs:List L} {c:List PL} {vs:List Value},n0j S cs=some c→Fv (L.den d) cs vs→Fv (L.den (d.hand [] ro)) (pls c) vs
 | [],c,vs,hv,hd=>by cases hd;simp only [n0j] at hv;cases hv;exact .nil
 |l::r,c,vs,hv,hd=>by
   cases hd with
   |cons h1 h2=>
     simp only [n0j] at hv
     split at hv<;>cases hv
     rename_i x xs e1 e2
     exact .cons (j0n h hr rfl e1 h1) (h1f h hr e2 h2)
theorem m0z : ∀ {cs:List L} {c:List PL},n0j S cs=some c→c.length=cs.length
 | [],c,hv=>by simp only [n0j] at hv;cases hv;rfl
 |l::r,c,hv=>by
   simp only [n0j] at hv
   split at hv<;>cases hv
   rename_i x xs e1 e2
   simp only [xD,m0z e2]
theorem h1e (h:Sim B d S a w) (hr:RoOk S [] d w true ro) {l x:L} {y:Value} (hx:a1e S l=some x) (hd:l.den d y):x.den (d.hand [] ro) y:=by
 unfold a1e at hx
 split at hx
 ·rename_i z hz;cases hx;exact j0n h hr rfl hz hd
 split at hx<;>try (cases hx;done)
 rename_i j path len sz _
 split at hx<;>try (cases hx;done)
 rename_i hj
 split at hx<;>try (cases hx;done)
 rename_i o hk
 split at hx<;>try (cases hx;done)
 rename_i hc
 obtain ⟨hp,hps⟩:=hc
 obtain ⟨c,hu,rfl⟩:=yM.mp hx
 obtain ⟨vals,hvd,hcell,hl⟩:=h.readObj hk hp
 have hcl:=c0r o.cells hp
 rw [hps,←m0z hu] at hcl
 have hvd2:=h1f h hr hu hvd
 have hn:Uy [] j=none:=by simp only [Uy];rw [if_neg (Nat.not_le_of_lt hj)]
 obtain ⟨oo,cap,rfl,hlc,hcm,ho,_⟩:=hd
 show PL.den _ _ _
 rw [PL.den]
 right;left
 refine ⟨d.at_ j,oo,cap,by rw [Mj],by rw [Mj];exact hlc,hcm,fun e=>(by cases e),?_⟩
 refine Uj ?_ hcl
 rcases ho with ho|rfl
 ·have hlen:len=0:=by omega
  rw [hlen,vW] at hcl
  have:=xH hcl
  subst this;rw [PL.denAt];trivial
 exact a0a (d:=d.hand [] ro) (fun b o y hy=>hy) (hr.view rfl j (by rw [hk];rfl) hj hn) hvd2 hcell
theorem a1d (h:Sim B d S a w) (hr:RoOk S [] d w true ro): ∀ {cs xs:List L} {vs:List Value},k0d S cs=some xs→Fv (L.den d) cs vs→Fv (L.den (d.hand [] ro)) xs vs
 | [],xs,vs,hv,hd=>by cases hd;simp only [k0d] at hv;cases hv;exact .nil
 |l::r,xs,vs,hv,hd=>by
   cases hd with
   |cons h1 h2=>
     simp only [k0d] at hv
     split at hv<;>cases hv
     rename_i e1 e2
     exact .cons (h1e h hr e1 h1) (a1d h hr e2 h2)
theorem z1f (h:Sim B d S a w) (hr:RoOk S [] d w true ro) {v x:V} {y:Value} (hv:a1c S v=some x) (hd:v.den d y):x.den (d.hand [] ro) y:=by
 unfold a1c at hv
 split at hv<;>try (cases hv;done)
 ·obtain ⟨z,hz,rfl⟩:=yM.mp hv
  exact h1e h hr hz hd
 obtain ⟨z,hz,rfl⟩:=yM.mp hv
 obtain ⟨vs,rfl,hall⟩:=hd
 exact ⟨vs,rfl,a1d h hr hz hall⟩
theorem t0i (h:Sim B d S a w) (hr:RoOk S [] d w true ro): ∀ {xs:List Operand} {vs:List V},a0f S xs=some vs→Fv (V.den (d.hand [] ro)) vs (xs.map a.eval)
 | [],vs,hv=>by simp only [a0f] at hv;cases hv;exact .nil
 |x::r,vs,hv=>by
   simp only [a0f] at hv
   split at hv<;>cases hv
   rename_i v us e1 e2
   obtain ⟨u,hu,hv⟩:=bind_some e1
   exact .cons (z1f h hr hv (h.get hu)) (t0i h hr e2)
end
theorem k0k {P:Program} {B:Base} {S:St} {K:St→Prop} {dst:Option Tmp} {ty:TypeId} {pos:String} {af:Array Edge} {f:FuncId} {args:List Operand} {ts:Array TypeId} {ds:List (Option Tmp)} {r:List Oper} {vs:List V} {m:List (Nat×Ob)} {R:V→List (Nat×Ob)→Prop}
 (nm:Nat→Nat) (hgo: ∀ vals w,(callFunc f vals).run P w=.ok (.enter f vals) w) (hargs:a0f S args=some vs) (hm:Pv S [] m) (hc:CtM P f vs m R)
 (hK: ∀ v m',R v m'→Kj true m' v=true∧e0w true nm [] S m m' m'∧(match dst with
  |some n=>n<B.nt∧Aj P B ds r ⟨(n,v.ren (Px nm []))::S.env,Vw nm [] m' S.mem⟩ K
  |none=>Aj P B ds r ⟨S.env,Vw nm [] m' S.mem⟩ K)):
 Bw P B ⟨dst,.call ⟨.value (.func f),args.toArray,ts⟩,ty,pos,af,none⟩ S ds r K:=
 t0m true [] nm hgo (fun h hr=>t0i h hr hargs) rfl rfl hm hc fun v m' hR=>⟨(hK v m' hR).1,(hK v m' hR).2.1,rfl,(hK v m' hR).2.2⟩
end Go.Sy
namespace Go.Sy
theorem c1b {hd:Hand} {nm:Nat→Nat} {j k:Nat} (hok:Vz hd=true) (h:Uy hd j=some k):Px nm hd k=j:=by
 rcases g0i hok h with ⟨h1,h2,h3⟩|⟨h1,rfl⟩
 ·have hp:=(Fx hok h1).1
  simp only [Px,if_neg (xX hp),nameOut,h1]
 have hno:look hd k=none:=by
  cases hl:look hd k with
  |none=>rfl
  |some j'=>exact absurd (Fx hok hl).2.1 (xX h1)
 have hp:¬k<500000:=xX (xR (wQ a0m) h1)
 simp only [Px,if_neg hp,nameOut,hno]
theorem q0s {hd:Hand} {nm:Nat→Nat} (hok:Vz hd=true): ∀ {caps ks:List Nat},c0y hd caps=some ks→ks.map (Px nm hd)=caps
 | [],ks,h=>by simp only [c0y] at h;cases h;rfl
 |c::r,ks,h=>by
   simp only [c0y] at h
   split at h<;>cases h
   rename_i j js h1 h2
   rw [yL,q0s hok h2,c1b hok h1]
theorem c1l {S:St} {hd:Hand} {nm:Nat→Nat} (hok:Vz hd=true) {l x:L} (h:Uv false S hd l=some x):x.ren (Px nm hd)=l:=by
 cases l with
 |pl p=>simp only [Uv] at h;cases h;rfl
 |p j path=>
   obtain ⟨k,hk,rfl⟩:=yM.mp h
   simp only [L.ren,c1b hok hk]
 |s j path len sz=>
   simp only [Uv] at h
   split at h<;>try (cases h;done)
   split at h
   ·rename_i k hk
    cases h
    simp only [L.ren,c1b hok hk]
   rw [if_neg (by decide)] at h;cases h
 |fn f caps=>
   obtain ⟨ks,hk,rfl⟩:=yM.mp h
   simp only [L.ren,q0s hok hk]
theorem j0m {S:St} {hd:Hand} {nm:Nat→Nat} (hok:Vz hd=true): ∀ {cs xs:List L},Dq false S hd cs=some xs→xs.map (L.ren (Px nm hd))=cs
 | [],xs,h=>by simp only [Dq] at h;cases h;rfl
 |c::r,xs,h=>by
   simp only [Dq] at h
   split at h<;>cases h
   rename_i y ys h1 h2
   rw [yL,c1l hok h1,j0m hok h2]
theorem a1t {nm:Nat→Nat} {hd:Hand} {j:Nat}: ∀ {m M:List (Nat×Ob)},(look M j).isSome=true→(look (Vw nm hd m M) j).isSome=true
 | [],M,h=>h
 |x::r,M,h=>by
   have ih:=a1t (nm:=nm) (hd:=hd) (m:=r) h
   simp only [Vw]
   split
   ·simp only [look];split
    ·rfl
    exact ih
   split
   ·rw [Fz];split
    ·rename_i e;subst e
     obtain ⟨o,ho⟩:=xP.mp ih
     rw [ho];rfl
    exact ih
   exact ih
theorem k0p {S:St} {hd:Hand} {nm:Nat→Nat} {vw:Bool} {m mr:List (Nat×Ob)} (hok:Vz hd=true) (hm:Pv S hd m) (ho:e0w vw nm hd S m mr m) (hp:m.all (fun x=>decide (500000≤x.1))=true) (j:Nat):look (Vw nm hd m S.mem) j=look S.mem j:=by
 cases hl:look (Vw nm hd m S.mem) j with
 |none=>
   cases hs:look S.mem j with
   |none=>rfl
   |some o=>
     have:=a1t (nm:=nm) (hd:=hd) (m:=m) (M:=S.mem) (j:=j) (by rw [hs];rfl)
     rw [hl] at this;cases this
 |some o2=>
   rcases c0p ho hl with ⟨k,o',h1,h2,h3,h4⟩|⟨h1,_⟩
   ·obtain ⟨j',u,g1,g2,g3,g4⟩:=(Qq hm h1).1 h2
    have hk:500000≤k:=by
     have:=yJ.mp hp (k,o') (Qk h1)
     simpa using this
    have hj:Px nm hd k=j':=by simp only [Px,if_neg (xX hk),nameOut,g1]
    rw [hj] at h3;subst h3
    rw [g2,h4]
    congr 1
    have hb:=j0m (nm:=nm) hok g3
    obtain ⟨row,cells⟩:=u
    obtain ⟨row',cells'⟩:=o'
    simp only [Ob.ren] at hb g4 ⊢
    rw [hb];simp only [g4]
   exact h1.symm
theorem m0p {S S':St} {hd:Hand} (l:L):Uv false S' hd l=Uv false S hd l:=by
 cases l with
 |s j path len sz=>
   simp only [Uv]
   split
   ·split
    ·rfl
    rw [if_neg (by decide),if_neg (by decide)]
   rfl
 |_=>rfl
theorem b0w {S S':St} {hd:Hand}: ∀ cs:List L,Dq false S' hd cs=Dq false S hd cs
 | []=>rfl
 |c::r=>by simp only [Dq];rw [m0p (S:=S) (S':=S'),b0w r]
theorem b1i {S S':St} {hd:Hand} (v:V):n0c false S' hd v=n0c false S hd v:=by
 cases v with
 |w x=>
   cases x with
   |one l=>simp only [n0c];rw [m0p (S:=S)]
   |agg cs=>simp only [n0c];rw [b0w (S:=S)]
 |tup xs=>rfl
 |any=>rfl
theorem e0j {S S':St} {hd:Hand}: ∀ {l:List Operand},(∀ x∈l,S'.get x=S.get x)→Sz false S' hd l=Sz false S hd l
 | [],_=>rfl
 |x::r,hg=>by
   simp only [Sz]
   rw [hg x (by simp),e0j (S:=S) (l:=r) fun y hy=>hg y (by simp [hy])]
   cases S.get x with
   |none=>rfl
   |some v=>simp only [Option.bind_some];rw [b1i (S:=S)]
theorem f0i {S S':St} {hd:Hand}: ∀ {m:List (Nat×Ob)},(∀ x∈m,x.1<1000000)→(∀ k j,look hd k=some j→look S'.mem j=look S.mem j)→Pv S hd m→Pv S' hd m
 | [],_,_,_=>trivial
 |x::r,hl,hj,h=>by
   obtain ⟨h1,h2⟩:=h
   refine ⟨?_,f0i (fun y hy=>hl y (by simp [hy])) hj h2⟩
   rw [if_pos (hl x (by simp))] at h1 ⊢
   cases hk:look hd x.1 with
   |none=>rw [hk] at h1;exact h1
   |some j=>
     rw [hk] at h1
     simp only at h1 ⊢
     rw [hj _ _ hk]
     cases ho:look S.mem j with
     |none=>rw [ho] at h1;exact h1
     |some o=>
       rw [ho] at h1
       simp only at h1 ⊢
       rw [b0w (S:=S)];exact h1
end Go.Sy
namespace Go.Sy
def Mw (M:List (Nat×Ob)):Bool:=M.all fun x=>x.2.cells.all Ry&&decide (x.1<500000)
def Rj (nm:Nat→Nat) (M:List (Nat×Ob)):List (Nat×Ob):=M.map fun x=>(nm x.1,x.2)
def a0e (S:St):List Nat→Option (List V)
 | []=>some []
 |k::r=>match look S.mem k,a0e S r with
   |some o,some vs=>if k<1000000 then (f1j o.cells).map fun c=>.w (.one (.pl (.q c [])))::vs else none
   |_,_=>none
theorem f1d {B:Base} {d:Va} {S:St} {a:Act} {w:World} (h:Sim B d S a w): ∀ {ks:List Nat} {vs:List V},a0e S ks=some vs→Fv (V.den (d.all w)) vs (ks.map fun k=>Value.pointer (some ⟨d.at_ k,0,none⟩))
 | [],vs,hv=>by simp only [a0e] at hv;cases hv;exact .nil
 |k::r,vs,hv=>by
   simp only [a0e] at hv
   split at hv<;>try (cases hv;done)
   rename_i o vs' hk hr
   split at hv<;>try (cases hv;done)
   cases hu:f1j o.cells with
   |none=>simp [hu] at hv
   |some c=>
     simp only [hu,yR,Option.some.injEq] at hv;subst hv
     refine .cons ?_ (f1d h hr)
     show PL.den _ _ _
     rw [PL.den]
     obtain ⟨vals,hvd,hcell,hl⟩:=h.readObj (path:=[]) hk trivial
     simp only [rd,Xj] at hvd hcell
     rw [o0n hu] at hvd
     exact ⟨d.at_ k,0,by simp [Xj],i0n h.ro hvd hcell⟩
theorem k0z {S S':St}: ∀ {ks:List Nat},(∀ k∈ks,look S'.mem k=look S.mem k)→a0e S' ks=a0e S ks
 | [],_=>rfl
 |k::r,h=>by simp only [a0e,h k (by simp),k0z (ks:=r) fun j hj=>h j (by simp [hj])]
theorem Qj {P:Program} {B:Base} {S:St} {K:St→Prop} {dst:Option Tmp} {ty:TypeId} {pos:String} {af:Array Edge} {f:FuncId} {args:List Operand} {ts:Array TypeId} {ds:List (Option Tmp)} {r:List Oper} {vs cs:List V} {R:V→List (Nat×Ob)→Prop} {t:Tmp} {caps:List Nat} {g:Option (Nat×Bool)}
 (nm:Nat→Nat) (hfn:S.get (.tmp t)=some (.w (.one (.fn f caps)))) (hcs:a0e S caps=some cs) (hgo: ∀ vals w,(callFunc f vals).run P w=.ok (.enter f vals) w) (hargs:Tj S args=some vs) (hc:Ct P f (vs++cs) R)
 (hK: ∀ v m,R v m→e0p m v=true∧b0e nm S.env m S.mem=true∧(match dst with
  |some n=>n<B.nt∧Aj P B ds r ⟨(n,v.ren nm)::S.env,adopt nm m S.mem⟩ K
  |none=>Aj P B ds r ⟨S.env,adopt nm m S.mem⟩ K)):
 Bw P B ⟨dst,.call ⟨.value (.tmp t),args.toArray,ts⟩,ty,pos,af,g⟩ S ds r K:=by
 intro d a w h next Q hn
 have hrun:(execOp a.eval ⟨dst,.call ⟨.value (.tmp t),args.toArray,ts⟩,ty,pos,af,g⟩).run P w=.ok (.enter f (args.map a.eval++caps.map fun k=>Value.pointer (some ⟨d.at_ k,0,none⟩)).toArray) w:=by
  have hv':a.eval (.tmp t)=.func (.func f) #[] (caps.map fun k=>Value.pointer (some ⟨d.at_ k,0,none⟩)).toArray:=h.get hfn
  simp [execOp,resolve,Deferred.ofValue,hv',invoke,hgo]
 unfold Oper.wp
 rw [hrun,Oper.upon_enter]
 have hda:=(i0t h hargs).append (f1d h hcs)
 refine (hc w (d.all w) (args.map a.eval++caps.map fun k=>Value.pointer (some ⟨d.at_ k,0,none⟩)).toArray (fun b o y hy=>hy) h.gat hda).mono ?_
 rintro e w' ⟨y,v,d',m',rfl,hR,hvd,a2,hmem⟩
 obtain ⟨hok,had,hk⟩:=hK v m' hR
 have hst:=h.stay (w':=w') (fun b hb=>hmem.block b hb (fun x=>x)) hmem.size hmem.os hmem.tape hmem.output
 obtain ⟨d2,hs2,hk2,_,hro2⟩:=w0g (e:=S.env) (m0:=S.mem) (f:=nm) (w:=w) hmem rfl (fun b hb=>hb) h.size hmem.size m' (fun k o hk=>hk) d hst (fun b o y hy=>f0p (h.ro b o y hy)) (fun j hj hl=>h.mem_lt hj hl) had
 have hvd2:=s0p (f:=nm) hk2 hok hvd
 cases dst with
 |none=>exact hn _ _ _ _ hk hs2
 |some n=>exact hn _ _ _ _ hk.2 (hs2.put hk.1 hvd2)
def Now (P:Program) (f:FuncId) (vs:List V) (X:V):Prop:=
 (∀ k,X.has k=false)∧∀ (w:World) (d:Va) (vals:Array Value),Fv (V.den d) vs vals.toList→∃ y,(callFunc f vals).run P w=.ok (.value y) w∧∀ d',X.den d' y
theorem n1m {P:Program} {B:Base} {d:Va} {S:St} {a:Act} {w:World} {dst:Option Tmp} {ty:TypeId} {pos:String} {af:Array Edge} {f:FuncId} {args:List Operand} {ts:Array TypeId} {vs:List V} {X:V} {g:Option (Nat×Bool)} (h:Sim B d S a w) (hargs:Tj S args=some vs) (hc:Now P f vs X):
 ∃ y,(execOp a.eval ⟨dst,.call ⟨.value (.func f),args.toArray,ts⟩,ty,pos,af,g⟩).run P w=.ok (.value y) w∧∀ d',X.den d' y:=by
 obtain ⟨y,hr,hd⟩:=hc.2 w (d.all w) (args.map a.eval).toArray (by simpa using i0t h hargs)
 exact ⟨y,by simp [execOp,resolve,Deferred.ofValue,Act.eval,invoke,hr],hd⟩
theorem Xz {P:Program} {B:Base} {S:St} {K:St→Prop} {dst:Option Tmp} {ty:TypeId} {pos:String} {af:Array Edge} {f:FuncId} {args:List Operand} {ts:Array TypeId} {ds:List (Option Tmp)} {r:List Oper} {vs:List V} {X:V} (hargs:Tj S args=some vs) (hc:Now P f vs X)
 (hK:match dst with
  |some n=>n<B.nt∧Aj P B ds r ⟨(n,X)::S.env,S.mem⟩ K
  |none=>Aj P B ds r S K):
 Bw P B ⟨dst,.call ⟨.value (.func f),args.toArray,ts⟩,ty,pos,af,none⟩ S ds r K:=by
 intro d a w h next Q hn
 obtain ⟨y,hrun,hd⟩:=n1m (dst:=dst) (ty:=ty) (pos:=pos) (af:=af) (ts:=ts) (g:=none) h hargs hc
 unfold Oper.wp
 rw [hrun]
 cases dst with
 |none=>exact hn _ _ _ _ hK h
 |some n=>exact hn _ _ _ _ hK.2 (h.put hK.1 (hd d))
theorem d0n {vw:Bool} {S S':St} {l:L} (hm: ∀ k,l.has k=true→look S'.mem k=look S.mem k):Uv vw S' [] l=Uv vw S [] l:=by
 cases l with
 |pl x=>rfl
 |p j path=>rfl
 |s j path len sz=>simp only [Uv];rw [k0y hm]
 |fn f caps=>rfl
theorem j0l {vw:Bool} {S S':St}: ∀ {cs:List L} (hm: ∀ k,cs.any (L.has k)=true→look S'.mem k=look S.mem k),Dq vw S' [] cs=Dq vw S [] cs
 | [],_=>rfl
 |l::r,hm=>by
   simp only [Dq]
   rw [d0n fun k hk=>hm k (by simp [hk]),j0l (cs:=r) fun k hk=>hm k (by simp only [vX,hk,yV])]
theorem h1u {vw:Bool} {S S':St} {v:V} (hm: ∀ k,v.has k=true→look S'.mem k=look S.mem k):n0c vw S' [] v=n0c vw S [] v:=by
 cases v with
 |w x=>
   cases x with
   |one l=>simp only [n0c];rw [d0n hm]
   |agg cs=>simp only [n0c];rw [j0l hm]
 |tup xs=>rfl
 |any=>rfl
theorem h0p {vw:Bool} {S S':St}: ∀ {l:List Operand} (hg: ∀ x∈l,S'.get x=S.get x) (hm: ∀ x∈l,∀ v,S.get x=some v→∀ k,v.has k=true→look S'.mem k=look S.mem k),Sz vw S' [] l=Sz vw S [] l
 | [],_,_=>rfl
 |x::r,hg,hm=>by
   simp only [Sz]
   rw [hg x (by simp),h0p (l:=r) (fun y hy=>hg y (by simp [hy])) (fun y hy=>hm y (by simp [hy]))]
   cases h:S.get x with
   |none=>rfl
   |some v=>simp only [Option.bind_some];rw [h1u (hm x (by simp) v h)]
def r0k :L→Bool
 | .pl .u=>false
 | .pl _=>true
 |_=>false
def o0d (o:Ob):Bool:=o.cells.all r0k
theorem q1u {k:Nat} {l:L} (h:r0k l=true):Uq k l=l:=by
 cases l<;>first|rfl|(simp [r0k] at h)
theorem c1v {k:Nat} {l:L} (h:r0k (Uq k l)=true):Uq k l=l:=by
 unfold Uq at h ⊢
 split
 ·rename_i hc;rw [if_pos hc] at h;cases h
 rfl
theorem z0v {k:Nat}: ∀ {cs:List L},cs.all r0k=true→cs.map (Uq k)=cs
 | [],_=>rfl
 |l::r,h=>by
   simp only [wR,yD] at h
   rw [yL,q1u h.1,z0v h.2]
theorem q0b {k:Nat}: ∀ {cs:List L},(cs.map (Uq k)).all r0k=true→cs.map (Uq k)=cs
 | [],_=>rfl
 |l::r,h=>by
   simp only [yL,wR,yD] at h
   rw [yL,c1v h.1,q0b h.2]
def Glob (S S':St):Prop:=∀ k o,1000000≤k→o0d o=true→look S.mem k=some o→look S'.mem k=some o
theorem a0z {S S':St} (hl:Glob S S'): ∀ {G:List (Nat×Ob)},G.all (fun x=>o0d x.2)=true→Pv S [] G→Pv S' [] G
 | [],_,_=>trivial
 |x::r,hf,h=>by
   simp only [wR,yD] at hf
   simp only [Pv,look] at h ⊢
   by_cases hx:x.1<1000000
   ·rw [if_pos hx] at h;exact h.1.elim
   rw [if_neg hx] at h ⊢;exact ⟨hl x.1 x.2 (Nat.le_of_not_lt hx) hf.1 h.1,a0z hl hf.2 h.2⟩
theorem t0k {S S':St}: ∀ {cs:List L} (hm: ∀ k,cs.any (L.has k)=true→look S'.mem k=look S.mem k),n0j S' cs=n0j S cs
 | [],_=>rfl
 |l::r,hm=>by
   simp only [n0j]
   rw [d0n fun k hk=>hm k (by simp [hk]),t0k (cs:=r) fun k hk=>hm k (by simp only [vX,hk,yV])]
theorem l2l {k:Nat}: ∀ {path:Path} {cs:List L},(rd cs path).any (L.has k)=true→cs.any (L.has k)=true:=by
 intro path cs h
 by_cases hc:cs.any (L.has k)=true
 ·exact hc
 exact absurd h (by rw [a1v (by simpa using hc)];simp)
theorem t0j {S S':St} {l:L} (hm: ∀ k,l.has k=true→look S'.mem k=look S.mem k) (hi: ∀ k,l.has k=true→∀ o,look S.mem k=some o→∀ j,o.has j=true→look S'.mem j=look S.mem j):a1e S' l=a1e S l:=by
 unfold a1e
 rw [d0n hm]
 split
 ·rfl
 split<;>try rfl
 rename_i j path len sz _
 have hj:(L.s j path len sz).has j=true:=by simp [L.has]
 rw [hm j hj]
 cases ho:look S.mem j with
 |none=>rfl
 |some o=>simp only;rw [t0k fun k hk=>hi j hj o ho k (l2l hk)]
theorem q0m {S S':St}: ∀ {cs:List L} (hm: ∀ k,cs.any (L.has k)=true→look S'.mem k=look S.mem k) (hi: ∀ k,cs.any (L.has k)=true→∀ o,look S.mem k=some o→∀ j,o.has j=true→look S'.mem j=look S.mem j),k0d S' cs=k0d S cs
 | [],_,_=>rfl
 |l::r,hm,hi=>by
   simp only [k0d]
   rw [t0j (fun k hk=>hm k (by simp [hk])) (fun k hk=>hi k (by simp [hk])),q0m (cs:=r) (fun k hk=>hm k (by simp only [vX,hk,yV])) (fun k hk=>hi k (by simp only [vX,hk,yV]))]
theorem k1d {S S':St} {v:V} (hm: ∀ k,v.has k=true→look S'.mem k=look S.mem k) (hi: ∀ k,v.has k=true→∀ o,look S.mem k=some o→∀ j,o.has j=true→look S'.mem j=look S.mem j):a1c S' v=a1c S v:=by
 cases v with
 |w x=>
   cases x with
   |one l=>simp only [a1c];rw [t0j hm hi]
   |agg cs=>simp only [a1c];rw [q0m hm hi]
 |tup xs=>rfl
 |any=>rfl
theorem f0o {S S':St}: ∀ {l:List Operand} (hg: ∀ x∈l,S'.get x=S.get x) (hm: ∀ x∈l,∀ v,S.get x=some v→∀ k,v.has k=true→look S'.mem k=look S.mem k) (hi: ∀ x∈l,∀ v,S.get x=some v→∀ k,v.has k=true→∀ o,look S.mem k=some o→∀ j,o.has j=true→look S'.mem j=look S.mem j),a0f S' l=a0f S l
 | [],_,_,_=>rfl
 |x::r,hg,hm,hi=>by
   simp only [a0f]
   rw [hg x (by simp),f0o (l:=r) (fun y hy=>hg y (by simp [hy])) (fun y hy=>hm y (by simp [hy])) (fun y hy=>hi y (by simp [hy]))]
   cases h:S.get x with
   |none=>rfl
   |some v=>simp only [Option.bind_some];rw [k1d (hm x (by simp) v h) (hi x (by simp) v h)]
inductive Ev (P:Program) (S:St) (o:Oper) (dp:Bool):Eff→Prop
 |det {e:Eff}:Jw P S o.dst o.op=some e→Ev P S o dp e
 |call {f:FuncId} {args:List Operand} {ts:Array TypeId} {vs:List V} {X:V} {M:List (Nat×Ob)} {nm:Nat→Nat}:
    o.op=.call ⟨.value (.func f),args.toArray,ts⟩→(∀ vals w,(callFunc f vals).run P w=.ok (.enter f vals) w)→Tj S args=some vs→
    Ct P f vs (fun v m=>v=X∧m=M)→e0p M X=true→Mw M=true→((Rj nm M).map (·.1)).Nodup→(M.map (·.1)).Nodup→Ev P S o dp (.new (X.ren nm) (Rj nm M))
 |fncall {f:FuncId} {args:List Operand} {ts:Array TypeId} {vs cs:List V} {X:V} {M:List (Nat×Ob)} {nm:Nat→Nat} {t:Tmp} {caps:List Nat}:
    o.op=.call ⟨.value (.tmp t),args.toArray,ts⟩→(∀ vals w,(callFunc f vals).run P w=.ok (.enter f vals) w)→S.get (.tmp t)=some (.w (.one (.fn f caps)))→a0e S caps=some cs→Tj S args=some vs→
    Ct P f (vs++cs) (fun v m=>v=X∧m=M)→e0p M X=true→Mw M=true→((Rj nm M).map (·.1)).Nodup→(M.map (·.1)).Nodup→Ev P S o dp (.new (X.ren nm) (Rj nm M))
 |now {f:FuncId} {args:List Operand} {ts:Array TypeId} {vs:List V} {X:V}:
    o.op=.call ⟨.value (.func f),args.toArray,ts⟩→Tj S args=some vs→Now P f vs X→Ev P S o dp (.val X)
 |gcall {vw:Bool} {f:FuncId} {args:List Operand} {ts:Array TypeId} {vs:List V} {X:V} {M G:List (Nat×Ob)} {nm:Nat→Nat}:
    o.op=.call ⟨.value (.func f),args.toArray,ts⟩→(∀ vals w,(callFunc f vals).run P w=.ok (.enter f vals) w)→Sz vw S [] args=some vs→Pv S [] G→G.all (fun x=>o0d x.2)=true→
    CtM P f vs G (fun v m=>v=X∧m=M)→Kj vw M X=true→Mw M=true→((Rj nm M).map (·.1)).Nodup→(M.map (·.1)).Nodup→Ev P S o dp (.new (X.ren (Px nm [])) (Rj nm M))
 |dcall {f:FuncId} {args:List Operand} {ts:Array TypeId} {vs:List V} {X:V} {M G:List (Nat×Ob)} {nm:Nat→Nat}:
    dp=true→o.op=.call ⟨.value (.func f),args.toArray,ts⟩→(∀ vals w,(callFunc f vals).run P w=.ok (.enter f vals) w)→a0f S args=some vs→Pv S [] G→G.all (fun x=>o0d x.2)=true→
    CtM P f vs G (fun v m=>v=X∧m=M)→Kj true M X=true→Mw M=true→((Rj nm M).map (·.1)).Nodup→(M.map (·.1)).Nodup→Ev P S o dp (.new (X.ren (Px nm [])) (Rj nm M))
 |acall {f:FuncId} {args:List Operand} {ts:Array TypeId} {vs:List V} {X:V} {m:List (Nat×Ob)} {hd:Hand}:
    o.op=.call ⟨.value (.func f),args.toArray,ts⟩→(∀ vals w,(callFunc f vals).run P w=.ok (.enter f vals) w)→Sz false S hd args=some vs→x1x hd=true→Pv S hd m→
    (∀ k j,look hd k=some j→∃ x∈args,∃ v,S.get x=some v∧v.has j=true)→m.all (fun x=>decide (500000≤x.1)&&decide (x.1<1000000))=true→
    CtM P f vs m (fun v m'=>v=X∧m'=m)→Kj false m X=true→X.ren (Px (fun k=>k) hd)=X→(∀ k,X.has k=false)→(∀ S',e0w false (fun k=>k) hd S' m m m)→hd.all (fun x=>(look m x.1).isSome)=true→Ev P S o dp (.val X)
 |hcall {f:FuncId} {args:List Operand} {ts:Array TypeId} {vs:List V} {X:V} {m:List (Nat×Ob)} {hd:Hand} {t:Tmp} {caps ks:List Nat}:
    dp=true→o.op=.call ⟨.value (.tmp t),args.toArray,ts⟩→(∀ vals w,(callFunc f vals).run P w=.ok (.enter f vals) w)→S.get (.tmp t)=some (.w (.one (.fn f caps)))→c0y hd caps=some ks→Sz false S hd args=some vs→x1x hd=true→Pv S hd m→
    (∀ k j,look hd k=some j→j∈caps∨∃ c∈caps,∃ ob,look S.mem c=some ob∧ob.has j=true)→m.all (fun x=>decide (500000≤x.1)&&decide (x.1<1000000))=true→
    CtM P f (vs++ks.map fun k=>.w (.one (.p k []))) m (fun v m'=>v=X∧m'=m)→Kj false m X=true→X.ren (Px (fun k=>k) hd)=X→(∀ k,X.has k=false)→(∀ S',e0w false (fun k=>k) hd S' m m m)→hd.all (fun x=>(look m x.1).isSome)=true→Ev P S o dp (.val X)
def New (k:Nat) (S:St):Prop:=Fr k S∧look S.mem k=none
theorem d0y (nm:Nat→Nat): ∀ (M m:List (Nat×Ob)),adopt nm M m=Rj nm M++m
 | [],m=>rfl
 |x::r,m=>by simp only [adopt,d0y nm r m,Rj,yL,yB]
theorem j0x {k:Nat} {S:St} (h:fresh k S=true):b1f k S.env=false∧z0p k S.mem=false:=f0j h
theorem m0b {nm:Nat→Nat} {e:List (Nat×V)} {m:List (Nat×Ob)}: ∀ {M:List (Nat×Ob)},Mw M=true→((Rj nm M).map (·.1)).Nodup→(M.map (·.1)).Nodup→(∀ k∈(Rj nm M).map (·.1),b1f k e=false∧z0p k m=false∧look m k=none∧k<500000)→b0e nm e M m=true
 | [],_,_,_,_=>rfl
 |x::r,hs,hn,hk,hf=>by
   simp only [Mw,wR,yD] at hs
   simp only [Rj,yL,List.nodup_cons] at hn
   simp only [yL,List.nodup_cons] at hk
   have h1:=hf (nm x.1) (by simp [Rj])
   have h2:z0p (nm x.1) (adopt nm r m)=false:=by
    rw [d0y]
    have: ∀ l:List (Nat×Ob),Mw l=true→z0p (nm x.1) (Rj nm l++m)=false:=by
     intro l
     induction l with
     |nil=>intro _;exact h1.2.1
     |cons y l ih=>
       intro hl
       simp only [Mw,wR,yD] at hl
       simp only [Rj,yL,yB,z0p,Ob.has,c0g hl.1.1,yT]
       exact ih hl.2
    exact this r hs.2
   have h3:look (adopt nm r m) (nm x.1)=none:=by
    have h5:look (Rj nm r) (nm x.1)=none:=Pz hn.1
    rw [d0y,Dj,h5,h1.2.2.1];rfl
   have h4:look r x.1=none:=Pz hk.1
   simp only [b0e,hs.1.1,hs.1.2,fresh,h1.1,h2,h3,h4,h1.2.2.2,Bool.or_self,vC,Option.isSome_none,Bool.and_self,uE,decide_true]
   exact m0b hs.2 hn.2 hk.2 fun k hk=>hf k (by simp only [Rj,yL,xK];exact .inr hk)
section
variable {P:Program} {S S':St} {o:Oper} {dp:Bool} {e:Eff}
theorem Ev.same (h:Ev P S o dp e) (hg: ∀ x∈o.op.operands,S'.get x=S.get x) (hm:d0k o.op=true→∀ x∈o.op.operands,∀ v,S.get x=some v→∀ k,v.has k=true→look S'.mem k=look S.mem k) (hl:Glob S S') (hi:dp=true→d0k o.op=true→∀ x∈o.op.operands,∀ v,S.get x=some v→∀ k,v.has k=true→∀ o,look S.mem k=some o→∀ j,o.has j=true→look S'.mem j=look S.mem j):Ev P S' o dp e:=by
 cases h with
 |det h=>exact .det (by rw [t0f hg hm];exact h)
 |call ho hgo hv hc hr hs hn hk=>
   rename_i args _ _ _ _ _
   have hin: ∀ x∈args,x∈o.op.operands:=fun x hx=>by rw [ho];simp [Op.operands,Call.operands,hx]
   refine .call ho hgo ?_ hc hr hs hn hk
   rw [Yx (S:=S) (fun x hx=>hg x (hin x hx)) (fun x hx=>hm (by rw [ho];rfl) x (hin x hx))];exact hv
 |fncall ho hgo hfn hcs hv hc hr hs hn hk=>
   rename_i args _ _ _ _ _ _ t caps
   have hin: ∀ x∈args,x∈o.op.operands:=fun x hx=>by rw [ho];simp [Op.operands,Call.operands,hx]
   have hit:Operand.tmp t∈o.op.operands:=by rw [ho];simp [Op.operands,Call.operands]
   refine .fncall ho hgo (by rw [hg _ hit];exact hfn) ?_ ?_ hc hr hs hn hk
   ·rw [k0z (S:=S) fun k hk=>hm (by rw [ho];rfl) _ hit _ hfn k (by simp [V.has,W.has,L.has];exact hk)];exact hcs
   rw [Yx (S:=S) (fun x hx=>hg x (hin x hx)) (fun x hx=>hm (by rw [ho];rfl) x (hin x hx))];exact hv
 |now ho hv hc=>
   rename_i f args _ _ _
   have hin: ∀ x∈args,x∈o.op.operands:=fun x hx=>by rw [ho];simp [Op.operands,Call.operands,hx]
   refine .now ho ?_ hc
   rw [Yx (S:=S) (fun x hx=>hg x (hin x hx)) (fun x hx=>hm (by rw [ho];rfl) x (hin x hx))];exact hv
 |gcall ho hgo hv hG hGf hc hr hs hn hk=>
   rename_i args _ _ _ _ _ _
   have hin: ∀ x∈args,x∈o.op.operands:=fun x hx=>by rw [ho];simp [Op.operands,Call.operands,hx]
   refine .gcall ho hgo ?_ (a0z hl hGf hG) hGf hc hr hs hn hk
   rw [h0p (S:=S) (fun x hx=>hg x (hin x hx)) (fun x hx=>hm (by rw [ho];rfl) x (hin x hx))];exact hv
 |dcall hdp ho hgo hv hG hGf hc hr hs hn hk=>
   rename_i args _ _ _ _ _ _
   have hin: ∀ x∈args,x∈o.op.operands:=fun x hx=>by rw [ho];simp [Op.operands,Call.operands,hx]
   refine .dcall hdp ho hgo ?_ (a0z hl hGf hG) hGf hc hr hs hn hk
   rw [f0o (S:=S) (fun x hx=>hg x (hin x hx)) (fun x hx=>hm (by rw [ho];rfl) x (hin x hx)) (fun x hx=>hi hdp (by rw [ho];rfl) x (hin x hx))];exact hv
 |acall ho hgo hv hok hmm hh hml hc hr hrn hx hou hall=>
   rename_i f args ts vs X m hd
   have hin: ∀ x∈args,x∈o.op.operands:=fun x hx=>by rw [ho];simp [Op.operands,Call.operands,hx]
   have hmo:d0k o.op=true:=by rw [ho];rfl
   have hj: ∀ k j,look hd k=some j→look S'.mem j=look S.mem j:=fun k j hk=>by
    obtain ⟨x,hx,v,h1,h2⟩:=hh k j hk
    exact hm hmo x (hin x hx) v h1 j h2
   refine .acall ho hgo (by rw [e0j (S:=S) fun x hx=>hg x (hin x hx)];exact hv) hok (f0i (fun x hx=>?_) hj hmm) (fun k j hk=>?_) hml hc hr hrn hx hou hall
   ·have:=yJ.mp hml x hx
    simp only [yD,decide_eq_true_eq] at this
    exact this.2
   obtain ⟨x,hx,v,h1,h2⟩:=hh k j hk
   exact ⟨x,hx,v,by rw [hg x (hin x hx)];exact h1,h2⟩
 |hcall hdp ho hgo hfn hcp hv hok hmm hh hml hc hr hrn hx hou hall=>
   rename_i f args ts vs X m hd t caps ks
   have hin: ∀ x∈args,x∈o.op.operands:=fun x hx=>by rw [ho];simp [Op.operands,Call.operands,hx]
   have hit:Operand.tmp t∈o.op.operands:=by rw [ho];simp [Op.operands,Call.operands]
   have hmo:d0k o.op=true:=by rw [ho];rfl
   have hcj: ∀ c∈caps,look S'.mem c=look S.mem c:=fun c hc=>hm hmo _ hit _ hfn c (by simp [V.has,W.has,L.has];exact hc)
   have hj: ∀ k j,look hd k=some j→look S'.mem j=look S.mem j:=fun k j hk=>by
    rcases hh k j hk with h1|⟨c,hc,ob,h1,h2⟩
    ·exact hcj j h1
    exact hi hdp hmo _ hit _ hfn c (by simp [V.has,W.has,L.has];exact hc) ob h1 j h2
   refine .hcall hdp ho hgo (by rw [hg _ hit];exact hfn) hcp (by rw [e0j (S:=S) fun x hx=>hg x (hin x hx)];exact hv) hok (f0i (fun x hx=>?_) hj hmm) (fun k j hk=>?_) hml hc hr hrn hx hou hall
   ·have:=yJ.mp hml x hx
    simp only [yD,decide_eq_true_eq] at this
    exact this.2
   rcases hh k j hk with h1|⟨c,hc,ob,h1,h2⟩
   ·exact .inl h1
   exact .inr ⟨c,hc,ob,by rw [hcj c hc];exact h1,h2⟩
def o0r :Op→Bool
 | .store .. =>true
 |_=>false
theorem Ev.sameS {v:V} {k:Nat} {ob:Ob} (h:Ev P S o dp e) (hs:o0r o.op=true) (hg: ∀ x∈o.op.operands,S'.get x=S.get x) (he:e=.sto v k ob) (hk:look S'.mem k=look S.mem k):Ev P S' o dp e:=by
 subst he
 cases h with
 |det h=>
   refine .det ?_
   cases hop:o.op<;>(rw [hop] at hs;try (cases hs;done))
   rename_i t x y
   rw [hop] at h hg
   simp only [Jw] at h ⊢
   rw [hg x (by simp [Op.operands]),hg y (by simp [Op.operands])]
   split at h<;>try (cases h;done)
   rename_i u z hu hz hd
   unfold h0a at h ⊢
   split at h<;>try (cases h;done)
   split at h<;>try (cases h;done)
   rename_i hl
   split at h<;>try (cases h;done)
   rename_i hc
   cases h
   rw [hk,hl]
   simp only
   rw [if_pos hc]
theorem Ev.mut_op (h:Ev P S o dp e) (hm:e.mut=true):(match o.op with| .store .. =>true| .call ⟨.builtin .append,_,_⟩=>true| .call ⟨.builtin .copy,_,_⟩=>true|_=>false)=true:=by
 cases h with
 |call=>cases hm
 |fncall=>cases hm
 |gcall=>cases hm
 |dcall=>cases hm
 |hcall=>cases hm
 |acall=>cases hm
 |now=>cases hm
 |det h=>
   unfold Jw at h
   split at h
   ·rename_i h0;first|rw [h0]|rfl
   ·rename_i h0;first|rw [h0]|rfl
   ·rename_i h0;first|rw [h0]|rfl
   split at h
   ·cases h;cases hm
   split at h<;>try (cases h;done)
   obtain ⟨r,_,rfl⟩:=yM.mp h
   cases hm
theorem y0g {M:List (Nat×Ob)} {nm:Nat→Nat} {k:Nat} (hk:k∉(Rj nm M).map (·.1)): ∀ {l:L},a2m M l=true→(l.ren nm).has k=false:=by
 have key: ∀ j,(look M j).isSome=true→nm j∈(Rj nm M).map (·.1):=by
  intro j hj
  induction M with
  |nil=>cases hj
  |cons x r ih=>
    simp only [look] at hj
    simp only [Rj,yL,xK]
    split at hj
    ·rename_i e;exact .inl (by rw [e])
    right
    have hk':k∉(Rj nm r).map (·.1):=fun h=>hk (by simp only [Rj,yL,xK];exact .inr h)
    exact ih hk' hj
 intro l h
 cases l with
 |pl x=>rfl
 |p j path=>simp only [L.ren,L.has,beq_eq_false_iff_ne];exact fun e=>hk (by rw [e];exact key j h)
 |s j path len sz=>simp only [L.ren,L.has,beq_eq_false_iff_ne];exact fun e=>hk (by rw [e];exact key j h)
 |fn f caps=>
   cases caps with
   |nil=>rfl
   |cons c cs=>cases h
theorem s0m {M:List (Nat×Ob)} {nm:Nat→Nat} {k:Nat} (hk:k∉(Rj nm M).map (·.1)) {x:W} (h:o0y M x=true):(x.ren nm).has k=false:=by
 cases x with
 |one l=>exact y0g hk h
 |agg cs=>
   simp only [o0y,yJ] at h
   simp only [W.ren,W.has,xC,xG]
   rintro l ⟨l',hl,rfl⟩
   rw [y0g hk (h _ hl)];simp
theorem s0o {M:List (Nat×Ob)} {nm:Nat→Nat} {k:Nat} (hk:k∉(Rj nm M).map (·.1)) {x:V} (h:e0p M x=true):(x.ren nm).has k=false:=by
 cases x with
 |w x=>exact s0m hk h
 |tup xs=>
   simp only [e0p,yJ] at h
   simp only [V.ren,V.has,xC,xG]
   rintro l ⟨l',hl,rfl⟩
   rw [s0m hk (h _ hl)];simp
 |any=>rfl
theorem p0s {vw:Bool} {M:List (Nat×Ob)} {nm:Nat→Nat} {k:Nat} (hs:Mw M=true) (hk:k∉(Rj nm M).map (·.1)) (hl:k<500000): ∀ {l:L},Nk vw M l=true→(l.ren (Px nm [])).has k=false:=by
 have key: ∀ j,okN M j=true→Px nm [] j≠k:=by
  intro j hj he
  simp only [okN] at hj
  split at hj
  ·have hin: ∃ o,(j,o)∈M:=by obtain ⟨o,ho⟩:=xP.mp hj;exact ⟨o,Qk ho⟩
   obtain ⟨o,ho⟩:=hin
   simp only [Mw,yJ,yD,decide_eq_true_eq] at hs
   have h5:=(hs _ ho).2
   simp only [Px,if_pos h5] at he
   exact hk (by simp only [Rj,List.map_map,xG,Function.comp];exact ⟨_,ho,he⟩)
  simp only [Px,nameOut,look] at he
  split at he
  ·omega
  omega
 intro l h
 cases l with
 |pl x=>rfl
 |p j path=>simp only [L.ren,L.has,beq_eq_false_iff_ne];exact fun e=>key j h e.symm
 |s j path len sz=>simp only [Nk,yD] at h;simp only [L.ren,L.has,beq_eq_false_iff_ne];exact fun e=>key j h.2 e.symm
 |fn f caps=>
   simp only [Nk,yJ] at h
   simp only [L.ren,L.has,xC,xG]
   rintro j' ⟨j,hj,rfl⟩
   simp only [beq_iff_eq]
   exact fun e=>key j (h j hj) e.symm
theorem m0n {vw:Bool} {M:List (Nat×Ob)} {nm:Nat→Nat} {k:Nat} (hs:Mw M=true) (hk:k∉(Rj nm M).map (·.1)) (hl:k<500000) {x:V} (h:Kj vw M x=true):(x.ren (Px nm [])).has k=false:=by
 have hw: ∀ x:W,g0j vw M x=true→(x.ren (Px nm [])).has k=false:=by
  intro x h
  cases x with
  |one l=>exact p0s hs hk hl h
  |agg cs=>
    simp only [g0j,yJ] at h
    simp only [W.ren,W.has,xC,xG]
    rintro l ⟨l',hl',rfl⟩
    rw [p0s hs hk hl (h _ hl')];simp
 cases x with
 |w x=>exact hw x h
 |tup xs=>
   simp only [Kj,yJ] at h
   simp only [V.ren,V.has,xC,xG]
   rintro l ⟨l',hl',rfl⟩
   rw [hw _ (h _ hl')];simp
 |any=>rfl
theorem s0j {f:Nat→Nat}: ∀ {cs:List L},cs.all Ry=true→cs.map (L.ren f)=cs
 | [],_=>rfl
 |l::r,h=>by
   simp only [wR,yD] at h
   rw [yL,s0j h.2]
   cases l<;>first|rfl|(simp [Ry] at h)
theorem k0q {nm:Nat→Nat} {m:List (Nat×Ob)}: ∀ {M:List (Nat×Ob)},Mw M=true→Vw nm [] M m=Rj nm M++m
 | [],_=>rfl
 |x::r,h=>by
   simp only [Mw,wR,yD,decide_eq_true_eq] at h
   simp only [Vw,if_pos h.1.2,Rj,yL,yB]
   rw [k0q h.2]
   congr 2
   simp only [Ob.ren];rw [s0j h.1.1]
theorem r0p {vw:Bool} {m:List (Nat×Ob)} {cs:List L} (h:cs.all Ry=true):cs.all (Nk vw m)=true:=by
 simp only [yJ] at h ⊢
 intro l hl
 have:=h l hl
 cases l<;>simp_all [Ry,Nk]
theorem g1v {nm:Nat→Nat} {j:Nat}: ∀ {M:List (Nat×Ob)},j∉(Rj nm M).map (·.1)→inv nm M j=none
 | [],_=>rfl
 |x::r,h=>by
   simp only [Rj,yL,xK,not_or] at h
   simp only [inv]
   rw [if_neg (fun e=>h.1 e.2.symm)]
   exact g1v h.2
theorem u0v {vw:Bool} {nm:Nat→Nat} {S:St} {m mr:List (Nat×Ob)}: ∀ {M:List (Nat×Ob)},Mw M=true→((Rj nm M).map (·.1)).Nodup→(M.map (·.1)).Nodup→(∀ k∈(Rj nm M).map (·.1),fresh k S=true∧look S.mem k=none)→e0w vw nm [] S m mr M
 | [],_,_,_,_=>trivial
 |x::r,hs,hn,hk,hf=>by
   simp only [Mw,wR,yD,decide_eq_true_eq] at hs
   have hn':=hn
   simp only [Rj,yL,List.nodup_cons] at hn
   simp only [yL,List.nodup_cons] at hk
   have h1:=hf (nm x.1) (by simp [Rj])
   refine ⟨⟨r0p hs.1.1,by rw [Pz hk.1];rfl,?_⟩,u0v hs.2 hn.2 hk.2 fun k hk=>hf k (by simp only [Rj,yL,xK];exact .inr hk)⟩
   rw [if_pos hs.1.2]
   exact ⟨h1.1,by rw [h1.2];rfl,g1v hn.1⟩
theorem r1c {S:St} {dst:Option Tmp} {op:Op} {v:V} {j:Nat} {ob:Ob} (h:Jw P S dst op=some (.sto v j ob)):j<1000000:=by
 unfold Jw at h
 split at h
 ·split at h<;>try (cases h;done)
  unfold h0a at h
  split at h<;>try (cases h;done)
  split at h<;>try (cases h;done)
  split at h<;>try (cases h;done)
  rename_i hc
  cases h
  exact hc.1
 ·split at h<;>try (cases h;done)
  split at h<;>try (cases h;done)
  unfold d0w at h
  repeat' (split at h<;>try (cases h;done))
 ·split at h<;>try (cases h;done)
  split at h<;>try (cases h;done)
  obtain ⟨r,hr,he⟩:=yM.mp h
  unfold copyV at hr
  split at hr<;>try (cases hr;done)
  split at hr<;>try (cases hr;done)
  split at hr<;>try (cases hr;done)
  split at hr<;>try (cases hr;done)
  rename_i hc
  cases hr
  cases he
  exact hc.1
 split at h
 ·cases h
 split at h<;>try (cases h;done)
 obtain ⟨r,_,he⟩:=yM.mp h
 cases he
theorem r1e {S:St} {dst:Option Tmp} {op:Op} {v:V} {j:Nat} {ob:Ob} (h:Jw P S dst op=some (.app v j ob)):j<1000000:=by
 unfold Jw at h
 split at h
 ·split at h<;>try (cases h;done)
  unfold h0a at h
  repeat' (split at h<;>try (cases h;done))
 ·split at h<;>try (cases h;done)
  split at h<;>try (cases h;done)
  unfold d0w at h
  split at h<;>try (cases h;done)
  split at h<;>try (cases h;done)
  split at h<;>try (cases h;done)
  split at h
  ·split at h<;>try (cases h;done)
   split at h<;>try (cases h;done)
   rename_i hc
   cases h
   exact hc.1.elim (fun h=>wZ h (by decide)) (fun h=>h.2)
  ·repeat' (split at h<;>try (cases h;done))
  cases h
 ·split at h<;>try (cases h;done)
  split at h<;>try (cases h;done)
  obtain ⟨r,hr,he⟩:=yM.mp h
  cases he
 split at h
 ·cases h
 split at h<;>try (cases h;done)
 obtain ⟨r,_,he⟩:=yM.mp h
 cases he
theorem Ev.low {k:Nat} {ob:Ob} (h:Ev P S o dp e) (hn: ∀ j∈e.names,New j S) (hk:1000000≤k) (hf:o0d ob=true) (dst:Option Tmp):look (e.on dst S).mem k=some ob↔look S.mem k=some ob:=by
 have hnew: ∀ v ms,e=.new v ms→look (e.on dst S).mem k=look S.mem k:=by
  intro v ms he
  subst he
  have h0:look ms k=none:=Pz fun hin=>by have h9:k<500000:=(hn k hin).1.2.2;omega
  show look (ms++S.mem) k=_
  rw [Dj,h0];rfl
 have hset: ∀ v j ob,e=.sto v j ob→j<1000000→look (e.on dst S).mem k=look S.mem k:=by
  intro v j ob he hj
  subst he
  show look (h0b S.mem j ob) k=_
  rw [Fz,if_neg (by omega)]
 cases h with
 |call=>rw [hnew _ _ rfl]
 |fncall=>rw [hnew _ _ rfl]
 |gcall=>rw [hnew _ _ rfl]
 |dcall=>rw [hnew _ _ rfl]
 |hcall=>exact Iff.rfl
 |acall=>exact Iff.rfl
 |now=>exact Iff.rfl
 |det h=>
   cases e with
   |val v=>exact Iff.rfl
   |new v ms=>rw [hnew _ _ rfl]
   |sto v j ob=>
     rw [hset _ _ _ rfl (r1c h)]
   |app v j o2=>
     have hj:j<1000000:=r1e h
     have hkj:k≠j:=by omega
     show look ((j,o2)::c0t j S.mem) k=_↔_
     simp only [look,if_neg hkj]
     rw [Iq,if_neg hkj]
     constructor
     ·intro h
      obtain ⟨o0,h0,rfl⟩:=yM.mp h
      rw [h0]
      have:=q0b (cs:=o0.cells) hf
      rw [this]
     intro h
     rw [h,yR,z0v hf]
theorem Ev.fr {k:Nat} (h:Ev P S o dp e) (hf:Fr k S) (hk:k∉e.names):e.free k=true:=by
 cases h with
 |det h=>exact y1m hf h hk
 |call ho hgo hv hc hr hs hn hkk=>
   simp only [Eff.names] at hk
   simp only [Eff.free,s0o hk hr,vC,uE,yJ,Rj,xG]
   rintro m ⟨x,hx,rfl⟩
   simp only [Mw,yJ,yD] at hs
   simp only [Ob.has,yX]
   exact c0g (by simpa [yJ] using (hs x hx).1) k
 |fncall ho hgo hfn hcs hv hc hr hs hn hkk=>
   simp only [Eff.names] at hk
   simp only [Eff.free,s0o hk hr,vC,uE,yJ,Rj,xG]
   rintro m ⟨x,hx,rfl⟩
   simp only [Mw,yJ,yD] at hs
   simp only [Ob.has,yX]
   exact c0g (by simpa [yJ] using (hs x hx).1) k
 |gcall ho hgo hv hG hGf hc hr hs hn hkk=>
   simp only [Eff.names] at hk
   simp only [Eff.free,m0n hs hk hf.2.2 hr,vC,uE,yJ,Rj,xG]
   rintro m ⟨x,hx,rfl⟩
   simp only [Mw,yJ,yD] at hs
   simp only [Ob.has,yX]
   exact c0g (by simpa [yJ] using (hs x hx).1) k
 |dcall hdp ho hgo hv hG hGf hc hr hs hn hkk=>
   simp only [Eff.names] at hk
   simp only [Eff.free,m0n hs hk hf.2.2 hr,vC,uE,yJ,Rj,xG]
   rintro m ⟨x,hx,rfl⟩
   simp only [Mw,yJ,yD] at hs
   simp only [Ob.has,yX]
   exact c0g (by simpa [yJ] using (hs x hx).1) k
 |now ho hv hc=>simp only [Eff.free,hc.1,vC]
 |hcall hdp ho hgo hfn hcp hv hok hmm hh hml hc hr hrn hx hou hall=>simp only [Eff.free,hx,vC]
 |acall ho hgo hv hok hmm hh hml hc hr hrn hx hou hall=>simp only [Eff.free,hx,vC]
theorem Ev.run {B:Base} {d:Va} {a:Act} {w:World} (hs:Sim B d S a w) (h:Ev P S o dp e) (hf: ∀ k∈e.names,New k S) (hn: ∀ n,o.dst=some n→n<B.nt) (next:Act→World→Prop) (Q:Exit→Act→World→Prop)
 (hk: ∀ d' a' w',Sim B d' (e.on o.dst S) a' w'→next a' w'):o.wp P a w next Q:=by
 cases h with
 |det h=>
   rcases r1d hs h (fun k hk=>(hf k hk).1) hn with ⟨y,w',d',hr,hs'⟩|⟨w',d',hr,hdst,hs'⟩
   ·unfold Oper.wp;rw [hr];exact hk _ _ _ hs'
   unfold Oper.wp;rw [hr,Oper.upon_skip,hdst];rw [hdst] at hs' hk;exact hk d' a w' hs'
 |call ho hgo hv hc hr hst hnd hkd=>
   rename_i f args ts vs X M nm
   have hq:=j0i S
   have hv':Tj S.norm args=some vs:=by
    rw [Yx (S:=S) (fun x _=>hq.get x) (fun _ _ _ _ k _=>hq.mem k)];exact hv
   obtain ⟨dst,op,ty,pos,af,g⟩:=o
   simp only at ho;subst ho
   have hcall:=Cv (B:=B) (S:=S.norm) (K:=fun S'=>S'=(Eff.new (X.ren nm) (Rj nm M)).on dst S.norm) (dst:=dst) (ty:=ty) (pos:=pos) (af:=af) (ts:=ts) (ds:=[]) (r:=[]) nm hgo hv' hc (by
    rintro v m ⟨rfl,rfl⟩
    refine ⟨hr,m0b hst hnd hkd fun k hk=>?_,?_⟩
    ·have hnew:=hf k hk
     have:=j0x (c0m hnew.1)
     exact ⟨this.1,this.2,by rw [hq.mem];exact hnew.2,hnew.1.2.2⟩
    cases dst with
    |none=>simp only [c0w,d0y];rfl
    |some n=>exact ⟨hn n rfl,by simp only [c0w,d0y];rfl⟩)
   have:=hcall d a w (hs.eqv hq) next Q (fun S' d' a' w' hS' hs'=>by
    have hS'':S'=(Eff.new (X.ren nm) (Rj nm M)).on dst S.norm:=hS'
    subst hS''
    exact hk d' a' w' (hs'.eqv (s0w hq.symm _ _)))
   exact this
 |fncall ho hgo hfn hcs hv hc hr hst hnd hkd=>
   rename_i f args ts vs cs X M nm t caps
   have hq:=j0i S
   have hv':Tj S.norm args=some vs:=by
    rw [Yx (S:=S) (fun x _=>hq.get x) (fun _ _ _ _ k _=>hq.mem k)];exact hv
   obtain ⟨dst,op,ty,pos,af,g⟩:=o
   simp only at ho;subst ho
   have hcall:=Qj (B:=B) (S:=S.norm) (K:=fun S'=>S'=(Eff.new (X.ren nm) (Rj nm M)).on dst S.norm) (dst:=dst) (ty:=ty) (pos:=pos) (af:=af) (ts:=ts) (ds:=[]) (r:=[]) (g:=g) nm (by rw [hq.get];exact hfn) (by rw [k0z (S:=S) fun k _=>hq.mem k];exact hcs) hgo hv' hc (by
    rintro v m ⟨rfl,rfl⟩
    refine ⟨hr,m0b hst hnd hkd fun k hk=>?_,?_⟩
    ·have hnew:=hf k hk
     have:=j0x (c0m hnew.1)
     exact ⟨this.1,this.2,by rw [hq.mem];exact hnew.2,hnew.1.2.2⟩
    cases dst with
    |none=>simp only [c0w,d0y];rfl
    |some n=>exact ⟨hn n rfl,by simp only [c0w,d0y];rfl⟩)
   have:=hcall d a w (hs.eqv hq) next Q (fun S' d' a' w' hS' hs'=>by
    have hS'':S'=(Eff.new (X.ren nm) (Rj nm M)).on dst S.norm:=hS'
    subst hS''
    exact hk d' a' w' (hs'.eqv (s0w hq.symm _ _)))
   exact this
 |gcall ho hgo hv hG hGf hc hr hst hnd hkd=>
   rename_i vw f args ts vs X M G nm
   have hq:=j0i S
   have hv':Sz vw S.norm [] args=some vs:=by
    rw [h0p (S:=S) (fun x _=>hq.get x) (fun _ _ _ _ k _=>hq.mem k)];exact hv
   obtain ⟨dst,op,ty,pos,af,g⟩:=o
   simp only at ho;subst ho
   have hcall:=Kz (B:=B) (S:=S.norm) (K:=fun S'=>S'=(Eff.new (X.ren (Px nm [])) (Rj nm M)).on dst S.norm) (dst:=dst) (ty:=ty) (pos:=pos) (af:=af) (ts:=ts) (ds:=[]) (r:=[]) vw [] nm hgo hv' rfl (a0z (fun k o _ _ hk=>by rw [hq.mem];exact hk) hGf hG) hc (by
    rintro v m ⟨rfl,rfl⟩
    refine ⟨hr,u0v hst hnd hkd fun k hk=>?_,rfl,?_⟩
    ·have hnew:=hf k hk
     exact ⟨c0m hnew.1,by rw [hq.mem];exact hnew.2⟩
    cases dst with
    |none=>simp only [c0w,k0q hst];rfl
    |some n=>exact ⟨hn n rfl,by simp only [c0w,k0q hst];rfl⟩)
   have:=hcall d a w (hs.eqv hq) next Q (fun S' d' a' w' hS' hs'=>by
    have hS'':S'=(Eff.new (X.ren (Px nm [])) (Rj nm M)).on dst S.norm:=hS'
    subst hS''
    exact hk d' a' w' (hs'.eqv (s0w hq.symm _ _)))
   exact this
 |dcall hdp ho hgo hv hG hGf hc hr hst hnd hkd=>
   rename_i f args ts vs X M G nm
   have hq:=j0i S
   have hv':a0f S.norm args=some vs:=by
    rw [f0o (S:=S) (fun x _=>hq.get x) (fun _ _ _ _ k _=>hq.mem k) (fun _ _ _ _ _ _ _ _ j _=>hq.mem j)];exact hv
   obtain ⟨dst,op,ty,pos,af,g⟩:=o
   simp only at ho;subst ho
   have hcall:=k0k (B:=B) (S:=S.norm) (K:=fun S'=>S'=(Eff.new (X.ren (Px nm [])) (Rj nm M)).on dst S.norm) (dst:=dst) (ty:=ty) (pos:=pos) (af:=af) (ts:=ts) (ds:=[]) (r:=[]) nm hgo hv' (a0z (fun k o _ _ hk=>by rw [hq.mem];exact hk) hGf hG) hc (by
    rintro v m ⟨rfl,rfl⟩
    refine ⟨hr,u0v hst hnd hkd fun k hk=>?_,?_⟩
    ·have hnew:=hf k hk
     exact ⟨c0m hnew.1,by rw [hq.mem];exact hnew.2⟩
    cases dst with
    |none=>simp only [c0w,k0q hst];rfl
    |some n=>exact ⟨hn n rfl,by simp only [c0w,k0q hst];rfl⟩)
   have:=hcall d a w (hs.eqv hq) next Q (fun S' d' a' w' hS' hs'=>by
    have hS'':S'=(Eff.new (X.ren (Px nm [])) (Rj nm M)).on dst S.norm:=hS'
    subst hS''
    exact hk d' a' w' (hs'.eqv (s0w hq.symm _ _)))
   exact this
 |hcall hdp ho hgo hfn hcp hv hok hmm hh hml hc hr hrn hx hou hall=>
   rename_i f args ts vs X m hd t caps ks
   obtain ⟨dst,op,ty,pos,af,g⟩:=o
   simp only at ho;subst ho
   have hp:m.all (fun x=>decide (500000≤x.1))=true:=by
    rw [yJ] at hml ⊢
    intro x hx
    have:=hml x hx
    simp only [yD] at this
    exact this.1
   have hcall:=i0p (B:=B) (S:=S) (K:=fun S'=>Eqv S' ((Eff.val X).on dst S)) (dst:=dst) (ty:=ty) (pos:=pos) (af:=af) (ts:=ts) (ds:=[]) (r:=[]) false hd (fun k=>k) hfn hcp hgo hv hok hmm hc (by
    rintro v m' ⟨rfl,rfl⟩
    refine ⟨hr,hou S,hall,?_⟩
    cases dst with
    |none=>simp only [c0w];exact ⟨fun _=>rfl,fun j=>(k0p (j0v hok).1 hmm (hou S) hp j).symm⟩
    |some n=>exact ⟨hn n rfl,by simp only [c0w,hrn];exact ⟨fun _=>rfl,fun j=>(k0p (j0v hok).1 hmm (hou S) hp j).symm⟩⟩)
   have:=hcall d a w hs next Q (fun S' d' a' w' hS' hs'=>hk d' a' w' (hs'.eqv hS'))
   exact this
 |acall ho hgo hv hok hmm hh hml hc hr hrn hx hou hall=>
   rename_i f args ts vs X m hd
   obtain ⟨dst,op,ty,pos,af,g⟩:=o
   simp only at ho;subst ho
   have hp:m.all (fun x=>decide (500000≤x.1))=true:=by
    rw [yJ] at hml ⊢
    intro x hx
    have:=hml x hx
    simp only [yD] at this
    exact this.1
   have hcall:=Kz (B:=B) (S:=S) (K:=fun S'=>Eqv S' ((Eff.val X).on dst S)) (dst:=dst) (ty:=ty) (pos:=pos) (af:=af) (ts:=ts) (ds:=[]) (r:=[]) false hd (fun k=>k) hgo hv hok hmm hc (by
    rintro v m' ⟨rfl,rfl⟩
    refine ⟨hr,hou S,hall,?_⟩
    cases dst with
    |none=>simp only [c0w];exact ⟨fun _=>rfl,fun j=>(k0p (j0v hok).1 hmm (hou S) hp j).symm⟩
    |some n=>exact ⟨hn n rfl,by simp only [c0w,hrn];exact ⟨fun _=>rfl,fun j=>(k0p (j0v hok).1 hmm (hou S) hp j).symm⟩⟩)
   have:=hcall d a w hs next Q (fun S' d' a' w' hS' hs'=>hk d' a' w' (hs'.eqv hS'))
   exact this
 |now ho hv hc=>
   rename_i f args ts vs X
   obtain ⟨dst,op,ty,pos,af,g⟩:=o
   simp only at ho;subst ho
   obtain ⟨y,hrun,hd⟩:=n1m (dst:=dst) (ty:=ty) (pos:=pos) (af:=af) (ts:=ts) (g:=g) hs hv hc
   unfold Oper.wp
   rw [hrun]
   refine hk d _ _ ?_
   cases dst with
   |none=>exact hs
   |some n=>exact hs.put (hn n rfl) (hd d)
end
end Go.Sy
namespace Go.Sy
def p2i :L→Bool
 | .pl .u=>false
 |_=>true
def m2u :W→Bool
 | .one l=>p2i l
 | .agg cs=>cs.all p2i
def i2y :V→Bool
 | .w x=>m2u x
 | .tup xs=>xs.all m2u
 | .any=>true
theorem j0r {k:Nat} {l:L} (h:l.has k=false):Uq k l=l:=by simp [Uq,h]
theorem z0b {k:Nat} {l:L} (h:p2i (Uq k l)=true):Uq k l=l:=by
 unfold Uq at h ⊢
 split
 ·rename_i hc;rw [if_pos hc] at h;cases h
 rfl
theorem map_id' {α:Type} {f:α→α}: ∀ {l:List α},(∀ x∈l,f x=x)→l.map f=l
 | [],_=>rfl
 |x::r,h=>by rw [yL,h x (by simp),map_id' fun y hy=>h y (by simp [hy])]
theorem z0a {k:Nat} {x:W} (h:m2u (x.kill k)=true):x.kill k=x:=by
 cases x with
 |one l=>simp only [W.kill];rw [z0b h]
 |agg cs=>
   simp only [W.kill,m2u,yJ,xG] at h
   simp only [W.kill];rw [map_id' fun l hl=>z0b (h _ ⟨l,hl,rfl⟩)]
theorem o1w {k:Nat} {x:V} (h:i2y (x.kill k)=true):x.kill k=x:=by
 cases x with
 |w x=>simp only [V.kill];rw [z0a h]
 |tup xs=>
   simp only [V.kill,i2y,yJ,xG] at h
   simp only [V.kill];rw [map_id' fun l hl=>z0a (h _ ⟨l,hl,rfl⟩)]
 |any=>rfl
theorem W.kill_id {k:Nat} {x:W} (h:x.has k=false):x.kill k=x:=by
 cases x with
 |one l=>simp only [W.kill];rw [j0r h]
 |agg cs=>
   simp only [W.has,xC] at h
   simp only [W.kill];rw [map_id' fun l hl=>j0r (by simpa using h l hl)]
theorem V.kill_id {k:Nat} {x:V} (h:x.has k=false):x.kill k=x:=by
 cases x with
 |w x=>simp only [V.kill];rw [W.kill_id h]
 |tup xs=>
   simp only [V.has,xC] at h
   simp only [V.kill];rw [map_id' fun l hl=>W.kill_id (by simpa using h l hl)]
 |any=>rfl
structure It where
 o:Oper
 e:Eff
 skip:Bool
 dp:Bool
 rv:List V
 ns:List Nat
def gslot (ds:List (Option Tmp)) (o:Oper):List Operand:=
 match o.guard with
 |some g=>match ds[g.1]? with
   |some (some t)=>[.tmp t]
   |_=>[]
 |none=>[]
def It.reads (ds:List (Option Tmp)) (x:It):List Operand:=gslot ds x.o++(if x.skip=true then [] else x.o.op.operands.toList)
def tmpsOf (l:List Operand):List Nat:=l.filterMap fun x=>match x with
 | .tmp t=>some t
 |_=>none
def It.on (x:It) (S:St):St:=x.e.on x.o.dst S
structure Go1 (P:Program) (ds:List (Option Tmp)) (S:St) (x:It):Prop where
 rv:(x.reads ds).filterMap S.get=x.rv
 guard:match x.o.guard with
  |none=>x.skip=false
  |some g=>∃ c,b0a S ds g.1 g.2=some c∧x.skip=(c !=g.2)
 ev:if x.skip=true then x.e=.val (.tup []) else Ev P S x.o x.dp x.e
 ns: ∀ v j o,x.e=.app v j o→∀ k ob,look S.mem k=some ob→k≠j→ob.has j=true→k∈x.ns
theorem m1c {l:List Operand} {n:Nat} (h:Operand.tmp n∈l):n∈tmpsOf l:=by
 simp only [tmpsOf,List.mem_filterMap]
 exact ⟨_,h,rfl⟩
structure Agree (ds:List (Option Tmp)) (S S':St) (x:It):Prop where
 get: ∀ y∈x.reads ds,S'.get y=S.get y
 mem:d0k x.o.op=true→(∀ v∈x.rv,∀ k,v.has k=true→look S'.mem k=look S.mem k)∨(o0r x.o.op=true∧∃ v k o,x.e=.sto v k o∧look S'.mem k=look S.mem k)
 ns: ∀ v j o,x.e=.app v j o→∀ k ob,look S'.mem k=some ob→k≠j→ob.has j=true→k∈x.ns
 glob:Glob S S'
 inner:x.dp=true→d0k x.o.op=true→∀ v∈x.rv,∀ k,v.has k=true→∀ o,look S.mem k=some o→∀ j,o.has j=true→look S'.mem j=look S.mem j
theorem c1r {S S':St} {ds:List (Option Tmp)} {o:Oper} {g:Nat×Bool} (hg:o.guard=some g) (h: ∀ y∈gslot ds o,S'.get y=S.get y):b0a S' ds g.1 g.2=b0a S ds g.1 g.2:=by
 unfold gslot at h
 rw [hg] at h
 simp only at h
 unfold b0a
 split
 ·rename_i t ht
  rw [ht] at h
  have:=h (.tmp t) (by simp)
  simp only [St.get] at this
  rw [this]
 rfl
theorem f1w {S:St} {l:List Operand} {rv:List V} (h:l.filterMap S.get=rv) {y:Operand} {v:V} (hy:y∈l) (hv:S.get y=some v):v∈rv:=by
 rw [←h];exact List.mem_filterMap.2 ⟨y,hy,hv⟩
theorem c2z {S:St} {l:List Operand} {rv:List V} (h:l.filterMap S.get=rv) {v:V} (hv:v∈rv): ∃ z∈l,S.get z=some v:=by
 rw [←h] at hv;exact List.mem_filterMap.1 hv
theorem h0i {S S':St}: ∀ {l:List Operand},(∀ y∈l,S'.get y=S.get y)→l.filterMap S'.get=l.filterMap S.get
 | [],_=>rfl
 |x::r,h=>by
   rw [List.filterMap_cons,List.filterMap_cons,h x (by simp),h0i (l:=r) fun y hy=>h y (by simp [hy])]
theorem mem_reads {ds:List (Option Tmp)} {x:It} (hs:x.skip=false) {y:Operand} (h:y∈x.o.op.operands):y∈x.reads ds:=by
 unfold It.reads
 rw [hs]
 simp only [yE,if_false,wX]
 exact .inr (by simpa using h)
theorem Go1.same {P:Program} {ds:List (Option Tmp)} {S S':St} {x:It} (h:Go1 P ds S x) (ha:Agree ds S S' x):Go1 P ds S' x:=by
 refine ⟨?_,?_,?_,ha.ns⟩
 ·rw [←h.rv]
  exact h0i ha.get
 ·have hg:=h.guard
  cases hgd:x.o.guard with
  |none=>rw [hgd] at hg;exact hg
  |some g=>
    rw [hgd] at hg
    simp only at hg ⊢
    obtain ⟨c,hc,hs⟩:=hg
    exact ⟨c,by rw [c1r hgd fun y hy=>ha.get y (by unfold It.reads;simp [hy])];exact hc,hs⟩
 have he:=h.ev
 cases hs:x.skip with
 |true=>rw [hs] at he;simpa using he
 |false=>
   rw [hs] at he
   simp only [yE,if_false] at he ⊢
   by_cases hmo:d0k x.o.op=true
   ·rcases ha.mem hmo with hmm|⟨hst,v,k,o,hee,hkk⟩
    ·refine he.same (fun y hy=>ha.get y (mem_reads hs hy)) (fun hm y hy v hv k hk=>?_) ha.glob (fun hd hm y hy v hv=>ha.inner hd hm v (f1w h.rv (mem_reads hs hy) hv))
     exact hmm v (f1w h.rv (mem_reads hs hy) hv) k hk
    exact he.sameS hst (fun y hy=>ha.get y (mem_reads hs hy)) hee hkk
   exact he.same (fun y hy=>ha.get y (mem_reads hs hy)) (fun hm=>absurd hm hmo) ha.glob (fun _ hm=>absurd hm hmo)
def l1d (k:Nat):Eff→Prop
 | .sto _ k2 _=>¬k2=k
 |_=>False
def a0l :Eff→Eff→Prop
 | .sto _ k _,.sto _ k2 _=>¬k=k2
 |_,_=>False
theorem a1u {a:Eff} {v:V} {j:Nat} {o:Ob}:¬a0l a (.app v j o):=by
 cases a<;>exact id
theorem e1q {a b:Eff} (h:a0l a b):a0l b a:=by
 unfold a0l at h ⊢
 cases a<;>cases b<;>simp only at h ⊢
 exact fun e=>h e.symm
theorem f2h {a b:Eff} (h:a.mut=false∨b.mut=false∨a0l a b):b.mut=false∨a.mut=false∨a0l b a:=by
 rcases h with h|h|h
 ·exact .inr (.inl h)
 ·exact .inl h
 exact .inr (.inr (e1q h))
def touch (m z:It):Prop:=
 match m.e with
 | .sto _ k _=>z.dp=false∧(d0k z.o.op=true→(∀ v∈z.rv,v.has k=false)∨(o0r z.o.op=true∧l1d k z.e))
 | .app _ j _=>z.dp=false∧(∀ v∈z.rv,v.has j=false∧i2y v=true)∧z.e.free j=true∧(d0k z.o.op=true→∀ v∈z.rv,∀ k∈m.ns,v.has k=false)
 |_=>True
structure Ind (ds:List (Option Tmp)) (x y:It):Prop where
 d1: ∀ n,x.o.dst=some n→n∉tmpsOf (y.reads ds)
 d2: ∀ n,y.o.dst=some n→n∉tmpsOf (x.reads ds)
 d3: ∀ n,x.o.dst=some n→y.o.dst≠some n
 mu:x.e.mut=false∨y.e.mut=false∨a0l x.e y.e
 t1:touch x y
 t2:touch y x
section
variable {P:Program} {ds:List (Option Tmp)} {S S':St} {x y:It}
theorem Go1.fr (h:Go1 P ds S x) {k:Nat} (hf:Fr k S) (hk:k∉x.e.names):x.e.free k=true:=by
 have he:=h.ev
 cases hs:x.skip with
 |true=>rw [hs] at he;simp only [if_true] at he;rw [he];rfl
 |false=>rw [hs] at he;simp only [yE,if_false] at he;exact he.fr hf hk
theorem Go1.glob (h:Go1 P ds S x) (hn: ∀ k∈x.e.names,New k S):Glob S (x.on S)∧Glob (x.on S) S:=by
 have he:=h.ev
 cases hs:x.skip with
 |true=>
   rw [hs] at he;simp only [if_true] at he
   have:(x.on S).mem=S.mem:=by unfold It.on;rw [he];rfl
   exact ⟨fun k o _ _ hk=>by rw [this];exact hk,fun k o _ _ hk=>by rw [this] at hk;exact hk⟩
 |false=>
   rw [hs] at he;simp only [yE,if_false] at he
   exact ⟨fun k o hk hf ho=>(he.low hn hk hf x.o.dst).2 ho,fun k o hk hf ho=>(he.low hn hk hf x.o.dst).1 ho⟩
theorem l0q {n:Nat} (h:x.o.dst≠some n):(x.on S).get (.tmp n)=match x.e with
 | .app _ j _=>(look S.env n).map (V.kill j)
 |_=>look S.env n:=by
 unfold It.on
 cases x.e with
 |val v=>exact c0q h
 |new v ms=>exact c0q h
 |app v j o=>simp only [St.get,Eff.on];rw [c0q h,c0n]
 |sto v k o=>exact c0q h
theorem l1g (hx:Go1 P ds S x) (hy:Go1 P ds (x.on S) y) (hn: ∀ k∈x.e.names,New k S) (hd: ∀ n,x.o.dst=some n→n∉tmpsOf (y.reads ds)) (ht:touch x y) (hm:x.e.mut=false∨y.e.mut=false∨a0l x.e y.e):Agree ds (x.on S) S y:=by
 have hget: ∀ z∈y.reads ds,S.get z=(x.on S).get z:=by
  intro z hz
  cases z with
  |const c=>rfl
  |func f=>rfl
  | «global» g=>rfl
  |tmp n=>
    have hne:x.o.dst≠some n:=fun e=>hd n e (m1c hz)
    have h1:=l0q (S:=S) hne
    rw [h1]
    unfold touch at ht
    cases he:x.e with
    |app v j o=>
      rw [he] at ht h1
      simp only at ht h1 ⊢
      show look S.env n=_
      cases hu':look S.env n with
      |none=>rfl
      |some u'=>
        have hu:=f1w hy.rv hz (v:=u'.kill j) (by rw [h1,hu'];rfl)
        rw [yR,o1w (ht.2.1 _ hu).2]
    |val v=>rfl
    |new v ms=>rfl
    |sto v k o=>rfl
 refine ⟨hget,fun hmo=>?_,fun v j o hye k ob hk hkj hob=>?_,(hx.glob hn).2,fun hdp hmo v hv k hk o ho j hj=>?_⟩
 ·rcases (show ((∃ u k0 o,x.e=.sto u k0 o)∨∀ u k0 o,x.e≠.sto u k0 o) from by cases x.e<;>first|exact .inl ⟨_,_,_,rfl⟩|exact .inr (fun _ _ _ h=>by cases h)) with ⟨u,k0,o,he⟩|hns
  ·unfold touch at ht
   rw [he] at ht
   simp only at ht
   rcases ht.2 hmo with h3|⟨h3,h4⟩
   ·left
    intro v hv k hk
    have hkj:k≠k0:=by intro e2;subst e2;rw [h3 v hv] at hk;cases hk
    unfold It.on
    rw [he]
    simp only [Eff.on]
    rw [Fz,if_neg hkj]
   right
   refine ⟨h3,?_⟩
   unfold l1d at h4
   cases hye:y.e<;>rw [hye] at h4<;>try (exact absurd h4 id)
   refine ⟨_,_,_,rfl,?_⟩
   unfold It.on
   rw [he]
   simp only [Eff.on]
   rw [Fz,if_neg h4]
  left
  intro v hv k hk
  obtain ⟨z,hz,e⟩:=c2z hy.rv hv
  rw [←hget z hz] at e
  unfold touch at ht
  unfold It.on
  cases he:x.e with
  |val u=>rfl
  |new u ms=>
    have h0:look ms k=none:=Pz fun hin=>by
     have:=(hn k (by rw [he];exact hin)).1
     rw [Yy this e] at hk;cases hk
    simp only [Eff.on]
    rw [Dj,h0];rfl
  |app u j o=>
    rw [he] at ht
    simp only at ht
    have hkj:k≠j:=by intro e2;subst e2;rw [(ht.2.1 v hv).1] at hk;cases hk
    simp only [Eff.on,look,if_neg hkj]
    rw [Iq,if_neg hkj]
    cases ho:look S.mem k with
    |none=>rfl
    |some ob=>
      have h2:ob.has j=false:=by
       cases hob:ob.has j with
       |false=>rfl
       |true=>
         have:=hx.ns u j o he k ob ho hkj hob
         rw [ht.2.2.2 hmo v hv k this] at hk;cases hk
      simp only [yR]
      rw [map_id' fun l hl=>j0r (by simp only [Ob.has,xC] at h2;simpa using h2 l hl)]
  |sto u k0 o=>exact absurd he (hns u k0 o)
 ·refine hy.ns v j o hye k ob ?_ hkj hob
  have hxm:x.e.mut=false:=by
   rcases hm with h|h|h
   ·exact h
   ·rw [hye] at h;cases h
   rw [hye] at h;exact absurd h a1u
  unfold It.on
  cases he:x.e with
  |val u=>exact hk
  |new u ms=>
    have h0:look ms k=none:=Pz fun hin=>by
     have:=(hn k (by rw [he];exact hin)).2
     rw [hk] at this;cases this
    simp only [Eff.on]
    rw [Dj,h0];exact hk
  |app u j o=>rw [he] at hxm;cases hxm
  |sto u k0 o=>rw [he] at hxm;cases hxm
 obtain ⟨z,hz,e⟩:=c2z hy.rv hv
 rw [←hget z hz] at e
 unfold touch at ht
 unfold It.on at ho ⊢
 cases he:x.e with
 |val u=>rfl
 |new u ms=>
   rw [he] at ho
   simp only [Eff.on] at ho ⊢
   have h0:look ms k=none:=Pz fun hin=>by
    have:=(hn k (by rw [he];exact hin)).1
    rw [Yy this e] at hk;cases hk
   rw [Dj,h0,Option.none_or] at ho
   have h1:look ms j=none:=Pz fun hin=>by
    have:=(hn j (by rw [he];exact hin)).1.2.1 k o ho
    rw [this] at hj;cases hj
   rw [Dj,h1];rfl
 |app u j2 o2=>rw [he] at ht;rw [ht.1] at hdp;cases hdp
 |sto u k0 o2=>rw [he] at ht;rw [ht.1] at hdp;cases hdp
theorem z1y (hx:Go1 P ds S x) (hy:Go1 P ds S y) (hn: ∀ k∈x.e.names,New k S) (hd: ∀ n,x.o.dst=some n→n∉tmpsOf (y.reads ds)) (ht:touch x y) (hm:x.e.mut=false∨y.e.mut=false∨a0l x.e y.e) (hfree: ∀ v j o,y.e=.app v j o→x.e.free j=true):Agree ds S (x.on S) y:=by
 have hv': ∀ v∈y.rv,∃ z∈y.reads ds,S.get z=some v:=fun v hv=>c2z hy.rv hv
 refine ⟨fun z hz=>?_,fun hmo=>?_,fun v j o hye k ob hk hkj hob=>?_,(hx.glob hn).1,fun hdp hmo v hv k hk o ho j hj=>?_⟩
 ·cases z with
  |const c=>rfl
  |func f=>rfl
  | «global» g=>rfl
  |tmp n=>
    have hne:x.o.dst≠some n:=fun e=>hd n e (m1c hz)
    rw [l0q (S:=S) hne]
    unfold touch at ht
    cases he:x.e with
    |app v j o=>
      rw [he] at ht
      simp only at ht ⊢
      show _=look S.env n
      cases hu':look S.env n with
      |none=>rfl
      |some u=>
        have hu:=f1w hy.rv hz (v:=u) hu'
        rw [yR,V.kill_id (ht.2.1 u hu).1]
    |val v=>rfl
    |new v ms=>rfl
    |sto v k o=>rfl
 ·rcases (show ((∃ u k0 o,x.e=.sto u k0 o)∨∀ u k0 o,x.e≠.sto u k0 o) from by cases x.e<;>first|exact .inl ⟨_,_,_,rfl⟩|exact .inr (fun _ _ _ h=>by cases h)) with ⟨u,k0,o,he⟩|hns
  ·unfold touch at ht
   rw [he] at ht
   simp only at ht
   rcases ht.2 hmo with h3|⟨h3,h4⟩
   ·left
    intro v hv k hk
    have hkj:k≠k0:=by intro e2;subst e2;rw [h3 v hv] at hk;cases hk
    unfold It.on
    rw [he]
    simp only [Eff.on]
    rw [Fz,if_neg hkj]
   right
   refine ⟨h3,?_⟩
   unfold l1d at h4
   cases hye:y.e<;>rw [hye] at h4<;>try (exact absurd h4 id)
   refine ⟨_,_,_,rfl,?_⟩
   unfold It.on
   rw [he]
   simp only [Eff.on]
   rw [Fz,if_neg h4]
  left
  intro v hv k hk
  obtain ⟨z,hz,e⟩:=hv' v hv
  unfold touch at ht
  unfold It.on
  cases he:x.e with
  |val u=>rfl
  |new u ms=>
    have h0:look ms k=none:=Pz fun hin=>by
     have:=(hn k (by rw [he];exact hin)).1
     rw [Yy this e] at hk;cases hk
    simp only [Eff.on]
    rw [Dj,h0];rfl
  |app u j o=>
    rw [he] at ht
    simp only at ht
    have hkj:k≠j:=by intro e2;subst e2;rw [(ht.2.1 v hv).1] at hk;cases hk
    simp only [Eff.on,look,if_neg hkj]
    rw [Iq,if_neg hkj]
    cases ho:look S.mem k with
    |none=>rfl
    |some ob=>
      have h2:ob.has j=false:=by
       cases hob:ob.has j with
       |false=>rfl
       |true=>
         have:=hx.ns u j o he k ob ho hkj hob
         rw [ht.2.2.2 hmo v hv k this] at hk;cases hk
      simp only [yR]
      rw [map_id' fun l hl=>j0r (by simp only [Ob.has,xC] at h2;simpa using h2 l hl)]
  |sto u k0 o=>exact absurd he (hns u k0 o)
 ·have hxm:x.e.mut=false:=by
   rcases hm with h|h|h
   ·exact h
   ·rw [hye] at h;cases h
   rw [hye] at h;exact absurd h a1u
  have hfr:=hfree v j o hye
  unfold It.on at hk
  cases he:x.e with
  |val u=>rw [he] at hk;exact hy.ns v j o hye k ob hk hkj hob
  |new u ms=>
    rw [he] at hk hfr
    simp only [Eff.on] at hk
    rw [Dj] at hk
    cases hl:look ms k with
    |none=>rw [hl] at hk;exact hy.ns v j o hye k ob hk hkj hob
    |some ob'=>
      rw [hl] at hk
      simp only [Option.some_or,Option.some.injEq] at hk
      subst hk
      simp only [Eff.free,yD,yJ] at hfr
      have hin:(k,ob')∈ms:=by
       clear hfr hob he
       induction ms with
       |nil=>cases hl
       |cons m r ih=>
         simp only [look] at hl
         split at hl
         ·rename_i e;cases hl;subst e;simp
         exact List.mem_cons_of_mem _ (ih hl)
      have:=hfr.2 _ hin
      simp only [hob] at this;cases this
  |app u j o=>rw [he] at hxm;cases hxm
  |sto u k0 o=>rw [he] at hxm;cases hxm
 obtain ⟨z,hz,e⟩:=hv' v hv
 unfold touch at ht
 unfold It.on
 cases he:x.e with
 |val u=>rfl
 |new u ms=>
   simp only [Eff.on]
   have h1:look ms j=none:=Pz fun hin=>by
    have:=(hn j (by rw [he];exact hin)).1.2.1 k o ho
    rw [this] at hj;cases hj
   rw [Dj,h1];rfl
 |app u j2 o2=>rw [he] at ht;rw [ht.1] at hdp;cases hdp
 |sto u k0 o2=>rw [he] at ht;rw [ht.1] at hdp;cases hdp
theorem Qv {n:Nat}:look (x.on S).env n=if x.o.dst=some n then (match x.e with| .val v=>some v| .new v _=>some v| .app v _ _=>some v| .sto v _ _=>some v) else (match x.e with
 | .app _ j _=>(look S.env n).map (V.kill j)
 |_=>look S.env n):=by
 by_cases h:x.o.dst=some n
 ·rw [if_pos h]
  unfold It.on
  rw [h]
  cases x.e<;>exact b0v
 rw [if_neg h]
 have:=l0q (S:=S) h
 simp only [St.get] at this
 exact this
theorem e2t (hd: ∀ n,x.o.dst=some n→y.o.dst≠some n) (hm:x.e.mut=false∨y.e.mut=false∨a0l x.e y.e) (h1: ∀ k∈x.e.names,y.e.free k=true∧k∉y.e.names) (h2: ∀ k∈y.e.names,x.e.free k=true∧k∉x.e.names) (t1: ∀ v j o,x.e=.app v j o→y.e.free j=true) (t2: ∀ v j o,y.e=.app v j o→x.e.free j=true):Eqv (x.on (y.on S)) (y.on (x.on S)):=by
 have key: ∀ {x y:It} (hd: ∀ n,x.o.dst=some n→y.o.dst≠some n) (hm:y.e.mut=false) (h1: ∀ k∈x.e.names,y.e.free k=true∧k∉y.e.names) (h2: ∀ k∈y.e.names,x.e.free k=true∧k∉x.e.names) (t1: ∀ v j o,x.e=.app v j o→y.e.free j=true),Eqv (x.on (y.on S)) (y.on (x.on S)):=by
  intro x y hd hm h1 h2 t1
  constructor
  ·intro n
   rw [Qv,Qv,Qv,Qv]
   by_cases hx:x.o.dst=some n
   ·have hy:=hd n hx
    simp only [if_neg hy,if_pos hx]
    cases he:y.e<;>first|rfl|(rw [he] at hm;cases hm)
   by_cases hy:y.o.dst=some n
   ·simp only [if_pos hy,if_neg hx]
    cases he:x.e with
    |app v j o=>
      have:=t1 v j o he
      cases hye:y.e with
      |val u=>rw [hye] at this;simp only [Eff.free,yX] at this;simp only [yR];rw [V.kill_id this]
      |new u ms=>rw [hye] at this;simp only [Eff.free,yD,yX] at this;simp only [yR];rw [V.kill_id this.1]
      |app=>rw [hye] at hm;cases hm
      |sto=>rw [hye] at hm;cases hm
    |val v=>rfl
    |new v ms=>rfl
    |sto v k o=>rfl
   simp only [if_neg hx,if_neg hy]
   cases hye:y.e<;>first|rfl|(rw [hye] at hm;cases hm)
  intro k
  unfold It.on
  cases hye:y.e with
  |val u=>
    cases x.e<;>rfl
  |new u ms=>
    rw [hye] at h1 h2 t1
    have hms: ∀ j,j∉ms.map (·.1)→look ms j=none:=fun j hj=>Pz hj
    cases he:x.e with
    |val v=>rfl
    |new v ns=>
      rw [he] at h1 h2
      simp only [Eff.on]
      rw [Dj,Dj,Dj,Dj]
      by_cases hk:k∈ns.map (·.1)
      ·rw [hms k (h1 k hk).2,Option.none_or,Option.none_or]
      rw [Pz (l:=ns) hk,Option.none_or,Option.none_or]
    |app v j o=>
      rw [he] at h1 h2
      have hfr:=t1 v j o he
      simp only [Eff.free,yD,yJ] at hfr
      have hj:look ms j=none:=hms j fun hin=>by
       have:=(h2 j hin).1
       simp [Eff.free] at this
      simp only [Eff.on]
      rw [Dj]
      simp only [look]
      by_cases hkj:k=j
      ·subst hkj
       rw [if_pos rfl,if_pos rfl,hj];rfl
      rw [if_neg hkj,if_neg hkj,Iq,if_neg hkj,Iq,if_neg hkj,Dj]
      cases hl:look ms k with
      |none=>rfl
      |some ob=>
        have hin:(k,ob)∈ms:=by
         clear hfr h1 h2 t1 hms hj hye
         induction ms with
         |nil=>cases hl
         |cons m r ih=>
           simp only [look] at hl
           split at hl
           ·rename_i e;cases hl;subst e;simp
           exact List.mem_cons_of_mem _ (ih hl)
        have h3:=hfr.2 _ hin
        simp only [yX,Ob.has,xC] at h3
        simp only [Option.some_or,yR]
        rw [map_id' fun l hl=>j0r (by simpa using h3 l hl)]
    |sto v k0 o=>
      rw [he] at h1 h2
      have hj:look ms k0=none:=hms k0 fun hin=>by
       have:=(h2 k0 hin).1
       simp [Eff.free] at this
      simp only [Eff.on]
      rw [Dj,Fz,Fz]
      by_cases hkj:k=k0
      ·subst hkj
       rw [if_pos rfl,if_pos rfl,Dj,hj];rfl
      rw [if_neg hkj,if_neg hkj,Dj]
  |app=>rw [hye] at hm;cases hm
  |sto=>rw [hye] at hm;cases hm
 rcases hm with h|h|h
 ·exact (key (x:=y) (y:=x) (fun n e1 e2=>hd n e2 e1) h h2 h1 t2).symm
 ·exact key hd h h1 h2 t1
 unfold a0l at h
 cases hx:x.e<;>rw [hx] at h<;>try (exact absurd h id)
 rename_i v1 k1 o1
 cases hy:y.e<;>rw [hy] at h<;>try (exact absurd h id)
 rename_i v2 k2 o2
 have h:¬k1=k2:=h
 constructor
 ·intro n
  rw [Qv,Qv,Qv,Qv,hx,hy]
  by_cases h3:x.o.dst=some n
  ·simp only [if_neg (hd n h3),if_pos h3]
  by_cases h4:y.o.dst=some n
  ·simp only [if_pos h4,if_neg h3]
  simp only [if_neg h3,if_neg h4]
 intro k
 unfold It.on
 rw [hx,hy]
 simp only [Eff.on]
 have h':¬k2=k1:=fun e=>h e.symm
 simp only [Fz]
 by_cases h3:k=k1
 ·subst h3
  simp [h]
 by_cases h4:k=k2
 ·subst h4
  simp [h3]
 simp [h3,h4]
theorem swap (hx:Go1 P ds S x) (hy:Go1 P ds (x.on S) y) (hi:Ind ds x y) (hnx: ∀ k∈x.e.names,New k S) (hny: ∀ k∈y.e.names,New k S) (hxy: ∀ k∈x.e.names,k∉y.e.names):
 Go1 P ds S y∧Go1 P ds (y.on S) x∧Eqv (x.on (y.on S)) (y.on (x.on S)):=by
 have hyS:Go1 P ds S y:=hy.same (l1g hx hy hnx hi.d1 hi.t1 hi.mu)
 have hf1: ∀ v j o,x.e=.app v j o→y.e.free j=true:=fun v j o e=>by
  have:=hi.t1;unfold touch at this;rw [e] at this;exact this.2.2.1
 have hf2: ∀ v j o,y.e=.app v j o→x.e.free j=true:=fun v j o e=>by
  have:=hi.t2;unfold touch at this;rw [e] at this;exact this.2.2.1
 have hyx: ∀ k∈y.e.names,k∉x.e.names:=fun k h1 h2=>hxy k h2 h1
 refine ⟨hyS,hx.same (z1y hyS hx hny hi.d2 hi.t2 (f2h hi.mu) hf1),e2t hi.d3 hi.mu (fun k hk=>⟨hyS.fr (hnx k hk).1 (hxy k hk),hxy k hk⟩) (fun k hk=>⟨hx.fr (hny k hk).1 (hyx k hk),hyx k hk⟩) hf1 hf2⟩
end
end Go.Sy
namespace Go.Sy
def OKs (P:Program) (ds:List (Option Tmp)):List It→St→Prop
 | [],_=>True
 |x::r,S=>Go1 P ds S x∧OKs P ds r (x.on S)
def fin :List It→St→St
 | [],S=>S
 |x::r,S=>fin r (x.on S)
def f0w (l:List It) (S:St):Prop:=∀ x∈l,∀ k∈x.e.names,New k S
section
variable {P:Program} {ds:List (Option Tmp)} {S S':St}
theorem Go1.eqv {x:It} (h:Go1 P ds S x) (he:Eqv S S'):Go1 P ds S' x:=
 h.same ⟨fun y _=>he.get y,fun _=>.inl fun _ _ k _=>he.mem k,fun v j o hx k ob hk=>h.ns v j o hx k ob (by rw [←he.mem];exact hk),fun k o _ _ hk=>by rw [he.mem];exact hk,fun _ _ _ _ _ _ _ _ j _=>he.mem j⟩
theorem OKs.eqv : ∀ {l:List It} {S S':St},OKs P ds l S→Eqv S S'→OKs P ds l S'∧Eqv (fin l S) (fin l S')
 | [],_,_,_,he=>⟨trivial,he⟩
 |x::r,S,S',h,he=>by
   have h2:=OKs.eqv (l:=r) h.2 (s0w he x.e x.o.dst)
   exact ⟨⟨h.1.eqv he,h2.1⟩,h2.2⟩
theorem h0f {k j:Nat} {v:V} (h:v.has k=false):(v.kill j).has k=false:=by
 have hl: ∀ l:L,l.has k=false→(Uq j l).has k=false:=by
  intro l h
  unfold Uq
  split
  ·rfl
  exact h
 have hw: ∀ x:W,x.has k=false→(x.kill j).has k=false:=by
  intro x h
  cases x with
  |one l=>exact hl l h
  |agg cs=>
    simp only [W.has,xC] at h
    simp only [W.kill,W.has,xC,xG]
    rintro l ⟨l',hl',rfl⟩
    simpa using hl l' (by simpa using h l' hl')
 cases v with
 |w x=>exact hw x h
 |tup xs=>
   simp only [V.has,xC] at h
   simp only [V.kill,V.has,xC,xG]
   rintro l ⟨l',hl',rfl⟩
   simpa using hw l' (by simpa using h l' hl')
 |any=>rfl
theorem New.on {k:Nat} {x:It} (h:New k S) (hf:x.e.free k=true) (hk:k∉x.e.names):New k (x.on S):=by
 have henv: ∀ n v,look (x.on S).env n=some v→v.has k=false:=by
  intro n v hv
  rw [Qv] at hv
  split at hv
  ·cases he:x.e with
   |val u=>rw [he] at hv hf;cases hv;simpa [Eff.free] using hf
   |new u ms=>rw [he] at hv hf;cases hv;simp only [Eff.free,yD,yX] at hf;exact hf.1
   |app u j o=>rw [he] at hv hf;cases hv;simp only [Eff.free,yD,yX] at hf;exact hf.1.1
   |sto u j o=>rw [he] at hv hf;cases hv;simp only [Eff.free,yD,yX] at hf;exact hf.1.1
  cases he:x.e with
  |app u j o=>
    rw [he] at hv
    obtain ⟨u',hu',rfl⟩:=yM.mp hv
    exact h0f (h.1.1 _ _ hu')
  |val u=>rw [he] at hv;exact h.1.1 _ _ hv
  |new u ms=>rw [he] at hv;exact h.1.1 _ _ hv
  |sto u j o=>rw [he] at hv;exact h.1.1 _ _ hv
 unfold It.on at*
 cases he:x.e with
 |val u=>rw [he] at henv;exact ⟨⟨henv,h.1.2⟩,h.2⟩
 |new u ms=>
   rw [he] at henv hf hk
   simp only [Eff.free,yD,yJ] at hf
   have h0:look ms k=none:=Pz hk
   refine ⟨⟨henv,fun n o ho=>?_,h.1.2.2⟩,?_⟩
   ·simp only [Eff.on] at ho
    rw [Dj] at ho
    cases hl:look ms n with
    |none=>rw [hl] at ho;exact h.1.2.1 _ _ ho
    |some ob=>
      rw [hl] at ho
      simp only [Option.some_or,Option.some.injEq] at ho
      subst ho
      have hin:(n,ob)∈ms:=by
       clear hf henv he hk h0
       induction ms with
       |nil=>cases hl
       |cons m r ih=>
         simp only [look] at hl
         split at hl
         ·rename_i e;cases hl;subst e;simp
         exact List.mem_cons_of_mem _ (ih hl)
      simpa using hf.2 _ hin
   simp only [Eff.on];rw [Dj,h0];exact h.2
 |app u j o=>
   rw [he] at henv hf
   simp only [Eff.free,yD,yX,bne_iff_ne] at hf
   refine ⟨⟨henv,fun n ob ho=>?_,h.1.2.2⟩,?_⟩
   ·simp only [Eff.on,look] at ho
    split at ho
    ·cases ho;exact hf.1.2
    rw [Iq] at ho
    split at ho
    ·cases ho
    obtain ⟨ob',ho',rfl⟩:=yM.mp ho
    have:=h.1.2.1 _ _ ho'
    have hv:=h0f (k:=k) (j:=j) (v:=.w (.agg ob'.cells)) this
    exact hv
   simp only [Eff.on,look]
   rw [if_neg hf.2,Iq,if_neg hf.2,h.2];rfl
 |sto u j o=>
   rw [he] at henv hf
   simp only [Eff.free,yD,yX,bne_iff_ne] at hf
   refine ⟨⟨henv,fun n ob ho=>?_,h.1.2.2⟩,?_⟩
   ·simp only [Eff.on] at ho
    rw [Fz] at ho
    split at ho
    ·obtain ⟨ob',ho',rfl⟩:=yM.mp ho
     exact hf.1.2
    exact h.1.2.1 _ _ ho
   simp only [Eff.on];rw [Fz,if_neg hf.2];exact h.2
def Py :List It→Prop
 | []=>True
 |x::r=>(∀ y∈r,∀ k∈x.e.names,k∉y.e.names)∧x.e.names.Nodup∧Py r
theorem f0w.on {x:It} {r:List It} (h:f0w r S) (hx:Go1 P ds S x) (hd: ∀ y∈r,∀ k∈y.e.names,k∉x.e.names):f0w r (x.on S):=
 fun y hy k hk=>(h y hy k hk).on (hx.fr (h y hy k hk).1 (hd y hy k hk)) (hd y hy k hk)
theorem bubble : ∀ {ys:List It} {i:It} {r:List It} {S:St},OKs P ds (ys++i::r) S→f0w (ys++i::r) S→Py (ys++i::r)→(∀ y∈ys,Ind ds y i)→
 Go1 P ds S i∧OKs P ds (ys++r) (i.on S)∧Eqv (fin (ys++i::r) S) (fin (ys++r) (i.on S))
 | [],i,r,S,h,_,_,_=>⟨h.1,h.2,Eqv.rfl' _⟩
 |y::ys,i,r,S,h,hn,hd,hi=>by
   have hny: ∀ k∈y.e.names,New k S:=fun k hk=>hn y (by simp) k hk
   have hnr:f0w (ys++i::r) S:=fun x hx=>hn x (by simp only [yB,xK];exact .inr hx)
   have hap: ∀ x∈ys++i::r,∀ k∈x.e.names,k∉y.e.names:=fun x hx k hk hk2=>hd.1 x hx k hk2 hk
   obtain ⟨h1,h2,h3⟩:=bubble (ys:=ys) h.2 (hnr.on h.1 hap) hd.2.2 (fun z hz=>hi z (by simp [hz]))
   obtain ⟨g1,g2,g3⟩:=swap h.1 h1 (hi y (by simp)) hny (fun k hk=>hn i (by simp) k hk) (fun k hk hk2=>hap i (by simp) k hk2 hk)
   obtain ⟨h4,h5⟩:=h2.eqv g3.symm
   refine ⟨g1,⟨g2,?_⟩,?_⟩
   ·exact h4
   exact h3.trans h5
end
end Go.Sy
namespace Go.Sy
theorem g0k {α:Type} {l:Array α} {i j:Nat} {v d:α} (hi:i<l.size):(l.setIfInBounds i v).getD j d=if j=i then v else l.getD j d:=by
 simp only [xZ,Array.getElem?_setIfInBounds]
 by_cases h:j=i
 ·subst h;simp [hi]
 rw [if_neg h,if_neg (fun e=>h e.symm)]
section
variable {P:Program} {B:Base} {ops:Array Oper} {ds:List (Option Tmp)} {bef:Nat→Nat→Prop}
structure Rest (P:Program) (B:Base) (ops:Array Oper) (ds:List (Option Tmp)) (bef:Nat→Nat→Prop) (listed:Array Bool) (R:List (Nat×It)) (S:St):Prop where
 size:listed.size=ops.size
 at_: ∀ p∈R,ops[p.1]? =some p.2.o
 open_: ∀ i,(i∈R.map (·.1)↔i<ops.size∧listed.getD i true=false)
 ord:R.Pairwise fun p q=>p.1<q.1∧(bef q.1 p.1∨Ind ds p.2 q.2)
 ok:OKs P ds (R.map (·.2)) S
 new:f0w (R.map (·.2)) S
 apart:Py (R.map (·.2))
 dst: ∀ p∈R,∀ n,p.2.o.dst=some n→n<B.nt
 closed: ∀ i o,ops[i]? =some o→listed.getD i true=true→i<ops.size→∀ e∈o.after,Region.binds .any e=true→listed.getD e.on false=true
theorem Py.drop : ∀ {ys:List It} {i:It} {r:List It},Py (ys++i::r)→Py (ys++r)
 | [],_,_,h=>h.2.2
 |y::ys,i,r,h=>⟨fun z hz k hk=>h.1 z (wX.mpr ((wX.mp hz).imp id (List.mem_cons_of_mem _))) k hk,h.2.1,Py.drop h.2.2⟩
theorem r0a : ∀ {ys:List It} {i:It} {r:List It},Py (ys++i::r)→∀ y∈ys++r,∀ k∈y.e.names,k∉i.e.names
 | [],i,r,h,y,hy,k,hk=>fun hki=>h.1 y hy k hki hk
 |z::ys,i,r,h,y,hy,k,hk=>by
   rcases xK.mp hy with rfl|hy
   ·exact fun hki=>h.1 i (by simp) k hk hki
   exact r0a h.2.2 y hy k hk
theorem any_ok {K:St→Prop} {Q:Exit→Act→World→Prop} (hds:ds=ops.toList.map (·.dst)) (hback: ∀ i o,ops[i]? =some o→∀ e∈o.after,Region.binds .any e=true→e.on<i)
 (hbef: ∀ i o,ops[i]? =some o→∀ x,bef i x→∃ e∈o.after,Region.binds .any e=true∧(e.on=x∨bef e.on x))
 (hK: ∀ S d a w,K S→Sim B d S a w→Q .normal a w):
 ∀ (fuel:Nat) (listed:Array Bool) (R:List (Nat×It)) (S:St) d a w,R.length≤fuel→Rest P B ops ds bef listed R S→(∀ S',Eqv (fin (R.map (·.2)) S) S'→K S')→Sim B d S a w→wpAny P .any ops Q fuel listed a w:=by
 have hclosed: ∀ (listed:Array Bool),listed.size=ops.size→(∀ i o,ops[i]? =some o→listed.getD i true=true→i<ops.size→∀ e∈o.after,Region.binds .any e=true→listed.getD e.on false=true)→
  ∀ n i o,i≤n→ops[i]? =some o→(∀ e∈o.after,Region.binds .any e=true→listed.getD e.on false=true)→∀ x,bef i x→listed.getD x false=true:=by
  intro listed hsz hcl n
  induction n with
  |zero=>
    intro i o hi ho hp x hx
    obtain ⟨e,he,hb,h⟩:=hbef i o ho x hx
    have:=hback i o ho e he hb;omega
  |succ n ih=>
    intro i o hi ho hp x hx
    obtain ⟨e,he,hb,h⟩:=hbef i o ho x hx
    have hlt:=hback i o ho e he hb
    have hl:=hp e he hb
    rcases h with rfl|h
    ·exact hl
    have hes:e.on<ops.size:=by
     have:=(Array.getElem?_eq_some_iff.mp ho).1;omega
    obtain ⟨o',ho'⟩: ∃ o',ops[e.on]? =some o':=⟨_,wW hes⟩
    refine ih e.on o' (by omega) ho' (hcl e.on o' ho' ?_ hes) x h
    rw [xZ] at hl ⊢
    have:e.on<listed.size:=by omega
    rw [wW this] at hl ⊢;simpa using hl
 have ready_mem: ∀ (listed:Array Bool) (i:Nat),i∈Region.ready .any ops listed↔i<ops.size∧listed.getD i true=false∧∀ o,ops[i]? =some o→∀ e∈o.after,Region.binds .any e=true→listed.getD e.on false=true:=by
  intro listed i
  unfold Region.ready
  simp only [List.mem_filter,List.mem_range,yD,yX]
  constructor
  ·rintro ⟨h1,h2,h3⟩
   refine ⟨h1,h2,fun o ho e he hb=>?_⟩
   rw [ho] at h3
   simp only [yR,Option.getD_some,Array.all_eq_true'] at h3
   have:=h3 e he
   simpa [hb] using this
  rintro ⟨h1,h2,h3⟩
  refine ⟨h1,h2,?_⟩
  have ho:=wW h1
  rw [ho]
  simp only [yR,Option.getD_some,Array.all_eq_true']
  intro e he
  cases hb:Region.binds .any e with
  |false=>rfl
  |true=>simpa using h3 _ ho e he hb
 intro fuel
 induction fuel with
 |zero=>
   intro listed R S d a w hlen hR hfin hs
   have:R=[]:=xH (by omega)
   subst this
   refine ⟨?_,hK _ _ _ _ (hfin S (Eqv.rfl' _)) hs⟩
   refine List.eq_nil_iff_forall_not_mem.mpr fun i hi=>?_
   obtain ⟨h1,h2,_⟩:=(ready_mem listed i).mp hi
   have:=(hR.open_ i).mpr ⟨h1,h2⟩
   cases this
 |succ fuel ih=>
   intro listed R S d a w hlen hR hfin hs
   refine ⟨fun hnil=>?_,fun i hi=>?_⟩
   ·cases R with
    |nil=>exact hK _ _ _ _ (hfin S (Eqv.rfl' _)) hs
    |cons p r=>
      exfalso
      obtain ⟨h1,h2⟩:=(hR.open_ p.1).mp (by simp)
      have:p.1∈Region.ready .any ops listed:=by
       refine (ready_mem listed p.1).mpr ⟨h1,h2,fun o ho e he hb=>?_⟩
       have hlt:=hback p.1 o ho e he hb
       cases hl:listed.getD e.on false with
       |true=>rfl
       |false=>
         exfalso
         have hes:e.on<listed.size:=by rw [hR.size];omega
         have:listed.getD e.on true=false:=by
          rw [xZ,wW hes] at hl ⊢;simpa using hl
         have hin:=(hR.open_ e.on).mpr ⟨by omega,this⟩
         simp only [yL,xK,xG] at hin
         have hord:=List.pairwise_cons.mp hR.ord
         rcases hin with hin|⟨q,hq,hin⟩
         ·omega
         have:=(hord.1 q hq).1;omega
      rw [hnil] at this;cases this
   obtain ⟨h1,h2,h3⟩:=(ready_mem listed i).mp hi
   have hin:=(hR.open_ i).mpr ⟨h1,h2⟩
   obtain ⟨⟨i',x⟩,hx,e⟩:=xG.mp hin
   simp only at e;subst e
   obtain ⟨ys,r,rfl⟩:=List.append_of_mem hx
   have hox:ops[i']? =some x.o:=hR.at_ _ hx
   have hord:=List.pairwise_append.mp hR.ord
   have hordi:=List.pairwise_cons.mp hord.2.1
   have hind: ∀ y∈ys.map (·.2),Ind ds y x:=by
    intro y hy
    obtain ⟨⟨j,y'⟩,hj,rfl⟩:=xG.mp hy
    have hp:=hord.2.2 _ hj (i',x) (by simp)
    rcases hp.2 with hb|hb
    ·exfalso
     have hl:=hclosed listed hR.size hR.closed i' i' x.o (xL _) hox (h3 x.o hox) j hb
     have hopen:=(hR.open_ j).mp (by simp only [xQ,wX,xG];exact .inl ⟨_,hj,rfl⟩)
     have hes:j<listed.size:=by rw [hR.size];exact hopen.1
     have h5:=hopen.2
     rw [xZ,wW hes] at hl h5
     simp only [Option.getD_some] at hl h5
     rw [hl] at h5;cases h5
    exact hb
   have hok:=hR.ok
   have hnew:=hR.new
   have hap:=hR.apart
   simp only [xQ,yL] at hok hnew hap
   obtain ⟨g1,g2,g3⟩:=bubble hok hnew hap hind
   have hnx: ∀ k∈x.e.names,New k S:=fun k hk=>hnew x (by simp) k hk
   have hdst: ∀ n,x.o.dst=some n→n<B.nt:=hR.dst _ hx
   have hR':Rest P B ops ds bef (listed.setIfInBounds i' true) (ys++r) (x.on S):=by
    have hi2:i'<listed.size:=by rw [hR.size];exact h1
    have hlt: ∀ p∈ys,p.1<i':=fun p hp=>(hord.2.2 p hp (i',x) (by simp)).1
    have hgt: ∀ p∈r,i'<p.1:=fun p hp=>(hordi.1 p hp).1
    refine ⟨by rw [Array.size_setIfInBounds];exact hR.size,fun p hp=>hR.at_ p ?_,fun j=>?_,?_,?_,?_,?_,fun p hp=>hR.dst p ?_,?_⟩
    ·simp only [wX,xK] at hp ⊢;rcases hp with hp|hp;exact .inl hp;exact .inr (.inr hp)
    ·have hj:=hR.open_ j
     rw [g0k hi2]
     simp only [xQ,yL,wX,xK,xG] at hj ⊢
     by_cases hji:j=i'
     ·subst hji
      rw [if_pos rfl]
      constructor
      ·rintro (⟨p,hp,e⟩|⟨p,hp,e⟩)
       ·have:=hlt p hp;omega
       have:=hgt p hp;omega
      rintro ⟨_,h⟩;cases h
     rw [if_neg hji,←hj]
     constructor
     ·rintro (h|h)
      ·exact .inl h
      exact .inr (.inr h)
     rintro (h|h|h)
     ·exact .inl h
     ·exact absurd h hji
     exact .inr h
    ·exact List.pairwise_append.mpr ⟨hord.1,hordi.2,fun p hp q hq=>hord.2.2 p hp q (by simp [hq])⟩
    ·rw [xQ];exact g2
    ·rw [xQ]
     have hmid:=r0a hap
     refine f0w.on (P:=P) (ds:=ds) (x:=x) (r:=ys.map (·.2)++r.map (·.2)) (S:=S) (fun y hy k hk=>hnew y ?_ k hk) g1 hmid
     simp only [wX,xK] at hy ⊢;rcases hy with hy|hy;exact .inl hy;exact .inr (.inr hy)
    ·rw [xQ];exact hap.drop
    ·simp only [wX,xK] at hp ⊢;rcases hp with hp|hp;exact .inl hp;exact .inr (.inr hp)
    intro j o ho hl hjs e he hb
    rw [g0k hi2] at hl ⊢
    by_cases hei:e.on=i'
    ·rw [if_pos hei]
    rw [if_neg hei]
    by_cases hji:j=i'
    ·subst hji
     rw [hox] at ho;cases ho
     exact h3 _ hox e he hb
    rw [if_neg hji] at hl
    exact hR.closed j o ho hl hjs e he hb
   have hlen':(ys++r).length≤fuel:=by simp at hlen ⊢;omega
   have hgo: ∀ d' a' w',Sim B d' (x.on S) a' w'→wpAny P .any ops Q fuel (listed.setIfInBounds i' true) a' w':=by
    intro d' a' w' hs'
    refine ih _ (ys++r) (x.on S) d' a' w' hlen' hR' (fun S' he=>hfin S' ?_) hs'
    simp only [xQ,yL]
    rw [xQ] at he
    exact g3.trans he
   have hev:=g1.ev
   have hg:=g1.guard
   have run:x.skip=false→x.o.wp P a w (wpAny P .any ops Q fuel (listed.setIfInBounds i' true)) Q:=by
    intro hsk
    rw [hsk] at hev
    simp only [yE,if_false] at hev
    exact hev.run hs hnx hdst _ _ hgo
   have skp:x.skip=true→wpAny P .any ops Q fuel (listed.setIfInBounds i' true) (a.put x.o.dst undef) w:=by
    intro hsk
    rw [hsk] at hev
    simp only [if_true] at hev
    refine hgo d _ _ ?_
    unfold It.on
    rw [hev]
    exact Sim.putE hs (v:=.tup []) (e0m d) hdst
   simp only [wpOp,hox]
   cases hgd:x.o.guard with
   |none=>
     rw [hgd] at hg
     rw [if_pos (by simp [Region.wanted,hgd])]
     exact .inl (run hg)
   |some g=>
     rw [hgd] at hg
     simp only at hg
     obtain ⟨c,hc,hsk⟩:=hg
     have hw:=e0i hs hds hgd hc
     rw [hw]
     by_cases hcg:c=g.2
     ·rw [if_pos (by simp [hcg])]
      exact .inl (run (by rw [hsk,hcg];simp))
     rw [if_neg (by simp [hcg])]
     exact skp (by rw [hsk];simpa using hcg)
end
end Go.Sy
namespace Go.Sy
structure Da where
 e:Eff
 rv:List V
 ns:List Nat
def t1r (e:Eff) (m:List (Nat×Ob)):List Nat:=match e with
 | .app _ j _=>(m.filter fun x=>x.1 !=j&&x.2.has j).map (·.1)
 |_=>[]
def nodupB :List Nat→Bool
 | []=>true
 |x::r=>!r.contains x&&nodupB r
def l1k (names N ns:List Nat):Bool:=ns.all (fun k=>names.contains k&& !N.contains k)&&nodupB ns
def i0k (nt:Nat):Option Tmp→Prop
 |some n=>n<nt
 |none=>True
def l1l (keep:Bool) (ds:List (Option Tmp)) (S:St) (o:Oper) (e:Eff):List Da:=
 bif keep then [⟨e,(gslot ds o++o.op.operands.toList).filterMap S.get,t1r e S.mem⟩] else []
section
variable (P:Program) (nt:Nat) (names:List Nat) (ds:List (Option Tmp)) (keep:Bool)
def onE (o:Oper) (N:List Nat) (D:List Da) (S:St) (k:List Nat→List Da→St→Prop):Option Eff→Prop
 |some e=>l1k names N e.names=true∧i0k nt o.dst∧k (e.names++N) (D++l1l keep ds S o e) (e.on o.dst S)
 |none=>False
def onC (o:Oper) (N:List Nat) (D:List Da) (S:St) (k:List Nat→List Da→St→Prop):Prop:=
 ∃ e,Ev P S o (!keep) e∧l1k names N e.names=true∧i0k nt o.dst∧k (e.names++N) (D++l1l keep ds S o e) (e.on o.dst S)
def onO (o:Oper) (N:List Nat) (D:List Da) (S:St) (k:List Nat→List Da→St→Prop):Prop:=
 if e0a o.op=true then onC P nt names ds keep o N D S k else onE nt names ds keep o N D S k (Jw P S o.dst o.op)
def onG (o:Oper) (g:Nat×Bool) (N:List Nat) (D:List Da) (S:St) (k:List Nat→List Da→St→Prop):Option Bool→Prop
 |some c=>(c=g.2→onO P nt names ds keep o N D S k)∧(c=(!g.2)→i0k nt o.dst∧k N (D++bif keep then [⟨.val (.tup []),(gslot ds o).filterMap S.get,[]⟩] else []) ((Eff.val (.tup [])).on o.dst S))
 |none=>False
def Jk :List Oper→List Nat→List Da→St→(St→List Da→Prop)→Prop
 | [],_,D,S,K=>K S D
 |o::r,N,D,S,K=>match o.guard with
   |none=>onO P nt names ds keep o N D S fun N' D' S'=>Jk r N' D' S' K
   |some g=>onG P nt names ds keep o g N D S (fun N' D' S'=>Jk r N' D' S' K) (b0a S ds g.1 g.2)
end
def p0k :Op→Bool
 | .store .. =>true
 | .call ⟨.builtin .append,_,_⟩=>true
 | .call ⟨.builtin .copy,_,_⟩=>true
 |_=>false
theorem p1i {α:Type}: ∀ {l:List (Nat×α)} {k:Nat} {o:α},look l k=some o→(k,o)∈l
 | [],_,_,h=>by cases h
 |x::r,k,o,h=>by
   simp only [look] at h
   split at h
   ·rename_i e;cases h;subst e;simp
   exact List.mem_cons_of_mem _ (p1i h)
theorem Zq : ∀ {l:List Nat},nodupB l=true→l.Nodup
 | [],_=>List.nodup_nil
 |x::r,h=>by
   simp only [nodupB,yD,yX] at h
   exact List.nodup_cons.mpr ⟨by simpa using h.1,Zq h.2⟩
def It.da (x:It):Da:=⟨x.e,x.rv,x.ns⟩
section
variable {P:Program} {nt:Nat} {names:List Nat} {ds:List (Option Tmp)} {keep:Bool}
structure Items (P:Program) (nt:Nat) (names:List Nat) (ds:List (Option Tmp)) (keep:Bool) (l:List Oper) (N:List Nat) (S:St) (its:List It):Prop where
 ops:its.map (·.o)=l
 ok:OKs P ds its S
 dst: ∀ x∈its,∀ n,x.o.dst=some n→n<nt
 nm: ∀ x∈its,∀ k∈x.e.names,k∈names∧k∉N
 apart:Py its
 mu: ∀ x∈its,x.e.mut=true→p0k x.o.op=true
 dp: ∀ x∈its,x.dp= !keep
theorem Items.cons {o:Oper} {r:List Oper} {N:List Nat} {S:St} {x:It} {its:List It} (hx:Go1 P ds S x) (ho:x.o=o) (hd:i0k nt o.dst) (hn:l1k names N x.e.names=true) (hm:x.e.mut=true→p0k x.o.op=true) (hdp:x.dp= !keep)
 (h:Items P nt names ds keep r (x.e.names++N) (x.on S) its):Items P nt names ds keep (o::r) N S (x::its):=by
 simp only [l1k,yD,yJ,yX] at hn
 refine ⟨by rw [yL,ho,h.ops],⟨hx,h.ok⟩,?_,?_,⟨?_,Zq hn.2,h.apart⟩,?_,fun y hy=>by rcases xK.mp hy with rfl|hy;exact hdp;exact h.dp y hy⟩
 ·intro y hy n hn'
  rcases xK.mp hy with rfl|hy
  ·rw [ho] at hn';rw [hn'] at hd;exact hd
  exact h.dst y hy n hn'
 ·intro y hy k hk
  rcases xK.mp hy with rfl|hy
  ·have:=hn.1 k hk;simpa using this
  have:=h.nm y hy k hk
  exact ⟨this.1,fun h2=>this.2 (by simp [h2])⟩
 ·intro y hy k hk hk2
  exact (h.nm y hy k hk2).2 (by simp [hk])
 intro y hy
 rcases xK.mp hy with rfl|hy
 ·exact hm
 exact h.mu y hy
theorem c0i : ∀ {l:List Oper} {N:List Nat} {D:List Da} {S:St} {K:St→List Da→Prop},Jk P nt names ds keep l N D S K→
 ∃ its,Items P nt names ds keep l N S its∧K (fin its S) (D++bif keep then its.map It.da else [])
 | [],N,D,S,K,h=>⟨[],⟨rfl,trivial,fun x hx=>(by cases hx),fun x hx=>(by cases hx),trivial,fun x hx=>(by cases hx),fun x hx=>(by cases hx)⟩,by simp only [Jk] at h;cases keep<;>simpa [fin] using h⟩
 |o::r,N,D,S,K,h=>by
   unfold Jk at h
   have base:(o.guard=none∨∃ g,o.guard=some g∧b0a S ds g.1 g.2=some g.2)→onO P nt names ds keep o N D S (fun N' D' S'=>Jk P nt names ds keep r N' D' S' K)→
    ∃ its,Items P nt names ds keep (o::r) N S its∧K (fin its S) (D++bif keep then its.map It.da else []):=by
    intro hg h
    have fin1: ∀ e,Ev P S o (!keep) e→l1k names N e.names=true→i0k nt o.dst→Jk P nt names ds keep r (e.names++N) (D++l1l keep ds S o e) (e.on o.dst S) K→
     ∃ its,Items P nt names ds keep (o::r) N S its∧K (fin its S) (D++bif keep then its.map It.da else []):=by
     intro e he hn hd hr
     obtain ⟨its,hi,hK⟩:=c0i hr
     have hgo:Go1 P ds S ⟨o,e,false,!keep,(gslot ds o++o.op.operands.toList).filterMap S.get,t1r e S.mem⟩:=by
      refine ⟨by simp [It.reads],?_,by simpa using he,?_⟩
      ·rcases hg with hg|⟨g,hg,hgv⟩
       ·simp only [hg]
       simp only [hg];exact ⟨g.2,hgv,by simp⟩
      intro v j ob hx k ob' hk hkj hob
      simp only at hx;subst hx
      simp only [t1r,xG,List.mem_filter]
      exact ⟨(k,ob'),⟨p1i hk,by simp [hkj,hob]⟩,rfl⟩
     refine ⟨⟨o,e,false,!keep,(gslot ds o++o.op.operands.toList).filterMap S.get,t1r e S.mem⟩::its,Items.cons hgo rfl hd hn (fun hmu=>?_) rfl hi,?_⟩
     ·have:=he.mut_op hmu
      unfold p0k
      exact this
     cases keep<;>simpa [fin,It.on,l1l,It.da] using hK
    unfold onO at h
    split at h
    ·obtain ⟨e,he,hn,hd,hr⟩:=h
     exact fin1 e he hn hd hr
    cases hev:Jw P S o.dst o.op with
    |none=>rw [hev] at h;exact h.elim
    |some e=>rw [hev] at h;exact fin1 e (.det hev) h.1 h.2.1 h.2.2
   cases hg:o.guard with
   |none=>rw [hg] at h;exact base (.inl hg) h
   |some g=>
     rw [hg] at h
     simp only at h
     cases hgv:b0a S ds g.1 g.2 with
     |none=>rw [hgv] at h;exact h.elim
     |some c=>
       rw [hgv] at h
       by_cases hc:c=g.2
       ·exact base (.inr ⟨g,hg,by rw [hgv,hc]⟩) (h.1 hc)
       have hc':c= !g.2:=by cases c<;>cases hg2:g.2<;>simp_all
       obtain ⟨hd,hr⟩:=h.2 hc'
       obtain ⟨its,hi,hK⟩:=c0i hr
       have hgo:Go1 P ds S ⟨o,.val (.tup []),true,!keep,(gslot ds o).filterMap S.get,[]⟩:=by
        refine ⟨by simp [It.reads],?_,by simp,fun v j ob hx=>(by cases hx)⟩
        simp only [hg];exact ⟨c,hgv,by simpa using hc⟩
       refine ⟨⟨o,.val (.tup []),true,!keep,(gslot ds o).filterMap S.get,[]⟩::its,Items.cons hgo rfl hd rfl (fun hmu=>by cases hmu) rfl hi,?_⟩
       cases keep<;>simpa [fin,It.on,It.da] using hK
end
def j2e (ds:List (Option Tmp)) (x y:Oper):Bool:=
 (match x.dst with
  |some n=>!(tmpsOf (gslot ds y++y.op.operands.toList)).contains n&&y.dst !=some n
  |none=>true)&&
 (match y.dst with
  |some n=>!(tmpsOf (gslot ds x++x.op.operands.toList)).contains n
  |none=>true)
def k0b (ds:List (Option Tmp)) (c:List Nat) (need:List (Nat×Nat)) (l:List Oper):Bool:=
 (List.range l.length).all fun j=>match l[j]? with
  |none=>true
  |some o=>o.after.toList.all (fun e=>!Region.binds .any e||decide (e.on<j))&&
    (List.range j).all fun i=>
     (!(c.getD j 0).testBit i||o.after.toList.any (fun e=>Region.binds .any e&&(e.on==i||(decide (i<e.on)&&(c.getD e.on 0).testBit i))))&&
     ((c.getD j 0).testBit i||match l[i]? with
      |some x=>j2e ds x o&&((!p0k x.op&& !p0k o.op)||need.contains (i,j))
      |none=>true)
def g0y (m:Bool×Bool) (a b:Da):Prop:=
 match a.e with
 | .sto _ k _=>m.1=true→b.rv.all (fun v=>!v.has k)=true∨(m.2=true∧l1d k b.e)
 | .app _ j _=>b.rv.all (fun v=>!v.has j&&i2y v)=true∧b.e.free j=true∧(m.1=true→b.rv.all (fun v=>a.ns.all fun k=>!v.has k)=true)
 |_=>True
def e2e (mx my:Bool×Bool) (a b:Da):Prop:=(a.e.mut=false∨b.e.mut=false∨a0l a.e b.e)∧g0y my a b∧g0y mx b a
def atD (mx my:Option (Bool×Bool)) (a b:Option Da):Prop:=
 match mx,my,a,b with
 |some mx,some my,some a,some b=>e2e mx my a b
 |_,_,_,_=>False
def w0l (l:List Oper) (D:List Da):List (Nat×Nat)→Prop
 | []=>True
 |p::r=>atD (l[p.1]?.map fun o=>(d0k o.op,o0r o.op)) (l[p.2]?.map fun o=>(d0k o.op,o0r o.op)) D[p.1]? D[p.2]? ∧w0l l D r
theorem v0v {l:List Oper} {D:List Da}: ∀ {need:List (Nat×Nat)},w0l l D need→∀ p∈need,atD (l[p.1]?.map fun o=>(d0k o.op,o0r o.op)) (l[p.2]?.map fun o=>(d0k o.op,o0r o.op)) D[p.1]? D[p.2]?
 | [],_,p,hp=>by cases hp
 |q::r,h,p,hp=>by
   rcases xK.mp hp with rfl|hp
   ·exact h.1
   exact v0v h.2 p hp
theorem touch_of {m z:It} (h:g0y (d0k z.o.op,o0r z.o.op) m.da z.da) (hz:z.dp=false):touch m z:=by
 unfold touch
 unfold g0y It.da at h
 cases he:m.e with
 |val v=>trivial
 |new v ms=>trivial
 |sto v k o=>
   rw [he] at h
   simp only [yJ,yX] at h ⊢
   exact ⟨hz,h⟩
 |app v j o=>
   rw [he] at h
   simp only [yJ,yX,yD] at h ⊢
   exact ⟨hz,h⟩
theorem i0v {m z:It} (h:m.e.mut=false):touch m z:=by
 unfold touch
 cases he:m.e<;>first|trivial|(rw [he] at h;cases h)
theorem z1b {P:Program} {B:Base} {l:List Oper} {S:St} {Q:St→Prop} {Q':Exit→Act→World→Prop} (names c:List Nat) (need:List (Nat×Nat)) (hst:k0b (e0g l) c need l=true)
 (hn:names.all (fun k=>fresh k S&&(look S.mem k).isNone)=true) (hq: ∀ S' d' a' w',Q S'→Sim B d' S' a' w'→Q' .normal a' w')
 (h: ∀ K:St→List Da→Prop,(∀ S' D,w0l l D need→Q S'→K S' D)→Jk P B.nt names (e0g l) (!need.isEmpty) l [] [] S K) {d:Va} {a:Act} {w:World} (hs:Sim B d S a w):
 wpAny P .any l.toArray Q' l.toArray.size (Array.replicate l.toArray.size false) a {w with drawn:=w.drawn+1}:=by
 obtain ⟨its,hi,hchk,hQ⟩:=c0i (h (fun S' D=>w0l l D need∧Q S') (fun _ _ h1 h2=>⟨h1,h2⟩))
 have hs2:Sim B d S a {w with drawn:=w.drawn+1}:=hs.drew rfl rfl rfl rfl
 have hget: ∀ i o,l.toArray[i]? =some o→l[i]? =some o:=fun i o h=>by rw [vT] at h;exact h
 simp only [k0b,yJ,List.mem_range] at hst
 have hst': ∀ j o,l[j]? =some o→(∀ e∈o.after,Region.binds .any e=true→e.on<j)∧∀ i,i<j→
  ((c.getD j 0).testBit i=true→∃ e∈o.after,Region.binds .any e=true∧(e.on=i∨(i<e.on∧(c.getD e.on 0).testBit i=true)))∧
  ((c.getD j 0).testBit i=true∨∀ x,l[i]? =some x→j2e (e0g l) x o=true∧((p0k x.op=false∧p0k o.op=false)∨(i,j)∈need)):=by
  intro j o ho
  have hj:=(wL.mp ho).1
  have:=hst j hj
  rw [ho] at this
  simp only [yD,yJ,List.mem_range,uD,yX,decide_eq_true_eq,List.any_eq_true,beq_iff_eq] at this
  refine ⟨fun e he hb=>?_,fun i hi=>?_⟩
  ·rcases this.1 e (by simpa using he) with h1|h1
   ·rw [hb] at h1;cases h1
   exact h1
  obtain ⟨h1,h2⟩:=this.2 i hi
  refine ⟨fun ht=>?_,?_⟩
  ·rcases h1 with h1|⟨e,he,hb,h1⟩
   ·rw [ht] at h1;cases h1
   exact ⟨e,by simpa using he,hb,h1⟩
  rcases h2 with h2|h2
  ·exact .inl h2
  right
  intro x hx
  rw [hx] at h2
  simp only [yD,uD,yX,List.contains_iff_mem] at h2
  exact h2
 let R:List (Nat×It):=its.zipIdx.map fun p=>(p.2,p.1)
 have hlen:its.length=l.length:=by rw [←hi.ops,xO]
 have hRmap:R.map (·.2)=its:=by
  simp only [R,List.map_map]
  exact List.zipIdx_map_fst 0 its
 have hRmem: ∀ p∈R,its[p.1]? =some p.2:=by
  intro p hp
  obtain ⟨⟨x,i⟩,hq,rfl⟩:=xG.mp hp
  have:=List.mem_zipIdx_iff_getElem?.mp hq
  simpa using this
 have hitl: ∀ (i:Nat) (x:It),its[i]? =some x→l[i]? =some x.o:=by
  intro i x hx
  rw [←hi.ops,vH,hx];rfl
 refine any_ok (P:=P) (B:=B) (ops:=l.toArray) (ds:=e0g l) (bef:=fun j i=>i<j∧(c.getD j 0).testBit i=true) (K:=fun S'=>Eqv S' (fin its S)) (by rw [l0v])
  (fun i o ho=>(hst' i o (hget i o ho)).1) ?_ ?_ l.toArray.size (Array.replicate l.toArray.size false) R S d a _ ?_ ?_ ?_ hs2
 ·intro i o ho x ⟨hx1,hx2⟩
  obtain ⟨e,he,hb,h1⟩:=((hst' i o (hget i o ho)).2 x hx1).1 hx2
  exact ⟨e,he,hb,h1⟩
 ·intro S' d' a' w' hK hs'
  exact hq _ d' _ _ hQ (hs'.eqv hK)
 ·simp only [R,xO,List.length_zipIdx,List.size_toArray];omega
 ·refine ⟨by simp,fun p hp=>(by rw [vT];exact hitl _ _ (hRmem p hp):l.toArray[p.1]? =some p.2.o),fun i=>?_,?_,by rw [hRmap];exact hi.ok,?_,by rw [hRmap];exact hi.apart,fun p hp=>hi.dst p.2 (by rw [←hRmap];exact List.mem_map_of_mem hp),?_⟩
  ·simp only [List.size_toArray,xZ,Array.getElem?_replicate]
   constructor
   ·intro h1
    obtain ⟨p,hp,rfl⟩:=xG.mp h1
    have:=(wL.mp (hRmem p hp)).1
    rw [hlen] at this
    exact ⟨this,by rw [if_pos this];rfl⟩
   rintro ⟨h1,_⟩
   have h2:i<its.length:=by omega
   refine xG.mpr ⟨(i,its[i]),?_,rfl⟩
   refine xG.mpr ⟨(its[i],i),?_,rfl⟩
   exact List.mem_zipIdx_iff_getElem?.mpr (by simp [h2])
  ·have hp1:its.zipIdx.Pairwise fun p q=>p.2<q.2:=by
    rw [uK]
    intro i j hi' hj' hij
    simp only [List.getElem_zipIdx];omega
   have hp2:R.Pairwise fun p q=>p.1<q.1:=List.pairwise_map.mpr hp1
   refine hp2.imp_of_mem ?_
   intro p q hp hq hlt
   refine ⟨hlt,?_⟩
   have hpi:=hRmem p hp
   have hqi:=hRmem q hq
   rcases ((hst' q.1 q.2.o (hitl _ _ hqi)).2 p.1 hlt).2 with h1|h1
   ·exact .inl ⟨hlt,h1⟩
   right
   obtain ⟨h2,h3⟩:=h1 _ (hitl _ _ hpi)
   have hpm:p.2∈its:=wF hpi
   have hqm:q.2∈its:=wF hqi
   simp only [j2e,yD] at h2
   have sub: ∀ x:It,∀ n,n∈tmpsOf (x.reads (e0g l))→n∈tmpsOf (gslot (e0g l) x.o++x.o.op.operands.toList):=by
    intro x n hn
    unfold It.reads at hn
    simp only [tmpsOf,List.filterMap_append,wX] at hn ⊢
    rcases hn with hn|hn
    ·exact .inl hn
    right
    split at hn
    ·cases hn
    exact hn
   have hmu:(p.2.e.mut=false∨q.2.e.mut=false∨a0l p.2.e q.2.e)∧touch p.2 q.2∧touch q.2 p.2:=by
    rcases h3 with ⟨h4,h5⟩|h4
    ·have e1:p.2.e.mut=false:=by
      cases hc:p.2.e.mut with
      |false=>rfl
      |true=>have:=hi.mu _ hpm hc;rw [h4] at this;cases this
     have e2:q.2.e.mut=false:=by
      cases hc:q.2.e.mut with
      |false=>rfl
      |true=>have:=hi.mu _ hqm hc;rw [h5] at this;cases this
     exact ⟨.inl e1,i0v e1,i0v e2⟩
    have:=v0v hchk _ h4
    have hk:(!need.isEmpty)=true:=by
     cases need with
     |nil=>cases h4
     |cons=>rfl
    rw [hk] at this
    simp only [cond_true,yC,vH,hpi,hqi,hitl _ _ hpi,hitl _ _ hqi,yR,atD,e2e] at this
    have hd1:=hi.dp _ hpm
    have hd2:=hi.dp _ hqm
    rw [hk] at hd1 hd2
    exact ⟨this.1,touch_of this.2.1 hd2,touch_of this.2.2 hd1⟩
   refine ⟨fun n hn' hin=>?_,fun n hn' hin=>?_,fun n hn'=>?_,hmu.1,hmu.2.1,hmu.2.2⟩
   ·have:=h2.1
    rw [hn'] at this
    simp only [yD,yX] at this
    have hc:=sub _ _ hin
    rw [←List.contains_iff_mem] at hc
    rw [this.1] at hc;cases hc
   ·have:=h2.2
    rw [hn'] at this
    simp only [yX] at this
    have hc:=sub _ _ hin
    rw [←List.contains_iff_mem] at hc
    rw [this] at hc;cases hc
   have:=h2.1
   rw [hn'] at this
   simp only [yD,bne_iff_ne] at this
   exact this.2
  ·rw [hRmap]
   intro x hx k hk
   have:=(hi.nm x hx k hk).1
   simp only [yJ,yD] at hn
   have h1:=hn k this
   have h2:=j0x h1.1
   exact ⟨⟨fun n v hv=>Wq h2.1 hv,fun n o ho=>a0y h2.2 ho,g0l h1.1⟩,by simpa using h1.2⟩
  intro i o ho hl hsz
  simp only [List.size_toArray] at hsz
  simp only [List.size_toArray,xZ,Array.getElem?_replicate,if_pos hsz] at hl
  cases hl
 intro S' he
 rw [hRmap] at he
 exact he.symm
theorem HT.draw {P:Program} {B:Base} {id:Nat} {l:List Oper} {S:St} {Q:Exit→St→Prop} (names c:List Nat) (need:List (Nat×Nat)) (hm:P.follows .mixedOrders=true) (hst:k0b (e0g l) c need l=true)
 (hn:names.all (fun k=>fresh k S&&(look S.mem k).isNone)=true)
 (h: ∀ K:St→List Da→Prop,(∀ S' D,w0l l D need→Q .normal S'→K S' D)→Jk P B.nt names (e0g l) (!need.isEmpty) l [] [] S K):HT P B (.region id l.toArray true) S Q:=fun d a w hs=>
 wp_region_any hm (z1b names c need hst hn (fun S' d' a' w' hk hs'=>⟨S',d',hk,hs'⟩) h hs)
end Go.Sy
namespace Go.Sy
section
variable {P:Program} {nt:Nat} {names:List Nat} {ds:List (Option Tmp)} {keep:Bool} {N:List Nat} {D:List Da} {S:St} {K:St→List Da→Prop} {k:List Nat→List Da→St→Prop} {r:List Oper} {o:Oper} {dst:Option Tmp} {ty:TypeId} {pos:String} {af:Array Edge}
def h2y (P:Program) (nt:Nat) (names:List Nat) (ds:List (Option Tmp)) (keep:Bool) (r:List Oper) (K:St→List Da→Prop):List Nat→List Da→St→Prop:=fun N D S=>Jk P nt names ds keep r N D S K
theorem d2q :h2y P nt names ds keep r K N D S=Jk P nt names ds keep r N D S K:=rfl
theorem l2k :Jk P nt names ds keep [] N D S K=K S D:=rfl
theorem q2e (op:Op):Jk P nt names ds keep (⟨dst,op,ty,pos,af,none⟩::r) N D S K=onO P nt names ds keep ⟨dst,op,ty,pos,af,none⟩ N D S (h2y P nt names ds keep r K):=rfl
theorem v1i (op:Op) (g:Nat×Bool):Jk P nt names ds keep (⟨dst,op,ty,pos,af,some g⟩::r) N D S K=onG P nt names ds keep ⟨dst,op,ty,pos,af,some g⟩ g N D S (h2y P nt names ds keep r K) (b0a S ds g.1 g.2):=rfl
theorem n1w (c:Bool) (g:Nat×Bool):onG P nt names ds keep o g N D S k (some c)=((c=g.2→onO P nt names ds keep o N D S k)∧(c=(!g.2)→i0k nt o.dst∧k N (D++bif keep then [⟨.val (.tup []),(gslot ds o).filterMap S.get,[]⟩] else []) ((Eff.val (.tup [])).on o.dst S))):=rfl
theorem l2j (e:Eff):onE nt names ds keep o N D S k (some e)=(l1k names N e.names=true∧i0k nt o.dst∧k (e.names++N) (D++l1l keep ds S o e) (e.on o.dst S)):=rfl
theorem Xq {g:Option (Nat×Bool)} (op:Op) (h:e0a op=false):onO P nt names ds keep ⟨dst,op,ty,pos,af,g⟩ N D S k=onE nt names ds keep ⟨dst,op,ty,pos,af,g⟩ N D S k (Jw P S dst op):=by
 unfold onO;rw [h];rfl
theorem d2p {g:Option (Nat×Bool)} (f:Operand) (args:Array Operand) (ts:Array TypeId):onO P nt names ds keep ⟨dst,.call ⟨.value f,args,ts⟩,ty,pos,af,g⟩ N D S k=onC P nt names ds keep ⟨dst,.call ⟨.value f,args,ts⟩,ty,pos,af,g⟩ N D S k:=rfl
theorem d2h {g:Option (Nat×Bool)} (x:Operand):onO P nt names ds keep ⟨dst,.move x,ty,pos,af,g⟩ N D S k=onE nt names ds keep ⟨dst,.move x,ty,pos,af,g⟩ N D S k (Jw P S dst (.move x)):=Xq _ rfl
theorem n1p {g:Option (Nat×Bool)} (x:Operand):onO P nt names ds keep ⟨dst,.assign x,ty,pos,af,g⟩ N D S k=onE nt names ds keep ⟨dst,.assign x,ty,pos,af,g⟩ N D S k (Jw P S dst (.assign x)):=Xq _ rfl
theorem d2g {g:Option (Nat×Bool)} (c x y:Operand):onO P nt names ds keep ⟨dst,.pick c x y,ty,pos,af,g⟩ N D S k=onE nt names ds keep ⟨dst,.pick c x y,ty,pos,af,g⟩ N D S k (Jw P S dst (.pick c x y)):=Xq _ rfl
theorem v1b {g:Option (Nat×Bool)} (t:TypeId) (ps:Array (Nat×Operand)):onO P nt names ds keep ⟨dst,.build t ps,ty,pos,af,g⟩ N D S k=onE nt names ds keep ⟨dst,.build t ps,ty,pos,af,g⟩ N D S k (Jw P S dst (.build t ps)):=Xq _ rfl
theorem d2i {g:Option (Nat×Bool)} (t:TypeId) (x:Operand):onO P nt names ds keep ⟨dst,.load t x,ty,pos,af,g⟩ N D S k=onE nt names ds keep ⟨dst,.load t x,ty,pos,af,g⟩ N D S k (Jw P S dst (.load t x)):=Xq _ rfl
theorem b1r {g:Option (Nat×Bool)} (x:Operand):onO P nt names ds keep ⟨dst,.nilCheck x,ty,pos,af,g⟩ N D S k=onE nt names ds keep ⟨dst,.nilCheck x,ty,pos,af,g⟩ N D S k (Jw P S dst (.nilCheck x)):=Xq _ rfl
theorem v1c {g:Option (Nat×Bool)} (op:BinOp) (t t2:TypeId) (x y:Operand):onO P nt names ds keep ⟨dst,.binOp op t x y t2,ty,pos,af,g⟩ N D S k=onE nt names ds keep ⟨dst,.binOp op t x y t2,ty,pos,af,g⟩ N D S k (Jw P S dst (.binOp op t x y t2)):=Xq _ rfl
theorem y0f {g:Option (Nat×Bool)} (t:TypeId) (x:Operand) (f:Nat):onO P nt names ds keep ⟨dst,.fieldAddr t x f,ty,pos,af,g⟩ N D S k=onE nt names ds keep ⟨dst,.fieldAddr t x f,ty,pos,af,g⟩ N D S k (Jw P S dst (.fieldAddr t x f)):=Xq _ rfl
theorem v1a {g:Option (Nat×Bool)} (t:TypeId) (x:Operand) (f:Nat):onO P nt names ds keep ⟨dst,.field t x f,ty,pos,af,g⟩ N D S k=onE nt names ds keep ⟨dst,.field t x f,ty,pos,af,g⟩ N D S k (Jw P S dst (.field t x f)):=Xq _ rfl
theorem y0e {g:Option (Nat×Bool)} (t:TypeId) (x i:Operand):onO P nt names ds keep ⟨dst,.indexAddr t x i,ty,pos,af,g⟩ N D S k=onE nt names ds keep ⟨dst,.indexAddr t x i,ty,pos,af,g⟩ N D S k (Jw P S dst (.indexAddr t x i)):=Xq _ rfl
theorem u1z {g:Option (Nat×Bool)} (t:TypeId) (x i:Operand):onO P nt names ds keep ⟨dst,.index t x i,ty,pos,af,g⟩ N D S k=onE nt names ds keep ⟨dst,.index t x i,ty,pos,af,g⟩ N D S k (Jw P S dst (.index t x i)):=Xq _ rfl
theorem i1k {g:Option (Nat×Bool)} (x:Operand) (i:Nat):onO P nt names ds keep ⟨dst,.extract x i,ty,pos,af,g⟩ N D S k=onE nt names ds keep ⟨dst,.extract x i,ty,pos,af,g⟩ N D S k (Jw P S dst (.extract x i)):=Xq _ rfl
theorem u1y {g:Option (Nat×Bool)} (t:TypeId) (x:Operand) (lo hi mx:Option Operand):onO P nt names ds keep ⟨dst,.slice t x lo hi mx,ty,pos,af,g⟩ N D S k=onE nt names ds keep ⟨dst,.slice t x lo hi mx,ty,pos,af,g⟩ N D S k (Jw P S dst (.slice t x lo hi mx)):=Xq _ rfl
theorem i1m {g:Option (Nat×Bool)} (b:Builtin) (a:Array Operand) (t:Array TypeId):onO P nt names ds keep ⟨dst,.call ⟨.builtin b,a,t⟩,ty,pos,af,g⟩ N D S k=onE nt names ds keep ⟨dst,.call ⟨.builtin b,a,t⟩,ty,pos,af,g⟩ N D S k (Jw P S dst (.call ⟨.builtin b,a,t⟩)):=Xq _ rfl
theorem v1d {g:Option (Nat×Bool)} (t:TypeId):onO P nt names ds keep ⟨dst,.alloc t,ty,pos,af,g⟩ N D S k=onE nt names ds keep ⟨dst,.alloc t,ty,pos,af,g⟩ N D S k (Jw P S dst (.alloc t)):=Xq _ rfl
theorem u0k {g:Option (Nat×Bool)} (t:TypeId) (n:Nat) (ps:Array (Nat×Operand)):onO P nt names ds keep ⟨dst,.buildSlice t n ps,ty,pos,af,g⟩ N D S k=onE nt names ds keep ⟨dst,.buildSlice t n ps,ty,pos,af,g⟩ N D S k (Jw P S dst (.buildSlice t n ps)):=Xq _ rfl
theorem i1l {g:Option (Nat×Bool)} (a b:TypeId) (x:Operand):onO P nt names ds keep ⟨dst,.convert a b x,ty,pos,af,g⟩ N D S k=onE nt names ds keep ⟨dst,.convert a b x,ty,pos,af,g⟩ N D S k (Jw P S dst (.convert a b x)):=Xq _ rfl
theorem u1x {g:Option (Nat×Bool)} (t:TypeId) (x y:Operand):onO P nt names ds keep ⟨dst,.store t x y,ty,pos,af,g⟩ N D S k=onE nt names ds keep ⟨dst,.store t x y,ty,pos,af,g⟩ N D S k (Jw P S dst (.store t x y)):=Xq _ rfl
theorem z1g (e:Eff):l1l false ds S o e=[]:=rfl
theorem h2v (e:Eff):l1l true ds S o e=[⟨e,(gslot ds o++o.op.operands.toList).filterMap S.get,t1r e S.mem⟩]:=rfl
theorem k1a (n:Nat):i0k nt (some n)=(n<nt):=rfl
theorem k1b :i0k nt none=True:=rfl
theorem m2d (n:Nat) (v:V) (e:List (Nat×V)) (m:List (Nat×Ob)):(Eff.val v).on (some n) ⟨e,m⟩=⟨(n,v)::e,m⟩:=rfl
theorem e2q (v:V) (S:St):(Eff.val v).on none S=S:=rfl
theorem m2f (n:Nat) (v:V) (ms:List (Nat×Ob)) (e:List (Nat×V)) (m:List (Nat×Ob)):(Eff.new v ms).on (some n) ⟨e,m⟩=⟨(n,v)::e,ms++m⟩:=rfl
theorem e2s (v:V) (ms:List (Nat×Ob)) (e:List (Nat×V)) (m:List (Nat×Ob)):(Eff.new v ms).on none ⟨e,m⟩=⟨e,ms++m⟩:=rfl
theorem m2g (n j:Nat) (v:V) (o:Ob) (e:List (Nat×V)) (m:List (Nat×Ob)):(Eff.app v j o).on (some n) ⟨e,m⟩=⟨(n,v)::p0w j e,(j,o)::c0t j m⟩:=rfl
theorem m2e (n j:Nat) (v:V) (o:Ob) (e:List (Nat×V)) (m:List (Nat×Ob)):(Eff.sto v j o).on (some n) ⟨e,m⟩=⟨(n,v)::e,h0b m j o⟩:=rfl
theorem e2r (j:Nat) (v:V) (o:Ob) (e:List (Nat×V)) (m:List (Nat×Ob)):(Eff.sto v j o).on none ⟨e,m⟩=⟨e,h0b m j o⟩:=rfl
theorem m2v (v:V):(Eff.val v).names=[]:=rfl
theorem m2y (v:V) (ms:List (Nat×Ob)):(Eff.new v ms).names=ms.map (·.1):=rfl
theorem m2z (v:V) (j:Nat) (o:Ob):(Eff.app v j o).names=[]:=rfl
theorem m2w (v:V) (j:Nat) (o:Ob):(Eff.sto v j o).names=[]:=rfl
theorem m2x (N:List Nat):l1k names N []=true:=rfl
def eV :Option V→Option Eff
 |some v=>some (.val v)
 |none=>none
def eA (k:Nat):Option (V×Ob)→Option Eff
 |some r=>some (.new r.1 [(k,r.2)])
 |none=>none
def eC (k:Nat) (x:Option V) (y:Option (V×Ob)):Option Eff:=
 match x with
 |some v=>some (.val v)
 |none=>eA k y
theorem h2j (v:V):eV (some v)=some (.val v):=rfl
theorem h2n (k:Nat) (v:V) (o:Ob):eA k (some (v,o))=some (.new v [(k,o)]):=rfl
theorem h2l (k:Nat) (v:V) (y:Option (V×Ob)):eC k (some v) y=some (.val v):=rfl
theorem h2m (k:Nat) (y:Option (V×Ob)):eC k none y=eA k y:=rfl
def e2 (x y:Option V) (f:V→V→Option Eff):Option Eff:=
 match x,y with
 |some u,some v=>f u v
 |_,_=>none
theorem h2o (u v:V) (f:V→V→Option Eff):e2 (some u) (some v) f=f u v:=rfl
theorem Wj {op:Op} (h: ∀ k,Iz P k S op=none) (h1:Jw P S dst op=match Fq P S op with
 |some v=>some (.val v)
 |none=>match dst with
   |some k=>(Iz P k S op).map fun r=>.new r.1 [(k,r.2)]
   |none=>none):Jw P S dst op=eV (Fq P S op):=by
 rw [h1]
 cases Fq P S op with
 |some v=>rfl
 |none=>cases dst with
   |none=>rfl
   |some k=>simp only [h,Option.map_none,eV]
theorem h2g (x:Operand):Jw P S dst (.move x)=eV (S.get x):=Wj (fun _=>rfl) rfl
theorem r1l (x:Operand):Jw P S dst (.assign x)=eV (S.get x):=Wj (fun _=>rfl) rfl
theorem h2f (c x y:Operand):Jw P S dst (.pick c x y)=eV (b3 (S.get c) (S.get x) (S.get y)):=by
 rw [Wj (fun _=>rfl) rfl];congr 1
theorem y1w (t:TypeId) (ps:List (Nat×Operand)):Jw P S dst (.build t ps.toArray)=eV (k0m P S t ps):=Wj (fun _=>rfl) rfl
theorem h2h (t:TypeId) (x:Operand):Jw P S dst (.load t x)=eV ((S.get x).bind (n0g P S t)):=Wj (fun _=>rfl) rfl
theorem c1y (x:Operand):Jw P S dst (.nilCheck x)=eV ((S.get x).bind n2a):=Wj (fun _=>rfl) rfl
theorem y1x (op:BinOp) (t t2:TypeId) (x y:Operand):Jw P S dst (.binOp op t x y t2)=eV (b2 (S.get x) (S.get y) (Kv P op t)):=by
 rw [Wj (fun _=>rfl) rfl];congr 1
theorem z0z (t:TypeId) (x:Operand) (f:Nat):Jw P S dst (.fieldAddr t x f)=eV ((S.get x).bind (m0v P t f)):=Wj (fun _=>rfl) rfl
theorem y1v (t:TypeId) (x:Operand) (f:Nat):Jw P S dst (.field t x f)=eV ((S.get x).bind (i0c P t f)):=Wj (fun _=>rfl) rfl
theorem z0y (t:TypeId) (x i:Operand):Jw P S dst (.indexAddr t x i)=eV (b2 (S.get x) (S.get i) (Vq P t)):=by
 rw [Wj (fun _=>rfl) rfl];congr 1
theorem y1u (t:TypeId) (x i:Operand):Jw P S dst (.index t x i)=eV (b2 (S.get x) (S.get i) (m0r P t)):=by
 rw [Wj (fun _=>rfl) rfl];congr 1
theorem j1y (x:Operand) (i:Nat):Jw P S dst (.extract x i)=eV ((S.get x).bind fun v=>d0q v i):=Wj (fun _=>rfl) rfl
theorem y1t (t:TypeId) (x:Operand) (lo hi mx:Option Operand):Jw P S dst (.slice t x lo hi mx)=eV (Fq P S (.slice t x lo hi mx)):=Wj (fun _=>rfl) rfl
theorem o2k (x:Operand) (t:TypeId):Jw P S dst (.call ⟨.builtin .len,#[x],#[t]⟩)=eV ((S.get x).bind (j1o P t)):=Wj (fun _=>rfl) rfl
theorem y1y (k:Nat) (t:TypeId):Jw P S (some k) (.alloc t)=eA k ((Jq P t).map fun cs=>(.w (.one (.p k [])),⟨false,cs⟩)):=by
 show (Iz P k S _).map _=_;unfold eA;cases h:Jq P t<;>simp [Iz,h]
theorem v0r (k:Nat) (t:TypeId) (n:Nat) (ps:List (Nat×Operand)):Jw P S (some k) (.buildSlice t n ps.toArray)=eA k (Iz P k S (.buildSlice t n ps.toArray)):=by
 show (Iz P k S _).map _=_;unfold eA;cases Iz P k S (.buildSlice t n ps.toArray)<;>rfl
theorem j1z (k:Nat) (s t:TypeId) (x:Operand):Jw P S (some k) (.convert s t x)=eC k ((S.get x).bind (k0e P S s t)) (Iz P k S (.convert s t x)):=by
 show (match Fq P S (.convert s t x) with|some v=>_|none=>_)=_
 unfold eC
 have:Fq P S (.convert s t x)=(S.get x).bind (k0e P S s t):=rfl
 rw [this]
 cases (S.get x).bind (k0e P S s t) with
 |some v=>rfl
 |none=>show (Iz P k S _).map _=_;unfold eA;cases Iz P k S (.convert s t x)<;>rfl
theorem r1m (k:Nat) (x y:Operand) (t tx:TypeId):Jw P S (some k) (.call ⟨.builtin .append,#[x,y],#[t,tx]⟩)=e2 (S.get x) (S.get y) (d0w P k S t tx):=by
 show (match S.get x,S.get y with|some u,some v=>_|_,_=>_)=_
 unfold e2;rfl
theorem h2i (x y:Operand) (t tx:TypeId):Jw P S dst (.call ⟨.builtin .copy,#[x,y],#[t,tx]⟩)=e2 (S.get x) (S.get y) (fun u v=>r1v (copyV P S t tx u v)):=by
 show (match S.get x,S.get y with|some u,some v=>_|_,_=>_)=_
 unfold e2;rfl
theorem y1s (t:TypeId) (x y:Operand):Jw P S none (.store t x y)=e2 (S.get x) (S.get y) (h0a P S t):=by
 simp only [Jw,e2]
 cases S.get x<;>cases S.get y<;>rfl
theorem Ck {f:FuncId} {args:List Operand} {ts:Array TypeId} {vs:List V} {g:Option (Nat×Bool)} (nm:Nat→Nat) (X:V) (M:List (Nat×Ob)) (hgo: ∀ vals w,(callFunc f vals).run P w=.ok (.enter f vals) w) (hargs:Tj S args=some vs) (hc:Ct P f vs (fun v m=>v=X∧m=M))
 (hr:e0p M X=true∧Mw M=true∧nodupB (M.map fun x=>nm x.1)=true∧nodupB (M.map fun x=>x.1)=true)
 (hk:l1k names N (M.map fun x=>nm x.1)=true∧i0k nt dst∧k ((M.map fun x=>nm x.1)++N) (D++l1l keep ds S ⟨dst,.call ⟨.value (.func f),args.toArray,ts⟩,ty,pos,af,g⟩ (.new (X.ren nm) (Rj nm M))) ((Eff.new (X.ren nm) (Rj nm M)).on dst S)):
 onC P nt names ds keep ⟨dst,.call ⟨.value (.func f),args.toArray,ts⟩,ty,pos,af,g⟩ N D S k:=by
 have e:(Eff.new (X.ren nm) (Rj nm M)).names=M.map fun x=>nm x.1:=by simp [Eff.names,Rj,Function.comp_def]
 refine ⟨.new (X.ren nm) (Rj nm M),.call rfl hgo hargs hc hr.1 hr.2.1 ?_ (Zq hr.2.2.2),?_⟩
 ·have:=Zq hr.2.2.1
  rw [show (Rj nm M).map (·.1)=M.map fun x=>nm x.1 from by simp [Rj,Function.comp_def]];exact this
 rw [e];exact hk
theorem Vk {f:FuncId} {args:List Operand} {ts:Array TypeId} {vs:List V} {X:V} {g:Option (Nat×Bool)} (hargs:Tj S args=some vs) (hc:Now P f vs X)
 (hk:i0k nt dst∧k N (D++l1l keep ds S ⟨dst,.call ⟨.value (.func f),args.toArray,ts⟩,ty,pos,af,g⟩ (.val X)) ((Eff.val X).on dst S)):
 onC P nt names ds keep ⟨dst,.call ⟨.value (.func f),args.toArray,ts⟩,ty,pos,af,g⟩ N D S k:=
 ⟨.val X,.now rfl hargs hc,rfl,hk.1,hk.2⟩
theorem t0n {f:FuncId} {args:List Operand} {ts:Array TypeId} {vs:List V} {g:Option (Nat×Bool)} {G:List (Nat×Ob)} (vw:Bool) (nm:Nat→Nat) (X:V) (M:List (Nat×Ob)) (hgo: ∀ vals w,(callFunc f vals).run P w=.ok (.enter f vals) w) (hargs:Sz vw S [] args=some vs) (hG:Pv S [] G) (hGf:G.all (fun x=>o0d x.2)=true) (hc:CtM P f vs G (fun v m=>v=X∧m=M))
 (hr:Kj vw M X=true∧Mw M=true∧nodupB (M.map fun x=>nm x.1)=true∧nodupB (M.map fun x=>x.1)=true)
 (hk:l1k names N (M.map fun x=>nm x.1)=true∧i0k nt dst∧k ((M.map fun x=>nm x.1)++N) (D++l1l keep ds S ⟨dst,.call ⟨.value (.func f),args.toArray,ts⟩,ty,pos,af,g⟩ (.new (X.ren (Px nm [])) (Rj nm M))) ((Eff.new (X.ren (Px nm [])) (Rj nm M)).on dst S)):
 onC P nt names ds keep ⟨dst,.call ⟨.value (.func f),args.toArray,ts⟩,ty,pos,af,g⟩ N D S k:=by
 have e:(Eff.new (X.ren (Px nm [])) (Rj nm M)).names=M.map fun x=>nm x.1:=by simp [Eff.names,Rj,Function.comp_def]
 refine ⟨.new (X.ren (Px nm [])) (Rj nm M),.gcall rfl hgo hargs hG hGf hc hr.1 hr.2.1 ?_ (Zq hr.2.2.2),?_⟩
 ·have:=Zq hr.2.2.1
  rw [show (Rj nm M).map (·.1)=M.map fun x=>nm x.1 from by simp [Rj,Function.comp_def]];exact this
 rw [e];exact hk
theorem Hz {f:FuncId} {args:List Operand} {ts:Array TypeId} {vs:List V} {g:Option (Nat×Bool)} {G:List (Nat×Ob)} (nm:Nat→Nat) (X:V) (M:List (Nat×Ob)) (hgo: ∀ vals w,(callFunc f vals).run P w=.ok (.enter f vals) w) (hargs:Sz true S [] args=some vs) (hG:Pv S [] G) (hGf:G.all (fun x=>o0d x.2)=true) (hc:CtM P f vs G (fun v m=>v=X∧m=M))
 (hr:Kj true M X=true∧Mw M=true∧nodupB (M.map fun x=>nm x.1)=true∧nodupB (M.map fun x=>x.1)=true)
 (hk:l1k names N (M.map fun x=>nm x.1)=true∧i0k nt dst∧k ((M.map fun x=>nm x.1)++N) (D++l1l keep ds S ⟨dst,.call ⟨.value (.func f),args.toArray,ts⟩,ty,pos,af,g⟩ (.new (X.ren (Px nm [])) (Rj nm M))) ((Eff.new (X.ren (Px nm [])) (Rj nm M)).on dst S)):
 onC P nt names ds keep ⟨dst,.call ⟨.value (.func f),args.toArray,ts⟩,ty,pos,af,g⟩ N D S k:=t0n true nm X M hgo hargs hG hGf hc hr hk
theorem k0j {f:FuncId} {args:List Operand} {ts:Array TypeId} {vs:List V} {g:Option (Nat×Bool)} {G:List (Nat×Ob)} (hkp:keep=false) (nm:Nat→Nat) (X:V) (M:List (Nat×Ob)) (hgo: ∀ vals w,(callFunc f vals).run P w=.ok (.enter f vals) w) (hargs:a0f S args=some vs) (hG:Pv S [] G) (hGf:G.all (fun x=>o0d x.2)=true) (hc:CtM P f vs G (fun v m=>v=X∧m=M))
 (hr:Kj true M X=true∧Mw M=true∧nodupB (M.map fun x=>nm x.1)=true∧nodupB (M.map fun x=>x.1)=true)
 (hk:l1k names N (M.map fun x=>nm x.1)=true∧i0k nt dst∧k ((M.map fun x=>nm x.1)++N) (D++l1l keep ds S ⟨dst,.call ⟨.value (.func f),args.toArray,ts⟩,ty,pos,af,g⟩ (.new (X.ren (Px nm [])) (Rj nm M))) ((Eff.new (X.ren (Px nm [])) (Rj nm M)).on dst S)):
 onC P nt names ds keep ⟨dst,.call ⟨.value (.func f),args.toArray,ts⟩,ty,pos,af,g⟩ N D S k:=by
 have e:(Eff.new (X.ren (Px nm [])) (Rj nm M)).names=M.map fun x=>nm x.1:=by simp [Eff.names,Rj,Function.comp_def]
 refine ⟨.new (X.ren (Px nm [])) (Rj nm M),.dcall (by rw [hkp];rfl) rfl hgo hargs hG hGf hc hr.1 hr.2.1 ?_ (Zq hr.2.2.2),?_⟩
 ·have:=Zq hr.2.2.1
  rw [show (Rj nm M).map (·.1)=M.map fun x=>nm x.1 from by simp [Rj,Function.comp_def]];exact this
 rw [e];exact hk
end
theorem Sk {P:Program} {B:Base} {id:Nat} {l:List Oper} {S:St} {Q:Exit→St→Prop} (names c:List Nat) (need:List (Nat×Nat)) (hm:P.follows .mixedOrders=true) (hst:k0b (e0g l) c need l=true)
 (hn:names.all (fun k=>fresh k S&&(look S.mem k).isNone)=true)
 (h: ∀ K:St→List Da→Prop,(∀ S' D,w0l l D need→Q .normal S'→K S' D)→Jk P B.nt names (e0g l) (!need.isEmpty) l [] [] S K):HT P B (.region id l.toArray true) S Q:=HT.draw names c need hm hst hn h
attribute [go_sem] d2q l2k q2e v1i n1w l2j d2p d2h n1p d2g v1b d2i b1r v1c y0f v1a y0e u1z i1k u1y i1m v1d u0k i1l u1x z1g h2v k1a k1b m2d e2q m2f e2s m2g m2e e2r m2v m2y m2z m2w m2x h2j h2n h2l h2m h2o h2g r1l h2f y1w h2h c1y y1x z0z y1v z0y y1u j1y y1t o2k y1y v0r j1z r1m h2i y1s
attribute [go_sem] l1k nodupB Rj Mw h0a d0w r1v copyV yL vO wR List.all_nil yI yK yC yB wY Bool.and_self Bool.and_true uE List.isEmpty_nil List.isEmpty_cons Option.isNone_none Option.isNone_some
end Go.Sy
namespace Go.Sy
def leX {α:Type} (ks:List Nat) (e:List (Nat×α)):List (Nat×α)→Prop
 | []=>True
 |x::r=>(if ks.contains x.1=true then True else look e x.1=some x.2)∧leX (x.1::ks) e r
theorem d0o {α:Type} {e:List (Nat×α)}: ∀ {l:List (Nat×α)} {ks:List Nat},leX ks e l→∀ {n:Nat} {v:α},n∉ks→look l n=some v→look e n=some v
 | [],_,_,_,_,_,h=>by cases h
 |x::r,ks,h,n,v,hn,hl=>by
   simp only [look] at hl
   split at hl
   ·rename_i en;cases hl;subst en
    have:=h.1
    rw [if_neg (by simpa using hn)] at this;exact this
   rename_i en
   exact d0o h.2 (by simp only [xK,not_or];exact ⟨en,hn⟩) hl
theorem Le.ofX {B:Base} {S S':St} (he:leX [] S.env S'.env) (hm:leX [] S.mem S'.mem):Le B S S':=by
 intro d a w h
 have hsome: ∀ j,(look S'.mem j).isSome=true→(look S.mem j).isSome=true:=by
  intro j hj
  cases ho:look S'.mem j with
  |none=>simp [ho] at hj
  |some o=>rw [d0o hm (by simp) ho];rfl
 exact ⟨d,h.defers,h.nt,fun n v hv=>h.env n v (d0o he (by simp) hv),fun k o hk=>h.mem k o (d0o hm (by simp) hk),fun k k' h1 h2=>h.inj k k' (hsome _ h1) (hsome _ h2),fun k hk=>h.own k (hsome _ hk),h.ro,h.old,h.os,h.tape,h.output,h.size,h.block,h.gat,fun k o hk=>h.glob k o (d0o hm (by simp) hk),fun k o p hk=>h.fix k o p (d0o hm (by simp) hk),h.fxn,fun b l hb=>h.mp b l (d0o hm (by simp) hb)⟩
section
variable {P:Program} {B:Base} {S:St} {Q:Exit→St→Prop}
theorem Uw {x:Code} {ι:Type} (e:ι→List (Nat×V)) (m:ι→List (Nat×Ob)) (μ:ι→Nat) (i₀:ι) (h0:leX [] S.env (e i₀++S.env)) (h1:leX [] S.mem (m i₀++S.mem))
 (round: ∀ i,∀ (N:St→Prop) (M:Exit→St→Prop),(∀ j S',μ j<μ i→leX [] S'.env (e j++S.env)→leX [] S'.mem (m j++S.mem)→N S')→(∀ e S',Q e S'→M e S')→HT P B x ⟨e i++S.env,m i++S.mem⟩ (l0d N M)):HT P B (.loop x) S Q:=by
 refine HT.loop (fun i=>⟨e i++S.env,m i++S.mem⟩) μ i₀ (Le.ofX h0 h1) fun i=>?_
 exact round i _ Q (fun j S' hj he hm=>⟨j,hj,Le.ofX he hm⟩) (fun _ _ h=>h)
def rnd (P:Program) (B:Base) (x:Code) (Q:Exit→St→Prop):Nat→St→Prop
 |0,_=>False
 |n+1,S=>HT P B x S (l0d (rnd P B x Q n) Q)
theorem a2k {x:Code}: ∀ {n:Nat} {S:St} {d:Va} {a:Act} {w:World},rnd P B x Q n S→Sim B d S a w→Code.rounds P x (fun e a' w'=>∃ S' d',Q e S'∧Sim B d' S' a' w') n a w
 |0,_,_,_,_,h,_=>h.elim
 |n+1,S,d,a,w,h,hs=>by
   rw [rounds_succ]
   refine Code.wp_mono ?_ (h d a w hs)
   rintro e a' w' ⟨S',d',hq,hs'⟩
   cases e<;>first|exact a2k hq hs'|exact ⟨S',d',hq,hs'⟩
theorem Jz {x:Code} (n:Nat) (h:rnd P B x Q n S):HT P B (.loop x) S Q:=fun d a w hs=>wp_loop_rounds n (a2k h hs)
theorem Oz {x:Code} {n:Nat} (h: ∀ (N:St→Prop) (M:Exit→St→Prop),(∀ S',rnd P B x Q n S'→N S')→(∀ e S',Q e S'→M e S')→HT P B x S (l0d N M)):rnd P B x Q (n+1) S:=h _ Q (fun _ h=>h) (fun _ _ h=>h)
end
def fgt {α:Type} (ks:List Nat):List (Nat×α)→List (Nat×α)
 | []=>[]
 |x::r=>if ks.contains x.1=true then fgt ks r else x::fgt ks r
theorem a0n {α:Type} {ks:List Nat}: ∀ {l:List (Nat×α)} {n:Nat} {v:α},look (fgt ks l) n=some v→look l n=some v
 | [],_,_,h=>by cases h
 |x::r,n,v,h=>by
   have key: ∀ {l:List (Nat×α)} {n:Nat} {v:α},look (fgt ks l) n=some v→ks.contains n=false:=by
    intro l
    induction l with
    |nil=>intro n v h;cases h
    |cons y l ih=>
      intro n v h
      simp only [fgt] at h
      split at h
      ·exact ih h
      rename_i hc
      simp only [look] at h
      split at h
      ·rename_i e;subst e;simpa using hc
      exact ih h
   simp only [fgt] at h
   simp only [look]
   split at h
   ·rename_i hc
    have:=key h
    rw [if_neg (fun e=>by subst e;rw [hc] at this;cases this)]
    exact a0n h
   simp only [look] at h
   by_cases e:n=x.1
   ·rw [if_pos e] at h ⊢;exact h
   rw [if_neg e] at h ⊢;exact a0n h
def St.forget (ks:List Nat) (S:St):St:=⟨fgt ks S.env,fgt ks S.mem⟩
theorem Le.forget {B:Base} (ks:List Nat) (S:St):Le B S (S.forget ks):=by
 intro d a w h
 have hsome: ∀ j,(look (fgt ks S.mem) j).isSome=true→(look S.mem j).isSome=true:=by
  intro j hj
  cases ho:look (fgt ks S.mem) j with
  |none=>simp [ho] at hj
  |some o=>rw [a0n ho];rfl
 exact ⟨d,h.defers,h.nt,fun n v hv=>h.env n v (a0n hv),fun k o hk=>h.mem k o (a0n hk),fun k k' h1 h2=>h.inj k k' (hsome _ h1) (hsome _ h2),fun k hk=>h.own k (hsome _ hk),h.ro,h.old,h.os,h.tape,h.output,h.size,h.block,h.gat,fun k o hk=>h.glob k o (a0n hk),fun k o p hk=>h.fix k o p (a0n hk),h.fxn,fun b l hb=>h.mp b l (a0n hb)⟩
theorem Ez {P:Program} {B:Base} {Q:Exit→St→Prop} {S:St} {x:Code} (ks:List Nat): ∀ {n:Nat},rnd P B x Q n (S.forget ks)→rnd P B x Q n S
 |0,h=>h
 |_+1,h=>HT.le (Le.forget ks S) h
theorem w64 {n:Int} (h: -9223372036854775808≤n∧n≤9223372036854775807):Go.RowKit.wrap64 n=n:=by unfold Go.RowKit.wrap64;omega
theorem m0d (S:St): ∀ l:List UInt8,Wy S (Az l)=some (Az l)
 | []=>rfl
 |x::r=>by
   have ih:=m0d S r
   simp only [Az] at ih
   simp only [Az,yL,Wy,g0t,ih]
theorem s0f (S:St) (r:List L): ∀ l:List UInt8,Wy S (Az l++r)=(Wy S r).map (Az l++ ·)
 | []=>by simp [Az]
 |x::l=>by
   have ih:=s0f S r l
   simp only [Az] at ih
   simp only [Az,yL,yB,Wy,g0t,ih]
   cases Wy S r<;>rfl
theorem l1f (l:List UInt8):(Az l).all Ry=true:=by
 simp only [Az,yJ,xG]
 rintro x ⟨y,_,rfl⟩
 rfl
theorem z1x (m:List (Nat×Ob)) (l:List UInt8):(Az l).all (a2m m)=true:=by
 simp only [Az,yJ,xG]
 rintro x ⟨y,_,rfl⟩
 rfl
theorem x1g (f:Nat→Nat) (l:List UInt8):(Az l).map (L.ren f)=Az l:=by simp [Az,L.ren]
theorem p1d (k:Nat) (l:List UInt8):(Az l).map (Uq k)=Az l:=by
 simp only [Az,List.map_map]
 congr 1
def Av (bs:List UInt8):List (List PL):=bs.map fun b=>[PL.u8 b]
theorem i1a (bs:List UInt8):f1j (Az bs)=some (bs.map PL.u8):=by
 induction bs with
 |nil=>rfl
 |cons a l ih=>simp only [Az,yL,f1j] at ih ⊢;simp [ih]
theorem b0n (bs:List UInt8):chunks 1 bs.length (bs.map PL.u8)=Av bs:=by
 induction bs with
 |nil=>rfl
 |cons a l ih=>simp only [Av,yL,xD,chunks] at ih ⊢;simp [ih]
theorem Gj {bs:List UInt8} {n:Nat} (h:bs.length=n):chunks 1 n (bs.map PL.u8)=Av bs:=by
 subst h;exact b0n bs
theorem k1i :a0b []=some []:=rfl
theorem d1b (x:UInt8) (r:List L):a0b (.pl (.u8 x)::r)=(a0b r).map (x:: ·):=by simp only [a0b]
theorem a1r (P:Program) (t:TypeId) (x y:List UInt8) (h:x.length+y.length≤9223372036854775807):Kv P .add t (.w (.one (.pl (.str x)))) (.w (.one (.pl (.str y))))=some (.w (.one (.pl (.str (x++y))))):=q0x P t x y h
theorem p1b :maxLen=9223372036854775807:=rfl
theorem v1g {α:Type} (n:Nat) (z:List α):(List.replicate (n+1) z).flatten=z++(List.replicate n z).flatten:=by simp [wT]
theorem n1s {α:Type} (z:List α):(List.replicate 0 z).flatten=[]:=rfl
theorem Uz (l:List UInt8):pls (l.map .u8)=Az l:=by simp [pls,Az,Function.comp_def]
theorem g0f (a b:List PL):pls (a++b)=pls a++pls b:=by simp [pls]
theorem n0s (a:PL) (b:List PL):pls (a::b)=.pl a::pls b:=rfl
theorem u0p :pls []=[]:=rfl
def c1c {α:Type}:Option α→List α→List α
 |some v,l=>v::l
 |none,l=>l
theorem y0v {α:Type} (v:α) (l:List α):c1c (some v) l=v::l:=rfl
theorem y0w {α:Type} (l:List α):c1c none l=l:=rfl
theorem g2m (S:St) (x:Operand) (r:List Operand):(x::r).filterMap S.get=c1c (S.get x) (r.filterMap S.get):=by
 rw [List.filterMap_cons];cases S.get x<;>rfl
theorem o2c (S:St):([]:List Operand).filterMap S.get=[]:=rfl
theorem f2c (v:V):(Eff.val v).mut=false:=rfl
theorem f2e (v:V) (m:List (Nat×Ob)):(Eff.new v m).mut=false:=rfl
theorem f2f (v:V) (j:Nat) (o:Ob):(Eff.app v j o).mut=true:=rfl
theorem f2d (v:V) (j:Nat) (o:Ob):(Eff.sto v j o).mut=true:=rfl
theorem m2o (v:V) (m:List (Nat×Ob)):t1r (.val v) m=[]:=rfl
theorem m2q (v:V) (x m:List (Nat×Ob)):t1r (.new v x) m=[]:=rfl
theorem m2p (v:V) (j:Nat) (o:Ob) (m:List (Nat×Ob)):t1r (.sto v j o) m=[]:=rfl
def nsC (j:Nat):List (Nat×Ob)→List Nat
 | []=>[]
 |x::r=>if (x.1 !=j&&x.2.has j)=true then x.1::nsC j r else nsC j r
theorem m2r (v:V) (j:Nat) (o:Ob) (m:List (Nat×Ob)):t1r (.app v j o) m=nsC j m:=by
 simp only [t1r]
 induction m with
 |nil=>rfl
 |cons x r ih=>
   rw [List.filter_cons];simp only [nsC]
   split
   ·rw [yL,ih]
   exact ih
theorem j2z (m:Bool×Bool) (v:V) (rv:List V) (ns:List Nat) (b:Da):g0y m ⟨.val v,rv,ns⟩ b=True:=rfl
theorem k2b (m:Bool×Bool) (v:V) (x:List (Nat×Ob)) (rv:List V) (ns:List Nat) (b:Da):g0y m ⟨.new v x,rv,ns⟩ b=True:=rfl
theorem k2a (m:Bool×Bool) (v:V) (k:Nat) (o:Ob) (rv:List V) (ns:List Nat) (b:Da):g0y m ⟨.sto v k o,rv,ns⟩ b=(m.1=true→b.rv.all (fun v=>!v.has k)=true∨(m.2=true∧l1d k b.e)):=rfl
theorem k2c (m:Bool×Bool) (v:V) (j:Nat) (o:Ob) (rv:List V) (ns:List Nat) (b:Da):g0y m ⟨.app v j o,rv,ns⟩ b=(b.rv.all (fun v=>!v.has j&&i2y v)=true∧b.e.free j=true∧(m.1=true→b.rv.all (fun v=>ns.all fun k=>!v.has k)=true)):=rfl
theorem i2b (l:List Oper) (D:List Da):w0l l D []=True:=rfl
theorem z1p (l:List Oper) (D:List Da) (p:Nat×Nat) (r:List (Nat×Nat)):w0l l D (p::r)=(atD (l[p.1]?.map fun o=>(d0k o.op,o0r o.op)) (l[p.2]?.map fun o=>(d0k o.op,o0r o.op)) D[p.1]? D[p.2]? ∧w0l l D r):=rfl
theorem z1v (x y:Bool×Bool) (a b:Da):atD (some x) (some y) (some a) (some b)=((a.e.mut=false∨b.e.mut=false∨a0l a.e b.e)∧g0y y a b∧g0y x b a):=rfl
theorem look_nil {α:Type} (n:Nat):look ([]:List (Nat×α)) n=none:=rfl
theorem v0w (l:List UInt8):(Az l).length=l.length:=by simp [Az]
theorem k1k :Az []=[]:=rfl
theorem k1l (k:Nat) (l:List UInt8):(Az l).any (L.has k)=false:=by
 simp only [Az,xC,xG]
 rintro x ⟨y,_,rfl⟩
 simp [L.has]
theorem u1e {α:Type} {a b:List α} {n:Nat} (h:a.length≤n):(a++b).take n=a++b.take (n-a.length):=by
 rw [List.take_append,xE h]
theorem c2d {α:Type} {a b:List α} {n:Nat} (h:n≤a.length):(a++b).take n=a.take n:=List.take_append_of_le_length h
theorem y1z {α:Type} {a b:List α} {n:Nat} (h:a.length≤n):(a++b).drop n=b.drop (n-a.length):=by
 rw [List.drop_append,xY h,yC]
theorem h2p {α:Type} {a b:List α} {n:Nat} (h:n≤a.length):(a++b).drop n=a.drop n++b:=List.drop_append_of_le_length h
theorem u1f {α:Type} {a:List α} {n:Nat} (h:a.length≤n):a.take n=a:=xE h
theorem z1a {α:Type} {a:List α} {n:Nat} (h:a.length≤n):a.drop n=[]:=xY h
theorem v0x (a b:List UInt8):Az a++Az b=Az (a++b):=by simp [Az]
theorem d1c (a:List UInt8) (n:Nat):(Az a).take n=Az (a.take n):=by simp [Az,List.map_take]
theorem d1d (a:List UInt8) (n:Nat):(Az a).drop n=Az (a.drop n):=by simp [Az,List.map_drop]
theorem h1m : ∀ l:List UInt8,a0b (Az l)=some l
 | []=>rfl
 |x::r=>by
   have ih:=h1m r
   simp only [Az] at ih
   simp only [Az,yL,a0b,ih,yR]
theorem d1a (bs:List UInt8):e0b (Av bs)=some bs:=by
 induction bs with
 |nil=>rfl
 |cons a l ih=>simp only [Av,yL,e0b] at ih ⊢;simp [ih]
theorem f0r (bs:List UInt8):(Av bs).length=bs.length:=by simp [Av]
theorem e0c (bs:List UInt8):pls (Av bs).flatten=Az bs:=by
 induction bs with
 |nil=>rfl
 |cons a l ih=>simp only [Av,yL,wV,pls,xQ,Az] at ih ⊢;simp [ih]
theorem a1m :Av []=[]:=rfl
def Dz (l:List UInt64):List L:=l.map fun b=>.pl (.u64 b)
def Jy (l:List UInt32):List L:=l.map fun b=>.pl (.u32 b)
theorem g0p {P:Program} {t:TypeId} {ks:List Kd} {xs ys:List L} (hk:flatK P 9 t=some ks) (hg:P.eqGuardType P.depth t=false) (hx:xs.map Tq=ks.map some) (hy:ys.map Tq=ks.map some):c0d P t xs ys=some (eqC xs ys):=by
 unfold c0d;rw [hk];simp only;rw [if_pos ⟨hx,hy,hg⟩]
theorem Sj {l:List UInt8} {n:Nat} (h:l.length=n):(Az l).map Tq=List.replicate n (some (.int .u8)):=by
 subst h
 induction l with
 |nil=>rfl
 |cons x r ih=>simp only [Az,yL,xD,wT] at ih ⊢;rw [ih];rfl
theorem o2i (x y:UInt8):eqL (.pl (.u8 x)) (.pl (.u8 y))=decide (x=y):=rfl
theorem h2c (x y:UInt32):eqL (.pl (.u32 x)) (.pl (.u32 y))=decide (x=y):=rfl
theorem h2b (x y:UInt64):eqL (.pl (.u64 x)) (.pl (.u64 y))=decide (x=y):=rfl
theorem y1q (x y:Int):eqL (.pl (.i x)) (.pl (.i y))=decide (x=y):=rfl
theorem r2g (x y:Bool):eqL (.pl (.b x)) (.pl (.b y))=decide (x=y):=rfl
theorem h2d (x y:List UInt8):eqL (.pl (.str x)) (.pl (.str y))=decide (x=y):=rfl
theorem o0f (x y:L) (xs ys:List L):eqC (x::xs) (y::ys)=(eqL x y&&eqC xs ys):=rfl
theorem r1j (ys:List L):eqC [] ys=true:=by cases ys<;>rfl
theorem x1t (x:UInt8):Tq (.pl (.u8 x))=some (.int .u8):=rfl
theorem p1y (x:UInt32):Tq (.pl (.u32 x))=some (.int .u32):=rfl
theorem p1x (x:UInt64):Tq (.pl (.u64 x))=some (.int .u64):=rfl
theorem f2s (x:Int):Tq (.pl (.i x))=some (.int .i64):=rfl
theorem f2t (x:Bool):Tq (.pl (.b x))=some .b:=rfl
theorem p1z (x:List UInt8):Tq (.pl (.str x))=some .s:=rfl
theorem q0f : ∀ {a b:List UInt8} {c d:List L},a.length=b.length→eqC (Az a++c) (Az b++d)=(decide (a=b)&&eqC c d)
 | [],[],c,d,_=>by simp [Az]
 | [],_::_,_,_,h=>by cases h
 |_::_,[],_,_,h=>by cases h
 |x::a,y::b,c,d,h=>by
   have ih:=q0f (a:=a) (b:=b) (c:=c) (d:=d) (by simpa using h)
   simp only [Az] at ih
   simp only [Az,yL,yB,eqC,ih,eqL]
   rw [←Bool.and_assoc]
   congr 1
   by_cases h1:x=y<;>by_cases h2:a=b<;>simp [h1,h2]
theorem k0a {a b:List UInt8} (h:a.length=b.length):eqC (Az a) (Az b)=decide (a=b):=by
 have:=q0f (a:=a) (b:=b) (c:=[]) (d:=[]) h
 simpa [eqC] using this
attribute [go_sem] Uz g0f n0s u0p a1r false_and and_false true_or or_true false_or or_false Int.cast_ofNat_Int Int.reduceEq Int.reduceNe Int.natCast_zero v1g n1s List.size_toArray Nat.mul_one Nat.one_mul i1a b0n k1i d1b p1b decide_true decide_false w64 Option.bind_none Option.map_none m0d s0f l1f z1x x1g p1d List.all_append look_nil v0w k1k k1l u1e c2d y1z h2p u1f z1a v0x d1c d1d h1m d1a f0r e0c a1m q0f k0a Sj o2i h2c h2b y1q r2g h2d o0f r1j x1t p1y p1x f2s f2t p1z
theorem q1w (place:Nat→Option (Nat×Nat)) (cells:List L):b0f place cells []=some cells:=by cases cells<;>rfl
theorem j1w (place:Nat→Option (Nat×Nat)) (cells:List L) (i:Nat) (v:W) (rest:List (Nat×V)):b0f place cells ((i,.w v)::rest)=(match place i with
 |some pl=>if v.cells.length=pl.2∧pl.1+pl.2≤cells.length then b0f place (upd cells pl.1 pl.2 v.cells) rest else none
 |none=>none):=by
 cases h:place i with
 |none=>simp only [b0f,h]
 |some pl=>simp only [b0f,h]
attribute [go_sem] q1w j1w upd wr k0m Xk placesOf m0f d0v t1o Iz i0x Tw V.num PL.num Vq m0r y0q i0c d0q n2a e0z h0g Fq l1j Tj w0r g0t Wy f1j p0w c0t V.kill W.kill Uq h0b toKind u1v e0p o0y a2m Ry b0e List.any_append Option.isSome_some Option.isSome_none xQ List.map_replicate yG vI Nat.sub_self Nat.reduceSub vB Nat.reduceBneDiff Nat.reduceMul Int.reduceLT Int.reduceLE Int.reduceToNat UInt8.reduceOfNat UInt32.reduceOfNat UInt64.reduceOfNat Int.toNat_zero Int.reduceNeg Nat.reduceDiv Int.reduceAdd Int.reduceSub Int.reduceMul Int.toNat_natCast
end Go.Sy
namespace Go.Sy
open Go.RowKit Go.WideShapes Go.ChangeShapes Go.ChangeAt
section
variable {H:Type} {enc:TypeId×Value→H} {P:Program}
theorem k0n (hl:laidOutB P=true) {W W':World} (hb:Below W.heap.size W W') {sp:Nat→Bool}: ∀ (ts:List TypeId) (vs:List Value) (ds:List (DataW H)) (ps:List MemPlace),
 (ts.all fun t=>P.readableRec t&&decide (t<P.types.size))=true→DataW.TrodAll enc P W 0 (fun _=>true) true ts vs ds ps→(∀ x∈ps,x.block<W.heap.size)→(∀ x∈ps,sp x.block=true)→DataW.TrodAll enc P W' 0 sp true ts vs ds ps
 | [],[],[],ps,_,h,_,_=>h
 |t::ts,v::vs,d::ds,ps,hr,h,hlt,hsp=>by
   obtain ⟨p,q,h1,h2,rfl⟩:=h
   simp only [wR,yD,decide_eq_true_eq] at hr
   refine ⟨p,q,WideElems.Trod_stays hl hr.1.1 hr.1.2 h1 (fun x hx=>hb.same (hlt x (by simp [hx]))) (fun x hx=>hsp x (by simp [hx])),?_,rfl⟩
   exact k0n hl hb ts vs ds q hr.2 h2 (fun x hx=>hlt x (by simp [hx])) (fun x hx=>hsp x (by simp [hx]))
 | [],_::_,_,_,_,h,_,_=>h.elim
 | [],[],_::_,_,_,h,_,_=>h.elim
 |_::_,[],_,_,_,h,_,_=>h.elim
 |_::_,_::_,[],_,_,h,_,_=>h.elim
theorem x1s {f:Func} {s:ChangeSpec} {apart fresh handsOn again:Bool} {t:TypeId} {W W':World} {args:Array Value} {ds gs:List (DataW H)} {before:List MemPlace}
 (hW:DataW.Whole enc P f.params.toList s.vars apart W args.toList ds gs before) (hl:laidOutB P=true) (hr:(f.params.toList.all fun t=>P.readableRec t&&decide (t<P.types.size))=true)
 (hv:s.vars=[]) (hrt:f.resultTypes= #[t]) (ht:P.underlying t=some .bool) (hs:s.fn H ds={results:=[.lit (.bool true)],args:=ds}) (hb:Below W.heap.size W W'):
 s.post enc P f apart fresh handsOn again W args (.bool true) W':=by
 have hW0:=hW
 obtain ⟨p,q,hA,hV,hpq,hz,hn⟩:=hW
 rw [hv] at hV
 obtain ⟨hg,hq⟩:=trodVars_none hV
 subst hg;subst hq;subst hpq
 have hlt: ∀ x∈p++[],x.block<W.heap.size:=fun x hx=>hW0.lt x hx
 simp only [wY] at hlt hW0
 have e:s.fn H (ds++[])={results:=[.lit (.bool true)],args:=ds}:=by rw [wY];exact hs
 have hargs: ∀ sp:Nat→Bool,(∀ x∈p,sp x.block=true)→DataW.TrodAll enc P W' 0 sp true f.params.toList args.toList (s.fn H (ds++[])).args p:=fun sp h=>by
  rw [e];exact k0n hl hb _ _ _ _ hr hA hlt h
 have hres: ∀ (b:Nat) (sp:Nat→Bool) (hd:Bool),DataW.TrodAll enc P W' b sp hd f.resultTypes.toList ((Value.bool true).resultList f.resultTypes.size) (s.fn H (ds++[])).results []:=fun b sp hd=>by
  rw [e,hrt];exact trodAll_mk1 (shut_bool ht true)
 have hvars: ∀ sp:Nat→Bool,DataW.TrodVars enc P W' sp s.vars (s.fn H (ds++[])).vars []:=fun sp=>by rw [e,hv];rfl
 have hold: ∀ x∈p,(fun b=>decide (b<W.heap.size)) x.block=true:=fun x hx=>by simpa using hlt x hx
 refine ⟨ds,[],p,[],p,[],hW0,hres _ _ _,hargs _ hold,hvars _,World.keptBut_mono (fun x hx=>⟨hx,?_⟩) (hb.frame (· ∈p)),fun _=>?_⟩
 ·exact Or.inr (by simpa using hx)
 refine ⟨ok_one hrt rfl (okWide_bool_mk ht true),_,_,([]++p)++[],⟨[]++p,[],trodAll_append (hargs _ (fun _ _=>rfl)) (hres _ _ _),hvars _,rfl,?_,?_⟩,?_⟩
 ·intro b off hp
  have hin:MemPlace.cell b off∈p:=by simpa using hp
  rw [hb.frozen (hlt _ hin)]
  exact hz b off (by simpa using hin)
 ·intro ha
  have:=hn ha
  simpa using this
 intro x hx _
 simpa using hx
end
end Go.Sy
