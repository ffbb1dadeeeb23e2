/- The layer that reckons a function out: what it says of states, operations, regions, loops, calls. CONDITIONS: those that each theorem names. -/
import Derived.Test.YtijngjidkdkmeaavE2
import Derived.Lib.LaidTab
import Derived.LaidLaws
import Derived.KernelRfl
import Derived.MapKept
import Derived.Orders
import Derived.ScopeJumps
set_option linter.unusedVariables false
set_option linter.unusedSimpArgs false
namespace Go.Sy
section
variable {P:Program} {B:Base} {S:St} {Q:Exit→St→Prop}
theorem k1m {x:Code} {ι:Type} (E:List (Nat×V)) (M:List (Nat×Ob)) (e:ι→List (Nat×V)) (m:ι→List (Nat×Ob)) (μ:ι→Nat) (i₀:ι) (h0:leX [] S.env (e i₀++E)) (h1:leX [] S.mem (m i₀++M))
  (round: ∀ i,∀ (N:St→Prop) (M':Exit→St→Prop),(∀ j S',μ j<μ i→leX [] S'.env (e j++E)→leX [] S'.mem (m j++M)→N S')→(∀ e S',Q e S'→M' e S')→HT P B x ⟨e i++E,m i++M⟩ (i0h N M')):HT P B (.loop x) S Q:=by
 refine HT.loop (fun i=>⟨e i++E,m i++M⟩) μ i₀ (Le.ofX h0 h1) fun i=>?_
 exact round i _ Q (fun j S' hj he hm=>⟨j,hj,Le.ofX he hm⟩) (fun _ _ h=>h)
theorem s1g {x y:Code} {α:Type} (e:α→List (Nat×V)) (m:α→List (Nat×Ob)) (p:α→Prop)
  (h1: ∀ (N:St→Prop) (M:Exit→St→Prop),(∀ a,p a→∀ S',leX [] S'.env (e a++S.env)→leX [] S'.mem (m a++S.mem)→N S')→(∀ e S',Q e S'→M e S')→HT P B x S (i0h N M))
  (h2: ∀ a,p a→HT P B y ⟨e a++S.env,m a++S.mem⟩ Q):HT P B (.seq x y) S Q:=
 HT.seq (h1 (fun S'=>HT P B y S' Q) Q (fun a ha S' he hm=>HT.le (Le.ofX he hm) (h2 a ha)) (fun _ _ h=>h))
end
end Go.Sy
namespace Go.Sy
open Go.RowKit Go.WideShapes Go.ChangeShapes Go.ChangeAt
end Go.Sy
namespace Go.Sy
theorem Sj (c:List PL):(pls c).length=c.length:=by simp [pls]
theorem Zk (vw:Bool) (S:St) (hd:Hand) (r:List L): ∀ c:List PL,Gy vw S hd (pls c++r)=(Gy vw S hd r).map (pls c++ ·)
 | []=>by simp [pls]
 |x::l=>by
  have ih:=Zk vw S hd r l
  simp only [pls] at ih
  simp only [pls,List.map_cons,List.cons_append,Gy,Oj,ih]
  cases Gy vw S hd r<;>rfl
theorem p0s (vw:Bool) (S:St) (hd:Hand) (c:List PL):Gy vw S hd (pls c)=some (pls c):=by
 have:=Zk vw S hd [] c
 simpa [Gy] using this
theorem s0a (m:List (Nat×Ob)) (c:List PL):(pls c).all (Nq false m)=true:=by
 simp only [pls,List.all_eq_true,List.mem_map]
 rintro _ ⟨x,_,rfl⟩;rfl
theorem b1r (k:Nat) (c:List PL):(pls c).map (Rx k)=pls c:=by simp only [pls,List.map_map];congr 1
attribute [go_sem] Zk p0s s0a b1r Pk m1e Sj
end Go.Sy
namespace Go.Sy
def FG (ks:List Nat):Prop:=True
theorem V.ren_same (v:V):v.ren (fun k=>k)=v:=by
 have hw: ∀ x:W,x.ren (fun k=>k)=x:=by
  intro x
  cases x with
  |one l=>simp only [W.ren,L.ren_id]
  |agg cs=>simp only [W.ren,W.agg.injEq];exact List.map_id'' L.ren_id _
 cases v with
 |w x=>simp only [V.ren,hw]
 |tup xs=>simp only [V.ren,V.tup.injEq];exact List.map_id'' hw _
 |any=>rfl
theorem g1f {m2:List (Nat×Ob)} {k:Nat} {o:Ob} (h:look m2 k=some o):(k,o)∈m2:=by
 induction m2 with
 |nil=>cases h
 |cons x r ih=>
  simp only [look] at h
  split at h
  ·rename_i e;cases h;subst e;exact .head _
  ·exact .tail _ (ih h)
theorem b0c {R:V→List (Nat×Ob)→Prop} {v:V} {m m2:List (Nat×Ob)} (hm: ∀ x∈m2,look m x.1=some x.2) (h:R v m2):Told R v m:=
 i0g ⟨fun k=>k,v,m2,(V.ren_same v).symm,k0w fun k o hk=>hm _ (g1f hk),h⟩
def i0t (m0:List (Nat×Ob)):List (Nat×Ob)→Option (Nat×List PL)
 | []=>none
 |x::r=>match (look m0 x.1).bind fun o=>k0x o.cells with
  |some c=>if x.1<500000 then some (x.1,c) else i0t m0 r
  |none=>i0t m0 r
def m0x :Nat→List (Nat×Ob)→V→Option V
 |0,_,v=>if l0p v=true then some v else none
 |n+1,m,v=>if l0p v=true then some v else match i0t m m with
  |none=>none
  |some x=>m0x n (o0q x.1 x.2 m) (a1b x.1 x.2 v)
theorem f0z {m0:List (Nat×Ob)}: ∀ {m:List (Nat×Ob)} {x:Nat×List PL},i0t m0 m=some x→(∃ b,look m0 x.1=some ⟨b,pls x.2⟩)∧x.1<500000
 | [],_,h=>by cases h
 |y::r,x,h=>by
  simp only [i0t] at h
  split at h
  ·rename_i c hc
   split at h
   ·rename_i hl
    cases h
    obtain ⟨o,ho,hu⟩:=Option.bind_eq_some_iff.mp hc
    have:=i0f hu
    obtain ⟨b,cs⟩:=o
    simp only at this
    subst this
    exact ⟨⟨b,ho⟩,hl⟩
   ·exact f0z h
  ·exact f0z h
theorem u0c {R:V→List (Nat×Ob)→Prop}: ∀ {n:Nat} {m:List (Nat×Ob)} {v v':V},m0x n m v=some v'→R v' []→Told R v m
 |0,m,v,v',h,hr=>by
  simp only [m0x] at h
  split at h
  ·rename_i hp;cases h;exact told_plain hp hr
  ·cases h
 |n+1,m,v,v',h,hr=>by
  simp only [m0x] at h
  split at h
  ·rename_i hp;cases h;exact told_plain hp hr
  ·split at h
   ·cases h
   ·rename_i x hx
    obtain ⟨⟨b,hk⟩,hl⟩:=f0z hx
    exact y0e x.1 x.2 hk hl (u0c h hr)
section
variable {P:Program} {B:Base} {S:St} {K:St→Prop} {dst:Option Tmp} {ty:TypeId} {pos:String} {af:Array Edge} {f:FuncId} {args:List Operand} {ts:Array TypeId} {ds:List (Option Tmp)} {r:List Oper} {vs:List V} {m:List (Nat×Ob)} {R:V→List (Nat×Ob)→Prop}
theorem p1i {vw:Bool} {hd:Hand} (hgo: ∀ vals w,(callFunc f vals).run P w=.ok (.enter f vals) w) (hargs:Nw vw S hd args=some vs) (hok:g1u hd=true) (hm:Kj S hd m) (hc:CH vw hd P f vs m R)
  (hK: ∀ v m',R v m'→Jw vw m' v=true∧a0r vw (fun k=>k+1000) hd S m m' m'∧hd.all (fun x=>(look m' x.1).isSome)=true∧(match dst with
   |some n=>n<B.nt∧Bq P B ds r ⟨(n,v.ren (Mk (fun k=>k+1000) hd))::S.env,Nj (fun k=>k+1000) hd m' S.mem⟩ K
   |none=>Bq P B ds r ⟨S.env,Nj (fun k=>k+1000) hd m' S.mem⟩ K)):
  Ey P B ⟨dst,.call ⟨.value (.func f),args.toArray,ts⟩,ty,pos,af,none⟩ S ds r K:=Sw vw hd (fun k=>k+1000) hgo hargs hok hm hc hK
end
section
variable {P:Program} {B:Base} {c:Code} {S:St} {Q:Exit→St→Prop}
theorem q1t {x:Code} {n:Nat} {ks:List Nat} (hk:FG ks) (h: ∀ (N:St→Prop) (M:Exit→St→Prop),(∀ S',rnd P B x Q n S'→N S')→(∀ e S',Q e S'→M e S')→HT P B x (S.forget ks) (i0h N M)):rnd P B x Q (n+1) S:=w0i ks (u1f h)
def DR (id:Nat) (names c:List Nat) (need:List (Nat×Nat)):Prop:=True
theorem h0a {id:Nat} {l:List Oper} {names d:List Nat} {need:List (Nat×Nat)} (hz:DR id names d need) (hm:P.follows .mixedOrders=true) (hst:j0r (c0v l) d need l=true)
  (hn:names.all (fun k=>fresh k S&&(look S.mem k).isNone)=true)
  (h: ∀ K:St→List Da→Prop,(∀ S' D,s0n l D need→Q .normal S'→K S' D)→Tk P B.nt names (c0v l) (!need.isEmpty) l [] [] S K):HT P B (.region id l.toArray true) S Q:=k1t names d need hm hst hn h
theorem k1d {id:Nat} {l:List Oper} {y:Code} {names d:List Nat} {need:List (Nat×Nat)} (hz:DR id names d need) (hm:P.follows .mixedOrders=true) (hst:j0r (c0v l) d need l=true)
  (hn:names.all (fun k=>fresh k S&&(look S.mem k).isNone)=true)
  (h: ∀ K:St→List Da→Prop,(∀ S' D,s0n l D need→HT P B y S' Q→K S' D)→Tk P B.nt names (c0v l) (!need.isEmpty) l [] [] S K):HT P B (.seq (.region id l.toArray true) y) S Q:=a0m names d need hm hst hn h
end
end Go.Sy
namespace Go.Sy
section
variable {P:Program} {B:Base} {c:Code} {S:St} {Q:Exit→St→Prop}
theorem HT.run2 (h : HT P B c S Q := by
    repeat (first
      | refine zhK _ ?_
      | (refine zhN _ ?_; clear zhN zhM)
      | (refine zhM _ _ ?_; clear zhN zhM)
      | (refine zbn _ ?_; clear zbn zbx zbr zbi)
      | (refine zbx _ ?_; clear zbn zbx zbr zbi)
      | (refine zbr _ ?_; clear zbn zbx zbr zbi)
      | (refine zbi _ _ ?_ ?_; focus (decide); clear zbn zbx zbr zbi)
      | (refine zhZ _ _ ?_; (try simp only [go_sem, F0, Nat.reduceAdd, Int.reduceTMod, Int.reduceTDiv, Int.reduceNeg, Int.reduceMul, Int.reduceToNat, Int.mul_zero]); (all_goals (first | rfl | exact ⟨rfl, rfl⟩ | exact told_plain rfl ⟨rfl, rfl⟩ | exact Uy rfl (a0c (by simp [look, F0])) ⟨rfl, rfl⟩ | exact zE | exact zE _ | (rw [zE]; done) | (simp [F0]; done) | (refine u0c (n := 40) ?_ rfl; first | rfl | kernel_rfl) | exact b0c (by simp [look, F0]) ⟨rfl, rfl⟩ | exact zE _ (by first | rfl | (simp [look, F0]; done)))))
      | (refine zL _ ?_ ?_; all_goals (simp only [go_sem, leX, List.cons_append, List.nil_append, F0]; try simp))
      | (refine q1t zF fun zN zM zhN zhM => ?_; (try simp only [go_sem, St.forget, fgt]))
      | refine f1k 64 ?_
      | (refine Dw fun zK zhK => ?_; (try simp only [go_sem, F0, Nat.reduceAdd, Int.reduceTMod, Int.reduceTDiv, Int.reduceNeg, Int.reduceMul, Int.reduceToNat, Int.mul_zero]); (repeat' (first | apply And.intro | intro _)))
      | (refine Aq fun zK zhK => ?_; (try simp only [go_sem, F0, Nat.reduceAdd, Int.reduceTMod, Int.reduceTDiv, Int.reduceNeg, Int.reduceMul, Int.reduceToNat, Int.mul_zero]); (repeat' (first | apply And.intro | intro _)))
      | ((first | (obtain ⟨cz, cq⟩ := cq; refine a0q (fun _ _ => rfl) ?_ cz ?_; focus (first | rfl | (simp only [go_sem, F0, Nat.reduceAdd, Int.reduceTMod, Int.reduceTDiv, Int.reduceNeg, Int.reduceMul, Int.reduceToNat, Int.mul_zero] <;> rfl))) | (obtain ⟨cz, cq⟩ := cq; refine a0q (fun _ _ => rfl) ?_ (cz ?_) ?_; focus (first | rfl | (simp only [go_sem, F0, Nat.reduceAdd, Int.reduceTMod, Int.reduceTDiv, Int.reduceNeg, Int.reduceMul, Int.reduceToNat, Int.mul_zero] <;> rfl))))
         rintro v m ⟨hR, hm⟩; subst hR; subst hm
         refine And.intro ?_ (And.intro ?_ ?_); iterate 2 (focus (first | rfl | simp only [go_sem, F0, Nat.reduceAdd, Int.reduceTMod, Int.reduceTDiv, Int.reduceNeg, Int.reduceMul, Int.reduceToNat, Int.mul_zero]))
         (try simp only [go_sem, F0, Nat.reduceAdd, Int.reduceTMod, Int.reduceTDiv, Int.reduceNeg, Int.reduceMul, Int.reduceToNat, Int.mul_zero]); (repeat' (first | apply And.intro | intro _)))
      | ((first | (obtain ⟨cz, cq⟩ := cq; refine Cx (fun k => k) _ [] (fun _ _ => rfl) ?_ cz ?_ ?_; focus (first | rfl | (simp only [go_sem, F0, Nat.reduceAdd, Int.reduceTMod, Int.reduceTDiv, Int.reduceNeg, Int.reduceMul, Int.reduceToNat, Int.mul_zero] <;> rfl))) | (obtain ⟨cz, cq⟩ := cq; refine Cx (fun k => k) _ [] (fun _ _ => rfl) ?_ (cz ?_) ?_ ?_; focus (first | rfl | (simp only [go_sem, F0, Nat.reduceAdd, Int.reduceTMod, Int.reduceTDiv, Int.reduceNeg, Int.reduceMul, Int.reduceToNat, Int.mul_zero] <;> rfl))))
         (refine And.intro ?_ (And.intro ?_ (And.intro ?_ ?_)) <;> first | rfl | simp only [go_sem])
         (try simp only [go_sem, F0, Nat.reduceAdd, Int.reduceTMod, Int.reduceTDiv, Int.reduceNeg, Int.reduceMul, Int.reduceToNat, Int.mul_zero]); (repeat' (first | apply And.intro | intro _)))
      | ((first | (obtain ⟨cz, cq⟩ := cq; refine j1r ?_ cz ?_; focus (first | rfl | (simp only [go_sem, F0, Nat.reduceAdd, Int.reduceTMod, Int.reduceTDiv, Int.reduceNeg, Int.reduceMul, Int.reduceToNat, Int.mul_zero] <;> rfl))))
         (try simp only [go_sem, F0, Nat.reduceAdd, Int.reduceTMod, Int.reduceTDiv, Int.reduceNeg, Int.reduceMul, Int.reduceToNat, Int.mul_zero]); (repeat' (first | apply And.intro | intro _)))
      | ((first | (obtain ⟨cz, cq⟩ := cq; refine q0l ?_ cz ?_; focus (first | rfl | (simp only [go_sem, F0, Nat.reduceAdd, Int.reduceTMod, Int.reduceTDiv, Int.reduceNeg, Int.reduceMul, Int.reduceToNat, Int.mul_zero] <;> rfl))))
         (try simp only [go_sem, F0, Nat.reduceAdd, Int.reduceTMod, Int.reduceTDiv, Int.reduceNeg, Int.reduceMul, Int.reduceToNat, Int.mul_zero]); (repeat' (first | apply And.intro | intro _)))
      | ((first | (obtain ⟨cz, cq⟩ := cq; refine p1i (fun _ _ => rfl) ?_ ?_ ?_ cz ?_; iterate 3 (focus (first | rfl | decide | (simp only [go_sem, F0, Nat.reduceAdd, Int.reduceTMod, Int.reduceTDiv, Int.reduceNeg, Int.reduceMul, Int.reduceToNat, Int.mul_zero] <;> first | done | rfl | simp)))) | (obtain ⟨⟨cg, cz⟩, cq⟩ := cq; refine k0e ?_ ?_ (fun _ _ => rfl) ?_ ?_ ?_ cg cz ?_; iterate 5 (focus (first | rfl | decide | (simp only [go_sem, F0, Nat.reduceAdd, Int.reduceTMod, Int.reduceTDiv, Int.reduceNeg, Int.reduceMul, Int.reduceToNat, Int.mul_zero] <;> first | done | rfl | simp)))))
         rintro v m ⟨hR, hm⟩; subst hR; subst hm
         refine And.intro ?_ (And.intro ?_ (And.intro ?_ ?_)); iterate 3 (focus (first | rfl | (simp only [go_sem, F0, Nat.reduceAdd, Int.reduceTMod, Int.reduceTDiv, Int.reduceNeg, Int.reduceMul, Int.reduceToNat, Int.mul_zero]; done) | (simp [go_sem, look, F0]; done)))
         (try simp only [go_sem, F0, Nat.reduceAdd, Int.reduceTMod, Int.reduceTDiv, Int.reduceNeg, Int.reduceMul, Int.reduceToNat, Int.mul_zero]); (repeat' (first | apply And.intro | intro _)))
      | ((first | refine k1d zd0 mixed ?_ ?_ fun zK zhK => ?_ | refine h0a zd0 mixed ?_ ?_ fun zK zhK => ?_ | refine k1d zd1 mixed ?_ ?_ fun zK zhK => ?_ | refine h0a zd1 mixed ?_ ?_ fun zK zhK => ?_ | refine k1d zd2 mixed ?_ ?_ fun zK zhK => ?_ | refine h0a zd2 mixed ?_ ?_ fun zK zhK => ?_ | refine k1d zd3 mixed ?_ ?_ fun zK zhK => ?_ | refine h0a zd3 mixed ?_ ?_ fun zK zhK => ?_ | refine k1d zd4 mixed ?_ ?_ fun zK zhK => ?_ | refine h0a zd4 mixed ?_ ?_ fun zK zhK => ?_ | refine k1d zd5 mixed ?_ ?_ fun zK zhK => ?_ | refine h0a zd5 mixed ?_ ?_ fun zK zhK => ?_ | refine k1d zd6 mixed ?_ ?_ fun zK zhK => ?_ | refine h0a zd6 mixed ?_ ?_ fun zK zhK => ?_ | refine k1d zd7 mixed ?_ ?_ fun zK zhK => ?_ | refine h0a zd7 mixed ?_ ?_ fun zK zhK => ?_); (focus (kernel_rfl)); (focus (simp only [go_sem])); (try simp only [go_sem, F0]); (repeat' (first | apply And.intro | intro _)))
      | (refine zhK _ _ ?_ ?_; focus (first | trivial | (simp only [go_sem]; done) | (simp only [go_sem]; simp; done) | (simp only [go_sem]; simp; simp only [go_sem])))
      | refine Bj fun zN zM zhN zhM => ?_
      | refine Bw fun zB zbn zbx zbr zbi => ?_
      | refine Bv ?_
      | refine Cq ?_
      | refine Iw ?_
      | (refine Av ?_ ?_; focus (first | rfl | (simp [go_sem, F0]; done)))
      | (refine Aj ?_ ?_; focus (first | rfl | (simp [go_sem, F0]; done))))) : HT P B c S Q := h
end
theorem Ct.run2 {P:Program} {f:FuncId} {fn:Func} {c:Code} {args:List V} {R:V→List (Nat×Ob)→Prop} {nt:Nat} {rs:Array ResultVar} (hf:P.funcs[f]? =some fn) (hb:fn.body=some c) (hnt:fn.ntmps=nt) (hrs:fn.results=rs)
  (h: ∀ (w0:World) (ro:Ro),HT P ⟨w0,fun _=>False,nt,ro,fun _=>none⟩ c ⟨g0n 0 args,[]⟩ (o1s P rs.toList R):=by intro w0 ro;refine Ck fun zZ zhZ=>?_;exact HT.run2) (hn:args.length≤nt:=by simp):Ct P f args R:=
 Ct.k hf hb hnt (congrArg Array.toList hrs) hn h
theorem CtM.run2 {P:Program} {f:FuncId} {fn:Func} {c:Code} {args:List V} {m:List (Nat×Ob)} {R:V→List (Nat×Ob)→Prop} {nt:Nat} {rs:Array ResultVar} (hf:P.funcs[f]? =some fn) (hb:fn.body=some c) (hnt:fn.ntmps=nt) (hrs:fn.results=rs)
  (h: ∀ (w0:World) (ro:Ro) (may:Nat→Prop) (fx:Nat→Option (Nat×Nat)),HT P ⟨w0,may,nt,ro,fx⟩ c ⟨g0n 0 args,m⟩ (o1s P rs.toList R):=by intro w0 ro may fx;refine Ck fun zZ zhZ=>?_;exact HT.run2) (hn:args.length≤nt:=by simp):CtM P f args m R:=
 CtM.k hf hb hnt (congrArg Array.toList hrs) hn h
end Go.Sy
namespace Go.Sy
open Go.MapKept
abbrev Mp :=List (List UInt8×Int)
def getM :Mp→List UInt8→Int
 | [],_=>0
 |x::r,s=>if x.1=s then x.2 else getM r s
def Dk :Mp→List UInt8→Int→Mp
 | [],s,n=>[(s,n)]
 |x::r,s,n=>if x.1=s then (s,n)::r else x::Dk r s n
def posM :Mp→List UInt8→Nat→Option (Nat×Value)
 | [],_,_=>none
 |x::r,s,j=>if x.1=s then some (j,.int .i64 x.2) else posM r s (j+1)
theorem str_inj {a b:List UInt8}:((⟨a.toArray⟩:ByteArray)=⟨b.toArray⟩)↔a=b:=by
 constructor
 ·intro h
  have:=congrArg (fun x:ByteArray=>x.data.toList) h
  simpa using this
 ·rintro rfl;rfl
theorem c0q (s:List UInt8): ∀ (l:Mp) (i j:Nat),Instr.findNow .string (.string ⟨s.toArray⟩) (Jv i l) j=some (posM l s j)
 | [],_,_=>rfl
 |x::r,i,j=>by
  rw [Jv,Instr.findNow,posM]
  simp only [Instr.sameNow]
  by_cases h:x.1=s
  ·have hb:((⟨s.toArray⟩:ByteArray)==⟨x.1.toArray⟩)=true:=(bytes_beq _ _).mpr (str_inj.mpr h.symm)
   rw [hb,if_pos h]
  ·have hb:((⟨s.toArray⟩:ByteArray)==⟨x.1.toArray⟩)=false:=by
    cases hq:((⟨s.toArray⟩:ByteArray)==⟨x.1.toArray⟩) with
    |false=>rfl
    |true=>exact absurd (str_inj.mp ((bytes_beq _ _).mp hq)).symm h
   rw [hb,if_neg h]
   exact c0q s r (i+1) (j+1)
theorem e0h {s:List UInt8}: ∀ {l:Mp} {j:Nat},posM l s j=none→(∀ n,Dk l s n=l++[(s,n)])∧getM l s=0
 | [],_,_=>⟨fun _=>rfl,rfl⟩
 |x::r,j,h=>by
  rw [posM] at h
  split at h
  ·cases h
  ·rename_i hn
   obtain ⟨h1,h2⟩:=e0h h
   refine ⟨fun n=>?_,?_⟩
   ·rw [Dk,if_neg hn,h1];rfl
   ·rw [getM,if_neg hn];exact h2
theorem e0g {s:List UInt8}: ∀ {l:Mp} {j i:Nat} {v:Value},posM l s j=some (i,v)→∃ k,i=j+k∧k<l.length∧v=.int .i64 (getM l s)∧
  ∀ (q:Nat),((Jv q l)[k]?).map (·.key)=some (.string ⟨s.toArray⟩)∧((Jv q l)[k]?).map (·.born)=some (q+k)∧∀ n (f:MapEntry→MapEntry),(∀ e,f e={e with key:=.string ⟨s.toArray⟩,val:=.int .i64 n})→(Jv q l).modify k f=Jv q (Dk l s n)
 | [],_,_,_,h=>by cases h
 |x::r,j,i,v,h=>by
  rw [posM] at h
  split at h
  ·rename_i hs
   cases h
   refine ⟨0,rfl,by simp,by rw [getM,if_pos hs],fun q=>⟨by simp [Jv,hs],by simp [Jv],fun n f hf=>?_⟩⟩
   rw [Jv,Dk,if_pos hs,Jv]
   simp [hf]
  ·rename_i hn
   obtain ⟨k,hk,hl,hv,hq⟩:=e0g h
   refine ⟨k+1,by omega,by simp only [List.length_cons];omega,by rw [getM,if_neg hn];exact hv,fun q=>?_⟩
   obtain ⟨h1,h2,h3⟩:=hq (q+1)
   refine ⟨by simpa [Jv] using h1,by simp only [Jv,List.getElem?_cons_succ];rw [h2];congr 1;omega,fun n f hf=>?_⟩
   rw [Jv,Dk,if_neg hn,Jv,List.modify_succ_cons,h3 n f hf]
section
variable {P:Program} {w:World} {b:Nat} {l:Mp} {s:List UInt8} {xt kt et:TypeId}
theorem i0p (he:(P.info? et).bind (·.zero)=some (.int .i64 0)):(zeroValue et).run P w=.ok (.int .i64 0) w:=by
 obtain ⟨i,hi,hz⟩:=Option.bind_eq_some_iff.mp he
 simp [zeroValue,typeInfo,hi,hz]
theorem o0w (hx:P.underlying xt=some (.map kt et)) (hk:P.underlying kt=some .string) (he:(P.info? et).bind (·.zero)=some (.int .i64 0)) (h:MapAt w b l):
  (Instr.lookup xt (.map (some b)) (.string ⟨s.toArray⟩) false).run P w=.ok (.int .i64 (getM l s)) w:=by
 have hf:=run_findKey (P:=P) (w:=w) hk (c0q s l 0 0)
 cases hp:posM l s 0 with
 |none=>
  rw [hp] at hf
  simp [Instr.lookup,run_underlying hx,Go.MapKept.run_getObj_map h,run_checkKey hk (show IsKey .string (.string ⟨s.toArray⟩) from trivial),hf,i0p he,(e0h hp).2,Result.andThen]
 |some x=>
  obtain ⟨i,v⟩:=x
  rw [hp] at hf
  obtain ⟨_,_,_,hv,_⟩:=e0g hp
  simp [Instr.lookup,run_underlying hx,Go.MapKept.run_getObj_map h,run_checkKey hk (show IsKey .string (.string ⟨s.toArray⟩) from trivial),hf,hv,Result.andThen]
theorem c1v (l:Mp) (s:List UInt8) (n:Int) (i:Nat):Jv i l++[⟨.string ⟨s.toArray⟩,.int .i64 n,i+l.length⟩]=Jv i (l++[(s,n)]):=by
 induction l generalizing i with
 |nil=>simp [Jv]
 |cons x r ih=>
  have:=ih (i+1)
  simp only [List.length_cons,List.cons_append,Jv]
  rw [←this,show i+(r.length+1)=i+1+r.length from by omega]
theorem r0t {l:Mp} {s:List UInt8} {n:Int}:(Dk l s n).length=if posM l s 0=none then l.length+1 else l.length:=by
 have key: ∀ (l:Mp) (j:Nat),(Dk l s n).length=if posM l s j=none then l.length+1 else l.length:=by
  intro l
  induction l with
  |nil=>intro j;simp [Dk,posM]
  |cons x r ih=>
   intro j
   rw [Dk,posM]
   split
   ·simp
   ·rw [List.length_cons,ih (j+1)];split<;>simp
 exact key l 0
def Oq (w:World) (b:Nat) (l:Mp):World:={w with heap:=w.heap.setIfInBounds b (.map (Jv 0 l).toArray l.length)}
theorem o0v {n:Int} (hx:P.underlying xt=some (.map kt et)) (hk:P.underlying kt=some .string) (h:MapAt w b l):
  (Instr.mapUpdate xt (.map (some b)) (.string ⟨s.toArray⟩) (.int .i64 n)).run P w=.ok () (Oq w b (Dk l s n)):=by
 have hf:=run_findKey (P:=P) (w:=w) hk (c0q s l 0 0)
 have hl:=r0t (l:=l) (s:=s) (n:=n)
 cases hp:posM l s 0 with
 |none=>
  rw [hp] at hf hl
  rw [if_pos rfl] at hl
  have e:=c1v l s n 0
  simp only [Nat.zero_add] at e
  simp [Instr.mapUpdate,run_underlying hx,Go.MapKept.run_getObj_map h,run_checkKey hk (show IsKey .string (.string ⟨s.toArray⟩) from trivial),hf,run_setObj_map _ h,Oq,(e0h hp).1 n,Result.andThen,e]
 |some x=>
  obtain ⟨i,v⟩:=x
  rw [hp] at hf hl
  rw [if_neg (by simp)] at hl
  obtain ⟨k,hk2,hlt,hv,hq⟩:=e0g hp
  obtain ⟨h1,h2,h3⟩:=hq 0
  simp only [Nat.zero_add] at hk2 h2
  subst hk2
  have e:=h3 n (fun e=>{e with key:=.string ⟨s.toArray⟩,val:=.int .i64 n}) (fun _=>rfl)
  have e2:(Jv 0 l).toArray.modify i (fun e=>{e with key:=.string ⟨s.toArray⟩,val:=.int .i64 n})=(Jv 0 (Dk l s n)).toArray:=by
   rw [←e];exact Array.toList_inj.mp (by simp)
  obtain ⟨me,hme,hme2⟩: ∃ me,(Jv 0 l)[i]? =some me∧me.key=.string ⟨s.toArray⟩:=by
   cases hq:(Jv 0 l)[i]? with
   |none=>rw [hq] at h1;cases h1
   |some me=>rw [hq] at h1;exact ⟨me,rfl,by simpa using h1⟩
  simp [Instr.mapUpdate,run_underlying hx,Go.MapKept.run_getObj_map h,run_checkKey hk (show IsKey .string (.string ⟨s.toArray⟩) from trivial),hf,run_setObj_map _ h,Oq,Result.andThen,hme,hme2,run_keyThatStays (d:=.string) (k:=.string ⟨s.toArray⟩) trivial,e2,e,hl]
end
end Go.Sy
namespace Go.Sy
open Go.MapKept
def Dx :Mp→List UInt8→Mp
 | [],s=>[(s,0)]
 |x::r,s=>if x.1=s then x::r else x::Dx r s
def h0s :Mp→List UInt8→Nat
 | [],_=>0
 |x::r,s=>if x.1=s then 0 else h0s r s+1
def setAt :Mp→Nat→Int→Mp
 | [],_,_=>[]
 |x::r,0,n=>(x.1,n)::r
 |x::r,j+1,n=>x::setAt r j n
theorem i0n (s:List UInt8) (n:Int): ∀ l:Mp,setAt (Dx l s) (h0s l s) n=Dk l s n
 | []=>rfl
 |x::r=>by
  rw [Dx,h0s,Dk]
  split
  ·rename_i h;rw [setAt,h]
  ·rw [setAt,i0n s n r]
theorem b1u (s:List UInt8): ∀ l:Mp,h0s l s<(Dx l s).length
 | []=>by simp [h0s,Dx]
 |x::r=>by
  rw [h0s,Dx]
  split
  ·simp
  ·have:=b1u s r;simp only [List.length_cons];omega
theorem b0g {s:List UInt8}: ∀ {l:Mp} {j:Nat},posM l s j=none→Dx l s=l++[(s,0)]∧h0s l s=l.length
 | [],_,_=>⟨rfl,rfl⟩
 |x::r,j,h=>by
  rw [posM] at h
  split at h
  ·cases h
  ·rename_i hn
   obtain ⟨h1,h2⟩:=b0g h
   exact ⟨by rw [Dx,if_neg hn,h1];rfl,by rw [h0s,if_neg hn,h2];rfl⟩
theorem b0f {s:List UInt8}: ∀ {l:Mp} {j i:Nat} {v:Value},posM l s j=some (i,v)→Dx l s=l∧i=j+h0s l s
 | [],_,_,_,h=>by cases h
 |x::r,j,i,v,h=>by
  rw [posM] at h
  split at h
  ·rename_i hs;cases h;exact ⟨by rw [Dx,if_pos hs],by rw [h0s,if_pos hs];rfl⟩
  ·rename_i hn
   obtain ⟨h1,h2⟩:=b0f h
   exact ⟨by rw [Dx,if_neg hn,h1],by rw [h0s,if_neg hn];omega⟩
theorem g0r : ∀ (l:Mp) (j:Nat) (n:Int),(setAt l j n).length=l.length
 | [],_,_=>rfl
 |x::r,0,n=>rfl
 |x::r,j+1,n=>by rw [setAt,List.length_cons,List.length_cons,g0r]
theorem c1w : ∀ (l:Mp) (q j:Nat),j<l.length→(Jv q l).findIdx? (fun e=>(e.born:Int)==((q+j:Nat):Int))=some j
 | [],_,_,h=>absurd h (Nat.not_lt_zero _)
 |x::r,q,0,_=>by simp [Jv,List.findIdx?_cons]
 |x::r,q,j+1,h=>by
  have:=c1w r (q+1) j (by simpa using h)
  rw [Jv,List.findIdx?_cons]
  have hne:(((q:Nat):Int)==((q+(j+1):Nat):Int))=false:=by
   rw [beq_eq_false_iff_ne];omega
  simp only [hne]
  rw [show q+(j+1)=q+1+j from by omega,this]
  rfl
theorem k1q : ∀ (l:Mp) (q j:Nat) (n:Int),(Jv q l).modify j (fun e=>{e with val:=.int .i64 n})=Jv q (setAt l j n)
 | [],q,j,n=>by cases j<;>simp [Jv,setAt]
 |x::r,q,0,n=>by simp [Jv,setAt]
 |x::r,q,j+1,n=>by rw [Jv,setAt,Jv,List.modify_succ_cons,k1q r (q+1) j n]
section
variable {P:Program} {w:World} {b:Nat} {l:Mp} {s:List UInt8} {xt kt et:TypeId}
theorem r0n (hx:P.underlying xt=some (.map kt et)) (hk:P.underlying kt=some .string) (he:(P.info? et).bind (·.zero)=some (.int .i64 0)) (h:MapAt w b l):
  (Instr.mapEntry xt (.map (some b)) (.string ⟨s.toArray⟩)).run P w=.ok (.tuple #[.int .i64 (getM l s),goInt (h0s l s)]) (Oq w b (Dx l s)):=by
 have hf:=run_findKey (P:=P) (w:=w) hk (c0q s l 0 0)
 cases hp:posM l s 0 with
 |none=>
  rw [hp] at hf
  have e:=c1v l s 0 0
  simp only [Nat.zero_add] at e
  obtain ⟨e1,e2⟩:=b0g hp
  simp [Instr.mapEntry,run_underlying hx,Go.MapKept.run_getObj_map h,run_checkKey hk (show IsKey .string (.string ⟨s.toArray⟩) from trivial),hf,i0p he,run_setObj_map _ h,Oq,(e0h hp).2,e1,e2,Result.andThen,e]
 |some x=>
  obtain ⟨i,v⟩:=x
  rw [hp] at hf
  obtain ⟨k,hk2,hlt,hv,hq⟩:=e0g hp
  obtain ⟨h1,h2,_⟩:=hq 0
  obtain ⟨t1,t2⟩:=b0f hp
  simp only [Nat.zero_add] at hk2 h2 t2
  subst hk2
  obtain ⟨me,hme,hme2,hme3⟩: ∃ me,(Jv 0 l)[i]? =some me∧me.key=.string ⟨s.toArray⟩∧me.born=i:=by
   cases hq:(Jv 0 l)[i]? with
   |none=>rw [hq] at h1;cases h1
   |some me=>rw [hq] at h1 h2;exact ⟨me,rfl,by simpa using h1,by simpa using h2⟩
  have e:(Jv 0 l).modify i (fun e=>{e with key:=.string ⟨s.toArray⟩})=Jv 0 l:=by
   refine List.ext_getElem? fun j=>?_
   rw [List.getElem?_modify]
   split
   ·rename_i hij;subst hij
    rw [hme]
    cases me;simp only at hme2;subst hme2;rfl
   ·simp
  have e2:(Jv 0 l).toArray.modify i (fun e=>{e with key:=.string ⟨s.toArray⟩})=(Jv 0 l).toArray:=by
   refine Array.toList_inj.mp ?_;simp [e]
  simp [Instr.mapEntry,run_underlying hx,Go.MapKept.run_getObj_map h,run_checkKey hk (show IsKey .string (.string ⟨s.toArray⟩) from trivial),hf,run_setObj_map _ h,Oq,Result.andThen,hme,hme2,hme3,run_keyThatStays (d:=.string) (k:=.string ⟨s.toArray⟩) trivial,e2,e,t1,hv,←t2]
theorem r0m {j:Nat} {n:Int} (hj:j<l.length) (h:MapAt w b l):
  (Instr.entryStore xt (.map (some b)) (goInt j) (.int .i64 n)).run P w=.ok () (Oq w b (setAt l j n)):=by
 have hf:=c1w l 0 j hj
 simp only [Nat.zero_add] at hf
 have e:=k1q l 0 j n
 have e2:(Jv 0 l).toArray.modify j (fun e=>{e with val:=.int .i64 n})=(Jv 0 (setAt l j n)).toArray:=by
  rw [←e];exact Array.toList_inj.mp (Array.toList_modify ..)
 have hl:=g0r l j n
 have hb:(asInt (goInt j)).run P w=.ok (j:Int) w:=by simp [goInt,asInt,asIntOf]
 simp [Instr.entryStore,Go.MapKept.run_getObj_map h,run_setObj_map _ h,Oq,Result.andThen,hb,hf,e2,e,hl]
end
end Go.Sy
namespace Go.Sy
open Go.MapKept
section
variable {P:Program} {B:Base} {d:Va} {S:St} {a:Act} {w:World} {b:Nat} {l l':Mp}
theorem MapAt.cell_none (h:MapAt w b l) (o:Nat):w.cell? ⟨b,o,none⟩=none:=by
 unfold MapAt at h
 simp [World.cell?,h]
theorem s0e (h:MapAt w b l) (l':Mp):MapAt (Oq w b l') b l'∧(∀ j,j≠b→(Oq w b l').heap[j]? =w.heap[j]?)∧(Oq w b l').heap.size=w.heap.size:=by
 obtain ⟨h1,h2⟩:=heap_set (o':=.map (Jv 0 l').toArray l'.length) (show w.heap[b]? =some _ from h)
 exact ⟨h1,h2,by simp [Oq]⟩
theorem Sim.Oq (h:Sim B d S a w) (hb:look S.mem (mp0+b)=some ⟨.m l,[]⟩) (hown:B.w0.heap.size≤b) (l':Mp):Sim B d ⟨S.env,Qk S.mem (mp0+b) ⟨.m l',[]⟩⟩ a (Go.Sy.Oq w b l'):=by
 have hm:=h.mp b l hb
 obtain ⟨g1,g2,g3⟩:=s0e hm l'
 have hbig: ∀ k,k<gl0→k≠mp0+b:=fun k hk=>by have:k<1000000:=hk;show k≠2000000+b;omega
 have hlow: ∀ {k o},look (Qk S.mem (mp0+b) ⟨.m l',[]⟩) k=some o→k<gl0→look S.mem k=some o:=fun {k o} hk hl=>by
  rw [Dj,if_neg (hbig k hl)] at hk;exact hk
 have hsome: ∀ k,(look (Qk S.mem (mp0+b) ⟨.m l',[]⟩) k).isSome=true→(look S.mem k).isSome=true:=fun k hk=>by
  rw [Dj] at hk
  split at hk
  ·rename_i e;subst e;rw [hb];rfl
  ·exact hk
 refine ⟨h.defers,h.nt,h.env,fun k o hk hl=>?_,fun k k' h1 h2=>h.inj k k' (hsome k h1) (hsome k' h2),fun k hk=>h.own k (hsome k hk),fun b' o y hy=>?_,h.old,h.os,h.tape,h.output,by rw [g3];exact h.size,fun b' hb' hn=>?_,h.gat,fun k o hk hg=>?_,fun k o p hk hp hl=>h.fix k o p (hlow hk hl) hp hl,h.fxn,fun b' q hq=>?_⟩
 ·obtain ⟨vals,spare,ty,fr,hh,rest⟩:=h.mem k o (hlow hk hl) hl
  refine ⟨vals,spare,ty,fr,?_,rest⟩
  rw [g2 _ (h.map_apart hm (by rw [hlow hk hl];rfl) hl)];exact hh
 ·have hc:=h.ro b' o y hy
  have hne:b'≠b:=by
   intro e;subst e
   rw [hm.cell_none] at hc;cases hc
  simp only [World.cell?] at hc ⊢
  rw [g2 b' hne];exact hc
 ·rw [g2 b' (by omega)];exact h.block b' hb' hn
 ·rw [Dj] at hk
  split at hk
  ·rename_i e;subst e
   rw [hb] at hk;cases hk
   exact .inl ⟨l',rfl⟩
  ·exact h.glob k o hk hg
 ·rw [Dj] at hq
  split at hq
  ·rename_i e
   have e:b'=b:=Nat.add_left_cancel e
   subst e
   rw [hb] at hq;cases hq
   exact g1
  ·rename_i e
   exact (h.mp b' q hq).of (g2 b' (fun e2=>e (by rw [e2])))
theorem Sim.mapNew (h:Sim B d S a w):Sim B d ⟨S.env,(mp0+w.heap.size,⟨.m [],[]⟩)::S.mem⟩ a (w.alloc (.map #[] 0)):=by
 obtain ⟨g1,g2⟩:=heap_alloc w (.map #[] 0)
 have hs:=h.stay (w':=w.alloc (.map #[] 0)) g2 (Nat.le_of_lt (Array.getElem?_eq_some_iff.1 g1).1) rfl rfl rfl
 have hbig: ∀ k,k<gl0→k≠mp0+w.heap.size:=fun k hk=>by have:k<1000000:=hk;show k≠2000000+w.heap.size;omega
 have hlow: ∀ {k:Nat},k<gl0→look ((mp0+w.heap.size,(⟨.m [],[]⟩:Ob))::S.mem) k=look S.mem k:=fun {k} hk=>by
  simp only [look];rw [if_neg (hbig k hk)]
 refine ⟨hs.defers,hs.nt,hs.env,fun k o hk hl=>hs.mem k o (by rw [←hlow hl];exact hk) hl,fun k k' h1 h2 l1 l2=>hs.inj k k' (by rw [←hlow l1];exact h1) (by rw [←hlow l2];exact h2) l1 l2,fun k hk hl=>hs.own k (by rw [←hlow hl];exact hk) hl,hs.ro,hs.old,hs.os,hs.tape,hs.output,hs.size,hs.block,hs.gat,fun k o hk hg=>?_,fun k o p hk hp hl=>hs.fix k o p (by rw [←hlow hl];exact hk) hp hl,hs.fxn,fun b' q hq=>?_⟩
 ·simp only [look] at hk
  split at hk
  ·cases hk;exact .inl ⟨[],rfl⟩
  ·exact hs.glob k o hk hg
 ·simp only [look] at hq
  split at hq
  ·rename_i e
   have e:b'=w.heap.size:=Nat.add_left_cancel e
   subst e
   cases hq
   exact g1
  ·exact hs.mp b' q hq
end
section
variable {P:Program} {B:Base} {S:St} {K:St→Prop} {ds:List (Option Tmp)} {r:List Oper} {ty:TypeId} {pos:String} {af:Array Edge} {xt kt et:TypeId} {x k y:Operand} {b n:Nat} {l:Mp} {s:List UInt8}
abbrev n1k (b:Nat):V:=.w (.one (.pl (.val (.map (some b)))))
theorem h0p {d:Va} {b:Nat} {y:Value} (h:(n1k b).den d y):y=.map (some b):=by
 change PL.den _ _ _ at h
 rw [PL.den] at h;exact h.1
theorem j1f (d:Va) (b:Nat):(n1k b).den d (.map (some b)):=by
 change PL.den _ _ _
 rw [PL.den];exact ⟨rfl,fun cs h=>(by cases h),fun vs h=>(by cases h)⟩
theorem r0j {d:Va} {s:List UInt8} {y:Value} (h:V.den d (.w (.one (.pl (.str s)))) y):y=.string ⟨s.toArray⟩:=by
 change PL.den _ _ _ at h
 rw [PL.den] at h;exact h.1
theorem n1z {d:Va} {m:Int} {y:Value} (h:V.den d (.w (.one (.pl (.i m)))) y):y=.int .i64 m:=by
 change PL.den _ _ _ at h
 rw [PL.den] at h;exact h
theorem p1d (d:Va) (m:Int):V.den d (.w (.one (.pl (.i m)))) (.int .i64 m):=by
 change PL.den _ _ _
 rw [PL.den]
theorem x0z (hn:n<B.nt) (hK: ∀ b,B.w0.heap.size≤b→Bq P B ds r ⟨(n,n1k b)::S.env,(mp0+b,⟨.m [],[]⟩)::S.mem⟩ K):
  Ey P B ⟨some n,.makeMap xt none,ty,pos,af,none⟩ S ds r K:=by
 intro d a w h next Q hq
 have hrun:(execOp a.eval ⟨some n,.makeMap xt none,ty,pos,af,none⟩).run P w=.ok (.value (.map (some w.heap.size))) (w.alloc (.map #[] 0)):=by
  simp [execOp,Instr.makeMap,Result.andThen]
 unfold Oper.wp
 rw [hrun]
 exact hq _ _ _ _ (hK w.heap.size h.size) (h.mapNew.put hn (j1f d _))
theorem at_lookup (hx:S.get x=some (n1k b)) (hk:S.get k=some (.w (.one (.pl (.str s))))) (hl:look S.mem (mp0+b)=some ⟨.m l,[]⟩) (hxt:P.underlying xt=some (.map kt et)) (hkt:P.underlying kt=some .string) (het:(P.info? et).bind (·.zero)=some (.int .i64 0))
  (hK:n<B.nt∧Bq P B ds r ⟨(n,.w (.one (.pl (.i (getM l s)))))::S.env,S.mem⟩ K):
  Ey P B ⟨some n,.lookup xt x k false,ty,pos,af,none⟩ S ds r K:=by
 intro d a w h next Q hq
 have e1:=h0p (h.get hx);have e2:=r0j (h.get hk)
 have hrun:(execOp a.eval ⟨some n,.lookup xt x k false,ty,pos,af,none⟩).run P w=.ok (.value (.int .i64 (getM l s))) w:=by
  have:=o0w (s:=s) hxt hkt het (h.mp b l hl)
  simp [execOp,e1,e2,this]
 unfold Oper.wp
 rw [hrun]
 exact hq _ _ _ _ hK.2 (h.put hK.1 (p1d d _))
theorem e1f {m:Int} (hown:B.w0.heap.size≤b) (hx:S.get x=some (n1k b)) (hk:S.get k=some (.w (.one (.pl (.str s))))) (hy:S.get y=some (.w (.one (.pl (.i m))))) (hl:look S.mem (mp0+b)=some ⟨.m l,[]⟩) (hxt:P.underlying xt=some (.map kt et)) (hkt:P.underlying kt=some .string)
  (hK:Bq P B ds r ⟨S.env,Qk S.mem (mp0+b) ⟨.m (Dk l s m),[]⟩⟩ K):
  Ey P B ⟨none,.mapUpdate xt x k y,ty,pos,af,none⟩ S ds r K:=by
 intro d a w h next Q hq
 have e1:=h0p (h.get hx);have e2:=r0j (h.get hk);have e3:=n1z (h.get hy)
 have hrun:(execOp a.eval ⟨none,.mapUpdate xt x k y,ty,pos,af,none⟩).run P w=.ok .skip (Oq w b (Dk l s m)):=by
  have:=o0v (s:=s) (n:=m) hxt hkt (h.mp b l hl)
  simp [execOp,e1,e2,e3,this]
 unfold Oper.wp
 rw [hrun,Oper.upon_skip]
 exact hq _ _ _ _ hK (h.Oq hl hown _)
theorem j1x (hown:B.w0.heap.size≤b) (hx:S.get x=some (n1k b)) (hk:S.get k=some (.w (.one (.pl (.str s))))) (hl:look S.mem (mp0+b)=some ⟨.m l,[]⟩) (hxt:P.underlying xt=some (.map kt et)) (hkt:P.underlying kt=some .string) (het:(P.info? et).bind (·.zero)=some (.int .i64 0))
  (hK:n<B.nt∧Bq P B ds r ⟨(n,.tup [.one (.pl (.i (getM l s))),.one (.pl (.i ((h0s l s:Nat):Int)))])::S.env,Qk S.mem (mp0+b) ⟨.m (Dx l s),[]⟩⟩ K):
  Ey P B ⟨some n,.mapEntry xt x k,ty,pos,af,none⟩ S ds r K:=by
 intro d a w h next Q hq
 have e1:=h0p (h.get hx);have e2:=r0j (h.get hk)
 have hrun:(execOp a.eval ⟨some n,.mapEntry xt x k,ty,pos,af,none⟩).run P w=.ok (.value (.tuple #[.int .i64 (getM l s),goInt (h0s l s)])) (Oq w b (Dx l s)):=by
  have:=r0n (s:=s) hxt hkt het (h.mp b l hl)
  simp [execOp,e1,e2,this]
 unfold Oper.wp
 rw [hrun]
 exact hq _ _ _ _ hK.2 ((h.Oq hl hown _).put hK.1 ⟨_,rfl,.cons (p1d d _) (.cons (p1d d _) .nil)⟩)
theorem j1w {m:Int} {j:Nat} (hown:B.w0.heap.size≤b) (hx:S.get x=some (n1k b)) (hk:S.get k=some (.w (.one (.pl (.i ((j:Nat):Int)))))) (hy:S.get y=some (.w (.one (.pl (.i m))))) (hl:look S.mem (mp0+b)=some ⟨.m l,[]⟩) (hj:j<l.length)
  (hK:Bq P B ds r ⟨S.env,Qk S.mem (mp0+b) ⟨.m (setAt l j m),[]⟩⟩ K):
  Ey P B ⟨none,.entryStore xt x k y,ty,pos,af,none⟩ S ds r K:=by
 intro d a w h next Q hq
 have e1:=h0p (h.get hx);have e2:=n1z (h.get hk);have e3:=n1z (h.get hy)
 have hrun:(execOp a.eval ⟨none,.entryStore xt x k y,ty,pos,af,none⟩).run P w=.ok .skip (Oq w b (setAt l j m)):=by
  have:=r0m (P:=P) (xt:=xt) (n:=m) hj (h.mp b l hl)
  simp only [goInt] at this
  simp [execOp,e1,e2,e3,this]
 unfold Oper.wp
 rw [hrun,Oper.upon_skip]
 exact hq _ _ _ _ hK (h.Oq hl hown _)
end
end Go.Sy
namespace Go.Sy
@[go_sem] theorem nmp {k b:Nat} (h:k<2000000):(k=2000000+b)=False:=eq_false (by omega)
@[go_sem] theorem k1k {k b:Nat} (h:k<2000000):(2000000+b=k)=False:=eq_false (by omega)
@[go_sem] theorem v1d {k b:Nat} (h:k<2000001):(2000000+b<k)=False:=eq_false (by omega)
@[go_sem] theorem q1m (k:Nat) (o:Ob):Qk [] k o=[]:=rfl
section
variable {P:Program} {B:Base} {S:St} {K:St→Prop} {ds:List (Option Tmp)} {r:List Oper} {ty:TypeId} {pos:String} {af:Array Edge} {xt kt et:TypeId} {x k y:Operand} {b n:Nat} {l:Mp} {s:List UInt8}
@[go_sem] theorem p1p (dst:Option Tmp) (t:TypeId) (v:Option Operand):Bq P B ds (⟨dst,.makeMap t v,ty,pos,af,none⟩::r) S K=Ey P B ⟨dst,.makeMap t v,ty,pos,af,none⟩ S ds r K:=by rw [h0g];rfl
@[go_sem] theorem r1g (dst:Option Tmp) (t:TypeId) (u v:Operand) (c:Bool):Bq P B ds (⟨dst,.lookup t u v c,ty,pos,af,none⟩::r) S K=Ey P B ⟨dst,.lookup t u v c,ty,pos,af,none⟩ S ds r K:=by rw [h0g];rfl
@[go_sem] theorem k1i (dst:Option Tmp) (t:TypeId) (u v w:Operand):Bq P B ds (⟨dst,.mapUpdate t u v w,ty,pos,af,none⟩::r) S K=Ey P B ⟨dst,.mapUpdate t u v w,ty,pos,af,none⟩ S ds r K:=by rw [h0g];rfl
@[go_sem] theorem m1n (dst:Option Tmp) (t:TypeId) (u v:Operand):Bq P B ds (⟨dst,.mapEntry t u v,ty,pos,af,none⟩::r) S K=Ey P B ⟨dst,.mapEntry t u v,ty,pos,af,none⟩ S ds r K:=by rw [h0g];rfl
@[go_sem] theorem f1w (dst:Option Tmp) (t:TypeId) (u v w:Operand):Bq P B ds (⟨dst,.entryStore t u v w,ty,pos,af,none⟩::r) S K=Ey P B ⟨dst,.entryStore t u v w,ty,pos,af,none⟩ S ds r K:=by rw [h0g];rfl
theorem mk_k (hn:n<B.nt) (hK: ∀ b,B.w0.heap.size≤b→Bq P B ds r ⟨(n,.w (.one (.pl (.val (.map (some b))))))::S.env,(2000000+b,⟨.m [],[]⟩)::S.mem⟩ K):Ey P B ⟨some n,.makeMap xt none,ty,pos,af,none⟩ S ds r K:=x0z hn hK
def t1o (b:Nat) (s:List UInt8):Option Ob→Option (Nat×Mp×List UInt8)
 |some ⟨.m l,[]⟩=>some (b,l,s)
 |_=>none
def p1r (m:List (Nat×Ob)):Option V→Option V→Option (Nat×Mp×List UInt8)
 |some (.w (.one (.pl (.val (.map (some b)))))),some (.w (.one (.pl (.str s))))=>t1o b s (look m (2000000+b))
 |_,_=>none
def p0m (x:Option (Nat×Mp×List UInt8)) (f:Nat→Mp→List UInt8→Prop):Prop:=
 match x with
 |some y=>f y.1 y.2.1 y.2.2
 |none=>False
def u0t (x:Option V) (f:Int→Prop):Prop:=
 match x with
 |some (.w (.one (.pl (.i m))))=>f m
 |_=>False
@[go_sem] theorem s1b (m:List (Nat×Ob)) (b:Nat) (s:List UInt8):p1r m (some (.w (.one (.pl (.val (.map (some b))))))) (some (.w (.one (.pl (.str s)))))=t1o b s (look m (2000000+b)):=rfl
@[go_sem] theorem s1a (b:Nat) (s:List UInt8) (l:Mp):t1o b s (some ⟨.m l,[]⟩)=some (b,l,s):=rfl
@[go_sem] theorem m1x (b:Nat) (l:Mp) (s:List UInt8) (f:Nat→Mp→List UInt8→Prop):p0m (some (b,l,s)) f=f b l s:=rfl
@[go_sem] theorem m1y (m:Int) (f:Int→Prop):u0t (some (.w (.one (.pl (.i m))))) f=f m:=rfl
theorem g0b {m:List (Nat×Ob)} {u v:Option V} {f:Nat→Mp→List UInt8→Prop} (hs: ∀ j,v≠some (.w (.one (.pl (.i j))))) (h:p0m (p1r m u v) f): ∃ b l s,u=some (.w (.one (.pl (.val (.map (some b))))))∧v=some (.w (.one (.pl (.str s))))∧look m (2000000+b)=some ⟨.m l,[]⟩∧f b l s:=by
 unfold p1r at h
 split at h
 ·rename_i b s
  unfold t1o at h
  split at h
  ·rename_i l e;exact ⟨b,l,s,rfl,rfl,e,h⟩
  ·exact h.elim
 ·exact h.elim
theorem g1b {u:Option V} {f:Int→Prop} (h:u0t u f): ∃ m,u=some (.w (.one (.pl (.i m))))∧f m:=by
 unfold u0t at h
 split at h
 ·exact ⟨_,rfl,h⟩
 ·exact h.elim
def isStr :Option V→Bool
 |some (.w (.one (.pl (.str _))))=>true
 |_=>false
theorem n0l {v:Option V} (h:isStr v=true) (j:Int):v≠some (.w (.one (.pl (.i j)))):=by
 rintro rfl;cases h
@[go_sem] theorem p1u (s:List UInt8):isStr (some (.w (.one (.pl (.str s)))))=true:=rfl
theorem lk_k (hxt:P.underlying xt=some (.map kt et)) (hkt:P.underlying kt=some .string) (het:(P.info? et).bind (·.zero)=some (.int .i64 0))
  (h:isStr (S.get k)=true∧p0m (p1r S.mem (S.get x) (S.get k)) fun _ l s=>n<B.nt∧Bq P B ds r ⟨(n,.w (.one (.pl (.i (getM l s)))))::S.env,S.mem⟩ K):Ey P B ⟨some n,.lookup xt x k false,ty,pos,af,none⟩ S ds r K:=by
 obtain ⟨b,l,s,h1,h2,h3,h4⟩:=g0b (n0l h.1) h.2
 exact at_lookup h1 h2 h3 hxt hkt het h4
theorem l1f (hxt:P.underlying xt=some (.map kt et)) (hkt:P.underlying kt=some .string) (hown:B.w0.heap.size≤b)
  (h:isStr (S.get k)=true∧p0m (p1r S.mem (S.get x) (S.get k)) fun b' l s=>b'=b∧u0t (S.get y) fun m=>Bq P B ds r ⟨S.env,Qk S.mem (2000000+b) ⟨.m (Dk l s m),[]⟩⟩ K):Ey P B ⟨none,.mapUpdate xt x k y,ty,pos,af,none⟩ S ds r K:=by
 obtain ⟨b',l,s,h1,h2,h3,rfl,h4⟩:=g0b (n0l h.1) h.2
 obtain ⟨m,h5,h6⟩:=g1b h4
 exact e1f hown h1 h2 h5 h3 hxt hkt h6
theorem t1u (hxt:P.underlying xt=some (.map kt et)) (hkt:P.underlying kt=some .string) (het:(P.info? et).bind (·.zero)=some (.int .i64 0)) (hown:B.w0.heap.size≤b)
  (h:isStr (S.get k)=true∧p0m (p1r S.mem (S.get x) (S.get k)) fun b' l s=>b'=b∧n<B.nt∧Bq P B ds r ⟨(n,.tup [.one (.pl (.i (getM l s))),.one (.pl (.i ((h0s l s:Nat):Int)))])::S.env,Qk S.mem (2000000+b) ⟨.m (Dx l s),[]⟩⟩ K):Ey P B ⟨some n,.mapEntry xt x k,ty,pos,af,none⟩ S ds r K:=by
 obtain ⟨b',l,s,h1,h2,h3,rfl,h4⟩:=g0b (n0l h.1) h.2
 exact j1x hown h1 h2 h3 hxt hkt het h4
end
end Go.Sy
namespace Go.Sy
def n1y (l:Nat) (N:St→Prop) (Q:Exit→St→Prop):Exit→St→Prop
 | .goto l',S=>l'=l∧N S
 |e,S=>Q e S
section
variable {P:Program} {B:Base} {S:St} {Q:Exit→St→Prop}
theorem HT.goto {l:Nat} (h:Q (.goto l) S):HT P B (.goto l) S Q:=fun d a w hs=>wp_goto ⟨S,d,h,hs⟩
theorem HT.label {l:Nat} (h:Q .normal S):HT P B (.label l) S Q:=fun d a w hs=>wp_label ⟨S,d,h,hs⟩
theorem HT.scope {c rest:Code} {ι:Type} (l:Nat) (hf:findLabel c l=some rest) (T:ι→St) (μ:ι→Nat)
  (first:HT P B c S (n1y l (fun S'=>∃ j,Le B S' (T j)) Q))
  (round: ∀ i,HT P B rest (T i) (n1y l (fun S'=>∃ j,μ j<μ i∧Le B S' (T j)) Q)):HT P B (.scope c) S Q:=by
 intro d a w hs b k cs
 have hg:gotoIn l (.inScope c::k)=some (.code rest::.inScope c::k):=by simp [gotoIn,hf]
 have key: ∀ n i d a w,μ i=n→Sim B d (T i) a w→∃ e a' w',(∃ S' d',Q e S'∧Sim B d' S' a' w')∧Arrives P (lone (b.at a (.code rest::.inScope c::k)) cs w) b k cs e a' w':=by
  intro n
  induction n using Nat.strongRecOn with
  |_ n ih=>
   intro i d a w hn hJ
   obtain ⟨e,a₁,w₁,⟨S1,d1,hq,hs1⟩,harr⟩:=round i d a w hJ b (.inScope c::k) cs
   cases e with
   |normal=>exact ⟨.normal,a₁,w₁,⟨S1,d1,hq,hs1⟩,Steps.trans harr (.one step_inScope)⟩
   |exit id=>exact ⟨.exit id,a₁,w₁,⟨S1,d1,hq,hs1⟩,fun k' hk=>harr k' (by simp [exitTo,hk])⟩
   |goto l'=>
    obtain ⟨rfl,j,hlt,hj⟩:=hq
    obtain ⟨d2,hs2⟩:=hj _ _ _ hs1
    obtain ⟨e₂,a₂,w₂,hq₂,harr₂⟩:=ih _ (by omega) j d2 a₁ w₁ rfl hs2
    exact ⟨e₂,a₂,w₂,hq₂,.of_steps (harr _ hg) harr₂⟩
   |ret=>exact ⟨_,a₁,w₁,⟨S1,d1,hq,hs1⟩,harr⟩
   |panic ch=>exact ⟨_,a₁,w₁,⟨S1,d1,hq,hs1⟩,harr⟩
   |outgrown=>exact ⟨_,a₁,w₁,⟨S1,d1,hq,hs1⟩,harr⟩
 obtain ⟨e,a₁,w₁,⟨S1,d1,hq,hs1⟩,harr⟩:=first d a w hs b (.inScope c::k) cs
 cases e with
 |normal=>exact ⟨.normal,a₁,w₁,⟨S1,d1,hq,hs1⟩,.head step_scope (Steps.trans harr (.one step_inScope))⟩
 |exit id=>exact ⟨.exit id,a₁,w₁,⟨S1,d1,hq,hs1⟩,fun k' hk=>.head step_scope (harr k' (by simp [exitTo,hk]))⟩
 |goto l'=>
  obtain ⟨rfl,j,hj⟩:=hq
  obtain ⟨d2,hs2⟩:=hj _ _ _ hs1
  obtain ⟨e₂,a₂,w₂,hq₂,harr₂⟩:=key _ j d2 a₁ w₁ rfl hs2
  exact ⟨e₂,a₂,w₂,hq₂,.of_steps (.head step_scope (harr _ hg)) harr₂⟩
 |ret=>exact ⟨_,a₁,w₁,⟨S1,d1,hq,hs1⟩,.of_steps (.one step_scope) harr⟩
 |panic ch=>exact ⟨_,a₁,w₁,⟨S1,d1,hq,hs1⟩,.of_steps (.one step_scope) harr⟩
 |outgrown=>exact ⟨_,a₁,w₁,⟨S1,d1,hq,hs1⟩,.of_steps (.one step_scope) harr⟩
theorem l1t {y:Code} {l:Nat} {ι:Type} (E:List (Nat×V)) (M:List (Nat×Ob)) (e:ι→List (Nat×V)) (m:ι→List (Nat×Ob)) (μ:ι→Nat) (i₀:ι) (h0:leX [] S.env (e i₀++E)) (h1:leX [] S.mem (m i₀++M))
  (round: ∀ i,∀ Z:Exit→St→Prop,(∀ j S',μ j<μ i→leX [] S'.env (e j++E)→leX [] S'.mem (m j++M)→Z (.goto l) S')→(∀ S',Q .normal S'→Z .normal S')→(∀ S',Q .ret S'→Z .ret S')→(∀ k S',Q (.exit k) S'→Z (.exit k) S')→HT P B y ⟨e i++E,m i++M⟩ Z):HT P B (.scope (.seq (.label l) y)) S Q:=by
 have r: ∀ i,HT P B y ⟨e i++E,m i++M⟩ (n1y l (fun S'=>∃ j,μ j<μ i∧Le B S' ⟨e j++E,m j++M⟩) Q):=fun i=>
  round i _ (fun j S' hj he hm=>⟨rfl,j,hj,Le.ofX he hm⟩) (fun _ h=>h) (fun _ h=>h) (fun _ _ h=>h)
 have hf:findLabel (.seq (.label l) y) l=some (.seq .skip y):=by simp [findLabel]
 refine HT.scope l hf (fun i=>⟨e i++E,m i++M⟩) μ (HT.seq (HT.label (HT.le (Le.ofX h0 h1) ((r i₀).mono ?_)))) fun i=>HT.seq (HT.skip (r i))
 intro x S' hq
 cases x with
 |goto l'=>exact ⟨hq.1,hq.2.elim fun j h=>⟨j,h.2⟩⟩
 |_=>exact hq
theorem s1i {l:Nat} (h:Q (.goto l) S):HT P B (.goto l) S Q:=HT.goto h
theorem n0x {id:Nat} {x:Code} (h: ∀ M:Exit→St→Prop,(∀ S',Q .normal S'→M .normal S')→(∀ S',Q .normal S'→M (.exit id) S')→(∀ S',Q .ret S'→M .ret S')→(∀ i S',i≠id→Q (.exit i) S'→M (.exit i) S')→(∀ i S',Q (.goto i) S'→M (.goto i) S')→HT P B x S M):HT P B (.block id x) S Q:=by
 refine HT.block (h _ (fun _ h=>h) (fun _ h=>?_) (fun _ h=>h) (fun i S' hi h=>?_) (fun _ _ h=>h))
 ·simp only [c0c,if_true];exact h
 ·simp only [c0c,if_neg hi];exact h
end
end Go.Sy
