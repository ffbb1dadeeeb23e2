/- The layer that reckons a function out: what it says of states, operations, regions, loops, calls. CONDITIONS: those that each theorem names. -/
import Derived.Test.YtijngjidkdkmeaavE2
import Derived.Test.YtijngjidkdkmeaavE3
set_option linter.unusedVariables false
set_option linter.unusedSimpArgs false
namespace Go.Sy
def r0l (ops:Array Oper) (p:Nat) (listed:Array Bool):Prop:=listed.size=ops.size∧∀ i,i<ops.size→listed.getD i true=decide (i<p)
def Dr (P:Program) (B:Base) (l:List Oper) (p:Nat) (S:St) (K:St→Prop):Prop:=
 ∀ d a w,Sim B d S a w→∀ (Q:Exit→Act→World→Prop),(∀ S' d' a' w',K S'→Sim B d' S' a' w'→Q .normal a' w')→∀ listed,r0l l.toArray p listed→wpAny P .any l.toArray Q (l.length-p) listed a w
theorem d0m (ops:Array Oper) (listed:Array Bool) (i:Nat):i∈Region.ready .any ops listed↔i<ops.size∧listed.getD i true=false∧∀ o,ops[i]? =some o→∀ e∈o.after,Region.binds .any e=true→listed.getD e.on false=true:=by
 unfold Region.ready
 simp only [vF,wL,yF,yS]
 constructor
 ·rintro ⟨h1,h2,h3⟩
  refine ⟨h1,h2,fun o ho e he hb=>?_⟩
  rw [ho] at h3
  simp only [yR,Option.getD_some,Array.all_eq_true'] at h3
  have:=h3 e he
  simpa [hb] using this
 rintro ⟨h1,h2,h3⟩
 refine ⟨h1,h2,?_⟩
 have ho:=xZ h1
 rw [ho]
 simp only [yR,Option.getD_some,Array.all_eq_true']
 intro e he
 cases hb:Region.binds .any e with
 |false=>rfl
 |true=>simpa using h3 _ ho e he hb
theorem r0c {l:Array Bool} {i:Nat} (h:i<l.size):l.getD i false=l.getD i true:=by
 rw [xI,xI,xZ h];rfl
theorem r0l.listed {ops:Array Oper} {p:Nat} {listed:Array Bool} (h:r0l ops p listed) {i:Nat}:listed.getD i false=decide (i<p∧i<ops.size):=by
 by_cases hi:i<ops.size
 ·rw [r0c (by rw [h.1];exact hi),h.2 i hi];simp [hi]
 rw [xI,Array.getElem?_eq_none (by rw [h.1];omega)];simp [hi]
theorem r0l.set {ops:Array Oper} {p:Nat} {listed:Array Bool} (h:r0l ops p listed) (hp:p<ops.size):r0l ops (p+1) (listed.setIfInBounds p true):=by
 refine ⟨by rw [Array.size_setIfInBounds];exact h.1,fun i hi=>?_⟩
 rw [h0i (by rw [h.1];exact hp)]
 by_cases e:i=p
 ·rw [if_pos e];simp [e]
 rw [if_neg e,h.2 i hi]
 by_cases h2:i<p
 ·simp [h2,Nat.lt_succ_of_lt h2]
 have:¬i<p+1:=by omega
 simp [h2,this]
def p1q (l:List Oper) (p:Nat):Bool:=
 (List.range l.length).all fun j=>match l[j]? with
  |none=>true
  |some o=>if j=p then o.after.toList.all fun e=>!Region.binds .any e||decide (e.on<p)
    else if p<j then o.after.toList.any fun e=>Region.binds .any e&&decide (p≤e.on) else true
theorem c1j {P:Program} {B:Base} {l:List Oper} {p:Nat} {o:Oper} {S:St} {K:St→Prop} {ds:List (Option Tmp)} (hds:ds=f0f l) (hf:p1q l p=true) (ho:l[p]? =some o)
 (hN: ∀ d a w,Sim B d S a w→∀ (next:Act→World→Prop) (Q:Exit→Act→World→Prop),(∀ S' d' a' w',Dr P B l (p+1) S' K→Sim B d' S' a' w'→next a' w')→(if Region.wanted o (yielded l.toArray a.tmps) then o.wp P a w next Q else next (a.put o.dst undef) w)):Dr P B l p S K:=by
 intro d a w hs Q hQ listed hl
 have hp:p<l.length:=(wF.mp ho).1
 have hpa:p<l.toArray.size:=by simpa using hp
 have hf':=yI.mp hf
 rw [show l.length-p=(l.length-(p+1))+1 from by omega]
 have hready:p∈Region.ready .any l.toArray listed:=by
  refine (d0m _ _ _).mpr ⟨hpa,by rw [hl.2 p hpa];simp,fun o' ho' e he hb=>?_⟩
  rw [wI,ho] at ho';cases ho'
  have:=hf' p (wL.mpr hp)
  rw [ho] at this
  simp only [if_true] at this
  have:=yI.mp this e (by simpa using he)
  rw [hb] at this
  have hlt:e.on<p:=by simpa using this
  rw [hl.listed];simp only [decide_eq_true_eq];exact ⟨hlt,by omega⟩
 refine ⟨fun hnil=>by rw [hnil] at hready;(cases hready),fun i hi=>?_⟩
 obtain ⟨h1,h2,h3⟩:=(d0m _ _ _).mp hi
 have hip:i=p:=by
  rw [hl.2 i h1] at h2
  have h4:¬i<p:=by simpa using h2
  by_cases e:i=p
  ·exact e
  exfalso
  have hlt:p<i:=by omega
  have hil:i<l.length:=by simpa using h1
  have:=hf' i (wL.mpr hil)
  obtain ⟨o',ho'⟩: ∃ o',l[i]? =some o':=⟨_,yX hil⟩
  rw [ho'] at this
  simp only [if_neg e,if_pos hlt] at this
  obtain ⟨e',he',h5⟩:=List.any_eq_true.mp this
  simp only [yF,decide_eq_true_eq] at h5
  have:=h3 o' (by rw [wI];exact ho') e' (by simpa using he') h5.1
  rw [hl.listed] at this
  simp only [decide_eq_true_eq] at this
  omega
 subst hip
 simp only [wpOp,wI,ho]
 have hgo:=hN d a w hs (wpAny P .any l.toArray Q (l.length-(i+1)) (listed.setIfInBounds i true)) Q (fun S' d' a' w' hK hs'=>hK d' a' w' hs' Q hQ _ (hl.set hpa))
 split
 ·rename_i hw
  rw [if_pos hw] at hgo;exact .inl hgo
 rename_i hw
 rw [if_neg hw] at hgo;exact hgo
def k0m (l:List Oper) (p:Nat):Nat→Bool
 |0=>true
 |n+1=>p1q l p&&k0m l (p+1) n
theorem r0k {P:Program} {B:Base} {l:List Oper} {ds:List (Option Tmp)} {K:St→Prop} (hds:ds=f0f l): ∀ (n p:Nat) (S:St),k0m l p n=true→Bv P B ds ((l.drop p).take n) S (fun S'=>Dr P B l (p+n) S' K)→p+n≤l.length→Dr P B l p S K
 |0,p,S,_,h,_=>by simpa [Bv] using h
 |n+1,p,S,hf,h,hn=>by
   simp only [k0m,yF] at hf
   have hp:p<l.length:=by omega
   have ho:=yX hp
   rw [vL hp,vH] at h
   have hK: ∀ S',Bv P B ds ((l.drop (p+1)).take n) S' (fun S'=>Dr P B l (p+(n+1)) S' K)→Dr P B l (p+1) S' K:=fun S' h'=>r0k hds n (p+1) S' hf.2 (by rw [show p+1+n=p+(n+1) from by omega];exact h') (by omega)
   refine c1j hds hf.1 ho fun d a w hs next Q hnext=>?_
   have hds':ds=l.toArray.toList.map (·.dst):=by rw [hds,m0f]
   generalize l[p]=o at h ho
   unfold Bv at h
   split at h
   ·rename_i hg
    rw [if_pos (by simp [Region.wanted,hg])]
    split at h
    ·exact h d a w hs next Q (fun S' d' a' w' hk hs'=>hnext _ _ _ _ (hK _ hk) hs')
    split at h
    ·rename_i S' hst
     exact g0x (K:=fun S'=>Bv P B ds ((l.drop (p+1)).take n) S' (fun S'=>Dr P B l (p+(n+1)) S' K)) hst h d a w hs next Q (fun S' d' a' w' hk hs'=>hnext _ _ _ _ (hK _ hk) hs')
    exact h.elim
   rename_i g hg
   split at h
   ·rename_i c hc
    have hw:=f0j hs hds' hg hc
    by_cases hcg:c=g.2
    ·rw [hw,hcg,if_pos (by simp)]
     have h1:=h.1 hcg
     have hs2:Sim B d (u0q S ds g.1 g.2) a w:=by have:=l0p hs hc;rwa [hcg] at this
     split at h1
     ·exact h1 d a w hs2 next Q (fun S' d' a' w' hk hs'=>hnext _ _ _ _ (hK _ hk) hs')
     split at h1
     ·rename_i S' hst
      exact g0x (K:=fun S'=>Bv P B ds ((l.drop (p+1)).take n) S' (fun S'=>Dr P B l (p+(n+1)) S' K)) hst h1 d a w hs2 next Q (fun S' d' a' w' hk hs'=>hnext _ _ _ _ (hK _ hk) hs')
     exact h1.elim
    have hc':c= !g.2:=by cases c<;>cases hg2:g.2<;>simp_all
    rw [hw,if_neg (by simp [hcg])]
    have h2:=h.2 hc'
    have hs2:Sim B d (u0q S ds g.1 (!g.2)) a w:=by have:=l0p hs hc;rwa [hc'] at this
    split at h2
    ·rename_i S' hput
     exact hnext _ _ _ _ (hK _ h2) (St.c0l hs2 hput (f0n d))
    exact h2.elim
   exact h.elim
theorem i2q {P:Program} {B:Base} {l seg:List Oper} {p:Nat} {ds:List (Option Tmp)} {S:St} {K:St→Prop} (n:Nat) (hds:f0f l=ds) (hf:(k0m l p n&&decide (p+n≤l.length))=true) (hseg:(l.drop p).take n=seg) (h:Bv P B ds seg S (fun S'=>Dr P B l (p+n) S' K)):Dr P B l p S K:=by
 simp only [yF,decide_eq_true_eq] at hf
 exact r0k hds.symm n p S hf.1 (by rw [hseg];exact h) hf.2
theorem Cz {P:Program} {B:Base} {l seg:List Oper} {p:Nat} {ds:List (Option Tmp)} {S:St} {K:St→Prop} (n q:Nat) (hds:f0f l=ds) (hf:(k0m l p n&&decide (p+n≤l.length))=true) (hseg:(l.drop p).take n=seg) (hq:p+n=q) (h: ∀ N:St→Prop,(∀ S',Dr P B l q S' K→N S')→Bv P B ds seg S N):Dr P B l p S K:=by
 subst hq
 exact i2q n hds hf hseg (h _ fun _ h=>h)
theorem Gv {P:Program} {B:Base} {l:List Oper} {p:Nat} {S:St} {K:St→Prop} (hp:l.length=p) (h:K S):Dr P B l p S K:=by
 intro d a w hs Q hQ listed hl
 rw [show l.length-p=0 from by omega]
 refine ⟨List.eq_nil_iff_forall_not_mem.mpr fun i hi=>?_,hQ _ _ _ _ h hs⟩
 obtain ⟨h1,h2,_⟩:=(d0m _ _ _).mp hi
 rw [hl.2 i h1] at h2
 simp at h1 h2
 omega
theorem Zq {P:Program} {B:Base} {id:Nat} {l:List Oper} {S:St} {Q:Exit→St→Prop} (hm:P.follows .mixedOrders=true)
 (h: ∀ K:St→Prop,(∀ S',Q .normal S'→K S')→Dr P B l 0 S K):HT P B (.region id l.toArray true) S Q:=by
 intro d a w hs
 refine wp_region_any hm ?_
 have:=h (Q .normal) (fun _ h=>h) d a _ (hs.drew (w':={w with drawn:=w.drawn+1}) rfl rfl rfl rfl) (fun e a' w'=>∃ S' d',Q e S'∧Sim B d' S' a' w') (fun S' d' a' w' hq hs'=>⟨S',d',hq,hs'⟩) (Array.replicate l.toArray.size false) ⟨by simp,fun i hi=>by rw [xI,Array.getElem?_replicate,if_pos hi];simp⟩
 simpa using this
end Go.Sy
namespace Go.Sy
section
variable {P:Program} {B:Base} {ops:Array Oper} {ds:List (Option Tmp)} {bef:Nat→Nat→Prop}
structure Rest2 (P:Program) (B:Base) (ops:Array Oper) (ds:List (Option Tmp)) (bef:Nat→Nat→Prop) (p n:Nat) (listed:Array Bool) (R:List (Nat×It)) (S:St):Prop where
 size:listed.size=ops.size
 le:n≤ops.size
 at_: ∀ x∈R,ops[x.1]? =some x.2.o
 from_: ∀ x∈R,p≤x.1
 open_: ∀ i,(i∈R.map (·.1)↔i<n∧listed.getD i true=false)
 later: ∀ i,n≤i→i<ops.size→listed.getD i true=false
 ord:R.Pairwise fun p q=>p.1<q.1∧(bef q.1 p.1∨Ind ds p.2 q.2)
 ok:OKs P ds (R.map (·.2)) S
 new:k0z (R.map (·.2)) S
 apart:Sk (R.map (·.2))
 dst: ∀ p∈R,∀ n,p.2.o.dst=some n→n<B.nt
 closed: ∀ i o,ops[i]? =some o→listed.getD i true=true→i<ops.size→∀ e∈o.after,Region.binds .any e=true→listed.getD e.on false=true
theorem k2n {K:St→Prop} {Q:Exit→Act→World→Prop} {p n:Nat} (hds:ds=ops.toList.map (·.dst)) (hback: ∀ i o,ops[i]? =some o→∀ e∈o.after,Region.binds .any e=true→e.on<i)
 (hbef: ∀ i o,ops[i]? =some o→∀ x,bef i x→∃ e∈o.after,Region.binds .any e=true∧(e.on=x∨bef e.on x))
 (hlate: ∀ i o,ops[i]? =some o→n≤i→∀ x,p≤x→x<n→bef i x)
 (hK: ∀ S d a w listed,K S→Sim B d S a w→r0l ops n listed→wpAny P .any ops Q (ops.size-n) listed a w):
 ∀ (fuel:Nat) (listed:Array Bool) (R:List (Nat×It)) (S:St) d a w,R.length=fuel→Rest2 P B ops ds bef p n listed R S→(∀ S',Eqv (fin (R.map (·.2)) S) S'→K S')→Sim B d S a w→wpAny P .any ops Q (fuel+(ops.size-n)) listed a w:=by
 have hclosed: ∀ (listed:Array Bool),listed.size=ops.size→(∀ i o,ops[i]? =some o→listed.getD i true=true→i<ops.size→∀ e∈o.after,Region.binds .any e=true→listed.getD e.on false=true)→
  ∀ n i o,i≤n→ops[i]? =some o→(∀ e∈o.after,Region.binds .any e=true→listed.getD e.on false=true)→∀ x,bef i x→listed.getD x false=true:=by
  intro listed hsz hcl n
  induction n with
  |zero=>
    intro i o hi ho hp x hx
    obtain ⟨e,he,hb,h⟩:=hbef i o ho x hx
    have:=hback i o ho e he hb;omega
  |succ n ih=>
    intro i o hi ho hp x hx
    obtain ⟨e,he,hb,h⟩:=hbef i o ho x hx
    have hlt:=hback i o ho e he hb
    have hl:=hp e he hb
    rcases h with rfl|h
    ·exact hl
    have hes:e.on<ops.size:=by
     have:=(Array.getElem?_eq_some_iff.mp ho).1;omega
    obtain ⟨o',ho'⟩: ∃ o',ops[e.on]? =some o':=⟨_,xZ hes⟩
    refine ih e.on o' (by omega) ho' (hcl e.on o' ho' ?_ hes) x h
    rw [←r0c (by omega)];exact hl
 intro fuel
 induction fuel with
 |zero=>
   intro listed R S d a w hlen hR hfin hs
   have:R=[]:=xR hlen
   subst this
   rw [wY]
   refine hK _ _ _ _ _ (hfin S (Eqv.rfl' _)) hs ⟨hR.size,fun i hi=>?_⟩
   by_cases h:i<n
   ·have:=hR.open_ i
    simp only [wC,List.not_mem_nil,false_iff,not_and,Bool.not_eq_false] at this
    rw [this h];simp [h]
   rw [hR.later i (by omega) hi];simp [h]
 |succ fuel ih=>
   intro listed R S d a w hlen hR hfin hs
   rw [show fuel+1+(ops.size-n)=fuel+(ops.size-n)+1 from by omega]
   have hin0: ∀ x∈R,x.1<n∧listed.getD x.1 true=false:=fun x hx=>(hR.open_ x.1).mp (List.mem_map_of_mem hx)
   refine ⟨fun hnil=>?_,fun i hi=>?_⟩
   ·cases R with
    |nil=>cases hlen
    |cons q r=>
      exfalso
      obtain ⟨h1,h2⟩:=(hR.open_ q.1).mp (by simp)
      have:q.1∈Region.ready .any ops listed:=by
       refine (d0m ops listed q.1).mpr ⟨Nat.lt_of_lt_of_le h1 hR.le,h2,fun o ho e he hb=>?_⟩
       have hlt:=hback q.1 o ho e he hb
       cases hl:listed.getD e.on false with
       |true=>rfl
       |false=>
         exfalso
         have hes:e.on<listed.size:=by rw [hR.size];have:=hR.le;omega
         have:listed.getD e.on true=false:=by rw [←r0c hes];exact hl
         have hin:=(hR.open_ e.on).mpr ⟨by omega,this⟩
         simp only [yM,yT,yY] at hin
         have hord:=List.pairwise_cons.mp hR.ord
         rcases hin with hin|⟨q,hq,hin⟩
         ·omega
         have:=(hord.1 q hq).1;omega
      rw [hnil] at this;cases this
   obtain ⟨h1,h2,h3⟩:=(d0m ops listed i).mp hi
   have hin:i<n:=by
    rcases yZ i n with h|h
    ·exact h
    exfalso
    obtain ⟨o,ho⟩: ∃ o,ops[i]? =some o:=⟨_,xZ h1⟩
    cases R with
    |nil=>cases hlen
    |cons q r=>
      obtain ⟨h4,h5⟩:=hin0 q (by simp)
      have h6:=hclosed listed hR.size hR.closed i i o (yV _) ho (h3 o ho) q.1 (hlate i o ho h q.1 (hR.from_ q (by simp)) h4)
      rw [r0c (by rw [hR.size];have:=hR.le;omega),h5] at h6;cases h6
   have hin:=(hR.open_ i).mpr ⟨hin,h2⟩
   obtain ⟨⟨i',x⟩,hx,e⟩:=yY.mp hin
   simp only at e;subst e
   obtain ⟨ys,r,rfl⟩:=List.append_of_mem hx
   have hox:ops[i']? =some x.o:=hR.at_ _ hx
   have hord:=List.pairwise_append.mp hR.ord
   have hordi:=List.pairwise_cons.mp hord.2.1
   have hind: ∀ y∈ys.map (·.2),Ind ds y x:=by
    intro y hy
    obtain ⟨⟨j,y'⟩,hj,rfl⟩:=yY.mp hy
    have hp:=hord.2.2 _ hj (i',x) (by simp)
    rcases hp.2 with hb|hb
    ·exfalso
     have hl:=hclosed listed hR.size hR.closed i' i' x.o (yV _) hox (h3 x.o hox) j hb
     have hopen:=(hR.open_ j).mp (by simp only [xK,yU,yY];exact .inl ⟨_,hj,rfl⟩)
     rw [r0c (by rw [hR.size];have:=hR.le;have:=hopen.1;omega),hopen.2] at hl;cases hl
    exact hb
   have hok:=hR.ok
   have hnew:=hR.new
   have hap:=hR.apart
   simp only [xK,yM] at hok hnew hap
   obtain ⟨g1,g2,g3⟩:=bubble hok hnew hap hind
   have hnx: ∀ k∈x.e.names,New k S:=fun k hk=>hnew x (by simp) k hk
   have hdst: ∀ n,x.o.dst=some n→n<B.nt:=hR.dst _ hx
   have hR':Rest2 P B ops ds bef p n (listed.setIfInBounds i' true) (ys++r) (x.on S):=by
    have hi2:i'<listed.size:=by rw [hR.size];exact h1
    have hlt: ∀ p∈ys,p.1<i':=fun p hp=>(hord.2.2 p hp (i',x) (by simp)).1
    have hgt: ∀ p∈r,i'<p.1:=fun p hp=>(hordi.1 p hp).1
    have sub: ∀ q∈ys++r,q∈ys++(i',x)::r:=fun q hq=>by
     simp only [yU,yT] at hq ⊢;rcases hq with hq|hq;exact .inl hq;exact .inr (.inr hq)
    refine ⟨by rw [Array.size_setIfInBounds];exact hR.size,hR.le,fun p hp=>hR.at_ p (sub p hp),fun q hq=>hR.from_ q (sub q hq),fun j=>?_,fun j hj hjs=>?_,?_,?_,?_,?_,fun p hp=>hR.dst p (sub p hp),?_⟩
    ·have hj:=hR.open_ j
     rw [h0i hi2]
     simp only [xK,yM,yU,yT,yY] at hj ⊢
     by_cases hji:j=i'
     ·subst hji
      rw [if_pos rfl]
      constructor
      ·rintro (⟨p,hp,e⟩|⟨p,hp,e⟩)
       ·have:=hlt p hp;omega
       have:=hgt p hp;omega
      rintro ⟨_,h⟩;cases h
     rw [if_neg hji,←hj]
     constructor
     ·rintro (h|h)
      ·exact .inl h
      exact .inr (.inr h)
     rintro (h|h|h)
     ·exact .inl h
     ·exact absurd h hji
     exact .inr h
    ·have:=(hin0 (i',x) (by simp)).1
     rw [h0i hi2,if_neg (by omega)]
     exact hR.later j hj hjs
    ·exact List.pairwise_append.mpr ⟨hord.1,hordi.2,fun p hp q hq=>hord.2.2 p hp q (by simp [hq])⟩
    ·rw [xK];exact g2
    ·rw [xK]
     have hmid:=r0z hap
     refine k0z.on (P:=P) (ds:=ds) (x:=x) (r:=ys.map (·.2)++r.map (·.2)) (S:=S) (fun y hy k hk=>hnew y ?_ k hk) g1 hmid
     simp only [yU,yT] at hy ⊢;rcases hy with hy|hy;exact .inl hy;exact .inr (.inr hy)
    ·rw [xK];exact hap.drop
    intro j o ho hl hjs e he hb
    rw [h0i hi2] at hl ⊢
    by_cases hei:e.on=i'
    ·rw [if_pos hei]
    rw [if_neg hei]
    by_cases hji:j=i'
    ·subst hji
     rw [hox] at ho;cases ho
     exact h3 _ hox e he hb
    rw [if_neg hji] at hl
    exact hR.closed j o ho hl hjs e he hb
   have hlen':(ys++r).length=fuel:=by simp at hlen ⊢;omega
   have hgo: ∀ d' a' w',Sim B d' (x.on S) a' w'→wpAny P .any ops Q (fuel+(ops.size-n)) (listed.setIfInBounds i' true) a' w':=by
    intro d' a' w' hs'
    refine ih _ (ys++r) (x.on S) d' a' w' hlen' hR' (fun S' he=>hfin S' ?_) hs'
    simp only [xK,yM]
    rw [xK] at he
    exact g3.trans he
   have hev:=g1.ev
   have hg:=g1.guard
   have run:x.skip=false→x.o.wp P a w (wpAny P .any ops Q (fuel+(ops.size-n)) (listed.setIfInBounds i' true)) Q:=by
    intro hsk
    rw [hsk] at hev
    simp only [yQ,if_false] at hev
    exact hev.run hs hnx hdst _ _ hgo
   have skp:x.skip=true→wpAny P .any ops Q (fuel+(ops.size-n)) (listed.setIfInBounds i' true) (a.put x.o.dst undef) w:=by
    intro hsk
    rw [hsk] at hev
    simp only [if_true] at hev
    refine hgo d _ _ ?_
    unfold It.on
    rw [hev]
    exact Sim.putE hs (v:=.tup []) (f0n d) hdst
   simp only [wpOp,hox]
   cases hgd:x.o.guard with
   |none=>
     rw [hgd] at hg
     rw [if_pos (by simp [Region.wanted,hgd])]
     exact .inl (run hg)
   |some g=>
     rw [hgd] at hg
     simp only at hg
     obtain ⟨c,hc,hsk⟩:=hg
     have hw:=f0j hs hds hgd hc
     rw [hw]
     by_cases hcg:c=g.2
     ·rw [if_pos (by simp [hcg])]
      exact .inl (run (by rw [hsk,hcg];simp))
     rw [if_neg (by simp [hcg])]
     exact skp (by rw [hsk];simpa using hcg)
end
def b1o (ds:List (Option Tmp)) (c:List Nat) (need:List (Nat×Nat)) (p n:Nat) (l:List Oper):Bool:=
 decide (p≤n)&&decide (n≤l.length)&&(List.range l.length).all fun j=>match l[j]? with
  |none=>true
  |some o=>o.after.toList.all (fun e=>!Region.binds .any e||decide (e.on<j))&&
    (List.range j).all fun i=>
     (!(c.getD j 0).testBit i||o.after.toList.any (fun e=>Region.binds .any e&&(e.on==i||(decide (i<e.on)&&(c.getD e.on 0).testBit i))))&&
     (decide (i<p)||decide (n≤i)||(c.getD j 0).testBit i||(decide (j<n)&&match l[i]? with
      |some x=>j2n ds x o&&((!q0j x.op&& !q0j o.op)||need.contains (i-p,j-p))
      |none=>true))
theorem a2t {P:Program} {B:Base} {l seg:List Oper} {p:Nat} {ds:List (Option Tmp)} {S:St} {K:St→Prop} (n:Nat) (names c:List Nat) (need:List (Nat×Nat)) (hds:f0f l=ds) (hst:b1o ds c need p n l=true) (hseg:(l.drop p).take (n-p)=seg)
 (hn:names.all (fun k=>fresh k S&&(look S.mem k).isNone)=true)
 (h: ∀ K':St→List Da→Prop,(∀ S' D,z0v seg D need→Dr P B l n S' K→K' S' D)→Rj P B.nt names ds (!need.isEmpty) seg [] [] S K'):Dr P B l p S K:=by
 intro d a w hs Q hQ listed hlisted
 obtain ⟨its,hi,hchk,hK⟩:=h0a (h (fun S' D=>z0v seg D need∧Dr P B l n S' K) (fun _ _ h1 h2=>⟨h1,h2⟩))
 have hget: ∀ i o,l.toArray[i]? =some o→l[i]? =some o:=fun i o h=>by rw [wI] at h;exact h
 simp only [b1o,yF,decide_eq_true_eq,yI,wL] at hst
 obtain ⟨⟨hpn,hnl⟩,hst⟩:=hst
 have hst': ∀ j o,l[j]? =some o→(∀ e∈o.after,Region.binds .any e=true→e.on<j)∧∀ i,i<j→
  ((c.getD j 0).testBit i=true→∃ e∈o.after,Region.binds .any e=true∧(e.on=i∨(i<e.on∧(c.getD e.on 0).testBit i=true)))∧
  (p≤i→i<n→(c.getD j 0).testBit i=true∨(j<n∧∀ x,l[i]? =some x→j2n ds x o=true∧((q0j x.op=false∧q0j o.op=false)∨(i-p,j-p)∈need))):=by
  intro j o ho
  have hj:=(wF.mp ho).1
  have:=hst j hj
  rw [ho] at this
  simp only [yF,yI,wL,xQ,yS,decide_eq_true_eq,List.any_eq_true,beq_iff_eq] at this
  refine ⟨fun e he hb=>?_,fun i hi=>?_⟩
  ·rcases this.1 e (by simpa using he) with h1|h1
   ·rw [hb] at h1;cases h1
   exact h1
  obtain ⟨h1,h2⟩:=this.2 i hi
  refine ⟨fun ht=>?_,fun h3 h4=>?_⟩
  ·rcases h1 with h1|⟨e,he,hb,h1⟩
   ·rw [ht] at h1;cases h1
   exact ⟨e,by simpa using he,hb,h1⟩
  rcases h2 with ((h2|h2)|h2)|⟨h5,h2⟩
  ·omega
  ·omega
  ·exact .inl h2
  right
  refine ⟨h5,fun x hx=>?_⟩
  rw [hx] at h2
  simp only [yF,xQ,yS,vK] at h2
  exact h2
 have hseglen:seg.length=n-p:=by rw [←hseg,List.length_take,List.length_drop];omega
 have hlen:its.length=n-p:=by rw [←hseglen,←hi.ops,vG]
 have hsegat: ∀ i o,seg[i]? =some o→l[p+i]? =some o:=by
  intro i o ho
  have hlt:=(wF.mp ho).1
  rw [←hseg,List.getElem?_take,if_pos (by omega),List.getElem?_drop] at ho
  exact ho
 let R:List (Nat×It):=its.zipIdx.map fun q=>(q.2+p,q.1)
 have hRmap:R.map (·.2)=its:=by
  simp only [R,List.map_map]
  exact List.zipIdx_map_fst 0 its
 have hRmem: ∀ q∈R,p≤q.1∧its[q.1-p]? =some q.2:=by
  intro q hq
  obtain ⟨⟨x,i⟩,hq',rfl⟩:=yY.mp hq
  have:=List.mem_zipIdx_iff_getElem?.mp hq'
  exact ⟨Nat.le_add_left _ _,by simpa using this⟩
 have hitl: ∀ (i:Nat) (x:It),its[i]? =some x→seg[i]? =some x.o:=by
  intro i x hx
  rw [←hi.ops,vD,hx];rfl
 have hRl: ∀ q∈R,l[q.1]? =some q.2.o:=by
  intro q hq
  obtain ⟨h1,h2⟩:=hRmem q hq
  have:=hsegat _ _ (hitl _ _ h2)
  rwa [show p+(q.1-p)=q.1 from by omega] at this
 have hRn: ∀ q∈R,q.1<n:=by
  intro q hq
  obtain ⟨h1,h2⟩:=hRmem q hq
  have:=(wF.mp h2).1
  omega
 have hmain:=k2n (P:=P) (B:=B) (ops:=l.toArray) (ds:=ds) (bef:=fun j i=>i<j∧(c.getD j 0).testBit i=true) (Q:=Q) (p:=p) (n:=n) (K:=fun S'=>Eqv S' (fin its S))
  (by rw [←hds,m0f]) (fun i o ho=>(hst' i o (hget i o ho)).1) ?_ ?_ ?_ its.length listed R S d a w (by simp [R]) ?_ ?_ hs
 ·rw [hlen,show n-p+(l.toArray.size-n)=l.length-p from by simp;omega] at hmain
  exact hmain
 ·intro i o ho x ⟨hx1,hx2⟩
  obtain ⟨e,he,hb,h1⟩:=((hst' i o (hget i o ho)).2 x hx1).1 hx2
  exact ⟨e,he,hb,h1⟩
 ·intro i o ho hni x hpx hxn
  rcases ((hst' i o (hget i o ho)).2 x (by omega)).2 hpx hxn with h1|h1
  ·exact ⟨by omega,h1⟩
  omega
 ·intro S' d' a' w' listed' he hs' hl'
  have:=hK d' a' w' (hs'.eqv he) Q hQ listed' hl'
  simpa using this
 ·refine ⟨hlisted.1,by simpa using hnl,fun q hq=>(by rw [wI];exact hRl q hq:l.toArray[q.1]? =some q.2.o),fun q hq=>(hRmem q hq).1,fun i=>?_,fun i hi1 hi2=>?_,?_,by rw [hRmap];exact hi.ok,?_,by rw [hRmap];exact hi.apart,fun q hq=>hi.dst q.2 (by rw [←hRmap];exact List.mem_map_of_mem hq),?_⟩
  ·constructor
   ·intro h1
    obtain ⟨q,hq,rfl⟩:=yY.mp h1
    have h2:=hRn q hq
    refine ⟨h2,?_⟩
    rw [hlisted.2 q.1 (by simp;omega)]
    have:=(hRmem q hq).1
    simp;omega
   rintro ⟨h1,h2⟩
   rw [hlisted.2 i (by simp;omega)] at h2
   have h3:p≤i:=by simpa using h2
   have h4:i-p<its.length:=by omega
   refine yY.mpr ⟨(i,its[i-p]),?_,rfl⟩
   refine yY.mpr ⟨(its[i-p],i-p),?_,by simp;omega⟩
   exact List.mem_zipIdx_iff_getElem?.mpr (by simp [h4])
  ·rw [hlisted.2 i hi2];simp;omega
  ·have hp1:its.zipIdx.Pairwise fun p q=>p.2<q.2:=by
    rw [List.pairwise_iff_getElem]
    intro i j hi' hj' hij
    simp only [List.getElem_zipIdx];omega
   have hp2:R.Pairwise fun p q=>p.1<q.1:=List.pairwise_map.mpr (hp1.imp fun h=>by simp only;omega)
   refine hp2.imp_of_mem ?_
   intro x y hp hq hlt
   refine ⟨hlt,?_⟩
   obtain ⟨hpi0,hpi⟩:=hRmem x hp
   obtain ⟨hqi0,hqi⟩:=hRmem y hq
   rcases ((hst' y.1 y.2.o (hRl _ hq)).2 x.1 hlt).2 hpi0 (hRn _ hp) with h1|⟨_,h1⟩
   ·exact .inl ⟨hlt,h1⟩
   right
   obtain ⟨h2,h3⟩:=h1 _ (hRl _ hp)
   have hpm:x.2∈its:=wR hpi
   have hqm:y.2∈its:=wR hqi
   simp only [j2n,yF] at h2
   have sub: ∀ x:It,∀ n,n∈tmpsOf (x.reads ds)→n∈tmpsOf (gslot ds x.o++x.o.op.operands.toList):=by
    intro x n hn
    unfold It.reads at hn
    simp only [tmpsOf,List.filterMap_append,yU] at hn ⊢
    rcases hn with hn|hn
    ·exact .inl hn
    right
    split at hn
    ·cases hn
    exact hn
   have hmu:(x.2.e.mut=false∨y.2.e.mut=false∨a0z x.2.e y.2.e)∧touch x.2 y.2∧touch y.2 x.2:=by
    rcases h3 with ⟨h4,h5⟩|h4
    ·have e1:x.2.e.mut=false:=by
      cases hc:x.2.e.mut with
      |false=>rfl
      |true=>have:=hi.mu _ hpm hc;rw [h4] at this;cases this
     have e2:y.2.e.mut=false:=by
      cases hc:y.2.e.mut with
      |false=>rfl
      |true=>have:=hi.mu _ hqm hc;rw [h5] at this;cases this
     exact ⟨.inl e1,j0m e1,j0m e2⟩
    have:=w0j hchk _ h4
    have hk:(!need.isEmpty)=true:=by
     cases need with
     |nil=>cases h4
     |cons=>rfl
    rw [hk] at this
    simp only [cond_true,yD,vD,hpi,hqi,hitl _ _ hpi,hitl _ _ hqi,yR,atD,f2i] at this
    have hd1:=hi.dp _ hpm
    have hd2:=hi.dp _ hqm
    rw [hk] at hd1 hd2
    exact ⟨this.1,touch_of this.2.1 hd2,touch_of this.2.2 hd1⟩
   refine ⟨fun n hn' hin=>?_,fun n hn' hin=>?_,fun n hn'=>?_,hmu.1,hmu.2.1,hmu.2.2⟩
   ·have:=h2.1
    rw [hn'] at this
    simp only [yF,yS] at this
    have hc:=sub _ _ hin
    rw [←vK] at hc
    rw [this.1] at hc;cases hc
   ·have:=h2.2
    rw [hn'] at this
    simp only [yS] at this
    have hc:=sub _ _ hin
    rw [←vK] at hc
    rw [this] at hc;cases hc
   have:=h2.1
   rw [hn'] at this
   simp only [yF,bne_iff_ne] at this
   exact this.2
  ·rw [hRmap]
   intro x hx k hk
   have:=(hi.nm x hx k hk).1
   simp only [yI,yF] at hn
   have h1:=hn k this
   have h2:=o0k h1.1
   exact ⟨⟨fun n v hv=>a0n h2.1 hv,fun n o ho=>d0w h2.2 ho,k0k h1.1⟩,by simpa using h1.2⟩
  intro i o ho hl hsz e he hb
  rw [hlisted.2 i hsz] at hl
  have h1:=(hst' i o (hget i o ho)).1 e he hb
  rw [hlisted.listed]
  simp at hl hsz ⊢
  omega
 intro S' he
 rw [hRmap] at he
 exact he.symm
theorem Aq {P:Program} {B:Base} {l seg:List Oper} {p:Nat} {ds:List (Option Tmp)} {S:St} {K:St→Prop} (n:Nat) (names c:List Nat) (need:List (Nat×Nat)) (hds:f0f l=ds) (hst:b1o ds c need p n l=true) (hseg:(l.drop p).take (n-p)=seg)
 (hn:names.all (fun k=>fresh k S&&(look S.mem k).isNone)=true)
 (h: ∀ (N:St→Prop) (K':St→List Da→Prop),(∀ S',Dr P B l n S' K→N S')→(∀ S' D,z0v seg D need→N S'→K' S' D)→Rj P B.nt names ds (!need.isEmpty) seg [] [] S K'):Dr P B l p S K:=
 a2t n names c need hds hst hseg hn fun K' hK'=>h (fun S'=>Dr P B l n S' K) K' (fun _ h=>h) hK'
end Go.Sy
