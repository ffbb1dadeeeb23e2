/- The layer that reckons a function out: what it says of states, operations, regions, loops, calls. CONDITIONS: those that each theorem names. -/
import Derived.Test.YtkfcbhgkpknagaaGreatDoorvE2
import Derived.ChangeSlices
import Derived.Lib.SmallJoins
import Derived.Handed
import Derived.KernelRfl
import Derived.MapKept
import Derived.Orders
import Derived.ScopeJumps
import Derived.Lib.LaidTab
import Derived.LaidLaws
set_option linter.unusedVariables false
set_option linter.unusedSimpArgs false
namespace Go.Sy
open Go.RowKit Go.WideShapes Go.ChangeShapes Go.ChangeAt
def Sh (P:Program):Nat→TypeId→List PL→Prop
 |0,_,_=>False
 |n+1,t,cs=>match P.underlying t with
   |some .bool=>∃ b,cs=[.b b]
   |some (.int .i64)=>∃ k:Int,cs=[.i k]∧ -9223372036854775808≤k∧k≤9223372036854775807
   |some (.int .u8)=>∃ x,cs=[.u8 x]
   |some (.int .u32)=>∃ x,cs=[.u32 x]
   |some (.int .u64)=>∃ x,cs=[.u64 x]
   |some .string=>∃ s,cs=[.str s]∧s.length≤maxLen
   |some (.slice e)=>∃ rows,cs=[.R false (P.cellsOf e) rows]∧(∀ r∈rows,Sh P n e r∧r.length=P.cellsOf e)∧rows.length≤maxLen
   |some (.struct fs)=>∃ ps:List (List PL),cs=ps.flatten∧Fv (fun (f:Field) p=>Sh P n f.type p∧p.length=P.cellsOf f.type) fs.toList ps
   |some (.array m e)=>∃ ps:List (List PL),cs=ps.flatten∧ps.length=m∧∀ p∈ps,Sh P n e p∧p.length=P.cellsOf e
   |_=>False
def Va.reads (w:World):Va:=⟨fun k=>k-gl0,fun _=>0,fun b o=>w.cell? ⟨b,o,none⟩⟩
def e0n (P:Program):List Field→Nat→Nat→Bool
 | [],off,n=>off==n
 |f::fs,off,n=>f.offset==off&&e0n P fs (off+P.cellsOf f.type) n
def known (P:Program) (G:Nat→TypeId→Bool):Nat→TypeId→Bool
 |0,_=>false
 |n+1,t=>match P.underlying t with
   |some .bool|some (.int .i64)|some (.int .u8)|some (.int .u32)|some (.int .u64)|some .string=>P.cellsOf t==1
   |some (.slice e)=>P.cellsOf t==1&&(G n e&&known P G n e)
   |some (.struct fs)=>e0n P fs.toList 0 (P.cellsOf t)&&fs.toList.all fun f=>known P G n f.type
   |some (.array m e)=>P.cellsOf t==m*P.cellsOf e&&known P G n e
   |_=>false
section
variable {H:Type} {enc:TypeId×Value→H} {P:Program} {w:World} {base:Nat} {spare:Nat→Bool} {held:Bool}
theorem trod_array {m:Nat} {t e:TypeId} {fuel:Nat} {cs:List Value} {x:DataW H×List MemPlace} (ht:P.underlying t=some (.array m e)) (h:DataW.trod enc P w base spare held fuel t cs=some x):
 ∃ n,fuel=n+1∧cs.length=P.cellsOf t∧∀ i,i<m→∃ y,DataW.trod enc P w base spare held n e ((cs.drop (i*P.cellsOf e)).take (P.cellsOf e))=some y:=by
 cases fuel with
 |zero=>simp [DataW.trod] at h
 |succ n=>
   unfold DataW.trod at h
   rw [ht] at h
   simp only at h
   split at h<;>try (simp at h;done)
   rename_i hl
   refine ⟨n,rfl,hl,fun i hi=>?_⟩
   obtain ⟨xs,hx,_⟩:=yM.mp h
   have: ∀ (l:List Nat) (ys:List (DataW H×List MemPlace)),l.mapM (fun i=>DataW.trod enc P w base spare held n e ((cs.drop (i*P.cellsOf e)).take (P.cellsOf e)))=some ys→∀ i∈l,∃ y,DataW.trod enc P w base spare held n e ((cs.drop (i*P.cellsOf e)).take (P.cellsOf e))=some y:=by
    intro l
    induction l with
    |nil=>intro _ _ i hi;cases hi
    |cons a r ih=>
      intro ys hy i hi
      rw [List.mapM_cons] at hy
      cases ha:DataW.trod enc P w base spare held n e ((cs.drop (a*P.cellsOf e)).take (P.cellsOf e)) with
      |none=>rw [ha] at hy;simp at hy
      |some y=>
        rw [ha] at hy
        rcases xK.mp hi with rfl|hi
        ·exact ⟨y,ha⟩
        cases hr:r.mapM (fun i=>DataW.trod enc P w base spare held n e ((cs.drop (i*P.cellsOf e)).take (P.cellsOf e))) with
        |none=>rw [hr] at hy;simp at hy
        |some zs=>exact ih zs hr i hi
   exact this _ _ hx i (by simpa using hi)
def x0m (v:Value):Prop:=∀ a len cap,v=.slice (some a) len cap→a.spot=none
theorem v0u {ro:Ro} {blk:Nat}: ∀ {c:List PL} {vals:List Value} {off:Nat},Fv (PL.den ro) c vals→(∀ j v,vals[j]? =some v→ro blk (off+j)=some v)→PL.denAt ro blk c off
 | [],_,_,_,_=>by rw [PL.denAt];trivial
 |x::c,vals,off,h,hc=>by
   cases h with
   |cons h1 h2=>
     rename_i y m
     rw [PL.denAt]
     refine ⟨⟨y,by simpa using hc 0 y rfl,h1⟩,v0u h2 fun j v hv=>?_⟩
     have:=hc (j+1) v (by simpa using hv)
     rwa [show off+(j+1)=off+1+j from by omega] at this
theorem t0h {ro:Ro} {blk sz:Nat}: ∀ {rows:List (List PL)} {off:Nat},(∀ r∈rows,r.length=sz)→(∀ i r,rows[i]? =some r→PL.denAt ro blk r (off+i*sz))→PL.denRows ro blk sz rows off
 | [],_,_,_=>by rw [PL.denRows];trivial
 |r::rs,off,hl,h=>by
   rw [PL.denRows]
   refine ⟨hl r (by simp),by simpa using h 0 r rfl,t0h (fun r hr=>hl r (by simp [hr])) fun i r' hr=>?_⟩
   have:=h (i+1) r' (by simpa using hr)
   rwa [show off+(i+1)*sz=off+sz+i*sz from by rw [wN];omega] at this
theorem f0u {ro:Ro}: ∀ {ps:List (List PL)} {vs:List (List Value)},Fv (fun p v=>Fv (PL.den ro) p v) ps vs→Fv (PL.den ro) ps.flatten vs.flatten
 |_,_,.nil=>.nil
 |_,_,.cons h1 h2=>by simpa using h1.append (f0u h2)
theorem d0t {α β:Type} {p:α→β→Prop}: ∀ (l:List α),(∀ x∈l,∃ y,p x y)→∃ ys:List β,Fv p l ys
 | [],_=>⟨[],.nil⟩
 |x::r,h=>by
   obtain ⟨y,hy⟩:=h x (by simp)
   obtain ⟨ys,hys⟩:=d0t r fun z hz=>h z (by simp [hz])
   exact ⟨y::ys,.cons hy hys⟩
theorem Fv.flip {α β:Type} {R:α→β→Prop}: ∀ {l:List α} {m:List β},Fv R l m→Fv (fun b a=>R a b) m l
 |_,_,.nil=>.nil
 |_,_,.cons h1 h2=>.cons h1 h2.flip
theorem a0o {α:Type} (sz:Nat): ∀ (m:Nat) (cs:List α),cs.length=m*sz→((List.range m).map fun i=>(cs.drop (i*sz)).take sz).flatten=cs
 |0,cs,h=>by simp at h;simp [h]
 |m+1,cs,h=>by
   rw [List.range_succ_eq_map,yL,wV,List.map_map]
   have h2:(cs.drop sz).length=m*sz:=by rw [yU,h,wN];omega
   have ih:=a0o sz m (cs.drop sz) h2
   have e:(List.range m).map ((fun i=>(cs.drop (i*sz)).take sz)∘Nat.succ)=(List.range m).map fun i=>((cs.drop sz).drop (i*sz)).take sz:=by
    refine List.map_congr_left fun i _=>?_
    simp only [Function.comp_def,wO]
    congr 2
    rw [Nat.succ_mul];omega
   rw [e,ih];simp
theorem l0c {n:Nat} (cs:List Value) (hl:cs.length=n): ∀ (fs:List Field) (off:Nat),e0n P fs off n=true→(fs.map fun f=>(cs.drop f.offset).take (P.cellsOf f.type)).flatten=cs.drop off
 | [],off,h=>by
   simp only [e0n,beq_iff_eq] at h
   subst h;subst hl;simp
 |f::fs,off,h=>by
   simp only [e0n,yD,beq_iff_eq] at h
   obtain ⟨h1,h2⟩:=h
   rw [yL,wV,l0c cs hl fs _ h2,h1,←wO,wS]
theorem take_len {α:Type} {cs:List α} {a b:Nat} (h:a+b≤cs.length):((cs.drop a).take b).length=b:=by simp;omega
theorem m1f {n:Nat}: ∀ (fs:List Field) (off:Nat),e0n P fs off n=true→∀ f∈fs,f.offset+P.cellsOf f.type≤n
 | [],_,_,f,hf=>by cases hf
 |g::fs,off,h,f,hf=>by
   simp only [e0n,yD,beq_iff_eq] at h
   have hge: ∀ (fs:List Field) (off:Nat),e0n P fs off n=true→off≤n:=by
    intro fs
    induction fs with
    |nil=>intro off h;simp only [e0n,beq_iff_eq] at h;omega
    |cons g fs ih=>intro off h;simp only [e0n,yD,beq_iff_eq] at h;have:=ih _ h.2;omega
   rcases xK.mp hf with rfl|hf
   ·have:=hge _ _ h.2;omega
   exact m1f fs _ h.2 f hf
theorem Fv.map_r {α β γ:Type} {R:α→γ→Prop} {f:β→γ}: ∀ {l:List α} {m:List β},Fv (fun a b=>R a (f b)) l m→Fv R l (m.map f)
 |_,_,.nil=>.nil
 |_,_,.cons h1 h2=>.cons h1 h2.map_r
theorem w1n {G:Nat→TypeId→Bool} (hsp: ∀ (n:Nat) (t:TypeId) (m:Nat) (cs:List Value) (y:DataW H×List MemPlace),DataW.trod enc P w base spare held n t cs=some y→G m t=true→∀ v∈cs,x0m v): ∀ (n:Nat) (t:TypeId) (m:Nat) (cs:List Value) (y:DataW H×List MemPlace),DataW.trod enc P w base spare held n t cs=some y→known P G m t=true→(∀ v∈cs,x0m v)→
 ∃ xs,Sh P m t xs∧xs.length=cs.length∧Fv (PL.den (Va.reads w).ro) xs cs:=by
 intro n
 induction n with
 |zero=>intro t m cs y h;simp [DataW.trod] at h
 |succ n ih=>
   intro t m cs y h hk hv
   cases m with
   |zero=>simp [known] at hk
   |succ m=>
     have hk0:=hk
     unfold known at hk
     split at hk<;>try (cases hk;done)
     ·rename_i ht
      obtain ⟨b,rfl,_⟩:=DataW.trod_bool ht h
      exact ⟨[.b b],by unfold Sh;rw [ht];exact ⟨b,rfl⟩,rfl,.cons (by rw [PL.den]) .nil⟩
     ·rename_i ht
      obtain ⟨k,rfl,_,hwf⟩:=DataW.trod_int ht h
      simp only [Lit.wf,IntKind.min,IntKind.max,IntKind.signed,IntKind.bits,yD,decide_eq_true_eq,if_true] at hwf
      exact ⟨[.i k],by unfold Sh;rw [ht];exact ⟨k,rfl,by omega,by omega⟩,rfl,.cons (by rw [PL.den]) .nil⟩
     ·rename_i ht
      obtain ⟨k,rfl,_,hwf⟩:=DataW.trod_int ht h
      simp only [Lit.wf,IntKind.min,IntKind.max,IntKind.signed,IntKind.bits,yD,decide_eq_true_eq] at hwf
      exact ⟨[.u8 (UInt8.ofNat k.toNat)],by unfold Sh;rw [ht];exact ⟨_,rfl⟩,rfl,.cons (by rw [PL.den];congr 1;simp at hwf ⊢;omega) .nil⟩
     ·rename_i ht
      obtain ⟨k,rfl,_,hwf⟩:=DataW.trod_int ht h
      simp only [Lit.wf,IntKind.min,IntKind.max,IntKind.signed,IntKind.bits,yD,decide_eq_true_eq] at hwf
      exact ⟨[.u32 (UInt32.ofNat k.toNat)],by unfold Sh;rw [ht];exact ⟨_,rfl⟩,rfl,.cons (by rw [PL.den];congr 1;simp at hwf ⊢;omega) .nil⟩
     ·rename_i ht
      obtain ⟨k,rfl,_,hwf⟩:=DataW.trod_int ht h
      simp only [Lit.wf,IntKind.min,IntKind.max,IntKind.signed,IntKind.bits,yD,decide_eq_true_eq] at hwf
      exact ⟨[.u64 (UInt64.ofNat k.toNat)],by unfold Sh;rw [ht];exact ⟨_,rfl⟩,rfl,.cons (by rw [PL.den];congr 1;simp at hwf ⊢;omega) .nil⟩
     ·rename_i ht
      obtain ⟨s,rfl,_,hs⟩:=DataW.trod_string ht h
      have hl:s.data.toList.length=s.size:=wU
      exact ⟨[.str s.data.toList],by unfold Sh;rw [ht];exact ⟨_,rfl,by omega⟩,rfl,.cons (by rw [PL.den];exact ⟨by simp,by omega⟩) .nil⟩
     ·rename_i e ht
      simp only [yD,beq_iff_eq] at hk
      rcases DataW.trod_slice ht h with ⟨rfl,_⟩|⟨a,len,cap,elems,rest,n',hn,rfl,_,hb,hl,hm,hel,hi,_⟩
      ·exact ⟨[.R false (P.cellsOf e) []],by unfold Sh;rw [ht];exact ⟨[],rfl,fun r hr=>(by cases hr),xA _⟩,rfl,.cons (by rw [PL.den];exact .inl ⟨rfl,rfl⟩) .nil⟩
      cases hn
      have hsa:=hv _ (by simp) a len cap rfl
      obtain ⟨blk,off,sp⟩:=a
      simp only at hsa;subst hsa
      have each: ∀ i∈List.range len,∃ r:List PL,Sh P m e r∧r.length=P.cellsOf e∧PL.denAt (Va.reads w).ro blk r (off+i*P.cellsOf e):=by
       intro i hi'
       have hlt:i<len:=by simpa using hi'
       have h1:=hi i hlt
       have:i<elems.length:=by omega
       rw [yO this] at h1
       obtain ⟨cs',hc,ht'⟩:=Option.bind_eq_some_iff.mp h1
       obtain ⟨_,hcl,hcc⟩:=World.cells?_some hc
       have hcell: ∀ j v,cs'[j]? =some v→w.cell? ⟨blk,off+i*P.cellsOf e+j,none⟩=some v:=by
        intro j v hj
        have hj':j<P.cellsOf e:=by
         have:=(wL.mp hj).1;omega
        have:=hcc j hj'
        rw [hj] at this
        rw [←this]
        congr 1
        rw [addr_add,addr_add]
       obtain ⟨xs,hx1,hx2,hx3⟩:=ih e m cs' _ ht' hk.2.2 (hsp _ e m cs' _ ht' hk.2.1)
       exact ⟨xs,hx1,by omega,v0u hx3 fun j v hj=>hcell j v hj⟩
      obtain ⟨rows,hrows⟩:=d0t _ each
      have hlen:rows.length=len:=by have:=hrows.length;simpa using this.symm
      have hget: ∀ i r,rows[i]? =some r→Sh P m e r∧r.length=P.cellsOf e∧PL.denAt (Va.reads w).ro blk r (off+i*P.cellsOf e):=by
       intro i r hr
       obtain ⟨j,hj,hp⟩:=hrows.flip.get hr
       have hil:i<len:=by
        have:=(wL.mp hr).1;omega
       rw [List.getElem?_range hil] at hj
       cases hj;exact hp
      refine ⟨[.R false (P.cellsOf e) rows],?_,rfl,.cons ?_ .nil⟩
      ·unfold Sh;rw [ht]
       refine ⟨rows,rfl,fun r hr=>?_,by omega⟩
       obtain ⟨i,hi'⟩:=uI.mp hr
       exact ⟨(hget i r hi').1,(hget i r hi').2.1⟩
      rw [PL.den]
      refine .inr (.inl ⟨blk,off,cap,by rw [hlen],by omega,hm,fun h=>(by cases h),t0h (fun r hr=>?_) fun i r hr=>(hget i r hr).2.2⟩)
      obtain ⟨i,hi'⟩:=uI.mp hr
      exact (hget i r hi').2.1
     ·rename_i fs ht
      simp only [yD,yJ] at hk
      obtain ⟨xs,n',hn,_,hl,hxs,hf⟩:=DataW.trod_struct ht h
      cases hn
      have each: ∀ f∈fs.toList,∃ r:List PL,(Sh P m f.type r∧r.length=P.cellsOf f.type)∧Fv (PL.den (Va.reads w).ro) r ((cs.drop f.offset).take (P.cellsOf f.type)):=by
       intro f hf'
       obtain ⟨i,hi⟩:=uI.mp hf'
       rw [Array.getElem?_toList] at hi
       have h1:=hf i f hi
       have hi2:i<xs.length:=by rw [hxs];exact (Array.getElem?_eq_some_iff.mp hi).1
       rw [yO hi2] at h1
       obtain ⟨ys,hy1,hy2,hy3⟩:=ih f.type m _ _ h1 (hk.2 f hf') (fun v hv'=>hv v (List.mem_of_mem_drop (List.mem_of_mem_take hv')))
       have hle:=m1f _ _ hk.1 f hf'
       exact ⟨ys,⟨hy1,by rw [hy2,take_len (by omega)]⟩,hy3⟩
      obtain ⟨ps,hps⟩:=d0t _ each
      have hfl:=l0c cs hl fs.toList 0 hk.1
      rw [vR] at hfl
      have hall:Fv (PL.den (Va.reads w).ro) ps.flatten cs:=by
       rw [←hfl]
       refine f0u (Fv.map_r ?_)
       exact hps.flip.mono fun p f _ h=>h.2
      exact ⟨ps.flatten,by unfold Sh;rw [ht];exact ⟨ps,rfl,hps.mono fun f p _ h=>h.1⟩,hall.length,hall⟩
     rename_i k e ht
     simp only [yD,beq_iff_eq] at hk
     obtain ⟨n',hn,hl,hi⟩:=trod_array ht h
     cases hn
     have each: ∀ i∈List.range k,∃ r:List PL,(Sh P m e r∧r.length=P.cellsOf e)∧Fv (PL.den (Va.reads w).ro) r ((cs.drop (i*P.cellsOf e)).take (P.cellsOf e)):=by
      intro i hi'
      have hlt:i<k:=by simpa using hi'
      obtain ⟨y',hy'⟩:=hi i hlt
      obtain ⟨ys,hy1,hy2,hy3⟩:=ih e m _ _ hy' hk.2 (fun v hv'=>hv v (List.mem_of_mem_drop (List.mem_of_mem_take hv')))
      have hle:i*P.cellsOf e+P.cellsOf e≤cs.length:=by
       rw [hl,hk.1]
       have:(i+1)*P.cellsOf e≤k*P.cellsOf e:=vY _ hlt
       rw [wN] at this;omega
      exact ⟨ys,⟨hy1,by rw [hy2,take_len hle]⟩,hy3⟩
     obtain ⟨ps,hps⟩:=d0t _ each
     have hfl:=a0o (P.cellsOf e) k cs (by rw [hl,hk.1])
     have hall:Fv (PL.den (Va.reads w).ro) ps.flatten cs:=by
      rw [←hfl]
      refine f0u (Fv.map_r ?_)
      exact hps.flip.mono fun p f _ h=>h.2
     refine ⟨ps.flatten,?_,hall.length,hall⟩
     unfold Sh;rw [ht]
     refine ⟨ps,rfl,by have:=hps.length;simpa using this.symm,fun p hp=>?_⟩
     obtain ⟨i,hi'⟩:=uI.mp hp
     obtain ⟨j,_,hj⟩:=hps.flip.get hi'
     exact hj.1
end
section
variable {P:Program}
theorem n1g {n:Nat} {t:TypeId} {cs:List PL} (h:Sh P n t cs) (ht:P.underlying t=some .bool): ∃ b,cs=[.b b]:=by
 cases n with
 |zero=>exact h.elim
 |succ n=>unfold Sh at h;rw [ht] at h;exact h
theorem f1u {n:Nat} {t:TypeId} {cs:List PL} (h:Sh P n t cs) (ht:P.underlying t=some (.int .i64)): ∃ k:Int,cs=[.i k]∧ -9223372036854775808≤k∧k≤9223372036854775807:=by
 cases n with
 |zero=>exact h.elim
 |succ n=>unfold Sh at h;rw [ht] at h;exact h
theorem p2z {n:Nat} {t:TypeId} {cs:List PL} (h:Sh P n t cs) (ht:P.underlying t=some (.int .u8)): ∃ x,cs=[.u8 x]:=by
 cases n with
 |zero=>exact h.elim
 |succ n=>unfold Sh at h;rw [ht] at h;exact h
theorem f1t {n:Nat} {t e:TypeId} {cs:List PL} (h:Sh P n t cs) (ht:P.underlying t=some (.slice e)): ∃ (rows:List (List PL)) (m:Nat),cs=[.R false (P.cellsOf e) rows]∧(∀ r∈rows,Sh P m e r)∧rows.length≤maxLen:=by
 cases n with
 |zero=>exact h.elim
 |succ n=>unfold Sh at h;rw [ht] at h;obtain ⟨rows,h1,h2,h3⟩:=h;exact ⟨rows,n,h1,fun r hr=>(h2 r hr).1,h3⟩
theorem x0q {n:Nat} {t:TypeId} {fs:Array Field} {cs:List PL} (h:Sh P n t cs) (ht:P.underlying t=some (.struct fs)): ∃ (ps:List (List PL)) (m:Nat),cs=ps.flatten∧Fv (fun (f:Field) p=>Sh P m f.type p) fs.toList ps:=by
 cases n with
 |zero=>exact h.elim
 |succ n=>unfold Sh at h;rw [ht] at h;obtain ⟨ps,h1,h2⟩:=h;exact ⟨ps,n,h1,h2.mono fun f p _ h=>h.1⟩
theorem u1o {n k:Nat} {t e:TypeId} {cs:List PL} (h:Sh P n t cs) (ht:P.underlying t=some (.array k e)): ∃ (ps:List (List PL)) (m:Nat),cs=ps.flatten∧ps.length=k∧∀ p∈ps,Sh P m e p:=by
 cases n with
 |zero=>exact h.elim
 |succ n=>unfold Sh at h;rw [ht] at h;obtain ⟨ps,h1,h2,h3⟩:=h;exact ⟨ps,n,h1,h2,fun p hp=>(h3 p hp).1⟩
theorem l0r {m:Nat} {e:TypeId} (he:P.underlying e=some (.int .u8)): ∀ {ps:List (List PL)},(∀ p∈ps,Sh P m e p)→∃ l:List UInt8,l.length=ps.length∧ps=l.map fun x=>[.u8 x]
 | [],_=>⟨[],rfl,rfl⟩
 |p::r,h=>by
   obtain ⟨x,hx⟩:=p2z (h p (by simp)) he
   obtain ⟨l,h1,h2⟩:=l0r he (ps:=r) fun q hq=>h q (by simp [hq])
   exact ⟨x::l,by simp [h1],by simp [hx,←h2]⟩
theorem m0t {α:Type} {f:α→PL}: ∀ l:List α,(l.map fun x=>[f x]).flatten=l.map f
 | []=>rfl
 |x::r=>by simp [m0t r]
theorem d0h {n k:Nat} {t e:TypeId} {cs:List PL} (h:Sh P n t cs) (ht:P.underlying t=some (.array k e)) (he:P.underlying e=some (.int .u8)): ∃ l:List UInt8,l.length=k∧cs=l.map .u8:=by
 obtain ⟨ps,m,rfl,hl,hp⟩:=u1o h ht
 obtain ⟨l,h1,rfl⟩:=l0r he hp
 exact ⟨l,by omega,m0t l⟩
theorem m0h {n:Nat} {t e:TypeId} {cs:List PL} (h:Sh P n t cs) (ht:P.underlying t=some (.slice e)) (he:P.underlying e=some (.int .u8)) (hc:P.cellsOf e=1): ∃ l:List UInt8,cs=[.R false 1 (Av l)]∧l.length≤maxLen:=by
 obtain ⟨rows,m,rfl,hp,hm⟩:=f1t h ht
 obtain ⟨l,h1,rfl⟩:=l0r he hp
 exact ⟨l,by rw [hc];rfl,by simpa using hm⟩
theorem r1q {d:Va}: ∀ {xs:List PL} {vs:List Value},Fv (PL.den d.ro) xs vs→Fv (L.den d) (pls xs) vs
 |_,_,.nil=>.nil
 |_,_,.cons h1 h2=>.cons h1 (r1q h2)
end
section
variable {H:Type} {enc:TypeId×Value→H} {P:Program} {w:World} {base:Nat} {spare:Nat→Bool} {held:Bool}
def j1v (P:Program):Nat→TypeId→Bool
 |0,_=>false
 |n+1,t=>match P.underlying t with
   |some .bool|some (.int _)|some .string=>true
   |some (.struct fs)=>e0n P fs.toList 0 (P.cellsOf t)&&fs.toList.all fun f=>j1v P n f.type
   |some (.array m e)=>P.cellsOf t==m*P.cellsOf e&&j1v P n e
   |_=>false
theorem l1v : ∀ (n:Nat) (t:TypeId) (m:Nat) (cs:List Value) (y:DataW H×List MemPlace),DataW.trod enc P w base spare held n t cs=some y→j1v P m t=true→∀ v∈cs,x0m v:=by
 intro n
 induction n with
 |zero=>intro t m cs y h;simp [DataW.trod] at h
 |succ n ih=>
   intro t m cs y h hk
   cases m with
   |zero=>simp [j1v] at hk
   |succ m=>
     unfold j1v at hk
     split at hk<;>try (cases hk;done)
     ·rename_i ht
      obtain ⟨b,rfl,_⟩:=DataW.trod_bool ht h
      intro v hv a len cap e;simp at hv;subst hv;cases e
     ·rename_i k ht
      obtain ⟨b,rfl,_⟩:=DataW.trod_int ht h
      intro v hv a len cap e;simp at hv;subst hv;cases e
     ·rename_i ht
      obtain ⟨b,rfl,_⟩:=DataW.trod_string ht h
      intro v hv a len cap e;simp at hv;subst hv;cases e
     ·rename_i fs ht
      simp only [yD,yJ] at hk
      obtain ⟨xs,n',hn,_,hl,hxs,hf⟩:=DataW.trod_struct ht h
      cases hn
      have hfl:=l0c cs hl fs.toList 0 hk.1
      rw [vR] at hfl
      intro v hv
      rw [←hfl] at hv
      obtain ⟨p,hp,hv⟩:=List.mem_flatten.mp hv
      obtain ⟨f,hf',rfl⟩:=xG.mp hp
      obtain ⟨i,hi⟩:=uI.mp hf'
      rw [Array.getElem?_toList] at hi
      have h1:=hf i f hi
      have hi2:i<xs.length:=by rw [hxs];exact (Array.getElem?_eq_some_iff.mp hi).1
      rw [yO hi2] at h1
      exact ih f.type m _ _ h1 (hk.2 f hf') v hv
     rename_i k e ht
     simp only [yD,beq_iff_eq] at hk
     obtain ⟨n',hn,hl,hi⟩:=trod_array ht h
     cases hn
     have hfl:=a0o (P.cellsOf e) k cs (by rw [hl,hk.1])
     intro v hv
     rw [←hfl] at hv
     obtain ⟨p,hp,hv⟩:=List.mem_flatten.mp hv
     obtain ⟨i,hi',rfl⟩:=xG.mp hp
     obtain ⟨y',hy'⟩:=hi i (by simpa using hi')
     exact ih e m _ _ hy' hk.2 v hv
theorem u0x {sz:Nat} {t:TypeId} {v:Value} {d:DataW H} {p:List MemPlace} {b0:Nat} (m:Nat) (hv:Value.okWide P w .any b0 t v) (hk:known P (j1v P) m t=true) (hs:P.cellsOf t=sz) (hts:(match P.underlying t with
 |some (.struct _)|some (.array _ _)=>(match P.cellTypes P.depth t with
   |some ts=>ts.length==sz&&sz !=0&&ts.all fun u=>match P.underlying u with
     |some (.slice _)|some .bool|some (.int _)|some .string=>true
     |_=>false
   |none=>false)
 |some (.slice _)|some .bool|some (.int _)|some .string=>true
 |_=>false)=true) (h:DataW.Trod enc P w base spare held t v d p):
 ∃ xs:List PL,Sh P m t xs∧(V.w (match P.underlying t with
  |some (.struct _)|some (.array _ _)=>.agg (pls xs)
  |_=>.one (.pl (xs.headD .u)))).den (Va.reads w) v:=by
 obtain ⟨fuel,hf⟩:=h
 have hcell: ∀ (u:TypeId) (c:Value),Cell.okWide P w .any b0 u c→(match P.underlying u with
  |some (.slice _)|some .bool|some (.int _)|some .string=>true
  |_=>false)=true→x0m c:=by
  intro u c hc hu a len cap e
  subst e
  unfold Cell.okWide at hc
  cases hund:P.underlying u with
  |none=>rw [hund] at hu;cases hu
  |some d=>
    rw [hund] at hc hu
    cases d<;>first
     |(cases hu;done)
     |(simp only [Cell.ok,hund] at hc;done)
     |(simp only [Cell.ok,hund] at hc;exact hc.2.2.2.1)
 have hspot: ∀ c∈v.cells.toList,x0m c:=by
  unfold Value.okWide at hv
  split at hv
  ·rename_i fs ht
   obtain ⟨cs,rfl,hcs,ts,hct,_,hcc⟩:=hv
   rw [ht,hct] at hts
   simp only [yD,beq_iff_eq,yJ] at hts
   intro c hc
   obtain ⟨i,hi⟩:=uI.mp hc
   have hi':cs[i]? =some c:=by rw [←Array.getElem?_toList];exact hi
   obtain ⟨u,hu,hok⟩:=hcc i c hi'
   exact hcell u c hok (hts.2 u (wF hu))
  ·rename_i k e ht
   obtain ⟨cs,rfl,hcs,ts,hct,_,hcc⟩:=hv
   rw [ht,hct] at hts
   simp only [yD,beq_iff_eq,yJ] at hts
   intro c hc
   obtain ⟨i,hi⟩:=uI.mp hc
   have hi':cs[i]? =some c:=by rw [←Array.getElem?_toList];exact hi
   obtain ⟨u,hu,hok⟩:=hcc i c hi'
   exact hcell u c hok (hts.2 u (wF hu))
  rename_i hn1 hn2
  have hq:(match P.underlying t with
   |some (.slice _)|some .bool|some (.int _)|some .string=>true
   |_=>false)=true:=by
   split at hts
   ·rename_i fs ht;exact absurd ht (hn1 fs)
   ·rename_i k e ht;exact absurd ht (hn2 k e)
   all_goals simp_all
  intro c hc
  have hone:v.cells= #[v]:=by
   cases v<;>first|rfl|(exfalso;unfold Cell.okWide at hv;cases hu:P.underlying t with
    |none=>rw [hu] at hq;cases hq
    |some d=>rw [hu] at hv hq;cases d<;>first|(cases hq;done)|(simp [Cell.ok,hu] at hv))
  rw [hone] at hc
  simp at hc;subst hc
  exact hcell t c hv hq
 obtain ⟨xs,h1,h2,h3⟩:=w1n (fun n t m cs y h1 h2=>l1v n t m cs y h1 h2) fuel t m _ _ hf hk hspot
 refine ⟨xs,h1,?_⟩
 have hd:=r1q (d:=Va.reads w) h3
 unfold Value.okWide at hv
 split at hv
 ·rename_i fs ht
  obtain ⟨cs,rfl,_⟩:=hv
  rw [ht]
  exact ⟨cs,rfl,hd⟩
 ·rename_i k e ht
  obtain ⟨cs,rfl,_⟩:=hv
  rw [ht]
  exact ⟨cs,rfl,hd⟩
 rename_i hn1 hn2
 have hq:(match P.underlying t with
  |some (.slice _)|some .bool|some (.int _)|some .string=>true
  |_=>false)=true:=by
  split at hts
  ·rename_i fs ht;exact absurd ht (hn1 fs)
  ·rename_i k e ht;exact absurd ht (hn2 k e)
  all_goals simp_all
 have hone:v.cells= #[v]:=by
  cases v<;>first|rfl|(exfalso;unfold Cell.okWide at hv;cases hu:P.underlying t with
   |none=>rw [hu] at hq;cases hq
   |some d=>rw [hu] at hv hq;cases d<;>first|(cases hq;done)|(simp [Cell.ok,hu] at hv))
 rw [hone] at hd
 have: ∃ x,xs=[x]∧L.den (Va.reads w) (.pl x) v:=by
  cases xs with
  |nil=>cases hd
  |cons x r=>
    cases hd with
    |cons g1 g2=>
      cases r with
      |nil=>exact ⟨x,rfl,g1⟩
      |cons _ _=>cases g2
 obtain ⟨x,rfl,hx⟩:=this
 split
 ·rename_i fs ht;exact absurd ht (hn1 fs)
 ·rename_i k e ht;exact absurd ht (hn2 k e)
 exact hx
end
end Go.Sy
namespace Go.Sy
def St.dropE (ks:List Nat) (S:St):St:=⟨fgt ks S.env,S.mem⟩
theorem Bv {P:Program} {B:Base} {Q:Exit→St→Prop} {S:St} {x:Code} (ks:List Nat) (h:HT P B x (S.dropE ks) Q):HT P B x S Q:=by
 refine HT.le (fun d a w hs=>⟨d,?_⟩) h
 exact ⟨hs.defers,hs.nt,fun n v hv=>hs.env n v (a0n hv),hs.mem,hs.inj,hs.own,hs.ro,hs.old,hs.os,hs.tape,hs.output,hs.size,hs.block,hs.gat,hs.glob,hs.fix,hs.fxn,hs.mp⟩
theorem Bj (ks:List Nat) (e:List (Nat×V)) (m:List (Nat×Ob)):St.dropE ks ⟨e,m⟩=⟨fgt ks e,m⟩:=rfl
theorem Cx {α:Type} (ks:List Nat):fgt ks ([]:List (Nat×α))=[]:=rfl
theorem Bq {α:Type} (ks:List Nat) (n:Nat) (v:α) (r:List (Nat×α)):fgt ks ((n,v)::r)=if ks.contains n=true then fgt ks r else (n,v)::fgt ks r:=rfl
attribute [go_sem] y0v y0w g2m o2c f2c f2e f2f f2d m2o m2q m2p m2r nsC j2z k2b k2a k2c l1d a0l o0r i2b z1p z1v d0k gslot Eff.free i2y m2u p2i Op.operands Call.operands Nat.reduceBneDiff bne_self_eq_false Option.toArray List.append_toArray List.toList_toArray Array.append_empty Array.empty_append
end Go.Sy
namespace Go.Sy
theorem Ik {bs:List UInt8} {n:Nat} (h:n<bs.length):(Av bs).getD n []=[.u8 (bs.getD n 0)]:=by
 simp [Av,List.getD_eq_getElem?_getD,vH,yO h]
theorem d1e {bs:List UInt8}:(Av bs=[])=(bs=[]):=by simp [Av]
attribute [go_sem] f0r e0c d1e
theorem r0d {ro:Ro} {ex:Bool} {sz sz':Nat} {y:Value} (h:PL.den ro (.R ex sz []) y):PL.den ro (.R ex sz' []) y:=by
 rw [PL.den] at h ⊢;simpa only [PL.denRows] using h
end Go.Sy
namespace Go.Sy
def Told (R:V→List (Nat×Ob)→Prop) (v:V) (m:List (Nat×Ob)):Prop:=
 ∃ v' m',(∀ (B:Base) d y w,B.nt=0→v.den d y→m0c B d m w→∃ d',v'.den d' y∧m0c B d' m' w)∧R v' m'
theorem CtM.told {P:Program} {f:FuncId} {args:List V} {ms:List (Nat×Ob)} {R:V→List (Nat×Ob)→Prop} (h:CtM P f args ms (Told R)):CtM P f args ms R:=by
 intro w d vals hm hargs
 refine (h w d vals hm hargs).mono fun e w' ⟨y,v,d',m',h1,⟨v2,m2,h2,h3⟩,h4,h5⟩=>?_
 obtain ⟨d2,h6,h7⟩:=h2 _ d' y w' rfl h4 h5
 exact ⟨y,v2,d2,m2,h1,h3,h6,h7⟩
theorem Ct.told {P:Program} {f:FuncId} {args:List V} {R:V→List (Nat×Ob)→Prop} (h:Ct P f args (Told R)):Ct P f args R:=by
 intro w d vals hro hg hargs
 refine (h w d vals hro hg hargs).mono fun e w' ⟨y,v,d',m',h1,⟨v2,m2,h2,h3⟩,h4,h5⟩=>?_
 obtain ⟨d2,h6,h7⟩:=h2 _ d' y w' rfl h4 h5
 exact ⟨y,v2,d2,m2,h1,h3,h6,h7⟩
section
variable {R:V→List (Nat×Ob)→Prop} {v v':V} {m m':List (Nat×Ob)}
theorem i0w (hw: ∀ d y,v.den d y→v'.den d y) (h:Told R v' m):Told R v m:=by
 obtain ⟨v2,m2,h1,h2⟩:=h
 exact ⟨v2,m2,fun B d y w hb hv hm=>h1 B d y w hb (hw d y hv) hm,h2⟩
theorem c0e (k:Nat) {b:Rw} (c:List PL) (hk:look m k=some ⟨b,pls c⟩) (hl:k<500000) (h:Told R (r0q k c v) (x0x k c m)):Told R v m:=by
 obtain ⟨v2,m2,h1,h2⟩:=h
 refine ⟨v2,m2,fun B d y w hb hv hm=>?_,h2⟩
 obtain ⟨a,hs⟩:=hm
 exact h1 B _ y w hb (x0w hs hk rfl (wZ hl a0m) hv) ⟨a,hs.sealed hk rfl hl⟩
theorem Zw (h:Tidy R v m):Told R v m:=by
 obtain ⟨g,v2,m2,h1,h2,h3⟩:=h
 subst h1
 exact ⟨v2,m2,fun B d y w hb hv hm=>⟨d.via g,V.den_via hv,hm.tidy h2⟩,h3⟩
end
def Ew :W→Bool
 | .one (.pl _)=>true
 | .one _=>false
 | .agg cs=>cs.all fun l=>match l with
   | .pl _=>true
   |_=>false
def Dv :V→Bool
 | .w x=>Ew x
 | .tup xs=>xs.all Ew
 | .any=>true
theorem y0n {g:Nat→Nat}: ∀ {v:V},Dv v=true→v.ren g=v:=by
 have hl: ∀ cs:List L,(cs.all fun l=>match l with| .pl _=>true|_=>false)=true→cs.map (L.ren g)=cs:=by
  intro cs h
  induction cs with
  |nil=>rfl
  |cons x r ih=>
    simp only [wR,yD] at h
    rw [yL,ih h.2]
    cases x<;>first|rfl|(cases h.1)
 have hw: ∀ x:W,Ew x=true→x.ren g=x:=by
  intro x h
  cases x with
  |one l=>cases l<;>first|rfl|(cases h)
  |agg cs=>simp only [W.ren];rw [hl cs h]
 intro v h
 cases v with
 |w x=>simp only [V.ren];rw [hw x h]
 |tup xs=>
   simp only [V.ren]
   congr 1
   simp only [Dv,yJ] at h
   induction xs with
   |nil=>rfl
   |cons x r ih=>rw [yL,hw x (h x (by simp)),ih fun y hy=>h y (by simp [hy])]
 |any=>rfl
theorem told_plain {R:V→List (Nat×Ob)→Prop} {v:V} {m:List (Nat×Ob)} (hp:Dv v=true) (h:R v []):Told R v m:=
 Zw ⟨fun k=>k,v,[],(y0n hp).symm,.empty,h⟩
end Go.Sy
namespace Go.Sy
theorem g1t {P:Program} {B:Base} {ops:Array Oper} {ds:List (Option Tmp)} (hds:ds=ops.toList.map (·.dst)) {Q:Exit→Act→World→Prop} {K:St→Prop} (hK: ∀ S' d' a' w',K S'→Sim B d' S' a' w'→Q .normal a' w'):
 ∀ (its:List It) (S:St),OKs P ds its S→f0w its S→Py its→(∀ x∈its,∀ n,x.o.dst=some n→n<B.nt)→K (fin its S)→∀ d a w,Sim B d S a w→wpList P ops Q (its.map (·.o)) a w
 | [],S,_,_,_,_,h,d,a,w,hs=>hK _ _ _ _ h hs
 |x::r,S,ho,hn,ha,hd,h,d,a,w,hs=>by
   obtain ⟨g1,g2⟩:=ho
   have hnx: ∀ k∈x.e.names,New k S:=fun k hk=>hn x (by simp) k hk
   have hdst: ∀ n,x.o.dst=some n→n<B.nt:=hd x (by simp)
   have hgo: ∀ d' a' w',Sim B d' (x.on S) a' w'→wpList P ops Q (r.map (·.o)) a' w':=fun d' a' w' hs'=>
    g1t hds hK r (x.on S) g2 (f0w.on (fun y hy k hk=>hn y (by simp [hy]) k hk) g1 (fun y hy k hk hk2=>ha.1 y hy k hk2 hk)) ha.2.2 (fun y hy=>hd y (by simp [hy])) h d' a' w' hs'
   rw [yL]
   refine wpList_step fun N hN=>?_
   have hev:=g1.ev
   have hg:=g1.guard
   have run:x.skip=false→x.o.wp P a w N Q:=by
    intro hsk
    rw [hsk] at hev
    simp only [yE,if_false] at hev
    exact hev.run hs hnx hdst _ _ fun d' a' w' hs'=>hN _ _ (hgo d' a' w' hs')
   have skp:x.skip=true→N (a.put x.o.dst undef) w:=by
    intro hsk
    rw [hsk] at hev
    simp only [if_true] at hev
    refine hN _ _ (hgo d _ _ ?_)
    unfold It.on
    rw [hev]
    exact Sim.putE hs (v:=.tup []) (e0m d) hdst
   cases hgd:x.o.guard with
   |none=>
     rw [hgd] at hg
     rw [if_pos (by simp [Region.wanted,hgd])]
     exact run hg
   |some g=>
     rw [hgd] at hg
     simp only at hg
     obtain ⟨c,hc,hsk⟩:=hg
     have hw:=e0i hs hds hgd hc
     rw [hw]
     by_cases hcg:c=g.2
     ·rw [if_pos (by simp [hcg])]
      exact run (by rw [hsk,hcg];simp)
     rw [if_neg (by simp [hcg])]
     exact skp (by rw [hsk];simpa using hcg)
theorem m0e {P:Program} {B:Base} {id:Nat} {l:List Oper} {S:St} {Q:Exit→St→Prop} (names:List Nat)
 (hn:names.all (fun k=>fresh k S&&(look S.mem k).isNone)=true)
 (h: ∀ K:St→List Da→Prop,(∀ S' D,Q .normal S'→K S' D)→Jk P B.nt names (e0g l) false l [] [] S K):HT P B (.region id l.toArray false) S Q:=by
 intro d a w hs
 obtain ⟨its,hi,hQ⟩:=c0i (h (fun S' D=>Q .normal S') (fun _ _ h1=>h1))
 refine wp_region_list ?_
 have:=g1t (P:=P) (B:=B) (ops:=l.toArray) (ds:=e0g l) (by rw [l0v]) (Q:=fun e a' w'=>∃ S' d',Q e S'∧Sim B d' S' a' w') (K:=Q .normal) (fun S' d' a' w' hq hs'=>⟨S',d',hq,hs'⟩) its S hi.ok ?_ hi.apart hi.dst hQ d a w hs
 ·rw [hi.ops] at this
  simpa only [List.toList_toArray] using this
 intro x hx k hk
 have:=(hi.nm x hx k hk).1
 simp only [yJ,yD] at hn
 have h1:=hn k this
 have h2:=j0x h1.1
 exact ⟨⟨fun n v hv=>Wq h2.1 hv,fun n o ho=>a0y h2.2 ho,g0l h1.1⟩,by simpa using h1.2⟩
end Go.Sy
namespace Go.Sy
theorem n1t (g:Nat→Nat) (c:List PL):(pls c).map (L.ren g)=pls c:=by simp [pls,L.ren,Function.comp_def]
theorem h1q {m:List (Nat×Ob)} {j:Nat} {r:Bool} {c:List PL} (h:look m j=some ⟨r,pls c⟩) (hj:j<px0):Within (only j) [(0,⟨r,pls c⟩)] m:=by
 refine ⟨fun k o hk=>?_,fun k k' h1 h2 _=>?_,fun k hk=>?_,fun k hk=>?_⟩
 ·simp only [look] at hk
  split at hk
  ·rename_i e;subst e;cases hk;rw [show only j 0=j from rfl,h,n1t]
  cases hk
 ·have e: ∀ k,(look [(0,(⟨r,pls c⟩:Ob))] k).isSome=true→k=0:=by
   intro k hk
   simp only [look] at hk
   split at hk
   ·rename_i h0
    first|exact h0|exact h0.symm|exact (beq_iff_eq.mp h0).symm|exact beq_iff_eq.mp h0
   cases hk
  rw [e k h1,e k' h2]
 ·rw [only,if_pos hk];exact hj
 rw [only,if_neg (by omega)]
theorem L.ren_id (l:L):l.ren (fun k=>k)=l:=by cases l<;>simp [L.ren]
theorem s0d {m m2:List (Nat×Ob)} (h: ∀ k o,look m2 k=some o→look m k=some o):Within (fun k=>k) m2 m:=
 ⟨fun k o hk=>by rw [h k o hk];congr 1;cases o;simp only [Ob.mk.injEq,true_and];exact (List.map_id'' L.ren_id _).symm,fun _ _ _ _ h=>h,fun _ h=>h,fun _ _=>rfl⟩
theorem o0o {R:V→List (Nat×Ob)→Prop} {v:V} {m m2:List (Nat×Ob)} (hp:Dv v=true) (hm: ∀ k o,look m2 k=some o→look m k=some o) (h:R v m2):Told R v m:=
 Zw ⟨fun k=>k,v,m2,(y0n hp).symm,s0d hm,h⟩
theorem v0i {m:List (Nat×Ob)} {j:Nat} {o0:Ob} (h:look m j=some o0): ∀ k o,look [(j,o0)] k=some o→look m k=some o:=by
 intro k o hk
 simp only [look] at hk
 split at hk
 ·rename_i e;cases hk;rw [e];exact h
 cases hk
theorem d0l (vw:Bool) (S:St) (hd:Hand) (r:List L): ∀ l:List UInt8,Dq vw S hd (Az l++r)=(Dq vw S hd r).map (Az l++ ·)
 | []=>by simp [Az]
 |x::l=>by
   have ih:=d0l vw S hd r l
   simp only [Az] at ih
   simp only [Az,yL,yB,Dq,Uv,ih]
   cases Dq vw S hd r<;>rfl
theorem p0r (vw:Bool) (S:St) (hd:Hand) (l:List UInt8):Dq vw S hd (Az l)=some (Az l):=by
 have:=d0l vw S hd [] l
 simpa [Dq] using this
theorem r0u (vw:Bool) (m:List (Nat×Ob)) (l:List UInt8):(Az l).all (Nk vw m)=true:=by
 simp only [Az,yJ,xG]
 rintro x ⟨y,_,rfl⟩
 simp [Nk,Ry]
section
variable {P:Program} {B:Base} {ds:List (Option Tmp)} {r:List Oper} {S:St} {K:St→Prop}
theorem q2l (j:Nat) (o:Oper):Bz (some true) j true P B ds o r S K=Aj P B ds (⟨o.dst,o.op,o.type,o.pos,o.after,none⟩::r) (x0r S ds j true) K:=by rw [c0v];simp
theorem q2o (j:Nat) (o:Oper):Bz (some false) j false P B ds o r S K=Aj P B ds (⟨o.dst,o.op,o.type,o.pos,o.after,none⟩::r) (x0r S ds j false) K:=by rw [c0v];simp
theorem q2m (j:Nat) (o:Oper):Bz (some true) j false P B ds o r S K=Lx ((x0r S ds j true).put B.nt o.dst (.tup [])) P B ds r K:=by rw [c0v];simp
theorem q2n (j:Nat) (o:Oper):Bz (some false) j true P B ds o r S K=Lx ((x0r S ds j false).put B.nt o.dst (.tup [])) P B ds r K:=by rw [c0v];simp
end
section
variable {P:Program} {nt:Nat} {names:List Nat} {ds:List (Option Tmp)} {keep:Bool} {o:Oper} {N:List Nat} {D:List Da} {S:St} {k:List Nat→List Da→St→Prop}
theorem r2h (j:Nat):onG P nt names ds keep o (j,true) N D S k (some true)=onO P nt names ds keep o N D S k:=by rw [n1w];simp
theorem r2i (j:Nat):onG P nt names ds keep o (j,true) N D S k (some false)=(i0k nt o.dst∧k N (D++bif keep then [⟨.val (.tup []),(gslot ds o).filterMap S.get,[]⟩] else []) ((Eff.val (.tup [])).on o.dst S)):=by rw [n1w];simp
end
attribute [go_sem high] q2l q2o q2m q2n r2h r2i
attribute [go_sem] d0l p0r r0u l0y
end Go.Sy
namespace Go.Sy
section
variable {k j:Nat} {c:List PL}
theorem u0h (x:PL):e0o k c (.pl x)=.pl x:=rfl
theorem g0d {n:Nat} {bs:List UInt8} (h:n=bs.length):e0o k (bs.map .u8) (.s k [] n 1)=.pl (.R false 1 (Av bs)):=by
 subst h
 simp only [e0o,if_true,rd,pok,psz,xO,Nat.mul_one,and_self,b0n]
theorem z0g (l:List UInt8):(Az l).map (e0o k c)=Az l:=by simp [Az,e0o]
end
end Go.Sy
namespace Go.Sy
section
variable {H:Type} {enc:TypeId×Value→H} {P:Program} {w w2:World} {base:Nat} {spare:Nat→Bool} {held:Bool}
end
end Go.Sy
namespace Go.Sy
section
variable {P:Program}
end
end Go.Sy
namespace Go.Sy
section
variable {H:Type} {enc:TypeId×Value→H} {P:Program}
end
end Go.Sy
namespace Go.Sy
section
variable {P:Program} {B:Base} {S:St} {Q:Exit→St→Prop}
theorem b0q {c:Code} (h: ∀ Z:Exit→St→Prop,(∀ e S',Q e S'→Z e S')→HT P B c S Z):HT P B c S Q:=h Q fun _ _ h=>h
theorem Lj {id:Nat} {l:List Oper} {y:Code} (h: ∀ K:St→Prop,(∀ S',HT P B y S' Q→K S')→Aj P B (e0g l) l S K):HT P B (.seq (.region id l.toArray false) y) S Q:=
 Fw fun N M hN hM=>Cw fun K hK=>h K fun S' hy=>hK S' (hN S' hy)
theorem w0i {id:Nat} {l:List Oper} {y:Code} (names c:List Nat) (need:List (Nat×Nat)) (hm:P.follows .mixedOrders=true) (hst:k0b (e0g l) c need l=true)
 (hn:names.all (fun k=>fresh k S&&(look S.mem k).isNone)=true)
 (h: ∀ K:St→List Da→Prop,(∀ S' D,w0l l D need→HT P B y S' Q→K S' D)→Jk P B.nt names (e0g l) (!need.isEmpty) l [] [] S K):HT P B (.seq (.region id l.toArray true) y) S Q:=
 Fw fun N M hN hM=>Sk names c need hm hst hn fun K hK=>h K fun S' D hd hy=>hK S' D hd (hN S' hy)
theorem Dw {c:Operand} {x y:Code} (hc:S.get c=some (.w (.one (.pl (.b true))))) (h:HT P B x S Q):HT P B (.cond c x y) S Q:=h1h hc (fun _=>h) (fun e=>by cases e)
theorem Dk {c:Operand} {x y:Code} (hc:S.get c=some (.w (.one (.pl (.b false))))) (h:HT P B y S Q):HT P B (.cond c x y) S Q:=h1h hc (fun e=>by cases e) (fun _=>h)
end
end Go.Sy
namespace Go.Sy
section
variable {P:Program}
end
end Go.Sy
namespace Go.Sy
def kept {α:Type} (ks:List Nat):List (Nat×α)→List (Nat×α)
 | []=>[]
 |x::r=>if ks.contains x.1=true then x::kept ks r else kept ks r
theorem p0p {α:Type} {ks:List Nat} {n:Nat} {v:α}: ∀ {e:List (Nat×α)},look (kept ks e) n=some v→look e n=some v
 | [],h=>h
 |x::r,h=>by
   simp only [kept] at h
   split at h
   ·simp only [look] at h ⊢
    split
    ·rename_i e;rw [if_pos e] at h;exact h
    rename_i e;rw [if_neg e] at h;exact p0p h
   rename_i hc
   have:=p0p h
   simp only [look]
   split
   ·rename_i e
    exfalso
    have hk: ∀ {e:List (Nat×α)},look (kept ks e) n=some v→ks.contains n=true:=by
     intro e
     induction e with
     |nil=>intro h;cases h
     |cons y s ih=>
       intro h
       simp only [kept] at h
       split at h
       ·rename_i hy
        simp only [look] at h
        split at h
        ·rename_i e2;rw [e2];exact hy
        exact ih h
       exact ih h
    exact hc (by rw [←e];exact hk h)
   exact this
def St.keepE (ks:List Nat) (S:St):St:=⟨kept ks S.env,S.mem⟩
theorem o0a (ks:List Nat) (e:List (Nat×V)) (m:List (Nat×Ob)):St.keepE ks ⟨e,m⟩=⟨kept ks e,m⟩:=rfl
theorem n0z {α:Type} (ks:List Nat):kept ks ([]:List (Nat×α))=[]:=rfl
theorem j0s {α:Type} (ks:List Nat) (n:Nat) (v:α) (r:List (Nat×α)):kept ks ((n,v)::r)=if ks.contains n=true then (n,v)::kept ks r else kept ks r:=rfl
section
variable {P:Program} {B:Base} {Q:Exit→St→Prop} {S:St} {x y:Code}
theorem x1v (ks:List Nat) (h:HT P B x (S.keepE ks) Q):HT P B x S Q:=by
 refine HT.le (fun d a w hs=>⟨d,?_⟩) h
 exact ⟨hs.defers,hs.nt,fun n v hv=>hs.env n v (p0p hv),hs.mem,hs.inj,hs.own,hs.ro,hs.old,hs.os,hs.tape,hs.output,hs.size,hs.block,hs.gat,hs.glob,hs.fix,hs.fxn,hs.mp⟩
theorem b2a {α:Type} (ks:List Nat) (F:α→St) (p:α→Prop)
 (h1: ∀ (N:St→Prop) (M:Exit→St→Prop),(∀ a,p a→∀ S',S'.keepE ks=F a→N S')→(∀ e S',Q e S'→M e S')→HT P B x S (l0d N M))
 (h2: ∀ a,p a→HT P B y (F a) Q):HT P B (.seq x y) S Q:=
 HT.seq (h1 (fun S'=>HT P B y S' Q) Q (fun a ha S' e=>x1v ks (e▸h2 a ha)) (fun _ _ h=>h))
end
attribute [go_sem] a0f a1c a1e k0d n0j Sz n0c Uv Dq Uy c0y Pv Kj g0j Nk okN e0w inv Vw Px nameOut Ob.ren V.ren W.ren L.ren h0b
end Go.Sy
namespace Go.Sy
def CH (vw:Bool) (hd:Hand) (P:Program) (f:FuncId) (args:List V) (m:List (Nat×Ob)) (R:V→List (Nat×Ob)→Prop):Prop:=CtM P f args m R
def CF (caps:List Nat) (vw:Bool) (hd:Hand):Prop:=True
theorem Ct.cv {P:Program} {f:FuncId} {args:List V} {T:V→Prop} (h:Ct P f args fun v _=>T v):Ct P f args fun v m=>T v∧m=[]:=h.plain fun _ _ h=>h
theorem CtM.ch {P:Program} {f:FuncId} {args:List V} {m:List (Nat×Ob)} {R:V→List (Nat×Ob)→Prop} (hd:Hand) (h:CtM P f args m R) (vw:Bool:=false):CH vw hd P f args m R:=h
theorem CF.mk (caps:List Nat) (hd:Hand) (vw:Bool:=false):CF caps vw hd:=trivial
section
variable {P:Program} {B:Base} {S:St} {K:St→Prop} {dst:Option Tmp} {ty:TypeId} {pos:String} {af:Array Edge} {f:FuncId} {args:List Operand} {ts:Array TypeId} {ds:List (Option Tmp)} {r:List Oper} {vs:List V} {m:List (Nat×Ob)} {R:V→List (Nat×Ob)→Prop}
theorem b0c (hgo: ∀ vals w,(callFunc f vals).run P w=.ok (.enter f vals) w) (hargs:Tj S args=some vs) (hc:Ct P f vs R) (hK: ∀ v m,R v m→e0p m v=true∧b0e (fun k=>k) S.env m S.mem=true∧(match dst with
 |some n=>n<B.nt∧Aj P B ds r ⟨(n,v.ren (fun k=>k))::S.env,adopt (fun k=>k) m S.mem⟩ K
 |none=>Aj P B ds r ⟨S.env,adopt (fun k=>k) m S.mem⟩ K)):
 Bw P B ⟨dst,.call ⟨.value (.func f),args.toArray,ts⟩,ty,pos,af,none⟩ S ds r K:=Cv (fun k=>k) hgo hargs hc hK
theorem k0i {vw:Bool} {hd:Hand} (hgo: ∀ vals w,(callFunc f vals).run P w=.ok (.enter f vals) w) (hargs:Sz vw S hd args=some vs) (hok:x1x hd=true) (hm:Pv S hd m) (hc:CH vw hd P f vs m R)
 (hK: ∀ v m',R v m'→Kj vw m' v=true∧e0w vw (fun k=>k) hd S m m' m'∧hd.all (fun x=>(look m' x.1).isSome)=true∧(match dst with
  |some n=>n<B.nt∧Aj P B ds r ⟨(n,v.ren (Px (fun k=>k) hd))::S.env,Vw (fun k=>k) hd m' S.mem⟩ K
  |none=>Aj P B ds r ⟨S.env,Vw (fun k=>k) hd m' S.mem⟩ K)):
 Bw P B ⟨dst,.call ⟨.value (.func f),args.toArray,ts⟩,ty,pos,af,none⟩ S ds r K:=Kz vw hd (fun k=>k) hgo hargs hok hm hc hK
theorem n0b {vw:Bool} {hd:Hand} {t:Tmp} {caps ks:List Nat} (hfn:S.get (.tmp t)=some (.w (.one (.fn f caps)))) (hcaps:c0y hd caps=some ks) (hgo: ∀ vals w,(callFunc f vals).run P w=.ok (.enter f vals) w) (hargs:Sz vw S hd args=some vs) (hok:x1x hd=true) (hm:Pv S hd m) (hx:CF caps vw hd) (hc:CtM P f (vs++ks.map fun k=>.w (.one (.p k []))) m R)
 (hK: ∀ v m',R v m'→Kj vw m' v=true∧e0w vw (fun k=>k) hd S m m' m'∧hd.all (fun x=>(look m' x.1).isSome)=true∧(match dst with
  |some n=>n<B.nt∧Aj P B ds r ⟨(n,v.ren (Px (fun k=>k) hd))::S.env,Vw (fun k=>k) hd m' S.mem⟩ K
  |none=>Aj P B ds r ⟨S.env,Vw (fun k=>k) hd m' S.mem⟩ K)):
 Bw P B ⟨dst,.call ⟨.value (.tmp t),args.toArray,ts⟩,ty,pos,af,none⟩ S ds r K:=i0p vw hd (fun k=>k) hfn hcaps hgo hargs hok hm hc hK
end
section
variable {P:Program} {B:Base} {c:Code} {S:St} {Q:Exit→St→Prop}
theorem HT.w (h : HT P B c S Q := by
    repeat (first
      | refine zhK _ ?_
      | (refine zhN _ ?_; clear zhN zhM)
      | (refine zhM _ _ ?_; clear zhN zhM)
      | (refine zbn _ ?_; clear zbn zbx zbr zbi)
      | (refine zbx _ ?_; clear zbn zbx zbr zbi)
      | (refine zbr _ ?_; clear zbn zbx zbr zbi)
      | (refine zbi _ _ ?_ ?_; focus (decide); clear zbn zbx zbr zbi)
      | (refine zhZ _ _ ?_; (try simp only [go_sem, F0]); (all_goals (first | rfl | exact ⟨rfl, rfl⟩ | exact told_plain rfl ⟨rfl, rfl⟩ | exact o0o rfl (v0i (by simp [look, F0])) ⟨rfl, rfl⟩ | exact zE | exact zE _ | (rw [zE]; done) | (simp [F0]; done) | exact zE _ (by first | rfl | (simp [look, F0]; done)))))
      | (refine zL _ ?_ ?_; all_goals (simp only [go_sem, leX, yB, yC, F0]; try simp))
      | (refine Lj fun zK zhK => ?_; (try simp only [go_sem, F0]); (repeat' (first | apply yA | intro _)))
      | (refine Cw fun zK zhK => ?_; (try simp only [go_sem, F0]); (repeat' (first | apply yA | intro _)))
      | ((first | (refine b0c (fun _ _ => rfl) ?_ cv0 ?_; focus (first | rfl | (simp only [go_sem, F0] <;> rfl))) | (refine b0c (fun _ _ => rfl) ?_ cv1 ?_; focus (first | rfl | (simp only [go_sem, F0] <;> rfl))) | (refine b0c (fun _ _ => rfl) ?_ cv2 ?_; focus (first | rfl | (simp only [go_sem, F0] <;> rfl))) | (refine b0c (fun _ _ => rfl) ?_ cv3 ?_; focus (first | rfl | (simp only [go_sem, F0] <;> rfl))) | (refine b0c (fun _ _ => rfl) ?_ cv4 ?_; focus (first | rfl | (simp only [go_sem, F0] <;> rfl))) | (refine b0c (fun _ _ => rfl) ?_ cv5 ?_; focus (first | rfl | (simp only [go_sem, F0] <;> rfl))) | (refine b0c (fun _ _ => rfl) ?_ cv6 ?_; focus (first | rfl | (simp only [go_sem, F0] <;> rfl))) | (refine b0c (fun _ _ => rfl) ?_ cv7 ?_; focus (first | rfl | (simp only [go_sem, F0] <;> rfl))) | (refine b0c (fun _ _ => rfl) ?_ cv8 ?_; focus (first | rfl | (simp only [go_sem, F0] <;> rfl))) | (refine b0c (fun _ _ => rfl) ?_ cv9 ?_; focus (first | rfl | (simp only [go_sem, F0] <;> rfl))))
         rintro v m ⟨hR, hm⟩; subst hR; subst hm
         refine yA ?_ (yA ?_ ?_); iterate 2 (focus (first | rfl | simp only [go_sem, F0]))
         (try simp only [go_sem, F0]); (repeat' (first | apply yA | intro _)))
      | ((first | (refine k0i (fun _ _ => rfl) ?_ ?_ ?_ ch0 ?_; iterate 3 (focus (first | rfl | (simp only [go_sem, F0] <;> first | done | rfl | simp)))) | (refine k0i (fun _ _ => rfl) ?_ ?_ ?_ ch1 ?_; iterate 3 (focus (first | rfl | (simp only [go_sem, F0] <;> first | done | rfl | simp)))) | (refine k0i (fun _ _ => rfl) ?_ ?_ ?_ ch2 ?_; iterate 3 (focus (first | rfl | (simp only [go_sem, F0] <;> first | done | rfl | simp)))) | (refine k0i (fun _ _ => rfl) ?_ ?_ ?_ ch3 ?_; iterate 3 (focus (first | rfl | (simp only [go_sem, F0] <;> first | done | rfl | simp)))) | (refine k0i (fun _ _ => rfl) ?_ ?_ ?_ ch4 ?_; iterate 3 (focus (first | rfl | (simp only [go_sem, F0] <;> first | done | rfl | simp)))) | (refine k0i (fun _ _ => rfl) ?_ ?_ ?_ ch5 ?_; iterate 3 (focus (first | rfl | (simp only [go_sem, F0] <;> first | done | rfl | simp)))) | (refine k0i (fun _ _ => rfl) ?_ ?_ ?_ ch6 ?_; iterate 3 (focus (first | rfl | (simp only [go_sem, F0] <;> first | done | rfl | simp)))) | (refine n0b ?_ ?_ (fun _ _ => rfl) ?_ ?_ ?_ cg0 cf0 ?_; iterate 5 (focus (first | rfl | (simp only [go_sem, F0] <;> first | done | rfl | simp)))) | (refine n0b ?_ ?_ (fun _ _ => rfl) ?_ ?_ ?_ cg1 cf1 ?_; iterate 5 (focus (first | rfl | (simp only [go_sem, F0] <;> first | done | rfl | simp)))) | (refine n0b ?_ ?_ (fun _ _ => rfl) ?_ ?_ ?_ cg2 cf2 ?_; iterate 5 (focus (first | rfl | (simp only [go_sem, F0] <;> first | done | rfl | simp)))) | (refine n0b ?_ ?_ (fun _ _ => rfl) ?_ ?_ ?_ cg3 cf3 ?_; iterate 5 (focus (first | rfl | (simp only [go_sem, F0] <;> first | done | rfl | simp)))) | (refine n0b ?_ ?_ (fun _ _ => rfl) ?_ ?_ ?_ cg4 cf4 ?_; iterate 5 (focus (first | rfl | (simp only [go_sem, F0] <;> first | done | rfl | simp)))) | (refine n0b ?_ ?_ (fun _ _ => rfl) ?_ ?_ ?_ cg5 cf5 ?_; iterate 5 (focus (first | rfl | (simp only [go_sem, F0] <;> first | done | rfl | simp)))))
         rintro v m ⟨hR, hm⟩; subst hR; subst hm
         refine yA ?_ (yA ?_ (yA ?_ ?_)); iterate 3 (focus (first | rfl | (simp only [go_sem, F0]; done) | (simp [go_sem, look, F0]; done)))
         (try simp only [go_sem, F0]); (repeat' (first | apply yA | intro _)))
      | refine Fw fun zN zM zhN zhM => ?_
      | refine Cj fun zB zbn zbx zbr zbi => ?_
      | refine Gq ?_
      | refine Tk ?_
      | refine Jv ?_
      | (refine Dk ?_ ?_; focus (first | rfl | (simp [go_sem, F0]; done)))
      | (refine Dw ?_ ?_; focus (first | rfl | (simp [go_sem, F0]; done))))) : HT P B c S Q := h
end
end Go.Sy
namespace Go.Sy
section
variable {P:Program} {B:Base} {S:St} {Q:Exit→St→Prop}
end
end Go.Sy
namespace Go.Sy
def FG (ks:List Nat):Prop:=True
theorem V.ren_same (v:V):v.ren (fun k=>k)=v:=by
 have hw: ∀ x:W,x.ren (fun k=>k)=x:=by
  intro x
  cases x with
  |one l=>simp only [W.ren,L.ren_id]
  |agg cs=>simp only [W.ren,W.agg.injEq];exact List.map_id'' L.ren_id _
 cases v with
 |w x=>simp only [V.ren,hw]
 |tup xs=>simp only [V.ren,V.tup.injEq];exact List.map_id'' hw _
 |any=>rfl
theorem x1e {m2:List (Nat×Ob)} {k:Nat} {o:Ob} (h:look m2 k=some o):(k,o)∈m2:=by
 induction m2 with
 |nil=>cases h
 |cons x r ih=>
   simp only [look] at h
   split at h
   ·rename_i e;cases h;subst e;exact .head _
   exact .tail _ (ih h)
theorem x0g {R:V→List (Nat×Ob)→Prop} {v:V} {m m2:List (Nat×Ob)} (hm: ∀ x∈m2,look m x.1=some x.2) (h:R v m2):Told R v m:=
 Zw ⟨fun k=>k,v,m2,(V.ren_same v).symm,s0d fun k o hk=>hm _ (x1e hk),h⟩
def p0e (m0:List (Nat×Ob)):List (Nat×Ob)→Option (Nat×List PL)
 | []=>none
 |x::r=>match (look m0 x.1).bind fun o=>f1j o.cells with
   |some c=>if x.1<500000 then some (x.1,c) else p0e m0 r
   |none=>p0e m0 r
def u0i :Nat→List (Nat×Ob)→V→Option V
 |0,_,v=>if Dv v=true then some v else none
 |n+1,m,v=>if Dv v=true then some v else match p0e m m with
   |none=>none
   |some x=>u0i n (x0x x.1 x.2 m) (r0q x.1 x.2 v)
theorem l0k {m0:List (Nat×Ob)}: ∀ {m:List (Nat×Ob)} {x:Nat×List PL},p0e m0 m=some x→(∃ b,look m0 x.1=some ⟨b,pls x.2⟩)∧x.1<500000
 | [],_,h=>by cases h
 |y::r,x,h=>by
   simp only [p0e] at h
   split at h
   ·rename_i c hc
    split at h
    ·rename_i hl
     cases h
     obtain ⟨o,ho,hu⟩:=Option.bind_eq_some_iff.mp hc
     have:=o0n hu
     obtain ⟨b,cs⟩:=o
     simp only at this
     subst this
     exact ⟨⟨b,ho⟩,hl⟩
    exact l0k h
   exact l0k h
theorem u0a {R:V→List (Nat×Ob)→Prop}: ∀ {n:Nat} {m:List (Nat×Ob)} {v v':V},u0i n m v=some v'→R v' []→Told R v m
 |0,m,v,v',h,hr=>by
   simp only [u0i] at h
   split at h
   ·rename_i hp;cases h;exact told_plain hp hr
   cases h
 |n+1,m,v,v',h,hr=>by
   simp only [u0i] at h
   split at h
   ·rename_i hp;cases h;exact told_plain hp hr
   split at h
   ·cases h
   rename_i x hx
   obtain ⟨⟨b,hk⟩,hl⟩:=l0k hx
   exact c0e x.1 x.2 hk hl (u0a h hr)
section
variable {P:Program} {B:Base} {S:St} {K:St→Prop} {dst:Option Tmp} {ty:TypeId} {pos:String} {af:Array Edge} {f:FuncId} {args:List Operand} {ts:Array TypeId} {ds:List (Option Tmp)} {r:List Oper} {vs:List V} {m:List (Nat×Ob)} {R:V→List (Nat×Ob)→Prop}
theorem i2d {vw:Bool} {hd:Hand} (hgo: ∀ vals w,(callFunc f vals).run P w=.ok (.enter f vals) w) (hargs:Sz vw S hd args=some vs) (hok:x1x hd=true) (hm:Pv S hd m) (hc:CH vw hd P f vs m R)
 (hK: ∀ v m',R v m'→Kj vw m' v=true∧e0w vw (fun k=>k+1000) hd S m m' m'∧hd.all (fun x=>(look m' x.1).isSome)=true∧(match dst with
  |some n=>n<B.nt∧Aj P B ds r ⟨(n,v.ren (Px (fun k=>k+1000) hd))::S.env,Vw (fun k=>k+1000) hd m' S.mem⟩ K
  |none=>Aj P B ds r ⟨S.env,Vw (fun k=>k+1000) hd m' S.mem⟩ K)):
 Bw P B ⟨dst,.call ⟨.value (.func f),args.toArray,ts⟩,ty,pos,af,none⟩ S ds r K:=Kz vw hd (fun k=>k+1000) hgo hargs hok hm hc hK
end
section
variable {P:Program} {B:Base} {c:Code} {S:St} {Q:Exit→St→Prop}
theorem l2c {x:Code} {n:Nat} {ks:List Nat} (hk:FG ks) (h: ∀ (N:St→Prop) (M:Exit→St→Prop),(∀ S',rnd P B x Q n S'→N S')→(∀ e S',Q e S'→M e S')→HT P B x (S.forget ks) (l0d N M)):rnd P B x Q (n+1) S:=Ez ks (Oz h)
def DR (id:Nat) (names c:List Nat) (need:List (Nat×Nat)):Prop:=True
theorem m0y {id:Nat} {l:List Oper} {names d:List Nat} {need:List (Nat×Nat)} (hz:DR id names d need) (hm:P.follows .mixedOrders=true) (hst:k0b (e0g l) d need l=true)
 (hn:names.all (fun k=>fresh k S&&(look S.mem k).isNone)=true)
 (h: ∀ K:St→List Da→Prop,(∀ S' D,w0l l D need→Q .normal S'→K S' D)→Jk P B.nt names (e0g l) (!need.isEmpty) l [] [] S K):HT P B (.region id l.toArray true) S Q:=Sk names d need hm hst hn h
theorem a2i {id:Nat} {l:List Oper} {y:Code} {names d:List Nat} {need:List (Nat×Nat)} (hz:DR id names d need) (hm:P.follows .mixedOrders=true) (hst:k0b (e0g l) d need l=true)
 (hn:names.all (fun k=>fresh k S&&(look S.mem k).isNone)=true)
 (h: ∀ K:St→List Da→Prop,(∀ S' D,w0l l D need→HT P B y S' Q→K S' D)→Jk P B.nt names (e0g l) (!need.isEmpty) l [] [] S K):HT P B (.seq (.region id l.toArray true) y) S Q:=w0i names d need hm hst hn h
end
end Go.Sy
namespace Go.Sy
section
variable {P:Program} {B:Base} {c:Code} {S:St} {Q:Exit→St→Prop}
theorem HT.run2 (h : HT P B c S Q := by
    repeat (first
      | refine zhK _ ?_
      | (refine zhN _ ?_; clear zhN zhM)
      | (refine zhM _ _ ?_; clear zhN zhM)
      | (refine zbn _ ?_; clear zbn zbx zbr zbi)
      | (refine zbx _ ?_; clear zbn zbx zbr zbi)
      | (refine zbr _ ?_; clear zbn zbx zbr zbi)
      | (refine zbi _ _ ?_ ?_; focus (decide); clear zbn zbx zbr zbi)
      | (refine zhZ _ _ ?_; (try simp only [go_sem, F0, Nat.reduceAdd, Int.reduceTMod, Int.reduceTDiv, Int.reduceNeg, Int.reduceMul, Int.reduceToNat, xB]); (all_goals (first | rfl | exact ⟨rfl, rfl⟩ | exact told_plain rfl ⟨rfl, rfl⟩ | exact o0o rfl (v0i (by simp [look, F0])) ⟨rfl, rfl⟩ | exact zE | exact zE _ | (rw [zE]; done) | (simp [F0]; done) | (refine u0a (n := 40) ?_ rfl; first | rfl | kernel_rfl) | exact x0g (by simp [look, F0]) ⟨rfl, rfl⟩ | exact zE _ (by first | rfl | (simp [look, F0]; done)))))
      | (refine zL _ ?_ ?_; all_goals (simp only [go_sem, leX, yB, yC, F0]; try simp))
      | (refine l2c zF fun zN zM zhN zhM => ?_; (try simp only [go_sem, St.forget, fgt]))
      | refine Jz 64 ?_
      | (refine Lj fun zK zhK => ?_; (try simp only [go_sem, F0, Nat.reduceAdd, Int.reduceTMod, Int.reduceTDiv, Int.reduceNeg, Int.reduceMul, Int.reduceToNat, xB]); (repeat' (first | apply yA | intro _)))
      | (refine Cw fun zK zhK => ?_; (try simp only [go_sem, F0, Nat.reduceAdd, Int.reduceTMod, Int.reduceTDiv, Int.reduceNeg, Int.reduceMul, Int.reduceToNat, xB]); (repeat' (first | apply yA | intro _)))
      | ((first | (obtain ⟨cz, cq⟩ := cq; refine b0c (fun _ _ => rfl) ?_ cz ?_; focus (first | rfl | (simp only [go_sem, F0, Nat.reduceAdd, Int.reduceTMod, Int.reduceTDiv, Int.reduceNeg, Int.reduceMul, Int.reduceToNat, xB] <;> rfl))) | (obtain ⟨cz, cq⟩ := cq; refine b0c (fun _ _ => rfl) ?_ (cz ?_) ?_; focus (first | rfl | (simp only [go_sem, F0, Nat.reduceAdd, Int.reduceTMod, Int.reduceTDiv, Int.reduceNeg, Int.reduceMul, Int.reduceToNat, xB] <;> rfl))))
         rintro v m ⟨hR, hm⟩; subst hR; subst hm
         refine yA ?_ (yA ?_ ?_); iterate 2 (focus (first | rfl | simp only [go_sem, F0, Nat.reduceAdd, Int.reduceTMod, Int.reduceTDiv, Int.reduceNeg, Int.reduceMul, Int.reduceToNat, xB]))
         (try simp only [go_sem, F0, Nat.reduceAdd, Int.reduceTMod, Int.reduceTDiv, Int.reduceNeg, Int.reduceMul, Int.reduceToNat, xB]); (repeat' (first | apply yA | intro _)))
      | ((first | (obtain ⟨cz, cq⟩ := cq; refine Ck (fun k => k) _ [] (fun _ _ => rfl) ?_ cz ?_ ?_; focus (first | rfl | (simp only [go_sem, F0, Nat.reduceAdd, Int.reduceTMod, Int.reduceTDiv, Int.reduceNeg, Int.reduceMul, Int.reduceToNat, xB] <;> rfl))) | (obtain ⟨cz, cq⟩ := cq; refine Ck (fun k => k) _ [] (fun _ _ => rfl) ?_ (cz ?_) ?_ ?_; focus (first | rfl | (simp only [go_sem, F0, Nat.reduceAdd, Int.reduceTMod, Int.reduceTDiv, Int.reduceNeg, Int.reduceMul, Int.reduceToNat, xB] <;> rfl))))
         (refine yA ?_ (yA ?_ (yA ?_ ?_)) <;> first | rfl | simp only [go_sem])
         (try simp only [go_sem, F0, Nat.reduceAdd, Int.reduceTMod, Int.reduceTDiv, Int.reduceNeg, Int.reduceMul, Int.reduceToNat, xB]); (repeat' (first | apply yA | intro _)))
      | ((first | (obtain ⟨cz, cq⟩ := cq; refine Xz ?_ cz ?_; focus (first | rfl | (simp only [go_sem, F0, Nat.reduceAdd, Int.reduceTMod, Int.reduceTDiv, Int.reduceNeg, Int.reduceMul, Int.reduceToNat, xB] <;> rfl))))
         (try simp only [go_sem, F0, Nat.reduceAdd, Int.reduceTMod, Int.reduceTDiv, Int.reduceNeg, Int.reduceMul, Int.reduceToNat, xB]); (repeat' (first | apply yA | intro _)))
      | ((first | (obtain ⟨cz, cq⟩ := cq; refine Vk ?_ cz ?_; focus (first | rfl | (simp only [go_sem, F0, Nat.reduceAdd, Int.reduceTMod, Int.reduceTDiv, Int.reduceNeg, Int.reduceMul, Int.reduceToNat, xB] <;> rfl))))
         (try simp only [go_sem, F0, Nat.reduceAdd, Int.reduceTMod, Int.reduceTDiv, Int.reduceNeg, Int.reduceMul, Int.reduceToNat, xB]); (repeat' (first | apply yA | intro _)))
      | ((first | (obtain ⟨cz, cq⟩ := cq; refine i2d (fun _ _ => rfl) ?_ ?_ ?_ cz ?_; iterate 3 (focus (first | rfl | decide | (simp only [go_sem, F0, Nat.reduceAdd, Int.reduceTMod, Int.reduceTDiv, Int.reduceNeg, Int.reduceMul, Int.reduceToNat, xB] <;> first | done | rfl | simp)))) | (obtain ⟨⟨cg, cz⟩, cq⟩ := cq; refine n0b ?_ ?_ (fun _ _ => rfl) ?_ ?_ ?_ cg cz ?_; iterate 5 (focus (first | rfl | decide | (simp only [go_sem, F0, Nat.reduceAdd, Int.reduceTMod, Int.reduceTDiv, Int.reduceNeg, Int.reduceMul, Int.reduceToNat, xB] <;> first | done | rfl | simp)))))
         rintro v m ⟨hR, hm⟩; subst hR; subst hm
         refine yA ?_ (yA ?_ (yA ?_ ?_)); iterate 3 (focus (first | rfl | (simp only [go_sem, F0, Nat.reduceAdd, Int.reduceTMod, Int.reduceTDiv, Int.reduceNeg, Int.reduceMul, Int.reduceToNat, xB]; done) | (simp [go_sem, look, F0]; done)))
         (try simp only [go_sem, F0, Nat.reduceAdd, Int.reduceTMod, Int.reduceTDiv, Int.reduceNeg, Int.reduceMul, Int.reduceToNat, xB]); (repeat' (first | apply yA | intro _)))
      | ((first | refine a2i zd0 mixed ?_ ?_ fun zK zhK => ?_ | refine m0y zd0 mixed ?_ ?_ fun zK zhK => ?_ | refine a2i zd1 mixed ?_ ?_ fun zK zhK => ?_ | refine m0y zd1 mixed ?_ ?_ fun zK zhK => ?_ | refine a2i zd2 mixed ?_ ?_ fun zK zhK => ?_ | refine m0y zd2 mixed ?_ ?_ fun zK zhK => ?_ | refine a2i zd3 mixed ?_ ?_ fun zK zhK => ?_ | refine m0y zd3 mixed ?_ ?_ fun zK zhK => ?_ | refine a2i zd4 mixed ?_ ?_ fun zK zhK => ?_ | refine m0y zd4 mixed ?_ ?_ fun zK zhK => ?_ | refine a2i zd5 mixed ?_ ?_ fun zK zhK => ?_ | refine m0y zd5 mixed ?_ ?_ fun zK zhK => ?_ | refine a2i zd6 mixed ?_ ?_ fun zK zhK => ?_ | refine m0y zd6 mixed ?_ ?_ fun zK zhK => ?_ | refine a2i zd7 mixed ?_ ?_ fun zK zhK => ?_ | refine m0y zd7 mixed ?_ ?_ fun zK zhK => ?_); (focus (kernel_rfl)); (focus (simp only [go_sem])); (try simp only [go_sem, F0]); (repeat' (first | apply yA | intro _)))
      | (refine zhK _ _ ?_ ?_; focus (first | trivial | (simp only [go_sem]; done) | (simp only [go_sem]; simp; done) | (simp only [go_sem]; simp; simp only [go_sem])))
      | refine Fw fun zN zM zhN zhM => ?_
      | refine Cj fun zB zbn zbx zbr zbi => ?_
      | refine Gq ?_
      | refine Tk ?_
      | refine Jv ?_
      | (refine Dk ?_ ?_; focus (first | rfl | (simp [go_sem, F0]; done)))
      | (refine Dw ?_ ?_; focus (first | rfl | (simp [go_sem, F0]; done))))) : HT P B c S Q := h
end
theorem CtM.run2 {P:Program} {f:FuncId} {fn:Func} {c:Code} {args:List V} {m:List (Nat×Ob)} {R:V→List (Nat×Ob)→Prop} {nt:Nat} {rs:Array ResultVar} (hf:P.funcs[f]? =some fn) (hb:fn.body=some c) (hnt:fn.ntmps=nt) (hrs:fn.results=rs)
 (h: ∀ (w0:World) (ro:Ro) (may:Nat→Prop) (fx:Nat→Option (Nat×Nat)),HT P ⟨w0,may,nt,ro,fx⟩ c ⟨m0a 0 args,m⟩ (h2e P rs.toList R):=by intro w0 ro may fx;refine b0q fun zZ zhZ=>?_;exact HT.run2) (hn:args.length≤nt:=by simp):CtM P f args m R:=
 CtM.k hf hb hnt (congrArg Array.toList hrs) hn h
end Go.Sy
namespace Go.Sy
open Go.MapKept
abbrev Mp :=List (List UInt8×Int)
def getM :Mp→List UInt8→Int
 | [],_=>0
 |x::r,s=>if x.1=s then x.2 else getM r s
def r0r :Mp→List UInt8→Int→Mp
 | [],s,n=>[(s,n)]
 |x::r,s,n=>if x.1=s then (s,n)::r else x::r0r r s n
def posM :Mp→List UInt8→Nat→Option (Nat×Value)
 | [],_,_=>none
 |x::r,s,j=>if x.1=s then some (j,.int .i64 x.2) else posM r s (j+1)
theorem str_inj {a b:List UInt8}:((⟨a.toArray⟩:ByteArray)=⟨b.toArray⟩)↔a=b:=by
 constructor
 ·intro h
  have:=congrArg (fun x:ByteArray=>x.data.toList) h
  simpa using this
 rintro rfl;rfl
theorem l0u (s:List UInt8): ∀ (l:Mp) (i j:Nat),Instr.findNow .string (.string ⟨s.toArray⟩) (Xw i l) j=some (posM l s j)
 | [],_,_=>rfl
 |x::r,i,j=>by
   rw [Xw,Instr.findNow,posM]
   simp only [Instr.sameNow]
   by_cases h:x.1=s
   ·have hb:((⟨s.toArray⟩:ByteArray)==⟨x.1.toArray⟩)=true:=(bytes_beq _ _).mpr (str_inj.mpr h.symm)
    rw [hb,if_pos h]
   have hb:((⟨s.toArray⟩:ByteArray)==⟨x.1.toArray⟩)=false:=by
    cases hq:((⟨s.toArray⟩:ByteArray)==⟨x.1.toArray⟩) with
    |false=>rfl
    |true=>exact absurd (str_inj.mp ((bytes_beq _ _).mp hq)).symm h
   rw [hb,if_neg h]
   exact l0u s r (i+1) (j+1)
theorem p0c {s:List UInt8}: ∀ {l:Mp} {j:Nat},posM l s j=none→(∀ n,r0r l s n=l++[(s,n)])∧getM l s=0
 | [],_,_=>⟨fun _=>rfl,rfl⟩
 |x::r,j,h=>by
   rw [posM] at h
   split at h
   ·cases h
   rename_i hn
   obtain ⟨h1,h2⟩:=p0c h
   refine ⟨fun n=>?_,?_⟩
   ·rw [r0r,if_neg hn,h1];rfl
   rw [getM,if_neg hn];exact h2
theorem p0b {s:List UInt8}: ∀ {l:Mp} {j i:Nat} {v:Value},posM l s j=some (i,v)→∃ k,i=j+k∧k<l.length∧v=.int .i64 (getM l s)∧
 ∀ (q:Nat),((Xw q l)[k]?).map (·.key)=some (.string ⟨s.toArray⟩)∧((Xw q l)[k]?).map (·.born)=some (q+k)∧∀ n (f:MapEntry→MapEntry),(∀ e,f e={e with key:=.string ⟨s.toArray⟩,val:=.int .i64 n})→(Xw q l).modify k f=Xw q (r0r l s n)
 | [],_,_,_,h=>by cases h
 |x::r,j,i,v,h=>by
   rw [posM] at h
   split at h
   ·rename_i hs
    cases h
    refine ⟨0,rfl,by simp,by rw [getM,if_pos hs],fun q=>⟨by simp [Xw,hs],by simp [Xw],fun n f hf=>?_⟩⟩
    rw [Xw,r0r,if_pos hs,Xw]
    simp [hf]
   rename_i hn
   obtain ⟨k,hk,hl,hv,hq⟩:=p0b h
   refine ⟨k+1,by omega,by simp only [xD];omega,by rw [getM,if_neg hn];exact hv,fun q=>?_⟩
   obtain ⟨h1,h2,h3⟩:=hq (q+1)
   refine ⟨by simpa [Xw] using h1,by simp only [Xw,List.getElem?_cons_succ];rw [h2];congr 1;omega,fun n f hf=>?_⟩
   rw [Xw,r0r,if_neg hn,Xw,List.modify_succ_cons,h3 n f hf]
section
variable {P:Program} {w:World} {b:Nat} {l:Mp} {s:List UInt8} {xt kt et:TypeId}
theorem b1p (he:(P.info? et).bind (·.zero)=some (.int .i64 0)):(zeroValue et).run P w=.ok (.int .i64 0) w:=by
 obtain ⟨i,hi,hz⟩:=Option.bind_eq_some_iff.mp he
 simp [zeroValue,typeInfo,hi,hz]
theorem y0c (hx:P.underlying xt=some (.map kt et)) (hk:P.underlying kt=some .string) (he:(P.info? et).bind (·.zero)=some (.int .i64 0)) (h:MapAt w b l):
 (Instr.lookup xt (.map (some b)) (.string ⟨s.toArray⟩) false).run P w=.ok (.int .i64 (getM l s)) w:=by
 have hf:=run_findKey (P:=P) (w:=w) hk (l0u s l 0 0)
 cases hp:posM l s 0 with
 |none=>
   rw [hp] at hf
   simp [Instr.lookup,run_underlying hx,Go.MapKept.run_getObj_map h,run_checkKey hk (show IsKey .string (.string ⟨s.toArray⟩) from trivial),hf,b1p he,(p0c hp).2,Result.andThen]
 |some x=>
   obtain ⟨i,v⟩:=x
   rw [hp] at hf
   obtain ⟨_,_,_,hv,_⟩:=p0b hp
   simp [Instr.lookup,run_underlying hx,Go.MapKept.run_getObj_map h,run_checkKey hk (show IsKey .string (.string ⟨s.toArray⟩) from trivial),hf,hv,Result.andThen]
theorem h2a (l:Mp) (s:List UInt8) (n:Int) (i:Nat):Xw i l++[⟨.string ⟨s.toArray⟩,.int .i64 n,i+l.length⟩]=Xw i (l++[(s,n)]):=by
 induction l generalizing i with
 |nil=>simp [Xw]
 |cons x r ih=>
   have:=ih (i+1)
   simp only [xD,yB,Xw]
   rw [←this,show i+(r.length+1)=i+1+r.length from by omega]
theorem b1x {l:Mp} {s:List UInt8} {n:Int}:(r0r l s n).length=if posM l s 0=none then l.length+1 else l.length:=by
 have key: ∀ (l:Mp) (j:Nat),(r0r l s n).length=if posM l s j=none then l.length+1 else l.length:=by
  intro l
  induction l with
  |nil=>intro j;simp [r0r,posM]
  |cons x r ih=>
    intro j
    rw [r0r,posM]
    split
    ·simp
    rw [xD,ih (j+1)];split<;>simp
 exact key l 0
def f0b (w:World) (b:Nat) (l:Mp):World:={w with heap:=w.heap.setIfInBounds b (.map (Xw 0 l).toArray l.length)}
theorem y0b {n:Int} (hx:P.underlying xt=some (.map kt et)) (hk:P.underlying kt=some .string) (h:MapAt w b l):
 (Instr.mapUpdate xt (.map (some b)) (.string ⟨s.toArray⟩) (.int .i64 n)).run P w=.ok () (f0b w b (r0r l s n)):=by
 have hf:=run_findKey (P:=P) (w:=w) hk (l0u s l 0 0)
 have hl:=b1x (l:=l) (s:=s) (n:=n)
 cases hp:posM l s 0 with
 |none=>
   rw [hp] at hf hl
   rw [if_pos rfl] at hl
   have e:=h2a l s n 0
   simp only [xV] at e
   simp [Instr.mapUpdate,run_underlying hx,Go.MapKept.run_getObj_map h,run_checkKey hk (show IsKey .string (.string ⟨s.toArray⟩) from trivial),hf,run_setObj_map _ h,f0b,(p0c hp).1 n,Result.andThen,e]
 |some x=>
   obtain ⟨i,v⟩:=x
   rw [hp] at hf hl
   rw [if_neg (by simp)] at hl
   obtain ⟨k,hk2,hlt,hv,hq⟩:=p0b hp
   obtain ⟨h1,h2,h3⟩:=hq 0
   simp only [xV] at hk2 h2
   subst hk2
   have e:=h3 n (fun e=>{e with key:=.string ⟨s.toArray⟩,val:=.int .i64 n}) (fun _=>rfl)
   have e2:(Xw 0 l).toArray.modify i (fun e=>{e with key:=.string ⟨s.toArray⟩,val:=.int .i64 n})=(Xw 0 (r0r l s n)).toArray:=by
    rw [←e];exact vG.mp (by simp)
   obtain ⟨me,hme,hme2⟩: ∃ me,(Xw 0 l)[i]? =some me∧me.key=.string ⟨s.toArray⟩:=by
    cases hq:(Xw 0 l)[i]? with
    |none=>rw [hq] at h1;cases h1
    |some me=>rw [hq] at h1;exact ⟨me,rfl,by simpa using h1⟩
   simp [Instr.mapUpdate,run_underlying hx,Go.MapKept.run_getObj_map h,run_checkKey hk (show IsKey .string (.string ⟨s.toArray⟩) from trivial),hf,run_setObj_map _ h,f0b,Result.andThen,hme,hme2,run_keyThatStays (d:=.string) (k:=.string ⟨s.toArray⟩) trivial,e2,e,hl]
end
end Go.Sy
namespace Go.Sy
open Go.MapKept
section
variable {P:Program} {w:World} {b:Nat} {l:Mp} {s:List UInt8} {xt kt et:TypeId}
end
end Go.Sy
namespace Go.Sy
open Go.MapKept
section
variable {P:Program} {B:Base} {d:Va} {S:St} {a:Act} {w:World} {b:Nat} {l l':Mp}
theorem MapAt.cell_none (h:MapAt w b l) (o:Nat):w.cell? ⟨b,o,none⟩=none:=by
 unfold MapAt at h
 simp [World.cell?,h]
theorem c1n (h:MapAt w b l) (l':Mp):MapAt (f0b w b l') b l'∧(∀ j,j≠b→(f0b w b l').heap[j]? =w.heap[j]?)∧(f0b w b l').heap.size=w.heap.size:=by
 obtain ⟨h1,h2⟩:=heap_set (o':=.map (Xw 0 l').toArray l'.length) (show w.heap[b]? =some _ from h)
 exact ⟨h1,h2,by simp [f0b]⟩
theorem Sim.f0b (h:Sim B d S a w) (hb:look S.mem (mp0+b)=some ⟨.m l,[]⟩) (hown:B.w0.heap.size≤b) (l':Mp):Sim B d ⟨S.env,h0b S.mem (mp0+b) ⟨.m l',[]⟩⟩ a (Go.Sy.f0b w b l'):=by
 have hm:=h.mp b l hb
 obtain ⟨g1,g2,g3⟩:=c1n hm l'
 have hbig: ∀ k,k<gl0→k≠mp0+b:=fun k hk=>by have:k<1000000:=hk;show k≠2000000+b;omega
 have hlow: ∀ {k o},look (h0b S.mem (mp0+b) ⟨.m l',[]⟩) k=some o→k<gl0→look S.mem k=some o:=fun {k o} hk hl=>by
  rw [Fz,if_neg (hbig k hl)] at hk;exact hk
 have hsome: ∀ k,(look (h0b S.mem (mp0+b) ⟨.m l',[]⟩) k).isSome=true→(look S.mem k).isSome=true:=fun k hk=>by
  rw [Fz] at hk
  split at hk
  ·rename_i e;subst e;rw [hb];rfl
  exact hk
 refine ⟨h.defers,h.nt,h.env,fun k o hk hl=>?_,fun k k' h1 h2=>h.inj k k' (hsome k h1) (hsome k' h2),fun k hk=>h.own k (hsome k hk),fun b' o y hy=>?_,h.old,h.os,h.tape,h.output,by rw [g3];exact h.size,fun b' hb' hn=>?_,h.gat,fun k o hk hg=>?_,fun k o p hk hp hl=>h.fix k o p (hlow hk hl) hp hl,h.fxn,fun b' q hq=>?_⟩
 ·obtain ⟨vals,spare,ty,fr,hh,rest⟩:=h.mem k o (hlow hk hl) hl
  refine ⟨vals,spare,ty,fr,?_,rest⟩
  rw [g2 _ (h.map_apart hm (by rw [hlow hk hl];rfl) hl)];exact hh
 ·have hc:=h.ro b' o y hy
  have hne:b'≠b:=by
   intro e;subst e
   rw [hm.cell_none] at hc;cases hc
  simp only [World.cell?] at hc ⊢
  rw [g2 b' hne];exact hc
 ·rw [g2 b' (by omega)];exact h.block b' hb' hn
 ·rw [Fz] at hk
  split at hk
  ·rename_i e;subst e
   rw [hb] at hk;cases hk
   exact .inl ⟨l',rfl⟩
  exact h.glob k o hk hg
 rw [Fz] at hq
 split at hq
 ·rename_i e
  have e:b'=b:=Nat.add_left_cancel e
  subst e
  rw [hb] at hq;cases hq
  exact g1
 rename_i e
 exact (h.mp b' q hq).of (g2 b' (fun e2=>e (by rw [e2])))
theorem Sim.mapNew (h:Sim B d S a w):Sim B d ⟨S.env,(mp0+w.heap.size,⟨.m [],[]⟩)::S.mem⟩ a (w.alloc (.map #[] 0)):=by
 obtain ⟨g1,g2⟩:=heap_alloc w (.map #[] 0)
 have hs:=h.stay (w':=w.alloc (.map #[] 0)) g2 (wQ (Array.getElem?_eq_some_iff.1 g1).1) rfl rfl rfl
 have hbig: ∀ k,k<gl0→k≠mp0+w.heap.size:=fun k hk=>by have:k<1000000:=hk;show k≠2000000+w.heap.size;omega
 have hlow: ∀ {k:Nat},k<gl0→look ((mp0+w.heap.size,(⟨.m [],[]⟩:Ob))::S.mem) k=look S.mem k:=fun {k} hk=>by
  simp only [look];rw [if_neg (hbig k hk)]
 refine ⟨hs.defers,hs.nt,hs.env,fun k o hk hl=>hs.mem k o (by rw [←hlow hl];exact hk) hl,fun k k' h1 h2 l1 l2=>hs.inj k k' (by rw [←hlow l1];exact h1) (by rw [←hlow l2];exact h2) l1 l2,fun k hk hl=>hs.own k (by rw [←hlow hl];exact hk) hl,hs.ro,hs.old,hs.os,hs.tape,hs.output,hs.size,hs.block,hs.gat,fun k o hk hg=>?_,fun k o p hk hp hl=>hs.fix k o p (by rw [←hlow hl];exact hk) hp hl,hs.fxn,fun b' q hq=>?_⟩
 ·simp only [look] at hk
  split at hk
  ·cases hk;exact .inl ⟨[],rfl⟩
  exact hs.glob k o hk hg
 simp only [look] at hq
 split at hq
 ·rename_i e
  have e:b'=w.heap.size:=Nat.add_left_cancel e
  subst e
  cases hq
  exact g1
 exact hs.mp b' q hq
end
section
variable {P:Program} {B:Base} {S:St} {K:St→Prop} {ds:List (Option Tmp)} {r:List Oper} {ty:TypeId} {pos:String} {af:Array Edge} {xt kt et:TypeId} {x k y:Operand} {b n:Nat} {l:Mp} {s:List UInt8}
abbrev n2i (b:Nat):V:=.w (.one (.pl (.val (.map (some b)))))
theorem g1j {d:Va} {b:Nat} {y:Value} (h:(n2i b).den d y):y=.map (some b):=by
 change PL.den _ _ _ at h
 rw [PL.den] at h;exact h.1
theorem z1e (d:Va) (b:Nat):(n2i b).den d (.map (some b)):=by
 change PL.den _ _ _
 rw [PL.den];exact ⟨rfl,fun cs h=>(by cases h),fun vs h=>(by cases h)⟩
theorem m1u {d:Va} {s:List UInt8} {y:Value} (h:V.den d (.w (.one (.pl (.str s)))) y):y=.string ⟨s.toArray⟩:=by
 change PL.den _ _ _ at h
 rw [PL.den] at h;exact h.1
theorem r2e {d:Va} {m:Int} {y:Value} (h:V.den d (.w (.one (.pl (.i m)))) y):y=.int .i64 m:=by
 change PL.den _ _ _ at h
 rw [PL.den] at h;exact h
theorem r2j (d:Va) (m:Int):V.den d (.w (.one (.pl (.i m)))) (.int .i64 m):=by
 change PL.den _ _ _
 rw [PL.den]
theorem l1e (hn:n<B.nt) (hK: ∀ b,B.w0.heap.size≤b→Aj P B ds r ⟨(n,n2i b)::S.env,(mp0+b,⟨.m [],[]⟩)::S.mem⟩ K):
 Bw P B ⟨some n,.makeMap xt none,ty,pos,af,none⟩ S ds r K:=by
 intro d a w h next Q hq
 have hrun:(execOp a.eval ⟨some n,.makeMap xt none,ty,pos,af,none⟩).run P w=.ok (.value (.map (some w.heap.size))) (w.alloc (.map #[] 0)):=by
  simp [execOp,Instr.makeMap,Result.andThen]
 unfold Oper.wp
 rw [hrun]
 exact hq _ _ _ _ (hK w.heap.size h.size) (h.mapNew.put hn (z1e d _))
theorem at_lookup (hx:S.get x=some (n2i b)) (hk:S.get k=some (.w (.one (.pl (.str s))))) (hl:look S.mem (mp0+b)=some ⟨.m l,[]⟩) (hxt:P.underlying xt=some (.map kt et)) (hkt:P.underlying kt=some .string) (het:(P.info? et).bind (·.zero)=some (.int .i64 0))
 (hK:n<B.nt∧Aj P B ds r ⟨(n,.w (.one (.pl (.i (getM l s)))))::S.env,S.mem⟩ K):
 Bw P B ⟨some n,.lookup xt x k false,ty,pos,af,none⟩ S ds r K:=by
 intro d a w h next Q hq
 have e1:=g1j (h.get hx);have e2:=m1u (h.get hk)
 have hrun:(execOp a.eval ⟨some n,.lookup xt x k false,ty,pos,af,none⟩).run P w=.ok (.value (.int .i64 (getM l s))) w:=by
  have:=y0c (s:=s) hxt hkt het (h.mp b l hl)
  simp [execOp,e1,e2,this]
 unfold Oper.wp
 rw [hrun]
 exact hq _ _ _ _ hK.2 (h.put hK.1 (r2j d _))
theorem s1y {m:Int} (hown:B.w0.heap.size≤b) (hx:S.get x=some (n2i b)) (hk:S.get k=some (.w (.one (.pl (.str s))))) (hy:S.get y=some (.w (.one (.pl (.i m))))) (hl:look S.mem (mp0+b)=some ⟨.m l,[]⟩) (hxt:P.underlying xt=some (.map kt et)) (hkt:P.underlying kt=some .string)
 (hK:Aj P B ds r ⟨S.env,h0b S.mem (mp0+b) ⟨.m (r0r l s m),[]⟩⟩ K):
 Bw P B ⟨none,.mapUpdate xt x k y,ty,pos,af,none⟩ S ds r K:=by
 intro d a w h next Q hq
 have e1:=g1j (h.get hx);have e2:=m1u (h.get hk);have e3:=r2e (h.get hy)
 have hrun:(execOp a.eval ⟨none,.mapUpdate xt x k y,ty,pos,af,none⟩).run P w=.ok .skip (f0b w b (r0r l s m)):=by
  have:=y0b (s:=s) (n:=m) hxt hkt (h.mp b l hl)
  simp [execOp,e1,e2,e3,this]
 unfold Oper.wp
 rw [hrun,Oper.upon_skip]
 exact hq _ _ _ _ hK (h.f0b hl hown _)
end
end Go.Sy
namespace Go.Sy
@[go_sem] theorem nmp {k b:Nat} (h:k<2000000):(k=2000000+b)=False:=eq_false (by omega)
@[go_sem] theorem nmp' {k b:Nat} (h:k<2000000):(2000000+b=k)=False:=eq_false (by omega)
@[go_sem] theorem k2t (k:Nat) (o:Ob):h0b [] k o=[]:=rfl
section
variable {P:Program} {B:Base} {S:St} {K:St→Prop} {ds:List (Option Tmp)} {r:List Oper} {ty:TypeId} {pos:String} {af:Array Edge} {xt kt et:TypeId} {x k y:Operand} {b n:Nat} {l:Mp} {s:List UInt8}
@[go_sem] theorem i2x (dst:Option Tmp) (t:TypeId) (v:Option Operand):Aj P B ds (⟨dst,.makeMap t v,ty,pos,af,none⟩::r) S K=Bw P B ⟨dst,.makeMap t v,ty,pos,af,none⟩ S ds r K:=by rw [r0z];rfl
@[go_sem] theorem m2a (dst:Option Tmp) (t:TypeId) (u v:Operand) (c:Bool):Aj P B ds (⟨dst,.lookup t u v c,ty,pos,af,none⟩::r) S K=Bw P B ⟨dst,.lookup t u v c,ty,pos,af,none⟩ S ds r K:=by rw [r0z];rfl
@[go_sem] theorem a2r (dst:Option Tmp) (t:TypeId) (u v w:Operand):Aj P B ds (⟨dst,.mapUpdate t u v w,ty,pos,af,none⟩::r) S K=Bw P B ⟨dst,.mapUpdate t u v w,ty,pos,af,none⟩ S ds r K:=by rw [r0z];rfl
theorem mk_k (hn:n<B.nt) (hK: ∀ b,B.w0.heap.size≤b→Aj P B ds r ⟨(n,.w (.one (.pl (.val (.map (some b))))))::S.env,(2000000+b,⟨.m [],[]⟩)::S.mem⟩ K):Bw P B ⟨some n,.makeMap xt none,ty,pos,af,none⟩ S ds r K:=l1e hn hK
def p2j (b:Nat) (s:List UInt8):Option Ob→Option (Nat×Mp×List UInt8)
 |some ⟨.m l,[]⟩=>some (b,l,s)
 |_=>none
def n2l (m:List (Nat×Ob)):Option V→Option V→Option (Nat×Mp×List UInt8)
 |some (.w (.one (.pl (.val (.map (some b)))))),some (.w (.one (.pl (.str s))))=>p2j b s (look m (2000000+b))
 |_,_=>none
def g1e (x:Option (Nat×Mp×List UInt8)) (f:Nat→Mp→List UInt8→Prop):Prop:=
 match x with
 |some y=>f y.1 y.2.1 y.2.2
 |none=>False
def g1f (x:Option V) (f:Int→Prop):Prop:=
 match x with
 |some (.w (.one (.pl (.i m))))=>f m
 |_=>False
@[go_sem] theorem n2k (m:List (Nat×Ob)) (b:Nat) (s:List UInt8):n2l m (some (.w (.one (.pl (.val (.map (some b))))))) (some (.w (.one (.pl (.str s)))))=p2j b s (look m (2000000+b)):=rfl
@[go_sem] theorem n2j (b:Nat) (s:List UInt8) (l:Mp):p2j b s (some ⟨.m l,[]⟩)=some (b,l,s):=rfl
@[go_sem] theorem e2v (b:Nat) (l:Mp) (s:List UInt8) (f:Nat→Mp→List UInt8→Prop):g1e (some (b,l,s)) f=f b l s:=rfl
@[go_sem] theorem e2w (m:Int) (f:Int→Prop):g1f (some (.w (.one (.pl (.i m))))) f=f m:=rfl
theorem s0x {m:List (Nat×Ob)} {u v:Option V} {f:Nat→Mp→List UInt8→Prop} (hs: ∀ j,v≠some (.w (.one (.pl (.i j))))) (h:g1e (n2l m u v) f): ∃ b l s,u=some (.w (.one (.pl (.val (.map (some b))))))∧v=some (.w (.one (.pl (.str s))))∧look m (2000000+b)=some ⟨.m l,[]⟩∧f b l s:=by
 unfold n2l at h
 split at h
 ·rename_i b s
  unfold p2j at h
  split at h
  ·rename_i l e;exact ⟨b,l,s,rfl,rfl,e,h⟩
  exact h.elim
 exact h.elim
theorem w1u {u:Option V} {f:Int→Prop} (h:g1f u f): ∃ m,u=some (.w (.one (.pl (.i m))))∧f m:=by
 unfold g1f at h
 split at h
 ·exact ⟨_,rfl,h⟩
 exact h.elim
def isStr :Option V→Bool
 |some (.w (.one (.pl (.str _))))=>true
 |_=>false
theorem g1u {v:Option V} (h:isStr v=true) (j:Int):v≠some (.w (.one (.pl (.i j)))):=by
 rintro rfl;cases h
@[go_sem] theorem j2b (s:List UInt8):isStr (some (.w (.one (.pl (.str s)))))=true:=rfl
theorem s2f (hxt:P.underlying xt=some (.map kt et)) (hkt:P.underlying kt=some .string) (het:(P.info? et).bind (·.zero)=some (.int .i64 0))
 (h:isStr (S.get k)=true∧g1e (n2l S.mem (S.get x) (S.get k)) fun _ l s=>n<B.nt∧Aj P B ds r ⟨(n,.w (.one (.pl (.i (getM l s)))))::S.env,S.mem⟩ K):Bw P B ⟨some n,.lookup xt x k false,ty,pos,af,none⟩ S ds r K:=by
 obtain ⟨b,l,s,h1,h2,h3,h4⟩:=s0x (g1u h.1) h.2
 exact at_lookup h1 h2 h3 hxt hkt het h4
theorem r2w (hxt:P.underlying xt=some (.map kt et)) (hkt:P.underlying kt=some .string) (hown:B.w0.heap.size≤b)
 (h:isStr (S.get k)=true∧g1e (n2l S.mem (S.get x) (S.get k)) fun b' l s=>b'=b∧g1f (S.get y) fun m=>Aj P B ds r ⟨S.env,h0b S.mem (2000000+b) ⟨.m (r0r l s m),[]⟩⟩ K):Bw P B ⟨none,.mapUpdate xt x k y,ty,pos,af,none⟩ S ds r K:=by
 obtain ⟨b',l,s,h1,h2,h3,rfl,h4⟩:=s0x (g1u h.1) h.2
 obtain ⟨m,h5,h6⟩:=w1u h4
 exact s1y hown h1 h2 h5 h3 hxt hkt h6
end
end Go.Sy
namespace Go.Sy
section
variable {P:Program} {B:Base} {S:St} {Q:Exit→St→Prop}
theorem HT.goto {l:Nat} (h:Q (.goto l) S):HT P B (.goto l) S Q:=fun d a w hs=>wp_goto ⟨S,d,h,hs⟩
theorem n2z {l:Nat} (h:Q (.goto l) S):HT P B (.goto l) S Q:=HT.goto h
end
end Go.Sy
namespace Go.Sy
def q0h (ops:Array Oper) (p:Nat) (listed:Array Bool):Prop:=listed.size=ops.size∧∀ i,i<ops.size→listed.getD i true=decide (i<p)
def Dr (P:Program) (B:Base) (l:List Oper) (p:Nat) (S:St) (K:St→Prop):Prop:=
 ∀ d a w,Sim B d S a w→∀ (Q:Exit→Act→World→Prop),(∀ S' d' a' w',K S'→Sim B d' S' a' w'→Q .normal a' w')→∀ listed,q0h l.toArray p listed→wpAny P .any l.toArray Q (l.length-p) listed a w
theorem e0q (ops:Array Oper) (listed:Array Bool) (i:Nat):i∈Region.ready .any ops listed↔i<ops.size∧listed.getD i true=false∧∀ o,ops[i]? =some o→∀ e∈o.after,Region.binds .any e=true→listed.getD e.on false=true:=by
 unfold Region.ready
 simp only [List.mem_filter,List.mem_range,yD,yX]
 constructor
 ·rintro ⟨h1,h2,h3⟩
  refine ⟨h1,h2,fun o ho e he hb=>?_⟩
  rw [ho] at h3
  simp only [yR,Option.getD_some,Array.all_eq_true'] at h3
  have:=h3 e he
  simpa [hb] using this
 rintro ⟨h1,h2,h3⟩
 refine ⟨h1,h2,?_⟩
 have ho:=wW h1
 rw [ho]
 simp only [yR,Option.getD_some,Array.all_eq_true']
 intro e he
 cases hb:Region.binds .any e with
 |false=>rfl
 |true=>simpa using h3 _ ho e he hb
theorem p0z {l:Array Bool} {i:Nat} (h:i<l.size):l.getD i false=l.getD i true:=by
 rw [xZ,xZ,wW h];rfl
theorem q0h.listed {ops:Array Oper} {p:Nat} {listed:Array Bool} (h:q0h ops p listed) {i:Nat}:listed.getD i false=decide (i<p∧i<ops.size):=by
 by_cases hi:i<ops.size
 ·rw [p0z (by rw [h.1];exact hi),h.2 i hi];simp [hi]
 rw [xZ,Array.getElem?_eq_none (by rw [h.1];omega)];simp [hi]
theorem q0h.set {ops:Array Oper} {p:Nat} {listed:Array Bool} (h:q0h ops p listed) (hp:p<ops.size):q0h ops (p+1) (listed.setIfInBounds p true):=by
 refine ⟨by rw [Array.size_setIfInBounds];exact h.1,fun i hi=>?_⟩
 rw [g0k (by rw [h.1];exact hp)]
 by_cases e:i=p
 ·rw [if_pos e];simp [e]
 rw [if_neg e,h.2 i hi]
 by_cases h2:i<p
 ·simp [h2,Nat.lt_succ_of_lt h2]
 have:¬i<p+1:=by omega
 simp [h2,this]
def q1r (l:List Oper) (p:Nat):Bool:=
 (List.range l.length).all fun j=>match l[j]? with
  |none=>true
  |some o=>if j=p then o.after.toList.all fun e=>!Region.binds .any e||decide (e.on<p)
    else if p<j then o.after.toList.any fun e=>Region.binds .any e&&decide (p≤e.on) else true
theorem c1t {P:Program} {B:Base} {l:List Oper} {p:Nat} {o:Oper} {S:St} {K:St→Prop} {ds:List (Option Tmp)} (hds:ds=e0g l) (hf:q1r l p=true) (ho:l[p]? =some o)
 (hN: ∀ d a w,Sim B d S a w→∀ (next:Act→World→Prop) (Q:Exit→Act→World→Prop),(∀ S' d' a' w',Dr P B l (p+1) S' K→Sim B d' S' a' w'→next a' w')→(if Region.wanted o (yielded l.toArray a.tmps) then o.wp P a w next Q else next (a.put o.dst undef) w)):Dr P B l p S K:=by
 intro d a w hs Q hQ listed hl
 have hp:p<l.length:=(wL.mp ho).1
 have hpa:p<l.toArray.size:=by simpa using hp
 have hf':=yJ.mp hf
 rw [show l.length-p=(l.length-(p+1))+1 from by omega]
 have hready:p∈Region.ready .any l.toArray listed:=by
  refine (e0q _ _ _).mpr ⟨hpa,by rw [hl.2 p hpa];simp,fun o' ho' e he hb=>?_⟩
  rw [vT,ho] at ho';cases ho'
  have:=hf' p (List.mem_range.mpr hp)
  rw [ho] at this
  simp only [if_true] at this
  have:=yJ.mp this e (by simpa using he)
  rw [hb] at this
  have hlt:e.on<p:=by simpa using this
  rw [hl.listed];simp only [decide_eq_true_eq];exact ⟨hlt,by omega⟩
 refine ⟨fun hnil=>by rw [hnil] at hready;(cases hready),fun i hi=>?_⟩
 obtain ⟨h1,h2,h3⟩:=(e0q _ _ _).mp hi
 have hip:i=p:=by
  rw [hl.2 i h1] at h2
  have h4:¬i<p:=by simpa using h2
  by_cases e:i=p
  ·exact e
  exfalso
  have hlt:p<i:=by omega
  have hil:i<l.length:=by simpa using h1
  have:=hf' i (List.mem_range.mpr hil)
  obtain ⟨o',ho'⟩: ∃ o',l[i]? =some o':=⟨_,yO hil⟩
  rw [ho'] at this
  simp only [if_neg e,if_pos hlt] at this
  obtain ⟨e',he',h5⟩:=List.any_eq_true.mp this
  simp only [yD,decide_eq_true_eq] at h5
  have:=h3 o' (by rw [vT];exact ho') e' (by simpa using he') h5.1
  rw [hl.listed] at this
  simp only [decide_eq_true_eq] at this
  omega
 subst hip
 simp only [wpOp,vT,ho]
 have hgo:=hN d a w hs (wpAny P .any l.toArray Q (l.length-(i+1)) (listed.setIfInBounds i true)) Q (fun S' d' a' w' hK hs'=>hK d' a' w' hs' Q hQ _ (hl.set hpa))
 split
 ·rename_i hw
  rw [if_pos hw] at hgo;exact .inl hgo
 rename_i hw
 rw [if_neg hw] at hgo;exact hgo
def g0m (l:List Oper) (p:Nat):Nat→Bool
 |0=>true
 |n+1=>q1r l p&&g0m l (p+1) n
theorem q0g {P:Program} {B:Base} {l:List Oper} {ds:List (Option Tmp)} {K:St→Prop} (hds:ds=e0g l): ∀ (n p:Nat) (S:St),g0m l p n=true→Aj P B ds ((l.drop p).take n) S (fun S'=>Dr P B l (p+n) S' K)→p+n≤l.length→Dr P B l p S K
 |0,p,S,_,h,_=>by simpa [Aj] using h
 |n+1,p,S,hf,h,hn=>by
   simp only [g0m,yD] at hf
   have hp:p<l.length:=by omega
   have ho:=yO hp
   rw [xM hp,wE] at h
   have hK: ∀ S',Aj P B ds ((l.drop (p+1)).take n) S' (fun S'=>Dr P B l (p+(n+1)) S' K)→Dr P B l (p+1) S' K:=fun S' h'=>q0g hds n (p+1) S' hf.2 (by rw [show p+1+n=p+(n+1) from by omega];exact h') (by omega)
   refine c1t hds hf.1 ho fun d a w hs next Q hnext=>?_
   have hds':ds=l.toArray.toList.map (·.dst):=by rw [hds,l0v]
   generalize l[p]=o at h ho
   unfold Aj at h
   split at h
   ·rename_i hg
    rw [if_pos (by simp [Region.wanted,hg])]
    split at h
    ·exact h d a w hs next Q (fun S' d' a' w' hk hs'=>hnext _ _ _ _ (hK _ hk) hs')
    split at h
    ·rename_i S' hst
     exact n0p (K:=fun S'=>Aj P B ds ((l.drop (p+1)).take n) S' (fun S'=>Dr P B l (p+(n+1)) S' K)) hst h d a w hs next Q (fun S' d' a' w' hk hs'=>hnext _ _ _ _ (hK _ hk) hs')
    exact h.elim
   rename_i g hg
   split at h
   ·rename_i c hc
    have hw:=e0i hs hds' hg hc
    by_cases hcg:c=g.2
    ·rw [hw,hcg,if_pos (by simp)]
     have h1:=h.1 hcg
     have hs2:Sim B d (x0r S ds g.1 g.2) a w:=by have:=u0g hs hc;rwa [hcg] at this
     split at h1
     ·exact h1 d a w hs2 next Q (fun S' d' a' w' hk hs'=>hnext _ _ _ _ (hK _ hk) hs')
     split at h1
     ·rename_i S' hst
      exact n0p (K:=fun S'=>Aj P B ds ((l.drop (p+1)).take n) S' (fun S'=>Dr P B l (p+(n+1)) S' K)) hst h1 d a w hs2 next Q (fun S' d' a' w' hk hs'=>hnext _ _ _ _ (hK _ hk) hs')
     exact h1.elim
    have hc':c= !g.2:=by cases c<;>cases hg2:g.2<;>simp_all
    rw [hw,if_neg (by simp [hcg])]
    have h2:=h.2 hc'
    have hs2:Sim B d (x0r S ds g.1 (!g.2)) a w:=by have:=u0g hs hc;rwa [hc'] at this
    split at h2
    ·rename_i S' hput
     exact hnext _ _ _ _ (hK _ h2) (St.put_ok hs2 hput (e0m d))
    exact h2.elim
   exact h.elim
theorem h2q {P:Program} {B:Base} {l seg:List Oper} {p:Nat} {ds:List (Option Tmp)} {S:St} {K:St→Prop} (n:Nat) (hds:e0g l=ds) (hf:(g0m l p n&&decide (p+n≤l.length))=true) (hseg:(l.drop p).take n=seg) (h:Aj P B ds seg S (fun S'=>Dr P B l (p+n) S' K)):Dr P B l p S K:=by
 simp only [yD,decide_eq_true_eq] at hf
 exact q0g hds.symm n p S hf.1 (by rw [hseg];exact h) hf.2
theorem Mx {P:Program} {B:Base} {l seg:List Oper} {p:Nat} {ds:List (Option Tmp)} {S:St} {K:St→Prop} (n q:Nat) (hds:e0g l=ds) (hf:(g0m l p n&&decide (p+n≤l.length))=true) (hseg:(l.drop p).take n=seg) (hq:p+n=q) (h: ∀ N:St→Prop,(∀ S',Dr P B l q S' K→N S')→Aj P B ds seg S N):Dr P B l p S K:=by
 subst hq
 exact h2q n hds hf hseg (h _ fun _ h=>h)
theorem b0b {P:Program} {B:Base} {l:List Oper} {p:Nat} {S:St} {K:St→Prop} (hp:l.length=p) (h:K S):Dr P B l p S K:=by
 intro d a w hs Q hQ listed hl
 rw [show l.length-p=0 from by omega]
 refine ⟨List.eq_nil_iff_forall_not_mem.mpr fun i hi=>?_,hQ _ _ _ _ h hs⟩
 obtain ⟨h1,h2,_⟩:=(e0q _ _ _).mp hi
 rw [hl.2 i h1] at h2
 simp at h1 h2
 omega
theorem c1z {P:Program} {B:Base} {id:Nat} {l:List Oper} {S:St} {Q:Exit→St→Prop} (hm:P.follows .mixedOrders=true)
 (h: ∀ K:St→Prop,(∀ S',Q .normal S'→K S')→Dr P B l 0 S K):HT P B (.region id l.toArray true) S Q:=by
 intro d a w hs
 refine wp_region_any hm ?_
 have:=h (Q .normal) (fun _ h=>h) d a _ (hs.drew (w':={w with drawn:=w.drawn+1}) rfl rfl rfl rfl) (fun e a' w'=>∃ S' d',Q e S'∧Sim B d' S' a' w') (fun S' d' a' w' hq hs'=>⟨S',d',hq,hs'⟩) (Array.replicate l.toArray.size false) ⟨by simp,fun i hi=>by rw [xZ,Array.getElem?_replicate,if_pos hi];simp⟩
 simpa using this
end Go.Sy
namespace Go.Sy
section
variable {P:Program} {B:Base} {ops:Array Oper} {ds:List (Option Tmp)} {bef:Nat→Nat→Prop}
structure Rest2 (P:Program) (B:Base) (ops:Array Oper) (ds:List (Option Tmp)) (bef:Nat→Nat→Prop) (p n:Nat) (listed:Array Bool) (R:List (Nat×It)) (S:St):Prop where
 size:listed.size=ops.size
 le:n≤ops.size
 at_: ∀ x∈R,ops[x.1]? =some x.2.o
 from_: ∀ x∈R,p≤x.1
 open_: ∀ i,(i∈R.map (·.1)↔i<n∧listed.getD i true=false)
 later: ∀ i,n≤i→i<ops.size→listed.getD i true=false
 ord:R.Pairwise fun p q=>p.1<q.1∧(bef q.1 p.1∨Ind ds p.2 q.2)
 ok:OKs P ds (R.map (·.2)) S
 new:f0w (R.map (·.2)) S
 apart:Py (R.map (·.2))
 dst: ∀ p∈R,∀ n,p.2.o.dst=some n→n<B.nt
 closed: ∀ i o,ops[i]? =some o→listed.getD i true=true→i<ops.size→∀ e∈o.after,Region.binds .any e=true→listed.getD e.on false=true
theorem k2u {K:St→Prop} {Q:Exit→Act→World→Prop} {p n:Nat} (hds:ds=ops.toList.map (·.dst)) (hback: ∀ i o,ops[i]? =some o→∀ e∈o.after,Region.binds .any e=true→e.on<i)
 (hbef: ∀ i o,ops[i]? =some o→∀ x,bef i x→∃ e∈o.after,Region.binds .any e=true∧(e.on=x∨bef e.on x))
 (hlate: ∀ i o,ops[i]? =some o→n≤i→∀ x,p≤x→x<n→bef i x)
 (hK: ∀ S d a w listed,K S→Sim B d S a w→q0h ops n listed→wpAny P .any ops Q (ops.size-n) listed a w):
 ∀ (fuel:Nat) (listed:Array Bool) (R:List (Nat×It)) (S:St) d a w,R.length=fuel→Rest2 P B ops ds bef p n listed R S→(∀ S',Eqv (fin (R.map (·.2)) S) S'→K S')→Sim B d S a w→wpAny P .any ops Q (fuel+(ops.size-n)) listed a w:=by
 have hclosed: ∀ (listed:Array Bool),listed.size=ops.size→(∀ i o,ops[i]? =some o→listed.getD i true=true→i<ops.size→∀ e∈o.after,Region.binds .any e=true→listed.getD e.on false=true)→
  ∀ n i o,i≤n→ops[i]? =some o→(∀ e∈o.after,Region.binds .any e=true→listed.getD e.on false=true)→∀ x,bef i x→listed.getD x false=true:=by
  intro listed hsz hcl n
  induction n with
  |zero=>
    intro i o hi ho hp x hx
    obtain ⟨e,he,hb,h⟩:=hbef i o ho x hx
    have:=hback i o ho e he hb;omega
  |succ n ih=>
    intro i o hi ho hp x hx
    obtain ⟨e,he,hb,h⟩:=hbef i o ho x hx
    have hlt:=hback i o ho e he hb
    have hl:=hp e he hb
    rcases h with rfl|h
    ·exact hl
    have hes:e.on<ops.size:=by
     have:=(Array.getElem?_eq_some_iff.mp ho).1;omega
    obtain ⟨o',ho'⟩: ∃ o',ops[e.on]? =some o':=⟨_,wW hes⟩
    refine ih e.on o' (by omega) ho' (hcl e.on o' ho' ?_ hes) x h
    rw [←p0z (by omega)];exact hl
 intro fuel
 induction fuel with
 |zero=>
   intro listed R S d a w hlen hR hfin hs
   have:R=[]:=xH hlen
   subst this
   rw [xV]
   refine hK _ _ _ _ _ (hfin S (Eqv.rfl' _)) hs ⟨hR.size,fun i hi=>?_⟩
   by_cases h:i<n
   ·have:=hR.open_ i
    simp only [vO,List.not_mem_nil,false_iff,not_and,Bool.not_eq_false] at this
    rw [this h];simp [h]
   rw [hR.later i (by omega) hi];simp [h]
 |succ fuel ih=>
   intro listed R S d a w hlen hR hfin hs
   rw [show fuel+1+(ops.size-n)=fuel+(ops.size-n)+1 from by omega]
   have hin0: ∀ x∈R,x.1<n∧listed.getD x.1 true=false:=fun x hx=>(hR.open_ x.1).mp (List.mem_map_of_mem hx)
   refine ⟨fun hnil=>?_,fun i hi=>?_⟩
   ·cases R with
    |nil=>cases hlen
    |cons q r=>
      exfalso
      obtain ⟨h1,h2⟩:=(hR.open_ q.1).mp (by simp)
      have:q.1∈Region.ready .any ops listed:=by
       refine (e0q ops listed q.1).mpr ⟨Nat.lt_of_lt_of_le h1 hR.le,h2,fun o ho e he hb=>?_⟩
       have hlt:=hback q.1 o ho e he hb
       cases hl:listed.getD e.on false with
       |true=>rfl
       |false=>
         exfalso
         have hes:e.on<listed.size:=by rw [hR.size];have:=hR.le;omega
         have:listed.getD e.on true=false:=by rw [←p0z hes];exact hl
         have hin:=(hR.open_ e.on).mpr ⟨by omega,this⟩
         simp only [yL,xK,xG] at hin
         have hord:=List.pairwise_cons.mp hR.ord
         rcases hin with hin|⟨q,hq,hin⟩
         ·omega
         have:=(hord.1 q hq).1;omega
      rw [hnil] at this;cases this
   obtain ⟨h1,h2,h3⟩:=(e0q ops listed i).mp hi
   have hin:i<n:=by
    rcases yZ i n with h|h
    ·exact h
    exfalso
    obtain ⟨o,ho⟩: ∃ o,ops[i]? =some o:=⟨_,wW h1⟩
    cases R with
    |nil=>cases hlen
    |cons q r=>
      obtain ⟨h4,h5⟩:=hin0 q (by simp)
      have h6:=hclosed listed hR.size hR.closed i i o (xL _) ho (h3 o ho) q.1 (hlate i o ho h q.1 (hR.from_ q (by simp)) h4)
      rw [p0z (by rw [hR.size];have:=hR.le;omega),h5] at h6;cases h6
   have hin:=(hR.open_ i).mpr ⟨hin,h2⟩
   obtain ⟨⟨i',x⟩,hx,e⟩:=xG.mp hin
   simp only at e;subst e
   obtain ⟨ys,r,rfl⟩:=List.append_of_mem hx
   have hox:ops[i']? =some x.o:=hR.at_ _ hx
   have hord:=List.pairwise_append.mp hR.ord
   have hordi:=List.pairwise_cons.mp hord.2.1
   have hind: ∀ y∈ys.map (·.2),Ind ds y x:=by
    intro y hy
    obtain ⟨⟨j,y'⟩,hj,rfl⟩:=xG.mp hy
    have hp:=hord.2.2 _ hj (i',x) (by simp)
    rcases hp.2 with hb|hb
    ·exfalso
     have hl:=hclosed listed hR.size hR.closed i' i' x.o (xL _) hox (h3 x.o hox) j hb
     have hopen:=(hR.open_ j).mp (by simp only [xQ,wX,xG];exact .inl ⟨_,hj,rfl⟩)
     rw [p0z (by rw [hR.size];have:=hR.le;have:=hopen.1;omega),hopen.2] at hl;cases hl
    exact hb
   have hok:=hR.ok
   have hnew:=hR.new
   have hap:=hR.apart
   simp only [xQ,yL] at hok hnew hap
   obtain ⟨g1,g2,g3⟩:=bubble hok hnew hap hind
   have hnx: ∀ k∈x.e.names,New k S:=fun k hk=>hnew x (by simp) k hk
   have hdst: ∀ n,x.o.dst=some n→n<B.nt:=hR.dst _ hx
   have hR':Rest2 P B ops ds bef p n (listed.setIfInBounds i' true) (ys++r) (x.on S):=by
    have hi2:i'<listed.size:=by rw [hR.size];exact h1
    have hlt: ∀ p∈ys,p.1<i':=fun p hp=>(hord.2.2 p hp (i',x) (by simp)).1
    have hgt: ∀ p∈r,i'<p.1:=fun p hp=>(hordi.1 p hp).1
    have sub: ∀ q∈ys++r,q∈ys++(i',x)::r:=fun q hq=>by
     simp only [wX,xK] at hq ⊢;rcases hq with hq|hq;exact .inl hq;exact .inr (.inr hq)
    refine ⟨by rw [Array.size_setIfInBounds];exact hR.size,hR.le,fun p hp=>hR.at_ p (sub p hp),fun q hq=>hR.from_ q (sub q hq),fun j=>?_,fun j hj hjs=>?_,?_,?_,?_,?_,fun p hp=>hR.dst p (sub p hp),?_⟩
    ·have hj:=hR.open_ j
     rw [g0k hi2]
     simp only [xQ,yL,wX,xK,xG] at hj ⊢
     by_cases hji:j=i'
     ·subst hji
      rw [if_pos rfl]
      constructor
      ·rintro (⟨p,hp,e⟩|⟨p,hp,e⟩)
       ·have:=hlt p hp;omega
       have:=hgt p hp;omega
      rintro ⟨_,h⟩;cases h
     rw [if_neg hji,←hj]
     constructor
     ·rintro (h|h)
      ·exact .inl h
      exact .inr (.inr h)
     rintro (h|h|h)
     ·exact .inl h
     ·exact absurd h hji
     exact .inr h
    ·have:=(hin0 (i',x) (by simp)).1
     rw [g0k hi2,if_neg (by omega)]
     exact hR.later j hj hjs
    ·exact List.pairwise_append.mpr ⟨hord.1,hordi.2,fun p hp q hq=>hord.2.2 p hp q (by simp [hq])⟩
    ·rw [xQ];exact g2
    ·rw [xQ]
     have hmid:=r0a hap
     refine f0w.on (P:=P) (ds:=ds) (x:=x) (r:=ys.map (·.2)++r.map (·.2)) (S:=S) (fun y hy k hk=>hnew y ?_ k hk) g1 hmid
     simp only [wX,xK] at hy ⊢;rcases hy with hy|hy;exact .inl hy;exact .inr (.inr hy)
    ·rw [xQ];exact hap.drop
    intro j o ho hl hjs e he hb
    rw [g0k hi2] at hl ⊢
    by_cases hei:e.on=i'
    ·rw [if_pos hei]
    rw [if_neg hei]
    by_cases hji:j=i'
    ·subst hji
     rw [hox] at ho;cases ho
     exact h3 _ hox e he hb
    rw [if_neg hji] at hl
    exact hR.closed j o ho hl hjs e he hb
   have hlen':(ys++r).length=fuel:=by simp at hlen ⊢;omega
   have hgo: ∀ d' a' w',Sim B d' (x.on S) a' w'→wpAny P .any ops Q (fuel+(ops.size-n)) (listed.setIfInBounds i' true) a' w':=by
    intro d' a' w' hs'
    refine ih _ (ys++r) (x.on S) d' a' w' hlen' hR' (fun S' he=>hfin S' ?_) hs'
    simp only [xQ,yL]
    rw [xQ] at he
    exact g3.trans he
   have hev:=g1.ev
   have hg:=g1.guard
   have run:x.skip=false→x.o.wp P a w (wpAny P .any ops Q (fuel+(ops.size-n)) (listed.setIfInBounds i' true)) Q:=by
    intro hsk
    rw [hsk] at hev
    simp only [yE,if_false] at hev
    exact hev.run hs hnx hdst _ _ hgo
   have skp:x.skip=true→wpAny P .any ops Q (fuel+(ops.size-n)) (listed.setIfInBounds i' true) (a.put x.o.dst undef) w:=by
    intro hsk
    rw [hsk] at hev
    simp only [if_true] at hev
    refine hgo d _ _ ?_
    unfold It.on
    rw [hev]
    exact Sim.putE hs (v:=.tup []) (e0m d) hdst
   simp only [wpOp,hox]
   cases hgd:x.o.guard with
   |none=>
     rw [hgd] at hg
     rw [if_pos (by simp [Region.wanted,hgd])]
     exact .inl (run hg)
   |some g=>
     rw [hgd] at hg
     simp only at hg
     obtain ⟨c,hc,hsk⟩:=hg
     have hw:=e0i hs hds hgd hc
     rw [hw]
     by_cases hcg:c=g.2
     ·rw [if_pos (by simp [hcg])]
      exact .inl (run (by rw [hsk,hcg];simp))
     rw [if_neg (by simp [hcg])]
     exact skp (by rw [hsk];simpa using hcg)
end
def u0r (ds:List (Option Tmp)) (c:List Nat) (need:List (Nat×Nat)) (p n:Nat) (l:List Oper):Bool:=
 decide (p≤n)&&decide (n≤l.length)&&(List.range l.length).all fun j=>match l[j]? with
  |none=>true
  |some o=>o.after.toList.all (fun e=>!Region.binds .any e||decide (e.on<j))&&
    (List.range j).all fun i=>
     (!(c.getD j 0).testBit i||o.after.toList.any (fun e=>Region.binds .any e&&(e.on==i||(decide (i<e.on)&&(c.getD e.on 0).testBit i))))&&
     (decide (i<p)||decide (n≤i)||(c.getD j 0).testBit i||(decide (j<n)&&match l[i]? with
      |some x=>j2e ds x o&&((!p0k x.op&& !p0k o.op)||need.contains (i-p,j-p))
      |none=>true))
theorem z1c {P:Program} {B:Base} {l seg:List Oper} {p:Nat} {ds:List (Option Tmp)} {S:St} {K:St→Prop} (n:Nat) (names c:List Nat) (need:List (Nat×Nat)) (hds:e0g l=ds) (hst:u0r ds c need p n l=true) (hseg:(l.drop p).take (n-p)=seg)
 (hn:names.all (fun k=>fresh k S&&(look S.mem k).isNone)=true)
 (h: ∀ K':St→List Da→Prop,(∀ S' D,w0l seg D need→Dr P B l n S' K→K' S' D)→Jk P B.nt names ds (!need.isEmpty) seg [] [] S K'):Dr P B l p S K:=by
 intro d a w hs Q hQ listed hlisted
 obtain ⟨its,hi,hchk,hK⟩:=c0i (h (fun S' D=>w0l seg D need∧Dr P B l n S' K) (fun _ _ h1 h2=>⟨h1,h2⟩))
 have hget: ∀ i o,l.toArray[i]? =some o→l[i]? =some o:=fun i o h=>by rw [vT] at h;exact h
 simp only [u0r,yD,decide_eq_true_eq,yJ,List.mem_range] at hst
 obtain ⟨⟨hpn,hnl⟩,hst⟩:=hst
 have hst': ∀ j o,l[j]? =some o→(∀ e∈o.after,Region.binds .any e=true→e.on<j)∧∀ i,i<j→
  ((c.getD j 0).testBit i=true→∃ e∈o.after,Region.binds .any e=true∧(e.on=i∨(i<e.on∧(c.getD e.on 0).testBit i=true)))∧
  (p≤i→i<n→(c.getD j 0).testBit i=true∨(j<n∧∀ x,l[i]? =some x→j2e ds x o=true∧((p0k x.op=false∧p0k o.op=false)∨(i-p,j-p)∈need))):=by
  intro j o ho
  have hj:=(wL.mp ho).1
  have:=hst j hj
  rw [ho] at this
  simp only [yD,yJ,List.mem_range,uD,yX,decide_eq_true_eq,List.any_eq_true,beq_iff_eq] at this
  refine ⟨fun e he hb=>?_,fun i hi=>?_⟩
  ·rcases this.1 e (by simpa using he) with h1|h1
   ·rw [hb] at h1;cases h1
   exact h1
  obtain ⟨h1,h2⟩:=this.2 i hi
  refine ⟨fun ht=>?_,fun h3 h4=>?_⟩
  ·rcases h1 with h1|⟨e,he,hb,h1⟩
   ·rw [ht] at h1;cases h1
   exact ⟨e,by simpa using he,hb,h1⟩
  rcases h2 with ((h2|h2)|h2)|⟨h5,h2⟩
  ·omega
  ·omega
  ·exact .inl h2
  right
  refine ⟨h5,fun x hx=>?_⟩
  rw [hx] at h2
  simp only [yD,uD,yX,List.contains_iff_mem] at h2
  exact h2
 have hseglen:seg.length=n-p:=by rw [←hseg,yH,yU];omega
 have hlen:its.length=n-p:=by rw [←hseglen,←hi.ops,xO]
 have hsegat: ∀ i o,seg[i]? =some o→l[p+i]? =some o:=by
  intro i o ho
  have hlt:=(wL.mp ho).1
  rw [←hseg,List.getElem?_take,if_pos (by omega),uG] at ho
  exact ho
 let R:List (Nat×It):=its.zipIdx.map fun q=>(q.2+p,q.1)
 have hRmap:R.map (·.2)=its:=by
  simp only [R,List.map_map]
  exact List.zipIdx_map_fst 0 its
 have hRmem: ∀ q∈R,p≤q.1∧its[q.1-p]? =some q.2:=by
  intro q hq
  obtain ⟨⟨x,i⟩,hq',rfl⟩:=xG.mp hq
  have:=List.mem_zipIdx_iff_getElem?.mp hq'
  exact ⟨Nat.le_add_left _ _,by simpa using this⟩
 have hitl: ∀ (i:Nat) (x:It),its[i]? =some x→seg[i]? =some x.o:=by
  intro i x hx
  rw [←hi.ops,vH,hx];rfl
 have hRl: ∀ q∈R,l[q.1]? =some q.2.o:=by
  intro q hq
  obtain ⟨h1,h2⟩:=hRmem q hq
  have:=hsegat _ _ (hitl _ _ h2)
  rwa [show p+(q.1-p)=q.1 from by omega] at this
 have hRn: ∀ q∈R,q.1<n:=by
  intro q hq
  obtain ⟨h1,h2⟩:=hRmem q hq
  have:=(wL.mp h2).1
  omega
 have hmain:=k2u (P:=P) (B:=B) (ops:=l.toArray) (ds:=ds) (bef:=fun j i=>i<j∧(c.getD j 0).testBit i=true) (Q:=Q) (p:=p) (n:=n) (K:=fun S'=>Eqv S' (fin its S))
  (by rw [←hds,l0v]) (fun i o ho=>(hst' i o (hget i o ho)).1) ?_ ?_ ?_ its.length listed R S d a w (by simp [R]) ?_ ?_ hs
 ·rw [hlen,show n-p+(l.toArray.size-n)=l.length-p from by simp;omega] at hmain
  exact hmain
 ·intro i o ho x ⟨hx1,hx2⟩
  obtain ⟨e,he,hb,h1⟩:=((hst' i o (hget i o ho)).2 x hx1).1 hx2
  exact ⟨e,he,hb,h1⟩
 ·intro i o ho hni x hpx hxn
  rcases ((hst' i o (hget i o ho)).2 x (by omega)).2 hpx hxn with h1|h1
  ·exact ⟨by omega,h1⟩
  omega
 ·intro S' d' a' w' listed' he hs' hl'
  have:=hK d' a' w' (hs'.eqv he) Q hQ listed' hl'
  simpa using this
 ·refine ⟨hlisted.1,by simpa using hnl,fun q hq=>(by rw [vT];exact hRl q hq:l.toArray[q.1]? =some q.2.o),fun q hq=>(hRmem q hq).1,fun i=>?_,fun i hi1 hi2=>?_,?_,by rw [hRmap];exact hi.ok,?_,by rw [hRmap];exact hi.apart,fun q hq=>hi.dst q.2 (by rw [←hRmap];exact List.mem_map_of_mem hq),?_⟩
  ·constructor
   ·intro h1
    obtain ⟨q,hq,rfl⟩:=xG.mp h1
    have h2:=hRn q hq
    refine ⟨h2,?_⟩
    rw [hlisted.2 q.1 (by simp;omega)]
    have:=(hRmem q hq).1
    simp;omega
   rintro ⟨h1,h2⟩
   rw [hlisted.2 i (by simp;omega)] at h2
   have h3:p≤i:=by simpa using h2
   have h4:i-p<its.length:=by omega
   refine xG.mpr ⟨(i,its[i-p]),?_,rfl⟩
   refine xG.mpr ⟨(its[i-p],i-p),?_,by simp;omega⟩
   exact List.mem_zipIdx_iff_getElem?.mpr (by simp [h4])
  ·rw [hlisted.2 i hi2];simp;omega
  ·have hp1:its.zipIdx.Pairwise fun p q=>p.2<q.2:=by
    rw [uK]
    intro i j hi' hj' hij
    simp only [List.getElem_zipIdx];omega
   have hp2:R.Pairwise fun p q=>p.1<q.1:=List.pairwise_map.mpr (hp1.imp fun h=>by simp only;omega)
   refine hp2.imp_of_mem ?_
   intro x y hp hq hlt
   refine ⟨hlt,?_⟩
   obtain ⟨hpi0,hpi⟩:=hRmem x hp
   obtain ⟨hqi0,hqi⟩:=hRmem y hq
   rcases ((hst' y.1 y.2.o (hRl _ hq)).2 x.1 hlt).2 hpi0 (hRn _ hp) with h1|⟨_,h1⟩
   ·exact .inl ⟨hlt,h1⟩
   right
   obtain ⟨h2,h3⟩:=h1 _ (hRl _ hp)
   have hpm:x.2∈its:=wF hpi
   have hqm:y.2∈its:=wF hqi
   simp only [j2e,yD] at h2
   have sub: ∀ x:It,∀ n,n∈tmpsOf (x.reads ds)→n∈tmpsOf (gslot ds x.o++x.o.op.operands.toList):=by
    intro x n hn
    unfold It.reads at hn
    simp only [tmpsOf,List.filterMap_append,wX] at hn ⊢
    rcases hn with hn|hn
    ·exact .inl hn
    right
    split at hn
    ·cases hn
    exact hn
   have hmu:(x.2.e.mut=false∨y.2.e.mut=false∨a0l x.2.e y.2.e)∧touch x.2 y.2∧touch y.2 x.2:=by
    rcases h3 with ⟨h4,h5⟩|h4
    ·have e1:x.2.e.mut=false:=by
      cases hc:x.2.e.mut with
      |false=>rfl
      |true=>have:=hi.mu _ hpm hc;rw [h4] at this;cases this
     have e2:y.2.e.mut=false:=by
      cases hc:y.2.e.mut with
      |false=>rfl
      |true=>have:=hi.mu _ hqm hc;rw [h5] at this;cases this
     exact ⟨.inl e1,i0v e1,i0v e2⟩
    have:=v0v hchk _ h4
    have hk:(!need.isEmpty)=true:=by
     cases need with
     |nil=>cases h4
     |cons=>rfl
    rw [hk] at this
    simp only [cond_true,yC,vH,hpi,hqi,hitl _ _ hpi,hitl _ _ hqi,yR,atD,e2e] at this
    have hd1:=hi.dp _ hpm
    have hd2:=hi.dp _ hqm
    rw [hk] at hd1 hd2
    exact ⟨this.1,touch_of this.2.1 hd2,touch_of this.2.2 hd1⟩
   refine ⟨fun n hn' hin=>?_,fun n hn' hin=>?_,fun n hn'=>?_,hmu.1,hmu.2.1,hmu.2.2⟩
   ·have:=h2.1
    rw [hn'] at this
    simp only [yD,yX] at this
    have hc:=sub _ _ hin
    rw [←List.contains_iff_mem] at hc
    rw [this.1] at hc;cases hc
   ·have:=h2.2
    rw [hn'] at this
    simp only [yX] at this
    have hc:=sub _ _ hin
    rw [←List.contains_iff_mem] at hc
    rw [this] at hc;cases hc
   have:=h2.1
   rw [hn'] at this
   simp only [yD,bne_iff_ne] at this
   exact this.2
  ·rw [hRmap]
   intro x hx k hk
   have:=(hi.nm x hx k hk).1
   simp only [yJ,yD] at hn
   have h1:=hn k this
   have h2:=j0x h1.1
   exact ⟨⟨fun n v hv=>Wq h2.1 hv,fun n o ho=>a0y h2.2 ho,g0l h1.1⟩,by simpa using h1.2⟩
  intro i o ho hl hsz e he hb
  rw [hlisted.2 i hsz] at hl
  have h1:=(hst' i o (hget i o ho)).1 e he hb
  rw [hlisted.listed]
  simp at hl hsz ⊢
  omega
 intro S' he
 rw [hRmap] at he
 exact he.symm
theorem Ij {P:Program} {B:Base} {l seg:List Oper} {p:Nat} {ds:List (Option Tmp)} {S:St} {K:St→Prop} (n:Nat) (names c:List Nat) (need:List (Nat×Nat)) (hds:e0g l=ds) (hst:u0r ds c need p n l=true) (hseg:(l.drop p).take (n-p)=seg)
 (hn:names.all (fun k=>fresh k S&&(look S.mem k).isNone)=true)
 (h: ∀ (N:St→Prop) (K':St→List Da→Prop),(∀ S',Dr P B l n S' K→N S')→(∀ S' D,w0l seg D need→N S'→K' S' D)→Jk P B.nt names ds (!need.isEmpty) seg [] [] S K'):Dr P B l p S K:=
 z1c n names c need hds hst hseg hn fun K' hK'=>h (fun S'=>Dr P B l n S' K) K' (fun _ h=>h) hK'
end Go.Sy
namespace Go.Sy
section
variable {P:Program} {B:Base} {S:St} {Q:Exit→St→Prop}
structure nxtQ (P:Program) (B:Base) (y:Code) (Q:Exit→St→Prop) (e:Exit) (S:St):Prop where
 h:l0d (fun S=>HT P B y S Q) Q e S
structure blkQ (id:Nat) (Q:Exit→St→Prop) (e:Exit) (S:St):Prop where
 h:e0d id Q e S
structure thnQ (N:St→Prop) (M:Exit→St→Prop) (e:Exit) (S:St):Prop where
 h:l0d N M e S
structure rndQ (P:Program) (B:Base) (x:Code) (Q:Exit→St→Prop) (n:Nat) (S:St):Prop where
 h:rnd P B x Q n S
theorem x0s {x y:Code} (h:HT P B x S (nxtQ P B y Q)):HT P B (.seq x y) S Q:=HT.seq (h.mono fun _ _ h=>h.h)
theorem sq_n {y:Code} (h:HT P B y S Q):nxtQ P B y Q .normal S:=⟨h⟩
theorem sq_e {y:Code} {i:Nat} (h:Q (.exit i) S):nxtQ P B y Q (.exit i) S:=⟨h⟩
theorem sq_r {y:Code} (h:Q .ret S):nxtQ P B y Q .ret S:=⟨h⟩
theorem sq_g {y:Code} {i:Nat} (h:Q (.goto i) S):nxtQ P B y Q (.goto i) S:=⟨h⟩
theorem i2h {id:Nat} {x:Code} (h:HT P B x S (blkQ id Q)):HT P B (.block id x) S Q:=HT.block (h.mono fun _ _ h=>h.h)
theorem bq_n {id:Nat} (h:Q .normal S):blkQ id Q .normal S:=⟨h⟩
theorem bq_r {id:Nat} (h:Q .ret S):blkQ id Q .ret S:=⟨h⟩
theorem bq_g {id i:Nat} (h:Q (.goto i) S):blkQ id Q (.goto i) S:=⟨h⟩
theorem bq_x {id:Nat} (h:Q .normal S):blkQ id Q (.exit id) S:=⟨by simp only [e0d,if_true];exact h⟩
theorem bq_e {id i:Nat} (hi:i≠id) (h:Q (.exit i) S):blkQ id Q (.exit i) S:=⟨by simp only [e0d,if_neg hi];exact h⟩
theorem tq_n {N:St→Prop} {M:Exit→St→Prop} (h:N S):thnQ N M .normal S:=⟨h⟩
theorem tq_r {N:St→Prop} {M:Exit→St→Prop} (h:M .ret S):thnQ N M .ret S:=⟨h⟩
theorem tq_e {N:St→Prop} {M:Exit→St→Prop} {i:Nat} (h:M (.exit i) S):thnQ N M (.exit i) S:=⟨h⟩
theorem tq_g {N:St→Prop} {M:Exit→St→Prop} {i:Nat} (h:M (.goto i) S):thnQ N M (.goto i) S:=⟨h⟩
theorem Gx {x:Code} {ι:Type} (e:ι→List (Nat×V)) (m:ι→List (Nat×Ob)) (μ:ι→Nat) (i₀:ι)
 (round: ∀ i,∀ (N:St→Prop) (M:Exit→St→Prop),(∀ j S',μ j<μ i→leX [] S'.env (e j++S.env)→leX [] S'.mem (m j++S.mem)→N S')→(∀ e S',Q e S'→M e S')→HT P B x ⟨e i++S.env,m i++S.mem⟩ (thnQ N M)) (h0:leX [] S.env (e i₀++S.env):=by (simp only [go_sem,leX,yB,yC,F0];try simp)) (h1:leX [] S.mem (m i₀++S.mem):=by (simp only [go_sem,leX,yB,yC,F0];try simp)):HT P B (.loop x) S Q:=
 Uw e m μ i₀ h0 h1 fun i N M hN hM=>(round i N M hN hM).mono fun _ _ h=>h.h
theorem l2b {x:Code} {n:Nat} {ks:List Nat} (hk:FG ks) (h:HT P B x (S.forget ks) (thnQ (rndQ P B x Q n) Q)):rndQ P B x Q (n+1) S:=⟨Ez ks (n:=n+1) (h.mono fun e S h=>by
 have h:=h.h
 cases e<;>first|exact h.h|exact h)⟩
structure NF :Prop where
 mk::
theorem l2a {x:Code} {n:Nat} (_:NF) (h:HT P B x S (thnQ (rndQ P B x Q n) Q)):rndQ P B x Q (n+1) S:=⟨(h.mono fun e S h=>by
 have h:=h.h
 cases e<;>first|exact h.h|exact h:HT P B x S (l0d (rnd P B x Q n) Q))⟩
def UR :Prop:=True
theorem ur :UR:=trivial
theorem u1w {x:Code} (_:UR) (n:Nat) (h:rndQ P B x Q n S):HT P B (.loop x) S Q:=Jz n h.h
structure Stop (p:Prop):Prop where
 h:p
structure ZS (id:Nat):Prop where
 mk::
structure ZG (id:Nat):Prop where
 mk::
structure DQ (id:Nat) (names c:List Nat) (need:List (Nat×Nat)):Prop where
 mk::
theorem a2h {id:Nat} {l:List Oper} {y:Code} {names d:List Nat} {need:List (Nat×Nat)} (hz:DQ id names d need) (hm:P.follows .mixedOrders=true) (hst:k0b (e0g l) d need l=true)
 (hn:names.all (fun k=>fresh k S&&(look S.mem k).isNone)=true)
 (h: ∀ K:St→List Da→Prop,(∀ S' D,w0l l D need→HT P B y S' Q→K S' D)→Jk P B.nt names (e0g l) (!need.isEmpty) l [] [] S K):HT P B (.seq (.region id l.toArray true) y) S Q:=w0i names d need hm hst hn h
theorem m0x {id:Nat} {l:List Oper} {names d:List Nat} {need:List (Nat×Nat)} (hz:DQ id names d need) (hm:P.follows .mixedOrders=true) (hst:k0b (e0g l) d need l=true)
 (hn:names.all (fun k=>fresh k S&&(look S.mem k).isNone)=true)
 (h: ∀ K:St→List Da→Prop,(∀ S' D,w0l l D need→Q .normal S'→K S' D)→Jk P B.nt names (e0g l) (!need.isEmpty) l [] [] S K):HT P B (.region id l.toArray true) S Q:=Sk names d need hm hst hn h
theorem k2m {id:Nat} {l:Array Oper} {b:Bool} {y:Code} (_:ZS id) (h:Stop (HT P B (.seq (.region id l b) y) S Q)):HT P B (.seq (.region id l b) y) S Q:=h.h
theorem k2o {id:Nat} {l:Array Oper} {b:Bool} (_:ZS id) (h:Stop (HT P B (.region id l b) S Q)):HT P B (.region id l b) S Q:=h.h
theorem k2n {id:Nat} {l:Array Oper} {b:Bool} {x y:Code} (_:ZG id) (h:Stop (HT P B (.seq (.seq (.region id l b) x) y) S Q)):HT P B (.seq (.seq (.region id l b) x) y) S Q:=h.h
structure DS (id:Nat):Prop where
 mk::
structure DP (p n:Nat) (names c:List Nat) (need:List (Nat×Nat)):Prop where
 mk::
structure DN (n q:Nat):Prop where
 mk::
theorem j2f {id:Nat} {l:List Oper} (_:DS id) (hm:P.follows .mixedOrders=true)
 (h: ∀ K:St→Prop,(∀ S',Q .normal S'→K S')→Dr P B l 0 S K):HT P B (.region id l.toArray true) S Q:=c1z hm h
theorem k1c {l seg:List Oper} {p n:Nat} {ds:List (Option Tmp)} {K:St→Prop} {names c:List Nat} {need:List (Nat×Nat)} (_:DP p n names c need) (hds:e0g l=ds) (hst:u0r ds c need p n l=true) (hseg:(l.drop p).take (n-p)=seg)
 (hn:names.all (fun k=>fresh k S&&(look S.mem k).isNone)=true)
 (h: ∀ (N:St→Prop) (K':St→List Da→Prop),(∀ S',Dr P B l n S' K→N S')→(∀ S' D,w0l seg D need→N S'→K' S' D)→Jk P B.nt names ds (!need.isEmpty) seg [] [] S K'):Dr P B l p S K:=Ij n names c need hds hst hseg hn h
theorem r1o {l seg:List Oper} {p n q:Nat} {ds:List (Option Tmp)} {K:St→Prop} (_:DN n q) (hds:e0g l=ds) (hf:(g0m l p n&&decide (p+n≤l.length))=true) (hseg:(l.drop p).take n=seg) (hq:p+n=q) (h: ∀ N:St→Prop,(∀ S',Dr P B l q S' K→N S')→Aj P B ds seg S N):Dr P B l p S K:=Mx n q hds hf hseg hq h
theorem goW {p:Prop} (h:p:=by
 repeat (first
  |refine k2m zS ?_
  |refine k2o zS ?_
  |refine k2n zG ?_
  |refine sq_n ?_
  |refine sq_e ?_
  |refine sq_r ?_
  |refine sq_g ?_
  |refine bq_x ?_
  |(refine bq_e ?_ ?_;focus (decide))
  |refine bq_n ?_
  |refine bq_r ?_
  |refine bq_g ?_
  |refine tq_n ?_
  |refine tq_e ?_
  |refine tq_r ?_
  |refine tq_g ?_
  |(first|refine xhM0 _ _ ?_|refine xhM1 _ _ ?_|refine xhM2 _ _ ?_|refine xhM3 _ _ ?_|refine xhM4 _ _ ?_|refine xhM5 _ _ ?_|refine xhM6 _ _ ?_|refine xhM7 _ _ ?_|refine xhMj _ _ ?_)
  |(refine zhZ _ _ ?_;(try simp only [go_sem,F0,Nat.reduceAdd,Int.reduceTMod,Int.reduceTDiv,Int.reduceNeg,Int.reduceMul,Int.reduceToNat,xB]);(all_goals (first|rfl|exact ⟨rfl,rfl⟩|exact told_plain rfl ⟨rfl,rfl⟩|exact o0o rfl (v0i (by simp [look,F0])) ⟨rfl,rfl⟩|exact zE|exact zE _|(rw [zE];done)|(simp [F0];done)|(refine u0a (n:=40) ?_ rfl;first|rfl|kernel_rfl)|exact x0g (by simp [look,F0]) ⟨rfl,rfl⟩|exact zE _ (by first|rfl|(simp [look,F0];done)))))
  |(refine zL _ ?_ ?_;all_goals (simp only [go_sem,leX,yB,yC,F0];try simp))
  |refine l2a zF ?_
  |(refine l2b zF ?_;(try simp only [go_sem,St.forget,fgt]))
  |(refine u1w (And.left zU) 65 ?_;replace zU:=And.right zU)
  |((first|refine Lj fun zK zhK=>?_|refine Cw fun zK zhK=>?_);(try simp only [go_sem,F0,Nat.reduceAdd,Int.reduceTMod,Int.reduceTDiv,Int.reduceNeg,Int.reduceMul,Int.reduceToNat,xB]);(repeat' (first|apply yA|intro _)))
  |((first|refine a2h zd0 mixed ?_ ?_ fun zK zhK=>?_|refine m0x zd0 mixed ?_ ?_ fun zK zhK=>?_|refine a2h zd1 mixed ?_ ?_ fun zK zhK=>?_|refine m0x zd1 mixed ?_ ?_ fun zK zhK=>?_|refine a2h zd2 mixed ?_ ?_ fun zK zhK=>?_|refine m0x zd2 mixed ?_ ?_ fun zK zhK=>?_|refine a2h zd3 mixed ?_ ?_ fun zK zhK=>?_|refine m0x zd3 mixed ?_ ?_ fun zK zhK=>?_|refine a2h zd4 mixed ?_ ?_ fun zK zhK=>?_|refine m0x zd4 mixed ?_ ?_ fun zK zhK=>?_|refine a2h zd5 mixed ?_ ?_ fun zK zhK=>?_|refine m0x zd5 mixed ?_ ?_ fun zK zhK=>?_|refine a2h zd6 mixed ?_ ?_ fun zK zhK=>?_|refine m0x zd6 mixed ?_ ?_ fun zK zhK=>?_|refine a2h zd7 mixed ?_ ?_ fun zK zhK=>?_|refine m0x zd7 mixed ?_ ?_ fun zK zhK=>?_);(focus (kernel_rfl));(focus (simp only [go_sem]));(try simp only [go_sem,F0,Nat.reduceAdd,Int.reduceTMod,Int.reduceTDiv,Int.reduceNeg,Int.reduceMul,Int.reduceToNat,xB]);(repeat' (first|apply yA|intro _)))
  |refine zhK _ ?_
  |(refine zhK _ _ ?_ ?_;focus (first|exact True.intro|(simp only [go_sem];done)|(simp only [go_sem];simp;done)|(simp only [go_sem];simp;simp only [go_sem])))
  |((first|(obtain ⟨cz,cq⟩:=cq;refine b0c (fun _ _=>rfl) ?_ cz ?_;focus (first|rfl|(simp only [go_sem,F0,Nat.reduceAdd,Int.reduceTMod,Int.reduceTDiv,Int.reduceNeg,Int.reduceMul,Int.reduceToNat,xB]<;>rfl)))|(obtain ⟨cz,cq⟩:=cq;refine b0c (fun _ _=>rfl) ?_ (cz ?_) ?_;focus (first|rfl|(simp only [go_sem,F0,Nat.reduceAdd,Int.reduceTMod,Int.reduceTDiv,Int.reduceNeg,Int.reduceMul,Int.reduceToNat,xB]<;>rfl)))|(refine b0c (fun _ _=>rfl) ?_ cv0 ?_;focus (first|rfl|(simp only [go_sem,F0,Nat.reduceAdd,Int.reduceTMod,Int.reduceTDiv,Int.reduceNeg,Int.reduceMul,Int.reduceToNat,xB]<;>rfl))));rintro v m ⟨hR,hm⟩;subst hR;subst hm;refine yA ?_ (yA ?_ ?_);(iterate 2 (focus (first|rfl|simp only [go_sem,F0,Nat.reduceAdd,Int.reduceTMod,Int.reduceTDiv,Int.reduceNeg,Int.reduceMul,Int.reduceToNat,xB])));(try simp only [go_sem,F0,Nat.reduceAdd,Int.reduceTMod,Int.reduceTDiv,Int.reduceNeg,Int.reduceMul,Int.reduceToNat,xB]);(repeat' (first|apply yA|intro _)))
  |((first|(obtain ⟨cz,cq⟩:=cq;refine Ck (fun k=>k) _ [] (fun _ _=>rfl) ?_ cz ?_ ?_;focus (first|rfl|(simp only [go_sem,F0,Nat.reduceAdd,Int.reduceTMod,Int.reduceTDiv,Int.reduceNeg,Int.reduceMul,Int.reduceToNat,xB]<;>rfl)))|(obtain ⟨cz,cq⟩:=cq;refine Ck (fun k=>k) _ [] (fun _ _=>rfl) ?_ (cz ?_) ?_ ?_;focus (first|rfl|(simp only [go_sem,F0,Nat.reduceAdd,Int.reduceTMod,Int.reduceTDiv,Int.reduceNeg,Int.reduceMul,Int.reduceToNat,xB]<;>rfl))));(refine yA ?_ (yA ?_ (yA ?_ ?_))<;>first|rfl|simp only [go_sem]);(try simp only [go_sem,F0,Nat.reduceAdd,Int.reduceTMod,Int.reduceTDiv,Int.reduceNeg,Int.reduceMul,Int.reduceToNat,xB]);(repeat' (first|apply yA|intro _)))
  |((obtain ⟨cz,cq⟩:=cq;refine Xz ?_ cz ?_;focus (first|rfl|(simp only [go_sem,F0,Nat.reduceAdd,Int.reduceTMod,Int.reduceTDiv,Int.reduceNeg,Int.reduceMul,Int.reduceToNat,xB]<;>rfl)));(try simp only [go_sem,F0,Nat.reduceAdd,Int.reduceTMod,Int.reduceTDiv,Int.reduceNeg,Int.reduceMul,Int.reduceToNat,xB]);(repeat' (first|apply yA|intro _)))
  |((obtain ⟨cz,cq⟩:=cq;refine Vk ?_ cz ?_;focus (first|rfl|(simp only [go_sem,F0,Nat.reduceAdd,Int.reduceTMod,Int.reduceTDiv,Int.reduceNeg,Int.reduceMul,Int.reduceToNat,xB]<;>rfl)));(try simp only [go_sem,F0,Nat.reduceAdd,Int.reduceTMod,Int.reduceTDiv,Int.reduceNeg,Int.reduceMul,Int.reduceToNat,xB]);(repeat' (first|apply yA|intro _)))
  |((first|(obtain ⟨cz,cq⟩:=cq;refine k0i (fun _ _=>rfl) ?_ ?_ ?_ cz ?_;iterate 3 (focus (first|rfl|decide|(simp only [go_sem,F0,Nat.reduceAdd,Int.reduceTMod,Int.reduceTDiv,Int.reduceNeg,Int.reduceMul,Int.reduceToNat,xB]<;>first|done|rfl|simp))))|(refine k0i (fun _ _=>rfl) ?_ ?_ ?_ ch0 ?_;iterate 3 (focus (first|rfl|decide|(simp only [go_sem,F0,Nat.reduceAdd,Int.reduceTMod,Int.reduceTDiv,Int.reduceNeg,Int.reduceMul,Int.reduceToNat,xB]<;>first|done|rfl|simp))))|(obtain ⟨⟨cg,cz⟩,cq⟩:=cq;refine n0b ?_ ?_ (fun _ _=>rfl) ?_ ?_ ?_ cg cz ?_;iterate 5 (focus (first|rfl|decide|(simp only [go_sem,F0,Nat.reduceAdd,Int.reduceTMod,Int.reduceTDiv,Int.reduceNeg,Int.reduceMul,Int.reduceToNat,xB]<;>first|done|rfl|simp)))));rintro v m ⟨hR,hm⟩;subst hR;subst hm;refine yA ?_ (yA ?_ (yA ?_ ?_));(iterate 3 (focus (first|rfl|(simp only [go_sem,F0,Nat.reduceAdd,Int.reduceTMod,Int.reduceTDiv,Int.reduceNeg,Int.reduceMul,Int.reduceToNat,xB];done)|(simp [go_sem,look,F0];done))));(try simp only [go_sem,F0,Nat.reduceAdd,Int.reduceTMod,Int.reduceTDiv,Int.reduceNeg,Int.reduceMul,Int.reduceToNat,xB]);(repeat' (first|apply yA|intro _)))
  |((obtain ⟨cz,cq⟩:=cq;refine Hz (fun k=>k) _ [] (fun _ _=>rfl) ?_ ?_ ?_ cz ?_ ?_;(iterate 2 (focus (first|rfl|decide|(simp only [go_sem,F0,Nat.reduceAdd,Int.reduceTMod,Int.reduceTDiv,Int.reduceNeg,Int.reduceMul,Int.reduceToNat,xB]<;>first|done|rfl|simp))));(first|kernel_rfl|rfl|simp [o0d,r0k,pls]);(refine yA ?_ (yA ?_ (yA ?_ ?_))<;>(first|rfl|(simp only [go_sem,F0,Nat.reduceAdd,Int.reduceTMod,Int.reduceTDiv,Int.reduceNeg,Int.reduceMul,Int.reduceToNat,xB];done)|(simp [go_sem,look,F0];done))));(try simp only [go_sem,F0,Nat.reduceAdd,Int.reduceTMod,Int.reduceTDiv,Int.reduceNeg,Int.reduceMul,Int.reduceToNat,xB]);(repeat' (first|apply yA|intro _)))
  |(first|refine j2f zr0 mixed fun zE zhE=>?_|refine j2f zr1 mixed fun zE zhE=>?_|refine j2f zr2 mixed fun zE zhE=>?_|refine j2f zr3 mixed fun zE zhE=>?_|refine j2f zr4 mixed fun zE zhE=>?_|refine j2f zr5 mixed fun zE zhE=>?_)
  |(obtain ⟨zp,zq⟩:=zq;(first|(refine k1c zp rfl ?_ rfl ?_ fun zR zK zhR zhK=>?_;(focus (kernel_rfl));(focus (simp only [go_sem]));(try simp only [go_sem,F0,Nat.reduceAdd,Int.reduceTMod,Int.reduceTDiv,Int.reduceNeg,Int.reduceMul,Int.reduceToNat,xB]);(repeat' (first|apply yA|intro _)))|(refine r1o zp rfl ?_ rfl rfl fun zR zhR=>?_;(focus (kernel_rfl));(try simp only [go_sem,F0,Nat.reduceAdd,Int.reduceTMod,Int.reduceTDiv,Int.reduceNeg,Int.reduceMul,Int.reduceToNat,xB]);(repeat' (first|apply yA|intro _)))))
  |(refine b0b rfl (zhE _ ?_))
  |refine zhR _ ?_
  |refine x0s ?_
  |refine i2h ?_
  |refine Gq ?_
  |refine Tk ?_
  |refine Jv ?_
  |refine n2z ?_
  |(refine Dk ?_ ?_;focus (first|rfl|(simp [go_sem,F0];done)))
  |(refine Dw ?_ ?_;focus (first|rfl|(simp [go_sem,F0];done))))
 first|done|exact zX):p:=h
end
theorem Ct.go {P:Program} {f:FuncId} {fn:Func} {c:Code} {args:List V} {R:V→List (Nat×Ob)→Prop} {nt:Nat} {rs:Array ResultVar} (hf:P.funcs[f]? =some fn) (hb:fn.body=some c) (hnt:fn.ntmps=nt) (hrs:fn.results=rs)
 (h: ∀ (w0:World) (ro:Ro) (zZ:Exit→St→Prop),(∀ e S',h2e P rs.toList R e S'→zZ e S')→HT P ⟨w0,fun _=>False,nt,ro,fun _=>none⟩ c ⟨m0a 0 args,[]⟩ zZ:=by intro w0 ro zZ zhZ;exact goW) (hn:args.length≤nt:=by simp):Ct P f args R:=
 Ct.k hf hb hnt (congrArg Array.toList hrs) hn fun w0 ro=>h w0 ro _ fun _ _ h=>h
theorem CtM.go {P:Program} {f:FuncId} {fn:Func} {c:Code} {args:List V} {m:List (Nat×Ob)} {R:V→List (Nat×Ob)→Prop} {nt:Nat} {rs:Array ResultVar} (hf:P.funcs[f]? =some fn) (hb:fn.body=some c) (hnt:fn.ntmps=nt) (hrs:fn.results=rs)
 (h: ∀ (w0:World) (ro:Ro) (may:Nat→Prop) (fx:Nat→Option (Nat×Nat)) (zZ:Exit→St→Prop),(∀ e S',h2e P rs.toList R e S'→zZ e S')→HT P ⟨w0,may,nt,ro,fx⟩ c ⟨m0a 0 args,m⟩ zZ:=by intro w0 ro may fx zZ zhZ;exact goW) (hn:args.length≤nt:=by simp):CtM P f args m R:=
 CtM.k hf hb hnt (congrArg Array.toList hrs) hn fun w0 ro may fx=>h w0 ro may fx _ fun _ _ h=>h
end Go.Sy
namespace Go.Sy
open Go.RowKit Go.WideShapes Go.ChangeShapes Go.ChangeAt
theorem v0h {P:Program} {W:World}: ∀ {l:List (String×DataW Unit)} {ps:List MemPlace},DataW.LaidVars P W l ps→∀ {name:String} {x:DataW Unit},(name,x)∈l→
 ∃ g t cs fuel p,P.globalNamed name=some g∧(P.globals[g]?).map (·.type)=some t∧W.var? P name=some cs∧DataW.trod (fun _=>()) P W 0 (fun _=>true) false fuel t cs.toList=some (x,p)
 | [],_,_,_,_,hm=>by cases hm
 |(n,y)::r,ps,h,name,x,hm=>by
   obtain ⟨g,t,cs,fuel,p,q,h1,h2,h3,h4,h5,_⟩:=h
   rcases xK.mp hm with e|hm
   ·cases e
    exact ⟨g,t,cs,fuel,p,h1,h2,h3,h4⟩
   exact v0h h5 hm
theorem f1n {P:Program} {W:World} {l:List (String×DataW Unit)} (h:laidMet P l W) {name:String} {k:IntKind} {zs:List Int} (hm:(name,Lib.tabData k zs)∈l) {g:Nat} {t e:TypeId} {n:Nat}
 (hg:P.globalNamed name=some g) (hty:(P.globals[g]?).map (·.type)=some t) (ht:P.underlying t=some (.array n e)) (he:P.underlying e=some (.int k)) (hce:P.cellsOf e=1) (hct:P.cellsOf t=n):
 W.var? P name=some (zs.map fun z=>Value.int k z).toArray:=by
 obtain ⟨ps,hl,_⟩:=h
 obtain ⟨g',t',cs,fuel,p,hg',ht',hvar,hd⟩:=v0h hl hm
 obtain rfl:=Option.some.inj (hg.symm.trans hg')
 obtain rfl:=Option.some.inj (hty.symm.trans ht')
 rw [hvar,←Lib.cells_of_tab ht he hce hct hd]
theorem c2e {P:Program} {W:World} {l:List (String×DataW Unit)} (h:laidMet P l W) {name:String} {k:IntKind} {zss:List (List Int)} (hm:(name,DataW.agg (zss.map (Lib.tabData k)))∈l) {g:Nat} {t e u:TypeId} {n m:Nat}
 (hg:P.globalNamed name=some g) (hty:(P.globals[g]?).map (·.type)=some t) (ht:P.underlying t=some (.array n e)) (he:P.underlying e=some (.array m u)) (hu:P.underlying u=some (.int k))
 (hcu:P.cellsOf u=1) (hce:P.cellsOf e=m) (hct:P.cellsOf t=n*m):
 W.var? P name=some (zss.flatten.map fun z=>Value.int k z).toArray:=by
 obtain ⟨ps,hl,_⟩:=h
 obtain ⟨g',t',cs,fuel,p,hg',ht',hvar,hd⟩:=v0h hl hm
 obtain rfl:=Option.some.inj (hg.symm.trans hg')
 obtain rfl:=Option.some.inj (hty.symm.trans ht')
 rw [hvar]
 suffices e0:cs.toList=zss.flatten.map fun z=>Value.int k z by rw [←e0]
 generalize cs.toList=cl at hd
 cases fuel with
 |zero=>simp [DataW.trod] at hd
 |succ fuel=>
   simp only [DataW.trod,ht,hce,hct] at hd
   split at hd
   ·rename_i hcl
    obtain ⟨xs,hx,hy⟩:=Option.map_eq_some_iff.1 hd
    have hxs:xs.map (·.1)=zss.map (Lib.tabData k):=by
     have:=congrArg Prod.fst hy
     simpa using this
    have hfl:=a0o m n cl hcl
    have hxl:xs.length=n:=by simpa using Lib.mapM_length hx
    have hzl:zss.length=n:=by
     have:=congrArg List.length hxs
     simp only [xO] at this
     omega
    have key:(List.range n).map (fun i=>(cl.drop (i*m)).take m)=zss.map (fun zs=>zs.map fun z=>Value.int k z):=by
     apply List.ext_getElem?
     intro i
     by_cases hi:i<n
     ·obtain ⟨b,hb,hf⟩:=Lib.mapM_at hx i i (by simp [hi])
      have h2:(xs.map (·.1))[i]? =some b.1:=by simp [hb]
      rw [hxs,vH] at h2
      obtain ⟨zs,hz,hzb⟩:=Option.map_eq_some_iff.1 h2
      obtain ⟨b1,b2⟩:=b
      simp only at hzb
      subst hzb
      have:=Lib.cells_of_tab he hu hcu hce hf
      rw [vH,vH,hz]
      simp only [List.getElem?_range hi,yR]
      rw [this]
     rw [List.getElem?_eq_none (by simp;omega),List.getElem?_eq_none (by simp;omega)]
    rw [←hfl,key,←List.map_flatten]
   cases hd
theorem f0n {P:Program} {W:World} {name:String} {g:Nat} {vs:List Value} (h:W.var? P name=some vs.toArray) (hg:P.globalNamed name=some g) {cs:List PL} (hc:Fv (PL.den (Va.reads W).ro) cs vs):PL.denAt (Va.reads W).ro g cs 0:=by
 refine v0u hc fun j v hj=>?_
 have:=World.var?_cell hg h j
 simp only [xV]
 show W.cell? ⟨g,j,none⟩=some v
 rw [this]
 simpa using hj
theorem v0t {ro:Ro}: ∀ l:List UInt32,Fv (PL.den ro) (l.map PL.u32) (l.map fun x=>Value.int .u32 x.toNat)
 | []=>.nil
 |x::l=>.cons (by rw [PL.den]) (v0t l)
theorem v0s {ro:Ro}: ∀ l:List UInt64,Fv (PL.den ro) (l.map PL.u64) (l.map fun x=>Value.int .u64 x.toNat)
 | []=>.nil
 |x::l=>.cons (by rw [PL.den]) (v0s l)
theorem b2k {ro:Ro}: ∀ l:List Int,Fv (PL.den ro) (l.map PL.i) (l.map fun x=>Value.int .i64 x)
 | []=>.nil
 |x::l=>.cons (by rw [PL.den]) (b2k l)
def Va.readsG (w:World) (G:List (Nat×List PL)):Va:=⟨fun k=>k-gl0,fun k=>match look G k with|some cs=>cs.length|none=>0,fun b o=>w.cell? ⟨b,o,none⟩⟩
def z0s (G:List (Nat×List PL)):List (Nat×Ob):=G.map fun x=>(x.1,⟨false,x.2.map L.pl⟩)
theorem c0o : ∀ {G:List (Nat×List PL)} {k:Nat} {o:Ob},look (z0s G) k=some o→∃ cs,look G k=some cs∧o=⟨false,cs.map L.pl⟩
 | [],_,_,h=>by cases h
 |x::r,k,o,h=>by
   simp only [z0s,yL,look] at h ⊢
   split at h
   ·rename_i e
    rw [if_pos e]
    cases h
    exact ⟨_,rfl,rfl⟩
   rename_i e
   rw [if_neg e]
   exact c0o h
theorem c1f {w:World} {G:List (Nat×List PL)} (hg: ∀ k cs,look G k=some cs→gl0≤k∧PL.denAt (Va.reads w).ro (k-gl0) cs 0) {may:Nat→Prop} {fx:Nat→Option (Nat×Nat)} (hf: ∀ k,fx k=none):
 m0c ⟨w,may,0,(Va.readsG w G).ro,fx⟩ (Va.readsG w G) (z0s G) w:=by
 have hlt: ∀ k,(look (z0s G) k).isSome=true→k<gl0→False:=fun k h1 h2=>by
  obtain ⟨o,ho⟩:=xP.mp h1
  obtain ⟨cs,hc,_⟩:=c0o ho
  exact absurd (hg k cs hc).1 (Nat.not_le.mpr h2)
 refine ⟨⟨#[],[]⟩,⟨rfl,rfl,fun n v hv=>(by cases hv),fun k o hk hl=>(hlt k (by rw [hk];rfl) hl).elim,fun k k' h1 _ h2=>(hlt k h1 h2).elim,fun k h1 h2=>(hlt k h1 h2).elim,fun _ _ _ h=>h,fun b o y hy _=>hy,rfl,rfl,rfl,xL _,fun _ _ _=>rfl,fun _ _=>rfl,?_,fun k o p hk h=>absurd ((hf k).symm.trans h) (by simp),fun k p h=>absurd ((hf k).symm.trans h) (by simp),fun b l hb=>?_⟩⟩
 rotate_left
 ·obtain ⟨cs,_,e⟩:=c0o hb
  cases e
 intro k o hk _
 obtain ⟨cs,hc,rfl⟩:=c0o hk
 refine .inr ⟨?_,cs,rfl,(hg k cs hc).2⟩
 show (match look G k with|some cs=>cs.length|none=>0)=_
 rw [hc,xO]
def plW :W→Bool
 | .one (.pl _)=>true
 | .one _=>false
 | .agg l=>l.all fun| .pl _=>true|_=>false
def plV :V→Bool
 | .w x=>plW x
 |_=>false
theorem o2n {d d':Va} (h:d.ro=d'.ro): ∀ {v:V} {y:Value},plV v=true→V.den d v y→V.den d' v y
 | .w (.one (.pl x)),y,_,hd=>by simp only [V.den,W.den,L.den] at hd ⊢;rw [←h];exact hd
 | .w (.one (.p _ _)),y,hp,_=>by simp [plV,plW] at hp
 | .w (.one (.s _ _ _ _)),y,hp,_=>by simp [plV,plW] at hp
 | .w (.one (.fn _ _)),y,hp,_=>by simp [plV,plW] at hp
 | .w (.agg l),y,hp,hd=>by
   simp only [V.den,W.den] at hd ⊢
   obtain ⟨vs,e,ha⟩:=hd
   refine ⟨vs,e,?_⟩
   simp only [plV,plW] at hp
   generalize vs.toList=q at ha
   clear e
   induction ha with
   |nil=>exact .nil
   | @cons a b l m h1 _ ih=>
     simp only [wR,yD] at hp
     refine .cons ?_ (ih hp.2)
     cases a with
     |pl x=>simp only [L.den] at h1 ⊢;rw [←h];exact h1
     |_=>simp at hp
 | .tup _,y,hp,_=>by simp [plV] at hp
 | .any,y,hp,_=>by simp [plV] at hp
theorem r1s {d d':Va} (h:d.ro=d'.ro): ∀ {vs:List V} {ys:List Value},(vs.all plV)=true→Fv (V.den d) vs ys→Fv (V.den d') vs ys
 | [],_,_,.nil=>.nil
 |v::vs,_,hp,.cons h1 h2=>by
   simp only [wR,yD] at hp
   exact .cons (o2n h hp.1 h1) (r1s h hp.2 h2)
theorem CtM.callsG {P:Program} {f:FuncId} {args:List V} {G:List (Nat×List PL)} {R:V→List (Nat×Ob)→Prop} {b:Bool} (hc:CtM P f args (z0s G) R) (hR: ∀ v m,R v m→v=.w (.one (.pl (.b b)))) (w:World) (vals:Array Value)
 (hg: ∀ k cs,look G k=some cs→gl0≤k∧PL.denAt (Va.reads w).ro (k-gl0) cs 0) (hp:args.all plV=true) (ha:Fv (V.den (Va.reads w)) args vals.toList):Calls P f vals w fun e w'=>e=.returned (.bool b)∧Below w.heap.size w w':=by
 have hlt: ∀ k,(look (z0s G) k).isSome=true→k<gl0→False:=fun k h1 h2=>by
  obtain ⟨o,ho⟩:=xP.mp h1
  obtain ⟨cs,hc,_⟩:=c0o ho
  exact absurd (hg k cs hc).1 (Nat.not_le.mpr h2)
 have hf: ∀ k,q1o (Va.readsG w G) (z0s G) k=none:=fun k=>by
  unfold q1o
  rw [if_neg]
  rintro ⟨h1,_,h2⟩
  exact hlt k h1 h2
 refine (hc w (Va.readsG w G) vals (c1f hg hf) (r1s (d:=Va.reads w) (d':=Va.readsG w G) rfl hp ha)).mono fun e w' ⟨y,v,d',m',he,hr,hd,hm⟩=>?_
 rw [hR v m' hr] at hd
 refine ⟨by rw [he];exact congrArg _ hd,?_⟩
 obtain ⟨a,hs⟩:=hm
 refine ⟨hs.os,hs.tape,hs.output,hs.size,fun k hk=>hs.block k hk ?_⟩
 rintro ⟨k,h1,h2,_⟩
 exact hlt k h1 h2
end Go.Sy
namespace Go.Sy
@[go_sem] theorem j2d (S:St) (g:Nat):S.get (.global g)=some (.w (.one (.p (1000000+g) []))):=rfl
theorem j1t (n j:Nat):(List.replicate n (0:UInt32)).getD j 0=0:=by
 simp only [List.getD,List.getElem?_replicate]
 split<;>rfl
end Go.Sy
namespace Go.Sy
theorem d0m (vw:Bool) (S:St) (hd:Hand) (r:List L): ∀ c:List PL,Dq vw S hd (pls c++r)=(Dq vw S hd r).map (pls c++ ·)
 | []=>by simp [pls]
 |x::l=>by
   have ih:=d0m vw S hd r l
   simp only [pls] at ih
   simp only [pls,yL,yB,Dq,Uv,ih]
   cases Dq vw S hd r<;>rfl
theorem m0l (vw:Bool) (S:St) (hd:Hand) (c:List PL):Dq vw S hd (pls c)=some (pls c):=by
 have:=d0m vw S hd [] c
 simpa [Dq] using this
attribute [go_sem] d0m m0l u0q n1t
end Go.Sy
