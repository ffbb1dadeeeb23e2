/- The layer that reckons a function out: what it says of states, operations, regions, loops, calls. CONDITIONS: those that each theorem names. -/
import Derived.Test.YtijngjidkdkmeaavE2
import Derived.ChangeSlices
import Derived.Lib.SmallJoins
import Derived.Handed
import Derived.KernelRfl
import Derived.MapKept
import Derived.Orders
import Derived.ScopeJumps
import Derived.Lib.LaidTab
import Derived.LaidLaws
set_option linter.unusedVariables false
set_option linter.unusedSimpArgs false
namespace Go.Sy
open Go.RowKit Go.WideShapes Go.ChangeShapes Go.ChangeAt
def Sh (P:Program):Nat→TypeId→List PL→Prop
 |0,_,_=>False
 |n+1,t,cs=>match P.underlying t with
   |some .bool=>∃ b,cs=[.b b]
   |some (.int .i64)=>∃ k:Int,cs=[.i k]∧ -9223372036854775808≤k∧k≤9223372036854775807
   |some (.int .u8)=>∃ x,cs=[.u8 x]
   |some (.int .u32)=>∃ x,cs=[.u32 x]
   |some (.int .u64)=>∃ x,cs=[.u64 x]
   |some .string=>∃ s,cs=[.str s]∧s.length≤maxLen
   |some (.slice e)=>∃ rows,cs=[.R false (P.cellsOf e) rows]∧(∀ r∈rows,Sh P n e r∧r.length=P.cellsOf e)∧rows.length≤maxLen
   |some (.struct fs)=>∃ ps:List (List PL),cs=ps.flatten∧Hq (fun (f:Field) p=>Sh P n f.type p∧p.length=P.cellsOf f.type) fs.toList ps
   |some (.array m e)=>∃ ps:List (List PL),cs=ps.flatten∧ps.length=m∧∀ p∈ps,Sh P n e p∧p.length=P.cellsOf e
   |_=>False
def Va.reads (w:World):Va:=⟨fun k=>k-gl0,fun _=>0,fun b o=>w.cell? ⟨b,o,none⟩⟩
def e0x (P:Program):List Field→Nat→Nat→Bool
 | [],off,n=>off==n
 |f::fs,off,n=>f.offset==off&&e0x P fs (off+P.cellsOf f.type) n
def known (P:Program) (G:Nat→TypeId→Bool):Nat→TypeId→Bool
 |0,_=>false
 |n+1,t=>match P.underlying t with
   |some .bool|some (.int .i64)|some (.int .u8)|some (.int .u32)|some (.int .u64)|some .string=>P.cellsOf t==1
   |some (.slice e)=>P.cellsOf t==1&&(G n e&&known P G n e)
   |some (.struct fs)=>e0x P fs.toList 0 (P.cellsOf t)&&fs.toList.all fun f=>known P G n f.type
   |some (.array m e)=>P.cellsOf t==m*P.cellsOf e&&known P G n e
   |_=>false
section
variable {H:Type} {enc:TypeId×Value→H} {P:Program} {w:World} {base:Nat} {spare:Nat→Bool} {held:Bool}
theorem trod_array {m:Nat} {t e:TypeId} {fuel:Nat} {cs:List Value} {x:DataW H×List MemPlace} (ht:P.underlying t=some (.array m e)) (h:DataW.trod enc P w base spare held fuel t cs=some x):
 ∃ n,fuel=n+1∧cs.length=P.cellsOf t∧∀ i,i<m→∃ y,DataW.trod enc P w base spare held n e ((cs.drop (i*P.cellsOf e)).take (P.cellsOf e))=some y:=by
 cases fuel with
 |zero=>simp [DataW.trod] at h
 |succ n=>
   unfold DataW.trod at h
   rw [ht] at h
   simp only at h
   split at h<;>try (simp at h;done)
   rename_i hl
   refine ⟨n,rfl,hl,fun i hi=>?_⟩
   obtain ⟨xs,hx,_⟩:=yO.mp h
   have: ∀ (l:List Nat) (ys:List (DataW H×List MemPlace)),l.mapM (fun i=>DataW.trod enc P w base spare held n e ((cs.drop (i*P.cellsOf e)).take (P.cellsOf e)))=some ys→∀ i∈l,∃ y,DataW.trod enc P w base spare held n e ((cs.drop (i*P.cellsOf e)).take (P.cellsOf e))=some y:=by
    intro l
    induction l with
    |nil=>intro _ _ i hi;cases hi
    |cons a r ih=>
      intro ys hy i hi
      rw [List.mapM_cons] at hy
      cases ha:DataW.trod enc P w base spare held n e ((cs.drop (a*P.cellsOf e)).take (P.cellsOf e)) with
      |none=>rw [ha] at hy;simp at hy
      |some y=>
        rw [ha] at hy
        rcases yT.mp hi with rfl|hi
        ·exact ⟨y,ha⟩
        cases hr:r.mapM (fun i=>DataW.trod enc P w base spare held n e ((cs.drop (i*P.cellsOf e)).take (P.cellsOf e))) with
        |none=>rw [hr] at hy;simp at hy
        |some zs=>exact ih zs hr i hi
   exact this _ _ hx i (by simpa using hi)
def x0m (v:Value):Prop:=∀ a len cap,v=.slice (some a) len cap→a.spot=none
theorem w0g {ro:Ro} {blk:Nat}: ∀ {c:List PL} {vals:List Value} {off:Nat},Hq (PL.den ro) c vals→(∀ j v,vals[j]? =some v→ro blk (off+j)=some v)→PL.denAt ro blk c off
 | [],_,_,_,_=>by rw [PL.denAt];trivial
 |x::c,vals,off,h,hc=>by
   cases h with
   |cons h1 h2=>
     rename_i y m
     rw [PL.denAt]
     refine ⟨⟨y,by simpa using hc 0 y rfl,h1⟩,w0g h2 fun j v hv=>?_⟩
     have:=hc (j+1) v (by simpa using hv)
     rwa [show off+(j+1)=off+1+j from by omega] at this
theorem m0h {ro:Ro} {blk sz:Nat}: ∀ {rows:List (List PL)} {off:Nat},(∀ r∈rows,r.length=sz)→(∀ i r,rows[i]? =some r→PL.denAt ro blk r (off+i*sz))→PL.denRows ro blk sz rows off
 | [],_,_,_=>by rw [PL.denRows];trivial
 |r::rs,off,hl,h=>by
   rw [PL.denRows]
   refine ⟨hl r (by simp),by simpa using h 0 r rfl,m0h (fun r hr=>hl r (by simp [hr])) fun i r' hr=>?_⟩
   have:=h (i+1) r' (by simpa using hr)
   rwa [show off+(i+1)*sz=off+sz+i*sz from by rw [wQ];omega] at this
theorem a0s {ro:Ro}: ∀ {ps:List (List PL)} {vs:List (List Value)},Hq (fun p v=>Hq (PL.den ro) p v) ps vs→Hq (PL.den ro) ps.flatten vs.flatten
 |_,_,.nil=>.nil
 |_,_,.cons h1 h2=>by simpa using h1.append (a0s h2)
theorem Xy {α β:Type} {p:α→β→Prop}: ∀ (l:List α),(∀ x∈l,∃ y,p x y)→∃ ys:List β,Hq p l ys
 | [],_=>⟨[],.nil⟩
 |x::r,h=>by
   obtain ⟨y,hy⟩:=h x (by simp)
   obtain ⟨ys,hys⟩:=Xy r fun z hz=>h z (by simp [hz])
   exact ⟨y::ys,.cons hy hys⟩
theorem Hq.flip {α β:Type} {R:α→β→Prop}: ∀ {l:List α} {m:List β},Hq R l m→Hq (fun b a=>R a b) m l
 |_,_,.nil=>.nil
 |_,_,.cons h1 h2=>.cons h1 h2.flip
theorem b0f {α:Type} (sz:Nat): ∀ (m:Nat) (cs:List α),cs.length=m*sz→((List.range m).map fun i=>(cs.drop (i*sz)).take sz).flatten=cs
 |0,cs,h=>by simp at h;simp [h]
 |m+1,cs,h=>by
   rw [List.range_succ_eq_map,yM,xU,List.map_map]
   have h2:(cs.drop sz).length=m*sz:=by rw [List.length_drop,h,wQ];omega
   have ih:=b0f sz m (cs.drop sz) h2
   have e:(List.range m).map ((fun i=>(cs.drop (i*sz)).take sz)∘Nat.succ)=(List.range m).map fun i=>((cs.drop sz).drop (i*sz)).take sz:=by
    refine List.map_congr_left fun i _=>?_
    simp only [Function.comp_def,List.drop_drop]
    congr 2
    rw [Nat.succ_mul];omega
   rw [e,ih];simp
theorem g0v {n:Nat} (cs:List Value) (hl:cs.length=n): ∀ (fs:List Field) (off:Nat),e0x P fs off n=true→(fs.map fun f=>(cs.drop f.offset).take (P.cellsOf f.type)).flatten=cs.drop off
 | [],off,h=>by
   simp only [e0x,beq_iff_eq] at h
   subst h;subst hl;simp
 |f::fs,off,h=>by
   simp only [e0x,yF,beq_iff_eq] at h
   obtain ⟨h1,h2⟩:=h
   rw [yM,xU,g0v cs hl fs _ h2,h1,←List.drop_drop,List.take_append_drop]
theorem take_len {α:Type} {cs:List α} {a b:Nat} (h:a+b≤cs.length):((cs.drop a).take b).length=b:=by simp;omega
theorem a1w {n:Nat}: ∀ (fs:List Field) (off:Nat),e0x P fs off n=true→∀ f∈fs,f.offset+P.cellsOf f.type≤n
 | [],_,_,f,hf=>by cases hf
 |g::fs,off,h,f,hf=>by
   simp only [e0x,yF,beq_iff_eq] at h
   have hge: ∀ (fs:List Field) (off:Nat),e0x P fs off n=true→off≤n:=by
    intro fs
    induction fs with
    |nil=>intro off h;simp only [e0x,beq_iff_eq] at h;omega
    |cons g fs ih=>intro off h;simp only [e0x,yF,beq_iff_eq] at h;have:=ih _ h.2;omega
   rcases yT.mp hf with rfl|hf
   ·have:=hge _ _ h.2;omega
   exact a1w fs _ h.2 f hf
theorem Hq.map_r {α β γ:Type} {R:α→γ→Prop} {f:β→γ}: ∀ {l:List α} {m:List β},Hq (fun a b=>R a (f b)) l m→Hq R l (m.map f)
 |_,_,.nil=>.nil
 |_,_,.cons h1 h2=>.cons h1 h2.map_r
theorem w1u {G:Nat→TypeId→Bool} (hsp: ∀ (n:Nat) (t:TypeId) (m:Nat) (cs:List Value) (y:DataW H×List MemPlace),DataW.trod enc P w base spare held n t cs=some y→G m t=true→∀ v∈cs,x0m v): ∀ (n:Nat) (t:TypeId) (m:Nat) (cs:List Value) (y:DataW H×List MemPlace),DataW.trod enc P w base spare held n t cs=some y→known P G m t=true→(∀ v∈cs,x0m v)→
 ∃ xs,Sh P m t xs∧xs.length=cs.length∧Hq (PL.den (Va.reads w).ro) xs cs:=by
 intro n
 induction n with
 |zero=>intro t m cs y h;simp [DataW.trod] at h
 |succ n ih=>
   intro t m cs y h hk hv
   cases m with
   |zero=>simp [known] at hk
   |succ m=>
     have hk0:=hk
     unfold known at hk
     split at hk<;>try (cases hk;done)
     ·rename_i ht
      obtain ⟨b,rfl,_⟩:=DataW.trod_bool ht h
      exact ⟨[.b b],by unfold Sh;rw [ht];exact ⟨b,rfl⟩,rfl,.cons (by rw [PL.den]) .nil⟩
     ·rename_i ht
      obtain ⟨k,rfl,_,hwf⟩:=DataW.trod_int ht h
      simp only [Lit.wf,IntKind.min,IntKind.max,IntKind.signed,IntKind.bits,yF,decide_eq_true_eq,if_true] at hwf
      exact ⟨[.i k],by unfold Sh;rw [ht];exact ⟨k,rfl,by omega,by omega⟩,rfl,.cons (by rw [PL.den]) .nil⟩
     ·rename_i ht
      obtain ⟨k,rfl,_,hwf⟩:=DataW.trod_int ht h
      simp only [Lit.wf,IntKind.min,IntKind.max,IntKind.signed,IntKind.bits,yF,decide_eq_true_eq] at hwf
      exact ⟨[.u8 (UInt8.ofNat k.toNat)],by unfold Sh;rw [ht];exact ⟨_,rfl⟩,rfl,.cons (by rw [PL.den];congr 1;simp at hwf ⊢;omega) .nil⟩
     ·rename_i ht
      obtain ⟨k,rfl,_,hwf⟩:=DataW.trod_int ht h
      simp only [Lit.wf,IntKind.min,IntKind.max,IntKind.signed,IntKind.bits,yF,decide_eq_true_eq] at hwf
      exact ⟨[.u32 (UInt32.ofNat k.toNat)],by unfold Sh;rw [ht];exact ⟨_,rfl⟩,rfl,.cons (by rw [PL.den];congr 1;simp at hwf ⊢;omega) .nil⟩
     ·rename_i ht
      obtain ⟨k,rfl,_,hwf⟩:=DataW.trod_int ht h
      simp only [Lit.wf,IntKind.min,IntKind.max,IntKind.signed,IntKind.bits,yF,decide_eq_true_eq] at hwf
      exact ⟨[.u64 (UInt64.ofNat k.toNat)],by unfold Sh;rw [ht];exact ⟨_,rfl⟩,rfl,.cons (by rw [PL.den];congr 1;simp at hwf ⊢;omega) .nil⟩
     ·rename_i ht
      obtain ⟨s,rfl,_,hs⟩:=DataW.trod_string ht h
      have hl:s.data.toList.length=s.size:=wB
      exact ⟨[.str s.data.toList],by unfold Sh;rw [ht];exact ⟨_,rfl,by omega⟩,rfl,.cons (by rw [PL.den];exact ⟨by simp,by omega⟩) .nil⟩
     ·rename_i e ht
      simp only [yF,beq_iff_eq] at hk
      rcases DataW.trod_slice ht h with ⟨rfl,_⟩|⟨a,len,cap,elems,rest,n',hn,rfl,_,hb,hl,hm,hel,hi,_⟩
      ·exact ⟨[.R false (P.cellsOf e) []],by unfold Sh;rw [ht];exact ⟨[],rfl,fun r hr=>(by cases hr),yP _⟩,rfl,.cons (by rw [PL.den];exact .inl ⟨rfl,rfl⟩) .nil⟩
      cases hn
      have hsa:=hv _ (by simp) a len cap rfl
      obtain ⟨blk,off,sp⟩:=a
      simp only at hsa;subst hsa
      have each: ∀ i∈List.range len,∃ r:List PL,Sh P m e r∧r.length=P.cellsOf e∧PL.denAt (Va.reads w).ro blk r (off+i*P.cellsOf e):=by
       intro i hi'
       have hlt:i<len:=by simpa using hi'
       have h1:=hi i hlt
       have:i<elems.length:=by omega
       rw [yX this] at h1
       obtain ⟨cs',hc,ht'⟩:=Option.bind_eq_some_iff.mp h1
       obtain ⟨_,hcl,hcc⟩:=World.cells?_some hc
       have hcell: ∀ j v,cs'[j]? =some v→w.cell? ⟨blk,off+i*P.cellsOf e+j,none⟩=some v:=by
        intro j v hj
        have hj':j<P.cellsOf e:=by
         have:=(wF.mp hj).1;omega
        have:=hcc j hj'
        rw [hj] at this
        rw [←this]
        congr 1
        rw [addr_add,addr_add]
       obtain ⟨xs,hx1,hx2,hx3⟩:=ih e m cs' _ ht' hk.2.2 (hsp _ e m cs' _ ht' hk.2.1)
       exact ⟨xs,hx1,by omega,w0g hx3 fun j v hj=>hcell j v hj⟩
      obtain ⟨rows,hrows⟩:=Xy _ each
      have hlen:rows.length=len:=by have:=hrows.length;simpa using this.symm
      have hget: ∀ i r,rows[i]? =some r→Sh P m e r∧r.length=P.cellsOf e∧PL.denAt (Va.reads w).ro blk r (off+i*P.cellsOf e):=by
       intro i r hr
       obtain ⟨j,hj,hp⟩:=hrows.flip.get hr
       have hil:i<len:=by
        have:=(wF.mp hr).1;omega
       rw [List.getElem?_range hil] at hj
       cases hj;exact hp
      refine ⟨[.R false (P.cellsOf e) rows],?_,rfl,.cons ?_ .nil⟩
      ·unfold Sh;rw [ht]
       refine ⟨rows,rfl,fun r hr=>?_,by omega⟩
       obtain ⟨i,hi'⟩:=wH.mp hr
       exact ⟨(hget i r hi').1,(hget i r hi').2.1⟩
      rw [PL.den]
      refine .inr (.inl ⟨blk,off,cap,by rw [hlen],by omega,hm,fun h=>(by cases h),m0h (fun r hr=>?_) fun i r hr=>(hget i r hr).2.2⟩)
      obtain ⟨i,hi'⟩:=wH.mp hr
      exact (hget i r hi').2.1
     ·rename_i fs ht
      simp only [yF,yI] at hk
      obtain ⟨xs,n',hn,_,hl,hxs,hf⟩:=DataW.trod_struct ht h
      cases hn
      have each: ∀ f∈fs.toList,∃ r:List PL,(Sh P m f.type r∧r.length=P.cellsOf f.type)∧Hq (PL.den (Va.reads w).ro) r ((cs.drop f.offset).take (P.cellsOf f.type)):=by
       intro f hf'
       obtain ⟨i,hi⟩:=wH.mp hf'
       rw [wW] at hi
       have h1:=hf i f hi
       have hi2:i<xs.length:=by rw [hxs];exact (Array.getElem?_eq_some_iff.mp hi).1
       rw [yX hi2] at h1
       obtain ⟨ys,hy1,hy2,hy3⟩:=ih f.type m _ _ h1 (hk.2 f hf') (fun v hv'=>hv v (List.mem_of_mem_drop (List.mem_of_mem_take hv')))
       have hle:=a1w _ _ hk.1 f hf'
       exact ⟨ys,⟨hy1,by rw [hy2,take_len (by omega)]⟩,hy3⟩
      obtain ⟨ps,hps⟩:=Xy _ each
      have hfl:=g0v cs hl fs.toList 0 hk.1
      rw [List.drop_zero] at hfl
      have hall:Hq (PL.den (Va.reads w).ro) ps.flatten cs:=by
       rw [←hfl]
       refine a0s (Hq.map_r ?_)
       exact hps.flip.mono fun p f _ h=>h.2
      exact ⟨ps.flatten,by unfold Sh;rw [ht];exact ⟨ps,rfl,hps.mono fun f p _ h=>h.1⟩,hall.length,hall⟩
     rename_i k e ht
     simp only [yF,beq_iff_eq] at hk
     obtain ⟨n',hn,hl,hi⟩:=trod_array ht h
     cases hn
     have each: ∀ i∈List.range k,∃ r:List PL,(Sh P m e r∧r.length=P.cellsOf e)∧Hq (PL.den (Va.reads w).ro) r ((cs.drop (i*P.cellsOf e)).take (P.cellsOf e)):=by
      intro i hi'
      have hlt:i<k:=by simpa using hi'
      obtain ⟨y',hy'⟩:=hi i hlt
      obtain ⟨ys,hy1,hy2,hy3⟩:=ih e m _ _ hy' hk.2 (fun v hv'=>hv v (List.mem_of_mem_drop (List.mem_of_mem_take hv')))
      have hle:i*P.cellsOf e+P.cellsOf e≤cs.length:=by
       rw [hl,hk.1]
       have:(i+1)*P.cellsOf e≤k*P.cellsOf e:=wP _ hlt
       rw [wQ] at this;omega
      exact ⟨ys,⟨hy1,by rw [hy2,take_len hle]⟩,hy3⟩
     obtain ⟨ps,hps⟩:=Xy _ each
     have hfl:=b0f (P.cellsOf e) k cs (by rw [hl,hk.1])
     have hall:Hq (PL.den (Va.reads w).ro) ps.flatten cs:=by
      rw [←hfl]
      refine a0s (Hq.map_r ?_)
      exact hps.flip.mono fun p f _ h=>h.2
     refine ⟨ps.flatten,?_,hall.length,hall⟩
     unfold Sh;rw [ht]
     refine ⟨ps,rfl,by have:=hps.length;simpa using this.symm,fun p hp=>?_⟩
     obtain ⟨i,hi'⟩:=wH.mp hp
     obtain ⟨j,_,hj⟩:=hps.flip.get hi'
     exact hj.1
end
section
variable {P:Program}
theorem e2k {n:Nat} {t:TypeId} {cs:List PL} (h:Sh P n t cs) (ht:P.underlying t=some .bool): ∃ b,cs=[.b b]:=by
 cases n with
 |zero=>exact h.elim
 |succ n=>unfold Sh at h;rw [ht] at h;exact h
theorem m1d {n:Nat} {t:TypeId} {cs:List PL} (h:Sh P n t cs) (ht:P.underlying t=some (.int .i64)): ∃ k:Int,cs=[.i k]∧ -9223372036854775808≤k∧k≤9223372036854775807:=by
 cases n with
 |zero=>exact h.elim
 |succ n=>unfold Sh at h;rw [ht] at h;exact h
theorem k2l {n:Nat} {t:TypeId} {cs:List PL} (h:Sh P n t cs) (ht:P.underlying t=some .string): ∃ s,cs=[.str s]∧s.length≤maxLen:=by
 cases n with
 |zero=>exact h.elim
 |succ n=>unfold Sh at h;rw [ht] at h;exact h
theorem g0y {n:Nat} {t e:TypeId} {cs:List PL} (h:Sh P n t cs) (ht:P.underlying t=some (.slice e)): ∃ (rows:List (List PL)) (m:Nat),cs=[.R false (P.cellsOf e) rows]∧(∀ r∈rows,Sh P m e r)∧rows.length≤maxLen:=by
 cases n with
 |zero=>exact h.elim
 |succ n=>unfold Sh at h;rw [ht] at h;obtain ⟨rows,h1,h2,h3⟩:=h;exact ⟨rows,n,h1,fun r hr=>(h2 r hr).1,h3⟩
theorem m1c {n:Nat} {t:TypeId} {fs:Array Field} {cs:List PL} (h:Sh P n t cs) (ht:P.underlying t=some (.struct fs)): ∃ (ps:List (List PL)) (m:Nat),cs=ps.flatten∧Hq (fun (f:Field) p=>Sh P m f.type p) fs.toList ps:=by
 cases n with
 |zero=>exact h.elim
 |succ n=>unfold Sh at h;rw [ht] at h;obtain ⟨ps,h1,h2⟩:=h;exact ⟨ps,n,h1,h2.mono fun f p _ h=>h.1⟩
theorem v1y {n k:Nat} {t e:TypeId} {cs:List PL} (h:Sh P n t cs) (ht:P.underlying t=some (.array k e)): ∃ (ps:List (List PL)) (m:Nat),cs=ps.flatten∧ps.length=k∧∀ p∈ps,Sh P m e p:=by
 cases n with
 |zero=>exact h.elim
 |succ n=>unfold Sh at h;rw [ht] at h;obtain ⟨ps,h1,h2,h3⟩:=h;exact ⟨ps,n,h1,h2,fun p hp=>(h3 p hp).1⟩
theorem c1p {d:Va}: ∀ {xs:List PL} {vs:List Value},Hq (PL.den d.ro) xs vs→Hq (L.den d) (pls xs) vs
 |_,_,.nil=>.nil
 |_,_,.cons h1 h2=>.cons h1 (c1p h2)
end
section
variable {H:Type} {enc:TypeId×Value→H} {P:Program} {w:World} {base:Nat} {spare:Nat→Bool} {held:Bool}
def i1u (P:Program):Nat→TypeId→Bool
 |0,_=>false
 |n+1,t=>match P.underlying t with
   |some .bool|some (.int _)|some .string=>true
   |some (.struct fs)=>e0x P fs.toList 0 (P.cellsOf t)&&fs.toList.all fun f=>i1u P n f.type
   |some (.array m e)=>P.cellsOf t==m*P.cellsOf e&&i1u P n e
   |_=>false
theorem k1h : ∀ (n:Nat) (t:TypeId) (m:Nat) (cs:List Value) (y:DataW H×List MemPlace),DataW.trod enc P w base spare held n t cs=some y→i1u P m t=true→∀ v∈cs,x0m v:=by
 intro n
 induction n with
 |zero=>intro t m cs y h;simp [DataW.trod] at h
 |succ n ih=>
   intro t m cs y h hk
   cases m with
   |zero=>simp [i1u] at hk
   |succ m=>
     unfold i1u at hk
     split at hk<;>try (cases hk;done)
     ·rename_i ht
      obtain ⟨b,rfl,_⟩:=DataW.trod_bool ht h
      intro v hv a len cap e;simp at hv;subst hv;cases e
     ·rename_i k ht
      obtain ⟨b,rfl,_⟩:=DataW.trod_int ht h
      intro v hv a len cap e;simp at hv;subst hv;cases e
     ·rename_i ht
      obtain ⟨b,rfl,_⟩:=DataW.trod_string ht h
      intro v hv a len cap e;simp at hv;subst hv;cases e
     ·rename_i fs ht
      simp only [yF,yI] at hk
      obtain ⟨xs,n',hn,_,hl,hxs,hf⟩:=DataW.trod_struct ht h
      cases hn
      have hfl:=g0v cs hl fs.toList 0 hk.1
      rw [List.drop_zero] at hfl
      intro v hv
      rw [←hfl] at hv
      obtain ⟨p,hp,hv⟩:=List.mem_flatten.mp hv
      obtain ⟨f,hf',rfl⟩:=yY.mp hp
      obtain ⟨i,hi⟩:=wH.mp hf'
      rw [wW] at hi
      have h1:=hf i f hi
      have hi2:i<xs.length:=by rw [hxs];exact (Array.getElem?_eq_some_iff.mp hi).1
      rw [yX hi2] at h1
      exact ih f.type m _ _ h1 (hk.2 f hf') v hv
     rename_i k e ht
     simp only [yF,beq_iff_eq] at hk
     obtain ⟨n',hn,hl,hi⟩:=trod_array ht h
     cases hn
     have hfl:=b0f (P.cellsOf e) k cs (by rw [hl,hk.1])
     intro v hv
     rw [←hfl] at hv
     obtain ⟨p,hp,hv⟩:=List.mem_flatten.mp hv
     obtain ⟨i,hi',rfl⟩:=yY.mp hp
     obtain ⟨y',hy'⟩:=hi i (by simpa using hi')
     exact ih e m _ _ hy' hk.2 v hv
theorem w1t {sz:Nat} {t:TypeId} {v:Value} {d:DataW H} {p:List MemPlace} {b0:Nat} (m:Nat) (hv:Value.okWide P w .any b0 t v) (hk:known P (i1u P) m t=true) (hs:P.cellsOf t=sz) (hts:(match P.underlying t with
 |some (.struct _)|some (.array _ _)=>(match P.cellTypes P.depth t with
   |some ts=>ts.length==sz&&sz !=0&&ts.all fun u=>match P.underlying u with
     |some (.slice _)|some .bool|some (.int _)|some .string=>true
     |_=>false
   |none=>false)
 |some (.slice _)|some .bool|some (.int _)|some .string=>true
 |_=>false)=true) (h:DataW.Trod enc P w base spare held t v d p):
 ∃ xs:List PL,Sh P m t xs∧(V.w (match P.underlying t with
  |some (.struct _)|some (.array _ _)=>.agg (pls xs)
  |_=>.one (.pl (xs.headD .u)))).den (Va.reads w) v:=by
 obtain ⟨fuel,hf⟩:=h
 have hcell: ∀ (u:TypeId) (c:Value),Cell.okWide P w .any b0 u c→(match P.underlying u with
  |some (.slice _)|some .bool|some (.int _)|some .string=>true
  |_=>false)=true→x0m c:=by
  intro u c hc hu a len cap e
  subst e
  unfold Cell.okWide at hc
  cases hund:P.underlying u with
  |none=>rw [hund] at hu;cases hu
  |some d=>
    rw [hund] at hc hu
    cases d<;>first
     |(cases hu;done)
     |(simp only [Cell.ok,hund] at hc;done)
     |(simp only [Cell.ok,hund] at hc;exact hc.2.2.2.1)
 have hspot: ∀ c∈v.cells.toList,x0m c:=by
  unfold Value.okWide at hv
  split at hv
  ·rename_i fs ht
   obtain ⟨cs,rfl,hcs,ts,hct,_,hcc⟩:=hv
   rw [ht,hct] at hts
   simp only [yF,beq_iff_eq,yI] at hts
   intro c hc
   obtain ⟨i,hi⟩:=wH.mp hc
   have hi':cs[i]? =some c:=by rw [←wW];exact hi
   obtain ⟨u,hu,hok⟩:=hcc i c hi'
   exact hcell u c hok (hts.2 u (wR hu))
  ·rename_i k e ht
   obtain ⟨cs,rfl,hcs,ts,hct,_,hcc⟩:=hv
   rw [ht,hct] at hts
   simp only [yF,beq_iff_eq,yI] at hts
   intro c hc
   obtain ⟨i,hi⟩:=wH.mp hc
   have hi':cs[i]? =some c:=by rw [←wW];exact hi
   obtain ⟨u,hu,hok⟩:=hcc i c hi'
   exact hcell u c hok (hts.2 u (wR hu))
  rename_i hn1 hn2
  have hq:(match P.underlying t with
   |some (.slice _)|some .bool|some (.int _)|some .string=>true
   |_=>false)=true:=by
   split at hts
   ·rename_i fs ht;exact absurd ht (hn1 fs)
   ·rename_i k e ht;exact absurd ht (hn2 k e)
   all_goals simp_all
  intro c hc
  have hone:v.cells= #[v]:=by
   cases v<;>first|rfl|(exfalso;unfold Cell.okWide at hv;cases hu:P.underlying t with
    |none=>rw [hu] at hq;cases hq
    |some d=>rw [hu] at hv hq;cases d<;>first|(cases hq;done)|(simp [Cell.ok,hu] at hv))
  rw [hone] at hc
  simp at hc;subst hc
  exact hcell t c hv hq
 obtain ⟨xs,h1,h2,h3⟩:=w1u (fun n t m cs y h1 h2=>k1h n t m cs y h1 h2) fuel t m _ _ hf hk hspot
 refine ⟨xs,h1,?_⟩
 have hd:=c1p (d:=Va.reads w) h3
 unfold Value.okWide at hv
 split at hv
 ·rename_i fs ht
  obtain ⟨cs,rfl,_⟩:=hv
  rw [ht]
  exact ⟨cs,rfl,hd⟩
 ·rename_i k e ht
  obtain ⟨cs,rfl,_⟩:=hv
  rw [ht]
  exact ⟨cs,rfl,hd⟩
 rename_i hn1 hn2
 have hq:(match P.underlying t with
  |some (.slice _)|some .bool|some (.int _)|some .string=>true
  |_=>false)=true:=by
  split at hts
  ·rename_i fs ht;exact absurd ht (hn1 fs)
  ·rename_i k e ht;exact absurd ht (hn2 k e)
  all_goals simp_all
 have hone:v.cells= #[v]:=by
  cases v<;>first|rfl|(exfalso;unfold Cell.okWide at hv;cases hu:P.underlying t with
   |none=>rw [hu] at hq;cases hq
   |some d=>rw [hu] at hv hq;cases d<;>first|(cases hq;done)|(simp [Cell.ok,hu] at hv))
 rw [hone] at hd
 have: ∃ x,xs=[x]∧L.den (Va.reads w) (.pl x) v:=by
  cases xs with
  |nil=>cases hd
  |cons x r=>
    cases hd with
    |cons g1 g2=>
      cases r with
      |nil=>exact ⟨x,rfl,g1⟩
      |cons _ _=>cases g2
 obtain ⟨x,rfl,hx⟩:=this
 split
 ·rename_i fs ht;exact absurd ht (hn1 fs)
 ·rename_i k e ht;exact absurd ht (hn2 k e)
 exact hx
end
end Go.Sy
namespace Go.Sy
def St.dropE (ks:List Nat) (S:St):St:=⟨fgt ks S.env,S.mem⟩
theorem Kj {P:Program} {B:Base} {Q:Exit→St→Prop} {S:St} {x:Code} (ks:List Nat) (h:HT P B x (S.dropE ks) Q):HT P B x S Q:=by
 refine HT.le (fun d a w hs=>⟨d,?_⟩) h
 exact ⟨hs.defers,hs.nt,fun n v hv=>hs.env n v (b0d hv),hs.mem,hs.inj,hs.own,hs.ro,hs.old,hs.os,hs.tape,hs.output,hs.size,hs.block,hs.gat,hs.glob,hs.fix,hs.fxn,hs.mp⟩
theorem Lx (ks:List Nat) (e:List (Nat×V)) (m:List (Nat×Ob)):St.dropE ks ⟨e,m⟩=⟨fgt ks e,m⟩:=rfl
theorem Oq {α:Type} (ks:List Nat):fgt ks ([]:List (Nat×α))=[]:=rfl
theorem Kk {α:Type} (ks:List Nat) (n:Nat) (v:α) (r:List (Nat×α)):fgt ks ((n,v)::r)=if ks.contains n=true then fgt ks r else (n,v)::fgt ks r:=rfl
attribute [go_sem] y0j y0k h2n n2c f2y g2a g2b f2z l2r l2t l2s l2u nsC j2y k2a j2z k2b j1u a0z p0p i2v b2g b2p e0i gslot Eff.free j2h l2x o2l Op.operands Call.operands Nat.reduceBneDiff bne_self_eq_false Option.toArray List.append_toArray List.toList_toArray Array.append_empty Array.empty_append
end Go.Sy
namespace Go.Sy
end Go.Sy
namespace Go.Sy
def Told (R:V→List (Nat×Ob)→Prop) (v:V) (m:List (Nat×Ob)):Prop:=
 ∃ v' m',(∀ (B:Base) d y w,B.nt=0→v.den d y→k0y B d m w→∃ d',v'.den d' y∧k0y B d' m' w)∧R v' m'
theorem CtM.told {P:Program} {f:FuncId} {args:List V} {ms:List (Nat×Ob)} {R:V→List (Nat×Ob)→Prop} (h:CtM P f args ms (Told R)):CtM P f args ms R:=by
 intro w d vals hm hargs
 refine (h w d vals hm hargs).mono fun e w' ⟨y,v,d',m',h1,⟨v2,m2,h2,h3⟩,h4,h5⟩=>?_
 obtain ⟨d2,h6,h7⟩:=h2 _ d' y w' rfl h4 h5
 exact ⟨y,v2,d2,m2,h1,h3,h6,h7⟩
theorem Ct.told {P:Program} {f:FuncId} {args:List V} {R:V→List (Nat×Ob)→Prop} (h:Ct P f args (Told R)):Ct P f args R:=by
 intro w d vals hro hg hargs
 refine (h w d vals hro hg hargs).mono fun e w' ⟨y,v,d',m',h1,⟨v2,m2,h2,h3⟩,h4,h5⟩=>?_
 obtain ⟨d2,h6,h7⟩:=h2 _ d' y w' rfl h4 h5
 exact ⟨y,v2,d2,m2,h1,h3,h6,h7⟩
section
variable {R:V→List (Nat×Ob)→Prop} {v v':V} {m m':List (Nat×Ob)}
theorem p0d (hw: ∀ d y,v.den d y→v'.den d y) (h:Told R v' m):Told R v m:=by
 obtain ⟨v2,m2,h1,h2⟩:=h
 exact ⟨v2,m2,fun B d y w hb hv hm=>h1 B d y w hb (hw d y hv) hm,h2⟩
theorem b0n (k:Nat) {b:Rw} (c:List PL) (hk:look m k=some ⟨b,pls c⟩) (hl:k<500000) (h:Told R (s0i k c v) (j0s k c m)):Told R v m:=by
 obtain ⟨v2,m2,h1,h2⟩:=h
 refine ⟨v2,m2,fun B d y w hb hv hm=>?_,h2⟩
 obtain ⟨a,hs⟩:=hm
 exact h1 B _ y w hb (x0r hs hk rfl (wZ hl b0c) hv) ⟨a,hs.sealed hk rfl hl⟩
theorem p0e (h:Tidy R v m):Told R v m:=by
 obtain ⟨g,v2,m2,h1,h2,h3⟩:=h
 subst h1
 exact ⟨v2,m2,fun B d y w hb hv hm=>⟨d.via g,V.den_via hv,hm.tidy h2⟩,h3⟩
end
def n1d :W→Bool
 | .one (.pl _)=>true
 | .one _=>false
 | .agg cs=>cs.all fun l=>match l with
   | .pl _=>true
   |_=>false
def q0a :V→Bool
 | .w x=>n1d x
 | .tup xs=>xs.all n1d
 | .any=>true
theorem p0z {g:Nat→Nat}: ∀ {v:V},q0a v=true→v.ren g=v:=by
 have hl: ∀ cs:List L,(cs.all fun l=>match l with| .pl _=>true|_=>false)=true→cs.map (L.ren g)=cs:=by
  intro cs h
  induction cs with
  |nil=>rfl
  |cons x r ih=>
    simp only [wN,yF] at h
    rw [yM,ih h.2]
    cases x<;>first|rfl|(cases h.1)
 have hw: ∀ x:W,n1d x=true→x.ren g=x:=by
  intro x h
  cases x with
  |one l=>cases l<;>first|rfl|(cases h)
  |agg cs=>simp only [W.ren];rw [hl cs h]
 intro v h
 cases v with
 |w x=>simp only [V.ren];rw [hw x h]
 |tup xs=>
   simp only [V.ren]
   congr 1
   simp only [q0a,yI] at h
   induction xs with
   |nil=>rfl
   |cons x r ih=>rw [yM,hw x (h x (by simp)),ih fun y hy=>h y (by simp [hy])]
 |any=>rfl
theorem told_plain {R:V→List (Nat×Ob)→Prop} {v:V} {m:List (Nat×Ob)} (hp:q0a v=true) (h:R v []):Told R v m:=
 p0e ⟨fun k=>k,v,[],(p0z hp).symm,.empty,h⟩
end Go.Sy
namespace Go.Sy
end Go.Sy
namespace Go.Sy
theorem e2z (g:Nat→Nat) (c:List PL):(pls c).map (L.ren g)=pls c:=by simp [pls,L.ren,Function.comp_def]
theorem L.ren_id (l:L):l.ren (fun k=>k)=l:=by cases l<;>simp [L.ren]
theorem s0p {m m2:List (Nat×Ob)} (h: ∀ k o,look m2 k=some o→look m k=some o):Within (fun k=>k) m2 m:=
 ⟨fun k o hk=>by rw [h k o hk];congr 1;cases o;simp only [Ob.mk.injEq,true_and];exact (List.map_id'' L.ren_id _).symm,fun _ _ _ _ h=>h,fun _ h=>h,fun _ _=>rfl⟩
theorem Av {R:V→List (Nat×Ob)→Prop} {v:V} {m m2:List (Nat×Ob)} (hp:q0a v=true) (hm: ∀ k o,look m2 k=some o→look m k=some o) (h:R v m2):Told R v m:=
 p0e ⟨fun k=>k,v,m2,(p0z hp).symm,s0p hm,h⟩
theorem Bz {m:List (Nat×Ob)} {j:Nat} {o0:Ob} (h:look m j=some o0): ∀ k o,look [(j,o0)] k=some o→look m k=some o:=by
 intro k o hk
 simp only [look] at hk
 split at hk
 ·rename_i e;cases hk;rw [e];exact h
 cases hk
section
variable {P:Program} {B:Base} {ds:List (Option Tmp)} {r:List Oper} {S:St} {K:St→Prop}
theorem p2p (j:Nat) (o:Oper):Ck (some true) j true P B ds o r S K=Bv P B ds (⟨o.dst,o.op,o.type,o.pos,o.after,none⟩::r) (u0q S ds j true) K:=by rw [d0y];simp
theorem p2s (j:Nat) (o:Oper):Ck (some false) j false P B ds o r S K=Bv P B ds (⟨o.dst,o.op,o.type,o.pos,o.after,none⟩::r) (u0q S ds j false) K:=by rw [d0y];simp
theorem p2q (j:Nat) (o:Oper):Ck (some true) j false P B ds o r S K=Tj ((u0q S ds j true).put B.nt o.dst (.tup [])) P B ds r K:=by rw [d0y];simp
theorem p2r (j:Nat) (o:Oper):Ck (some false) j true P B ds o r S K=Tj ((u0q S ds j false).put B.nt o.dst (.tup [])) P B ds r K:=by rw [d0y];simp
end
section
variable {P:Program} {nt:Nat} {names:List Nat} {ds:List (Option Tmp)} {keep:Bool} {o:Oper} {N:List Nat} {D:List Da} {S:St} {k:List Nat→List Da→St→Prop}
theorem q2b (j:Nat):onG P nt names ds keep o (j,true) N D S k (some true)=onO P nt names ds keep o N D S k:=by rw [y0e];simp
theorem q2e (j:Nat):onG P nt names ds keep o (j,false) N D S k (some false)=onO P nt names ds keep o N D S k:=by rw [y0e];simp
theorem q2c (j:Nat):onG P nt names ds keep o (j,false) N D S k (some true)=(j0b nt o.dst∧k N (D++bif keep then [⟨.val (.tup []),(gslot ds o).filterMap S.get,[]⟩] else []) ((Eff.val (.tup [])).on o.dst S)):=by rw [y0e];simp
theorem q2d (j:Nat):onG P nt names ds keep o (j,true) N D S k (some false)=(j0b nt o.dst∧k N (D++bif keep then [⟨.val (.tup []),(gslot ds o).filterMap S.get,[]⟩] else []) ((Eff.val (.tup [])).on o.dst S)):=by rw [y0e];simp
end
attribute [go_sem high] p2p p2s p2q p2r q2b q2e q2c q2d
attribute [go_sem] m0j
end Go.Sy
namespace Go.Sy
section
variable {k j:Nat} {c:List PL}
end
end Go.Sy
namespace Go.Sy
section
variable {H:Type} {enc:TypeId×Value→H} {P:Program} {w w2:World} {base:Nat} {spare:Nat→Bool} {held:Bool}
end
end Go.Sy
namespace Go.Sy
section
variable {P:Program}
end
end Go.Sy
namespace Go.Sy
section
variable {H:Type} {enc:TypeId×Value→H} {P:Program}
end
end Go.Sy
namespace Go.Sy
section
variable {P:Program} {B:Base} {S:St} {Q:Exit→St→Prop}
theorem a1v {c:Code} (h: ∀ Z:Exit→St→Prop,(∀ e S',Q e S'→Z e S')→HT P B c S Z):HT P B c S Q:=h Q fun _ _ h=>h
theorem l0n {id:Nat} {l:List Oper} {y:Code} (h: ∀ K:St→Prop,(∀ S',HT P B y S' Q→K S')→Bv P B (f0f l) l S K):HT P B (.seq (.region id l.toArray false) y) S Q:=
 a0m fun N M hN hM=>Jv fun K hK=>h K fun S' hy=>hK S' (hN S' hy)
theorem o2j {id:Nat} {l:List Oper} {y:Code} (names c:List Nat) (need:List (Nat×Nat)) (hm:P.follows .mixedOrders=true) (hst:k0p (f0f l) c need l=true)
 (hn:names.all (fun k=>fresh k S&&(look S.mem k).isNone)=true)
 (h: ∀ K:St→List Da→Prop,(∀ S' D,z0v l D need→HT P B y S' Q→K S' D)→Rj P B.nt names (f0f l) (!need.isEmpty) l [] [] S K):HT P B (.seq (.region id l.toArray true) y) S Q:=
 a0m fun N M hN hM=>q1j names c need hm hst hn fun K hK=>h K fun S' D hd hy=>hK S' D hd (hN S' hy)
theorem Xz {c:Operand} {x y:Code} (hc:S.get c=some (.w (.one (.pl (.b true))))) (h:HT P B x S Q):HT P B (.cond c x y) S Q:=c2q hc (fun _=>h) (fun e=>by cases e)
theorem Rv {c:Operand} {x y:Code} (hc:S.get c=some (.w (.one (.pl (.b false))))) (h:HT P B y S Q):HT P B (.cond c x y) S Q:=c2q hc (fun e=>by cases e) (fun _=>h)
end
end Go.Sy
namespace Go.Sy
section
variable {P:Program}
end
end Go.Sy
namespace Go.Sy
section
variable {P:Program} {B:Base} {Q:Exit→St→Prop} {S:St} {x y:Code}
end
attribute [go_sem] b0z z0r z0t k0q n0j Sq n0e Xq Kv Tw c0x Pj Mj c0t Rx okN c0h inv Ux Sz nameOut Ob.ren V.ren W.ren L.ren a0c
end Go.Sy
namespace Go.Sy
def CH (vw:Bool) (hd:Hand) (P:Program) (f:FuncId) (args:List V) (m:List (Nat×Ob)) (R:V→List (Nat×Ob)→Prop):Prop:=CtM P f args m R
def CF (caps:List Nat) (vw:Bool) (hd:Hand):Prop:=True
theorem Ct.cv {P:Program} {f:FuncId} {args:List V} {T:V→Prop} (h:Ct P f args fun v _=>T v):Ct P f args fun v m=>T v∧m=[]:=h.plain fun _ _ h=>h
theorem CtM.ch {P:Program} {f:FuncId} {args:List V} {m:List (Nat×Ob)} {R:V→List (Nat×Ob)→Prop} (hd:Hand) (h:CtM P f args m R) (vw:Bool:=false):CH vw hd P f args m R:=h
theorem CF.mk (caps:List Nat) (hd:Hand) (vw:Bool:=false):CF caps vw hd:=trivial
section
variable {P:Program} {B:Base} {S:St} {K:St→Prop} {dst:Option Tmp} {ty:TypeId} {pos:String} {af:Array Edge} {f:FuncId} {args:List Operand} {ts:Array TypeId} {ds:List (Option Tmp)} {r:List Oper} {vs:List V} {m:List (Nat×Ob)} {R:V→List (Nat×Ob)→Prop}
theorem Nk (hgo: ∀ vals w,(callFunc f vals).run P w=.ok (.enter f vals) w) (hargs:Vw S args=some vs) (hc:Ct P f vs R) (hK: ∀ v m,R v m→f0r m v=true∧c0f (fun k=>k) S.env m S.mem=true∧(match dst with
 |some n=>n<B.nt∧Bv P B ds r ⟨(n,v.ren (fun k=>k))::S.env,adopt (fun k=>k) m S.mem⟩ K
 |none=>Bv P B ds r ⟨S.env,adopt (fun k=>k) m S.mem⟩ K)):
 Cj P B ⟨dst,.call ⟨.value (.func f),args.toArray,ts⟩,ty,pos,af,none⟩ S ds r K:=Wx (fun k=>k) hgo hargs hc hK
theorem Uy {vw:Bool} {hd:Hand} (hgo: ∀ vals w,(callFunc f vals).run P w=.ok (.enter f vals) w) (hargs:Sq vw S hd args=some vs) (hok:s1h hd=true) (hm:Pj S hd m) (hc:CH vw hd P f vs m R)
 (hK: ∀ v m',R v m'→Mj vw m' v=true∧c0h vw (fun k=>k) hd S m m' m'∧hd.all (fun x=>(look m' x.1).isSome)=true∧(match dst with
  |some n=>n<B.nt∧Bv P B ds r ⟨(n,v.ren (Sz (fun k=>k) hd))::S.env,Ux (fun k=>k) hd m' S.mem⟩ K
  |none=>Bv P B ds r ⟨S.env,Ux (fun k=>k) hd m' S.mem⟩ K)):
 Cj P B ⟨dst,.call ⟨.value (.func f),args.toArray,ts⟩,ty,pos,af,none⟩ S ds r K:=Iq vw hd (fun k=>k) hgo hargs hok hm hc hK
theorem Ww {vw:Bool} {hd:Hand} {t:Tmp} {caps ks:List Nat} (hfn:S.get (.tmp t)=some (.w (.one (.fn f caps)))) (hcaps:c0x hd caps=some ks) (hgo: ∀ vals w,(callFunc f vals).run P w=.ok (.enter f vals) w) (hargs:Sq vw S hd args=some vs) (hok:s1h hd=true) (hm:Pj S hd m) (hx:CF caps vw hd) (hc:CtM P f (vs++ks.map fun k=>.w (.one (.p k []))) m R)
 (hK: ∀ v m',R v m'→Mj vw m' v=true∧c0h vw (fun k=>k) hd S m m' m'∧hd.all (fun x=>(look m' x.1).isSome)=true∧(match dst with
  |some n=>n<B.nt∧Bv P B ds r ⟨(n,v.ren (Sz (fun k=>k) hd))::S.env,Ux (fun k=>k) hd m' S.mem⟩ K
  |none=>Bv P B ds r ⟨S.env,Ux (fun k=>k) hd m' S.mem⟩ K)):
 Cj P B ⟨dst,.call ⟨.value (.tmp t),args.toArray,ts⟩,ty,pos,af,none⟩ S ds r K:=a0w vw hd (fun k=>k) hfn hcaps hgo hargs hok hm hc hK
end
section
variable {P:Program} {B:Base} {c:Code} {S:St} {Q:Exit→St→Prop}
theorem HT.w (h : HT P B c S Q := by
    repeat (first
      | refine zhK _ ?_
      | (refine zhN _ ?_; clear zhN zhM)
      | (refine zhM _ _ ?_; clear zhN zhM)
      | (refine zbn _ ?_; clear zbn zbx zbr zbi)
      | (refine zbx _ ?_; clear zbn zbx zbr zbi)
      | (refine zbr _ ?_; clear zbn zbx zbr zbi)
      | (refine zbi _ _ ?_ ?_; focus (decide); clear zbn zbx zbr zbi)
      | (refine zhZ _ _ ?_; (try simp only [go_sem, F0]); (all_goals (first | rfl | exact ⟨rfl, rfl⟩ | exact told_plain rfl ⟨rfl, rfl⟩ | exact Av rfl (Bz (by simp [look, F0])) ⟨rfl, rfl⟩ | exact zE | exact zE _ | (rw [zE]; done) | (simp [F0]; done) | exact zE _ (by first | rfl | (simp [look, F0]; done)))))
      | (refine zL _ ?_ ?_; all_goals (simp only [go_sem, leX, yC, yD, F0]; try simp))
      | (refine l0n fun zK zhK => ?_; (try simp only [go_sem, F0]); (repeat' (first | apply yA | intro _)))
      | (refine Jv fun zK zhK => ?_; (try simp only [go_sem, F0]); (repeat' (first | apply yA | intro _)))
      | ((first | (refine Nk (fun _ _ => rfl) ?_ cv0 ?_; focus (first | rfl | (simp only [go_sem, F0] <;> rfl))) | (refine Nk (fun _ _ => rfl) ?_ cv1 ?_; focus (first | rfl | (simp only [go_sem, F0] <;> rfl))) | (refine Nk (fun _ _ => rfl) ?_ cv2 ?_; focus (first | rfl | (simp only [go_sem, F0] <;> rfl))) | (refine Nk (fun _ _ => rfl) ?_ cv3 ?_; focus (first | rfl | (simp only [go_sem, F0] <;> rfl))) | (refine Nk (fun _ _ => rfl) ?_ cv4 ?_; focus (first | rfl | (simp only [go_sem, F0] <;> rfl))) | (refine Nk (fun _ _ => rfl) ?_ cv5 ?_; focus (first | rfl | (simp only [go_sem, F0] <;> rfl))) | (refine Nk (fun _ _ => rfl) ?_ cv6 ?_; focus (first | rfl | (simp only [go_sem, F0] <;> rfl))) | (refine Nk (fun _ _ => rfl) ?_ cv7 ?_; focus (first | rfl | (simp only [go_sem, F0] <;> rfl))) | (refine Nk (fun _ _ => rfl) ?_ cv8 ?_; focus (first | rfl | (simp only [go_sem, F0] <;> rfl))) | (refine Nk (fun _ _ => rfl) ?_ cv9 ?_; focus (first | rfl | (simp only [go_sem, F0] <;> rfl))))
         rintro v m ⟨hR, hm⟩; subst hR; subst hm
         refine yA ?_ (yA ?_ ?_); iterate 2 (focus (first | rfl | simp only [go_sem, F0]))
         (try simp only [go_sem, F0]); (repeat' (first | apply yA | intro _)))
      | ((first | (refine Uy (fun _ _ => rfl) ?_ ?_ ?_ ch0 ?_; iterate 3 (focus (first | rfl | (simp only [go_sem, F0] <;> first | done | rfl | simp)))) | (refine Uy (fun _ _ => rfl) ?_ ?_ ?_ ch1 ?_; iterate 3 (focus (first | rfl | (simp only [go_sem, F0] <;> first | done | rfl | simp)))) | (refine Uy (fun _ _ => rfl) ?_ ?_ ?_ ch2 ?_; iterate 3 (focus (first | rfl | (simp only [go_sem, F0] <;> first | done | rfl | simp)))) | (refine Uy (fun _ _ => rfl) ?_ ?_ ?_ ch3 ?_; iterate 3 (focus (first | rfl | (simp only [go_sem, F0] <;> first | done | rfl | simp)))) | (refine Uy (fun _ _ => rfl) ?_ ?_ ?_ ch4 ?_; iterate 3 (focus (first | rfl | (simp only [go_sem, F0] <;> first | done | rfl | simp)))) | (refine Uy (fun _ _ => rfl) ?_ ?_ ?_ ch5 ?_; iterate 3 (focus (first | rfl | (simp only [go_sem, F0] <;> first | done | rfl | simp)))) | (refine Uy (fun _ _ => rfl) ?_ ?_ ?_ ch6 ?_; iterate 3 (focus (first | rfl | (simp only [go_sem, F0] <;> first | done | rfl | simp)))) | (refine Ww ?_ ?_ (fun _ _ => rfl) ?_ ?_ ?_ cg0 cf0 ?_; iterate 5 (focus (first | rfl | (simp only [go_sem, F0] <;> first | done | rfl | simp)))) | (refine Ww ?_ ?_ (fun _ _ => rfl) ?_ ?_ ?_ cg1 cf1 ?_; iterate 5 (focus (first | rfl | (simp only [go_sem, F0] <;> first | done | rfl | simp)))) | (refine Ww ?_ ?_ (fun _ _ => rfl) ?_ ?_ ?_ cg2 cf2 ?_; iterate 5 (focus (first | rfl | (simp only [go_sem, F0] <;> first | done | rfl | simp)))) | (refine Ww ?_ ?_ (fun _ _ => rfl) ?_ ?_ ?_ cg3 cf3 ?_; iterate 5 (focus (first | rfl | (simp only [go_sem, F0] <;> first | done | rfl | simp)))) | (refine Ww ?_ ?_ (fun _ _ => rfl) ?_ ?_ ?_ cg4 cf4 ?_; iterate 5 (focus (first | rfl | (simp only [go_sem, F0] <;> first | done | rfl | simp)))) | (refine Ww ?_ ?_ (fun _ _ => rfl) ?_ ?_ ?_ cg5 cf5 ?_; iterate 5 (focus (first | rfl | (simp only [go_sem, F0] <;> first | done | rfl | simp)))))
         rintro v m ⟨hR, hm⟩; subst hR; subst hm
         refine yA ?_ (yA ?_ (yA ?_ ?_)); iterate 3 (focus (first | rfl | (simp only [go_sem, F0]; done) | (simp [go_sem, look, F0]; done)))
         (try simp only [go_sem, F0]); (repeat' (first | apply yA | intro _)))
      | refine a0m fun zN zM zhN zhM => ?_
      | refine Rq fun zB zbn zbx zbr zbi => ?_
      | refine Yv ?_
      | refine b1i ?_
      | refine f0b ?_
      | (refine Rv ?_ ?_; focus (first | rfl | (simp [go_sem, F0]; done)))
      | (refine Xz ?_ ?_; focus (first | rfl | (simp [go_sem, F0]; done))))) : HT P B c S Q := h
end
theorem Ct.w {P:Program} {f:FuncId} {fn:Func} {c:Code} {args:List V} {R:V→List (Nat×Ob)→Prop} {nt:Nat} {rs:Array ResultVar} (hf:P.funcs[f]? =some fn) (hb:fn.body=some c) (hnt:fn.ntmps=nt) (hrs:fn.results=rs)
 (h: ∀ (w0:World) (ro:Ro),HT P ⟨w0,fun _=>False,nt,ro,fun _=>none⟩ c ⟨j0f 0 args,[]⟩ (a2j P rs.toList R):=by intro w0 ro;refine a1v fun zZ zhZ=>?_;exact HT.w) (hn:args.length≤nt:=by simp):Ct P f args R:=
 Ct.k hf hb hnt (congrArg Array.toList hrs) hn h
end Go.Sy
namespace Go.Sy
section
variable {P:Program} {B:Base} {S:St} {Q:Exit→St→Prop}
theorem m2j {x:Code} {ι:Type} (E:List (Nat×V)) (M:List (Nat×Ob)) (e:ι→List (Nat×V)) (m:ι→List (Nat×Ob)) (μ:ι→Nat) (i₀:ι) (h0:leX [] S.env (e i₀++E)) (h1:leX [] S.mem (m i₀++M))
 (round: ∀ i,∀ (N:St→Prop) (M':Exit→St→Prop),(∀ j S',μ j<μ i→leX [] S'.env (e j++E)→leX [] S'.mem (m j++M)→N S')→(∀ e S',Q e S'→M' e S')→HT P B x ⟨e i++E,m i++M⟩ (j0n N M')):HT P B (.loop x) S Q:=by
 refine HT.loop (fun i=>⟨e i++E,m i++M⟩) μ i₀ (Le.ofX h0 h1) fun i=>?_
 exact round i _ Q (fun j S' hj he hm=>⟨j,hj,Le.ofX he hm⟩) (fun _ _ h=>h)
theorem m2o {x y:Code} {α:Type} (e:α→List (Nat×V)) (m:α→List (Nat×Ob)) (p:α→Prop)
 (h1: ∀ (N:St→Prop) (M:Exit→St→Prop),(∀ a,p a→∀ S',leX [] S'.env (e a++S.env)→leX [] S'.mem (m a++S.mem)→N S')→(∀ e S',Q e S'→M e S')→HT P B x S (j0n N M))
 (h2: ∀ a,p a→HT P B y ⟨e a++S.env,m a++S.mem⟩ Q):HT P B (.seq x y) S Q:=
 HT.seq (h1 (fun S'=>HT P B y S' Q) Q (fun a ha S' he hm=>HT.le (Le.ofX he hm) (h2 a ha)) (fun _ _ h=>h))
end
theorem g1a {α:Type} {z:Nat×α}: ∀ {l r:List (Nat×α)} {ks:List Nat},leX ks r l→leX (z.1::ks) (z::r) l
 | [],_,_,_=>trivial
 |x::l,r,ks,h=>by
   refine ⟨?_,?_⟩
   ·split
    ·trivial
    rename_i hc
    have h1:=h.1
    have hx:¬ks.contains x.1=true:=by intro e;exact hc (by rw [xA,e,xP])
    rw [if_neg hx] at h1
    have hz:¬x.1=z.1:=by intro e;exact hc (by simp [xA,e])
    simp only [look]
    split
    ·rename_i e;first|exact absurd e.symm hz|exact absurd e hz|(simp at e;exact absurd e.symm hz)|(simp at e;exact absurd e hz)
    exact h1
   have:=g1a (z:=z) h.2
   have hk: ∀ {l:List (Nat×α)} {a b:List Nat},(∀ k,a.contains k=true→b.contains k=true)→leX a (z::r) l→leX b (z::r) l:=by
    intro l
    induction l with
    |nil=>intros;trivial
    |cons y l ih=>
      intro a b hs hl
      refine ⟨?_,ih (fun k hk=>?_) hl.2⟩
      ·split
       ·trivial
       rename_i hb
       have:=hl.1
       rwa [if_neg (fun e=>hb (hs _ e))] at this
      simp only [xA,xQ] at hk ⊢
      exact hk.imp id (hs k)
   refine hk (fun k hk=>?_) this
   simp only [xA,xQ] at hk ⊢
   rcases hk with h|h|h
   ·exact .inr (.inl h)
   ·exact .inl h
   exact .inr (.inr h)
theorem Yj {α:Type}: ∀ l:List (Nat×α),leX [] l l
 | []=>trivial
 |x::l=>⟨by simp [look],g1a (Yj l)⟩
end Go.Sy
namespace Go.Sy
def FG (ks:List Nat):Prop:=True
theorem V.ren_same (v:V):v.ren (fun k=>k)=v:=by
 have hw: ∀ x:W,x.ren (fun k=>k)=x:=by
  intro x
  cases x with
  |one l=>simp only [W.ren,L.ren_id]
  |agg cs=>simp only [W.ren,W.agg.injEq];exact List.map_id'' L.ren_id _
 cases v with
 |w x=>simp only [V.ren,hw]
 |tup xs=>simp only [V.ren,V.tup.injEq];exact List.map_id'' hw _
 |any=>rfl
theorem x1j {m2:List (Nat×Ob)} {k:Nat} {o:Ob} (h:look m2 k=some o):(k,o)∈m2:=by
 induction m2 with
 |nil=>cases h
 |cons x r ih=>
   simp only [look] at h
   split at h
   ·rename_i e;cases h;subst e;exact .head _
   exact .tail _ (ih h)
theorem Vv {R:V→List (Nat×Ob)→Prop} {v:V} {m m2:List (Nat×Ob)} (hm: ∀ x∈m2,look m x.1=some x.2) (h:R v m2):Told R v m:=
 p0e ⟨fun k=>k,v,m2,(V.ren_same v).symm,s0p fun k o hk=>hm _ (x1j hk),h⟩
def q0b (m0:List (Nat×Ob)):List (Nat×Ob)→Option (Nat×List PL)
 | []=>none
 |x::r=>match (look m0 x.1).bind fun o=>m0o o.cells with
   |some c=>if x.1<500000 then some (x.1,c) else q0b m0 r
   |none=>q0b m0 r
def u0r :Nat→List (Nat×Ob)→V→Option V
 |0,_,v=>if q0a v=true then some v else none
 |n+1,m,v=>if q0a v=true then some v else match q0b m m with
   |none=>none
   |some x=>u0r n (j0s x.1 x.2 m) (s0i x.1 x.2 v)
theorem l0u {m0:List (Nat×Ob)}: ∀ {m:List (Nat×Ob)} {x:Nat×List PL},q0b m0 m=some x→(∃ b,look m0 x.1=some ⟨b,pls x.2⟩)∧x.1<500000
 | [],_,h=>by cases h
 |y::r,x,h=>by
   simp only [q0b] at h
   split at h
   ·rename_i c hc
    split at h
    ·rename_i hl
     cases h
     obtain ⟨o,ho,hu⟩:=Option.bind_eq_some_iff.mp hc
     have:=p0c hu
     obtain ⟨b,cs⟩:=o
     simp only at this
     subst this
     exact ⟨⟨b,ho⟩,hl⟩
    exact l0u h
   exact l0u h
theorem u0i {R:V→List (Nat×Ob)→Prop}: ∀ {n:Nat} {m:List (Nat×Ob)} {v v':V},u0r n m v=some v'→R v' []→Told R v m
 |0,m,v,v',h,hr=>by
   simp only [u0r] at h
   split at h
   ·rename_i hp;cases h;exact told_plain hp hr
   cases h
 |n+1,m,v,v',h,hr=>by
   simp only [u0r] at h
   split at h
   ·rename_i hp;cases h;exact told_plain hp hr
   split at h
   ·cases h
   rename_i x hx
   obtain ⟨⟨b,hk⟩,hl⟩:=l0u hx
   exact b0n x.1 x.2 hk hl (u0i h hr)
section
variable {P:Program} {B:Base} {S:St} {K:St→Prop} {dst:Option Tmp} {ty:TypeId} {pos:String} {af:Array Edge} {f:FuncId} {args:List Operand} {ts:Array TypeId} {ds:List (Option Tmp)} {r:List Oper} {vs:List V} {m:List (Nat×Ob)} {R:V→List (Nat×Ob)→Prop}
theorem i2w {vw:Bool} {hd:Hand} (hgo: ∀ vals w,(callFunc f vals).run P w=.ok (.enter f vals) w) (hargs:Sq vw S hd args=some vs) (hok:s1h hd=true) (hm:Pj S hd m) (hc:CH vw hd P f vs m R)
 (hK: ∀ v m',R v m'→Mj vw m' v=true∧c0h vw (fun k=>k+1000) hd S m m' m'∧hd.all (fun x=>(look m' x.1).isSome)=true∧(match dst with
  |some n=>n<B.nt∧Bv P B ds r ⟨(n,v.ren (Sz (fun k=>k+1000) hd))::S.env,Ux (fun k=>k+1000) hd m' S.mem⟩ K
  |none=>Bv P B ds r ⟨S.env,Ux (fun k=>k+1000) hd m' S.mem⟩ K)):
 Cj P B ⟨dst,.call ⟨.value (.func f),args.toArray,ts⟩,ty,pos,af,none⟩ S ds r K:=Iq vw hd (fun k=>k+1000) hgo hargs hok hm hc hK
end
section
variable {P:Program} {B:Base} {c:Code} {S:St} {Q:Exit→St→Prop}
theorem k2v {x:Code} {n:Nat} {ks:List Nat} (hk:FG ks) (h: ∀ (N:St→Prop) (M:Exit→St→Prop),(∀ S',rnd P B x Q n S'→N S')→(∀ e S',Q e S'→M e S')→HT P B x (S.forget ks) (j0n N M)):rnd P B x Q (n+1) S:=b0g ks (b1h h)
def DR (id:Nat) (names c:List Nat) (need:List (Nat×Nat)):Prop:=True
theorem n0c {id:Nat} {l:List Oper} {names d:List Nat} {need:List (Nat×Nat)} (hz:DR id names d need) (hm:P.follows .mixedOrders=true) (hst:k0p (f0f l) d need l=true)
 (hn:names.all (fun k=>fresh k S&&(look S.mem k).isNone)=true)
 (h: ∀ K:St→List Da→Prop,(∀ S' D,z0v l D need→Q .normal S'→K S' D)→Rj P B.nt names (f0f l) (!need.isEmpty) l [] [] S K):HT P B (.region id l.toArray true) S Q:=q1j names d need hm hst hn h
theorem b2v {id:Nat} {l:List Oper} {y:Code} {names d:List Nat} {need:List (Nat×Nat)} (hz:DR id names d need) (hm:P.follows .mixedOrders=true) (hst:k0p (f0f l) d need l=true)
 (hn:names.all (fun k=>fresh k S&&(look S.mem k).isNone)=true)
 (h: ∀ K:St→List Da→Prop,(∀ S' D,z0v l D need→HT P B y S' Q→K S' D)→Rj P B.nt names (f0f l) (!need.isEmpty) l [] [] S K):HT P B (.seq (.region id l.toArray true) y) S Q:=o2j names d need hm hst hn h
end
end Go.Sy
namespace Go.Sy
section
variable {P:Program} {B:Base} {c:Code} {S:St} {Q:Exit→St→Prop}
theorem HT.run2 (h : HT P B c S Q := by
    repeat (first
      | refine zhK _ ?_
      | (refine zhN _ ?_; clear zhN zhM)
      | (refine zhM _ _ ?_; clear zhN zhM)
      | (refine zbn _ ?_; clear zbn zbx zbr zbi)
      | (refine zbx _ ?_; clear zbn zbx zbr zbi)
      | (refine zbr _ ?_; clear zbn zbx zbr zbi)
      | (refine zbi _ _ ?_ ?_; focus (decide); clear zbn zbx zbr zbi)
      | (refine zhZ _ _ ?_; (try simp only [go_sem, F0, Nat.reduceAdd, Int.reduceTMod, Int.reduceTDiv, Int.reduceNeg, Int.reduceMul, Int.reduceToNat, yK]); (all_goals (first | rfl | exact ⟨rfl, rfl⟩ | exact told_plain rfl ⟨rfl, rfl⟩ | exact Av rfl (Bz (by simp [look, F0])) ⟨rfl, rfl⟩ | exact zE | exact zE _ | (rw [zE]; done) | (simp [F0]; done) | (refine u0i (n := 40) ?_ rfl; first | rfl | kernel_rfl) | exact Vv (by simp [look, F0]) ⟨rfl, rfl⟩ | exact zE _ (by first | rfl | (simp [look, F0]; done)))))
      | (refine zL _ ?_ ?_; all_goals (simp only [go_sem, leX, yC, yD, F0]; try simp))
      | (refine k2v zF fun zN zM zhN zhM => ?_; (try simp only [go_sem, St.forget, fgt]))
      | refine n0p 64 ?_
      | (refine l0n fun zK zhK => ?_; (try simp only [go_sem, F0, Nat.reduceAdd, Int.reduceTMod, Int.reduceTDiv, Int.reduceNeg, Int.reduceMul, Int.reduceToNat, yK]); (repeat' (first | apply yA | intro _)))
      | (refine Jv fun zK zhK => ?_; (try simp only [go_sem, F0, Nat.reduceAdd, Int.reduceTMod, Int.reduceTDiv, Int.reduceNeg, Int.reduceMul, Int.reduceToNat, yK]); (repeat' (first | apply yA | intro _)))
      | ((first | (obtain ⟨cz, cq⟩ := cq; refine Nk (fun _ _ => rfl) ?_ cz ?_; focus (first | rfl | (simp only [go_sem, F0, Nat.reduceAdd, Int.reduceTMod, Int.reduceTDiv, Int.reduceNeg, Int.reduceMul, Int.reduceToNat, yK] <;> rfl))) | (obtain ⟨cz, cq⟩ := cq; refine Nk (fun _ _ => rfl) ?_ (cz ?_) ?_; focus (first | rfl | (simp only [go_sem, F0, Nat.reduceAdd, Int.reduceTMod, Int.reduceTDiv, Int.reduceNeg, Int.reduceMul, Int.reduceToNat, yK] <;> rfl))))
         rintro v m ⟨hR, hm⟩; subst hR; subst hm
         refine yA ?_ (yA ?_ ?_); iterate 2 (focus (first | rfl | simp only [go_sem, F0, Nat.reduceAdd, Int.reduceTMod, Int.reduceTDiv, Int.reduceNeg, Int.reduceMul, Int.reduceToNat, yK]))
         (try simp only [go_sem, F0, Nat.reduceAdd, Int.reduceTMod, Int.reduceTDiv, Int.reduceNeg, Int.reduceMul, Int.reduceToNat, yK]); (repeat' (first | apply yA | intro _)))
      | ((first | (obtain ⟨cz, cq⟩ := cq; refine Oy (fun k => k) _ [] (fun _ _ => rfl) ?_ cz ?_ ?_; focus (first | rfl | (simp only [go_sem, F0, Nat.reduceAdd, Int.reduceTMod, Int.reduceTDiv, Int.reduceNeg, Int.reduceMul, Int.reduceToNat, yK] <;> rfl))) | (obtain ⟨cz, cq⟩ := cq; refine Oy (fun k => k) _ [] (fun _ _ => rfl) ?_ (cz ?_) ?_ ?_; focus (first | rfl | (simp only [go_sem, F0, Nat.reduceAdd, Int.reduceTMod, Int.reduceTDiv, Int.reduceNeg, Int.reduceMul, Int.reduceToNat, yK] <;> rfl))))
         (refine yA ?_ (yA ?_ (yA ?_ ?_)) <;> first | rfl | simp only [go_sem])
         (try simp only [go_sem, F0, Nat.reduceAdd, Int.reduceTMod, Int.reduceTDiv, Int.reduceNeg, Int.reduceMul, Int.reduceToNat, yK]); (repeat' (first | apply yA | intro _)))
      | ((first | (obtain ⟨cz, cq⟩ := cq; refine w0k ?_ cz ?_; focus (first | rfl | (simp only [go_sem, F0, Nat.reduceAdd, Int.reduceTMod, Int.reduceTDiv, Int.reduceNeg, Int.reduceMul, Int.reduceToNat, yK] <;> rfl))))
         (try simp only [go_sem, F0, Nat.reduceAdd, Int.reduceTMod, Int.reduceTDiv, Int.reduceNeg, Int.reduceMul, Int.reduceToNat, yK]); (repeat' (first | apply yA | intro _)))
      | ((first | (obtain ⟨cz, cq⟩ := cq; refine g0q ?_ cz ?_; focus (first | rfl | (simp only [go_sem, F0, Nat.reduceAdd, Int.reduceTMod, Int.reduceTDiv, Int.reduceNeg, Int.reduceMul, Int.reduceToNat, yK] <;> rfl))))
         (try simp only [go_sem, F0, Nat.reduceAdd, Int.reduceTMod, Int.reduceTDiv, Int.reduceNeg, Int.reduceMul, Int.reduceToNat, yK]); (repeat' (first | apply yA | intro _)))
      | ((first | (obtain ⟨cz, cq⟩ := cq; refine i2w (fun _ _ => rfl) ?_ ?_ ?_ cz ?_; iterate 3 (focus (first | rfl | decide | (simp only [go_sem, F0, Nat.reduceAdd, Int.reduceTMod, Int.reduceTDiv, Int.reduceNeg, Int.reduceMul, Int.reduceToNat, yK] <;> first | done | rfl | simp)))) | (obtain ⟨⟨cg, cz⟩, cq⟩ := cq; refine Ww ?_ ?_ (fun _ _ => rfl) ?_ ?_ ?_ cg cz ?_; iterate 5 (focus (first | rfl | decide | (simp only [go_sem, F0, Nat.reduceAdd, Int.reduceTMod, Int.reduceTDiv, Int.reduceNeg, Int.reduceMul, Int.reduceToNat, yK] <;> first | done | rfl | simp)))))
         rintro v m ⟨hR, hm⟩; subst hR; subst hm
         refine yA ?_ (yA ?_ (yA ?_ ?_)); iterate 3 (focus (first | rfl | (simp only [go_sem, F0, Nat.reduceAdd, Int.reduceTMod, Int.reduceTDiv, Int.reduceNeg, Int.reduceMul, Int.reduceToNat, yK]; done) | (simp [go_sem, look, F0]; done)))
         (try simp only [go_sem, F0, Nat.reduceAdd, Int.reduceTMod, Int.reduceTDiv, Int.reduceNeg, Int.reduceMul, Int.reduceToNat, yK]); (repeat' (first | apply yA | intro _)))
      | ((first | refine b2v zd0 mixed ?_ ?_ fun zK zhK => ?_ | refine n0c zd0 mixed ?_ ?_ fun zK zhK => ?_ | refine b2v zd1 mixed ?_ ?_ fun zK zhK => ?_ | refine n0c zd1 mixed ?_ ?_ fun zK zhK => ?_ | refine b2v zd2 mixed ?_ ?_ fun zK zhK => ?_ | refine n0c zd2 mixed ?_ ?_ fun zK zhK => ?_ | refine b2v zd3 mixed ?_ ?_ fun zK zhK => ?_ | refine n0c zd3 mixed ?_ ?_ fun zK zhK => ?_ | refine b2v zd4 mixed ?_ ?_ fun zK zhK => ?_ | refine n0c zd4 mixed ?_ ?_ fun zK zhK => ?_ | refine b2v zd5 mixed ?_ ?_ fun zK zhK => ?_ | refine n0c zd5 mixed ?_ ?_ fun zK zhK => ?_ | refine b2v zd6 mixed ?_ ?_ fun zK zhK => ?_ | refine n0c zd6 mixed ?_ ?_ fun zK zhK => ?_ | refine b2v zd7 mixed ?_ ?_ fun zK zhK => ?_ | refine n0c zd7 mixed ?_ ?_ fun zK zhK => ?_); (focus (kernel_rfl)); (focus (simp only [go_sem])); (try simp only [go_sem, F0]); (repeat' (first | apply yA | intro _)))
      | (refine zhK _ _ ?_ ?_; focus (first | trivial | (simp only [go_sem]; done) | (simp only [go_sem]; simp; done) | (simp only [go_sem]; simp; simp only [go_sem])))
      | refine a0m fun zN zM zhN zhM => ?_
      | refine Rq fun zB zbn zbx zbr zbi => ?_
      | refine Yv ?_
      | refine b1i ?_
      | refine f0b ?_
      | (refine Rv ?_ ?_; focus (first | rfl | (simp [go_sem, F0]; done)))
      | (refine Xz ?_ ?_; focus (first | rfl | (simp [go_sem, F0]; done))))) : HT P B c S Q := h
end
theorem Ct.run2 {P:Program} {f:FuncId} {fn:Func} {c:Code} {args:List V} {R:V→List (Nat×Ob)→Prop} {nt:Nat} {rs:Array ResultVar} (hf:P.funcs[f]? =some fn) (hb:fn.body=some c) (hnt:fn.ntmps=nt) (hrs:fn.results=rs)
 (h: ∀ (w0:World) (ro:Ro),HT P ⟨w0,fun _=>False,nt,ro,fun _=>none⟩ c ⟨j0f 0 args,[]⟩ (a2j P rs.toList R):=by intro w0 ro;refine a1v fun zZ zhZ=>?_;exact HT.run2) (hn:args.length≤nt:=by simp):Ct P f args R:=
 Ct.k hf hb hnt (congrArg Array.toList hrs) hn h
theorem CtM.run2 {P:Program} {f:FuncId} {fn:Func} {c:Code} {args:List V} {m:List (Nat×Ob)} {R:V→List (Nat×Ob)→Prop} {nt:Nat} {rs:Array ResultVar} (hf:P.funcs[f]? =some fn) (hb:fn.body=some c) (hnt:fn.ntmps=nt) (hrs:fn.results=rs)
 (h: ∀ (w0:World) (ro:Ro) (may:Nat→Prop) (fx:Nat→Option (Nat×Nat)),HT P ⟨w0,may,nt,ro,fx⟩ c ⟨j0f 0 args,m⟩ (a2j P rs.toList R):=by intro w0 ro may fx;refine a1v fun zZ zhZ=>?_;exact HT.run2) (hn:args.length≤nt:=by simp):CtM P f args m R:=
 CtM.k hf hb hnt (congrArg Array.toList hrs) hn h
end Go.Sy
namespace Go.Sy
open Go.MapKept
abbrev Mp :=List (List UInt8×Int)
def getM :Mp→List UInt8→Int
 | [],_=>0
 |x::r,s=>if x.1=s then x.2 else getM r s
def Oj :Mp→List UInt8→Int→Mp
 | [],s,n=>[(s,n)]
 |x::r,s,n=>if x.1=s then (s,n)::r else x::Oj r s n
def posM :Mp→List UInt8→Nat→Option (Nat×Value)
 | [],_,_=>none
 |x::r,s,j=>if x.1=s then some (j,.int .i64 x.2) else posM r s (j+1)
theorem str_inj {a b:List UInt8}:((⟨a.toArray⟩:ByteArray)=⟨b.toArray⟩)↔a=b:=by
 constructor
 ·intro h
  have:=congrArg (fun x:ByteArray=>x.data.toList) h
  simpa using this
 rintro rfl;rfl
theorem h0j (s:List UInt8): ∀ (l:Mp) (i j:Nat),Instr.findNow .string (.string ⟨s.toArray⟩) (Pw i l) j=some (posM l s j)
 | [],_,_=>rfl
 |x::r,i,j=>by
   rw [Pw,Instr.findNow,posM]
   simp only [Instr.sameNow]
   by_cases h:x.1=s
   ·have hb:((⟨s.toArray⟩:ByteArray)==⟨x.1.toArray⟩)=true:=(bytes_beq _ _).mpr (str_inj.mpr h.symm)
    rw [hb,if_pos h]
   have hb:((⟨s.toArray⟩:ByteArray)==⟨x.1.toArray⟩)=false:=by
    cases hq:((⟨s.toArray⟩:ByteArray)==⟨x.1.toArray⟩) with
    |false=>rfl
    |true=>exact absurd (str_inj.mp ((bytes_beq _ _).mp hq)).symm h
   rw [hb,if_neg h]
   exact h0j s r (i+1) (j+1)
theorem j0u {s:List UInt8}: ∀ {l:Mp} {j:Nat},posM l s j=none→(∀ n,Oj l s n=l++[(s,n)])∧getM l s=0
 | [],_,_=>⟨fun _=>rfl,rfl⟩
 |x::r,j,h=>by
   rw [posM] at h
   split at h
   ·cases h
   rename_i hn
   obtain ⟨h1,h2⟩:=j0u h
   refine ⟨fun n=>?_,?_⟩
   ·rw [Oj,if_neg hn,h1];rfl
   rw [getM,if_neg hn];exact h2
theorem j0t {s:List UInt8}: ∀ {l:Mp} {j i:Nat} {v:Value},posM l s j=some (i,v)→∃ k,i=j+k∧k<l.length∧v=.int .i64 (getM l s)∧
 ∀ (q:Nat),((Pw q l)[k]?).map (·.key)=some (.string ⟨s.toArray⟩)∧((Pw q l)[k]?).map (·.born)=some (q+k)∧∀ n (f:MapEntry→MapEntry),(∀ e,f e={e with key:=.string ⟨s.toArray⟩,val:=.int .i64 n})→(Pw q l).modify k f=Pw q (Oj l s n)
 | [],_,_,_,h=>by cases h
 |x::r,j,i,v,h=>by
   rw [posM] at h
   split at h
   ·rename_i hs
    cases h
    refine ⟨0,rfl,by simp,by rw [getM,if_pos hs],fun q=>⟨by simp [Pw,hs],by simp [Pw],fun n f hf=>?_⟩⟩
    rw [Pw,Oj,if_pos hs,Pw]
    simp [hf]
   rename_i hn
   obtain ⟨k,hk,hl,hv,hq⟩:=j0t h
   refine ⟨k+1,by omega,by simp only [yH];omega,by rw [getM,if_neg hn];exact hv,fun q=>?_⟩
   obtain ⟨h1,h2,h3⟩:=hq (q+1)
   refine ⟨by simpa [Pw] using h1,by simp only [Pw,List.getElem?_cons_succ];rw [h2];congr 1;omega,fun n f hf=>?_⟩
   rw [Pw,Oj,if_neg hn,Pw,List.modify_succ_cons,h3 n f hf]
section
variable {P:Program} {w:World} {b:Nat} {l:Mp} {s:List UInt8} {xt kt et:TypeId}
theorem p0u (he:(P.info? et).bind (·.zero)=some (.int .i64 0)):(zeroValue et).run P w=.ok (.int .i64 0) w:=by
 obtain ⟨i,hi,hz⟩:=Option.bind_eq_some_iff.mp he
 simp [zeroValue,typeInfo,hi,hz]
theorem x0x (hx:P.underlying xt=some (.map kt et)) (hk:P.underlying kt=some .string) (he:(P.info? et).bind (·.zero)=some (.int .i64 0)) (h:MapAt w b l):
 (Instr.lookup xt (.map (some b)) (.string ⟨s.toArray⟩) false).run P w=.ok (.int .i64 (getM l s)) w:=by
 have hf:=run_findKey (P:=P) (w:=w) hk (h0j s l 0 0)
 cases hp:posM l s 0 with
 |none=>
   rw [hp] at hf
   simp [Instr.lookup,run_underlying hx,Go.MapKept.run_getObj_map h,run_checkKey hk (show IsKey .string (.string ⟨s.toArray⟩) from trivial),hf,p0u he,(j0u hp).2,Result.andThen]
 |some x=>
   obtain ⟨i,v⟩:=x
   rw [hp] at hf
   obtain ⟨_,_,_,hv,_⟩:=j0t hp
   simp [Instr.lookup,run_underlying hx,Go.MapKept.run_getObj_map h,run_checkKey hk (show IsKey .string (.string ⟨s.toArray⟩) from trivial),hf,hv,Result.andThen]
theorem q1f (l:Mp) (s:List UInt8) (n:Int) (i:Nat):Pw i l++[⟨.string ⟨s.toArray⟩,.int .i64 n,i+l.length⟩]=Pw i (l++[(s,n)]):=by
 induction l generalizing i with
 |nil=>simp [Pw]
 |cons x r ih=>
   have:=ih (i+1)
   simp only [yH,yC,Pw]
   rw [←this,show i+(r.length+1)=i+1+r.length from by omega]
theorem b1m {l:Mp} {s:List UInt8} {n:Int}:(Oj l s n).length=if posM l s 0=none then l.length+1 else l.length:=by
 have key: ∀ (l:Mp) (j:Nat),(Oj l s n).length=if posM l s j=none then l.length+1 else l.length:=by
  intro l
  induction l with
  |nil=>intro j;simp [Oj,posM]
  |cons x r ih=>
    intro j
    rw [Oj,posM]
    split
    ·simp
    rw [yH,ih (j+1)];split<;>simp
 exact key l 0
def Xv (w:World) (b:Nat) (l:Mp):World:={w with heap:=w.heap.setIfInBounds b (.map (Pw 0 l).toArray l.length)}
theorem x0w {n:Int} (hx:P.underlying xt=some (.map kt et)) (hk:P.underlying kt=some .string) (h:MapAt w b l):
 (Instr.mapUpdate xt (.map (some b)) (.string ⟨s.toArray⟩) (.int .i64 n)).run P w=.ok () (Xv w b (Oj l s n)):=by
 have hf:=run_findKey (P:=P) (w:=w) hk (h0j s l 0 0)
 have hl:=b1m (l:=l) (s:=s) (n:=n)
 cases hp:posM l s 0 with
 |none=>
   rw [hp] at hf hl
   rw [if_pos rfl] at hl
   have e:=q1f l s n 0
   simp only [wY] at e
   simp [Instr.mapUpdate,run_underlying hx,Go.MapKept.run_getObj_map h,run_checkKey hk (show IsKey .string (.string ⟨s.toArray⟩) from trivial),hf,run_setObj_map _ h,Xv,(j0u hp).1 n,Result.andThen,e]
 |some x=>
   obtain ⟨i,v⟩:=x
   rw [hp] at hf hl
   rw [if_neg (by simp)] at hl
   obtain ⟨k,hk2,hlt,hv,hq⟩:=j0t hp
   obtain ⟨h1,h2,h3⟩:=hq 0
   simp only [wY] at hk2 h2
   subst hk2
   have e:=h3 n (fun e=>{e with key:=.string ⟨s.toArray⟩,val:=.int .i64 n}) (fun _=>rfl)
   have e2:(Pw 0 l).toArray.modify i (fun e=>{e with key:=.string ⟨s.toArray⟩,val:=.int .i64 n})=(Pw 0 (Oj l s n)).toArray:=by
    rw [←e];exact wK.mp (by simp)
   obtain ⟨me,hme,hme2⟩: ∃ me,(Pw 0 l)[i]? =some me∧me.key=.string ⟨s.toArray⟩:=by
    cases hq:(Pw 0 l)[i]? with
    |none=>rw [hq] at h1;cases h1
    |some me=>rw [hq] at h1;exact ⟨me,rfl,by simpa using h1⟩
   simp [Instr.mapUpdate,run_underlying hx,Go.MapKept.run_getObj_map h,run_checkKey hk (show IsKey .string (.string ⟨s.toArray⟩) from trivial),hf,run_setObj_map _ h,Xv,Result.andThen,hme,hme2,run_keyThatStays (d:=.string) (k:=.string ⟨s.toArray⟩) trivial,e2,e,hl]
end
end Go.Sy
namespace Go.Sy
open Go.MapKept
def Qy :Mp→List UInt8→Mp
 | [],s=>[(s,0)]
 |x::r,s=>if x.1=s then x::r else x::Qy r s
def o0i :Mp→List UInt8→Nat
 | [],_=>0
 |x::r,s=>if x.1=s then 0 else o0i r s+1
def setAt :Mp→Nat→Int→Mp
 | [],_,_=>[]
 |x::r,0,n=>(x.1,n)::r
 |x::r,j+1,n=>x::setAt r j n
theorem p0r (s:List UInt8) (n:Int): ∀ l:Mp,setAt (Qy l s) (o0i l s) n=Oj l s n
 | []=>rfl
 |x::r=>by
   rw [Qy,o0i,Oj]
   split
   ·rename_i h;rw [setAt,h]
   rw [setAt,p0r s n r]
theorem p1a (s:List UInt8): ∀ l:Mp,o0i l s<(Qy l s).length
 | []=>by simp [o0i,Qy]
 |x::r=>by
   rw [o0i,Qy]
   split
   ·simp
   have:=p1a s r;simp only [yH];omega
theorem f0t {s:List UInt8}: ∀ {l:Mp} {j:Nat},posM l s j=none→Qy l s=l++[(s,0)]∧o0i l s=l.length
 | [],_,_=>⟨rfl,rfl⟩
 |x::r,j,h=>by
   rw [posM] at h
   split at h
   ·cases h
   rename_i hn
   obtain ⟨h1,h2⟩:=f0t h
   exact ⟨by rw [Qy,if_neg hn,h1];rfl,by rw [o0i,if_neg hn,h2];rfl⟩
theorem f0s {s:List UInt8}: ∀ {l:Mp} {j i:Nat} {v:Value},posM l s j=some (i,v)→Qy l s=l∧i=j+o0i l s
 | [],_,_,_,h=>by cases h
 |x::r,j,i,v,h=>by
   rw [posM] at h
   split at h
   ·rename_i hs;cases h;exact ⟨by rw [Qy,if_pos hs],by rw [o0i,if_pos hs];rfl⟩
   rename_i hn
   obtain ⟨h1,h2⟩:=f0s h
   exact ⟨by rw [Qy,if_neg hn,h1],by rw [o0i,if_neg hn];omega⟩
theorem m0r : ∀ (l:Mp) (j:Nat) (n:Int),(setAt l j n).length=l.length
 | [],_,_=>rfl
 |x::r,0,n=>rfl
 |x::r,j+1,n=>by rw [setAt,yH,yH,m0r]
theorem q1g : ∀ (l:Mp) (q j:Nat),j<l.length→(Pw q l).findIdx? (fun e=>(e.born:Int)==((q+j:Nat):Int))=some j
 | [],_,_,h=>absurd h (Nat.not_lt_zero _)
 |x::r,q,0,_=>by simp [Pw,List.findIdx?_cons]
 |x::r,q,j+1,h=>by
   have:=q1g r (q+1) j (by simpa using h)
   rw [Pw,List.findIdx?_cons]
   have hne:(((q:Nat):Int)==((q+(j+1):Nat):Int))=false:=by
    rw [beq_eq_false_iff_ne];omega
   simp only [hne]
   rw [show q+(j+1)=q+1+j from by omega,this]
   rfl
theorem c2m : ∀ (l:Mp) (q j:Nat) (n:Int),(Pw q l).modify j (fun e=>{e with val:=.int .i64 n})=Pw q (setAt l j n)
 | [],q,j,n=>by cases j<;>simp [Pw,setAt]
 |x::r,q,0,n=>by simp [Pw,setAt]
 |x::r,q,j+1,n=>by rw [Pw,setAt,Pw,List.modify_succ_cons,c2m r (q+1) j n]
section
variable {P:Program} {w:World} {b:Nat} {l:Mp} {s:List UInt8} {xt kt et:TypeId}
theorem b1d (hx:P.underlying xt=some (.map kt et)) (hk:P.underlying kt=some .string) (he:(P.info? et).bind (·.zero)=some (.int .i64 0)) (h:MapAt w b l):
 (Instr.mapEntry xt (.map (some b)) (.string ⟨s.toArray⟩)).run P w=.ok (.tuple #[.int .i64 (getM l s),goInt (o0i l s)]) (Xv w b (Qy l s)):=by
 have hf:=run_findKey (P:=P) (w:=w) hk (h0j s l 0 0)
 cases hp:posM l s 0 with
 |none=>
   rw [hp] at hf
   have e:=q1f l s 0 0
   simp only [wY] at e
   obtain ⟨e1,e2⟩:=f0t hp
   simp [Instr.mapEntry,run_underlying hx,Go.MapKept.run_getObj_map h,run_checkKey hk (show IsKey .string (.string ⟨s.toArray⟩) from trivial),hf,p0u he,run_setObj_map _ h,Xv,(j0u hp).2,e1,e2,Result.andThen,e]
 |some x=>
   obtain ⟨i,v⟩:=x
   rw [hp] at hf
   obtain ⟨k,hk2,hlt,hv,hq⟩:=j0t hp
   obtain ⟨h1,h2,_⟩:=hq 0
   obtain ⟨t1,t2⟩:=f0s hp
   simp only [wY] at hk2 h2 t2
   subst hk2
   obtain ⟨me,hme,hme2,hme3⟩: ∃ me,(Pw 0 l)[i]? =some me∧me.key=.string ⟨s.toArray⟩∧me.born=i:=by
    cases hq:(Pw 0 l)[i]? with
    |none=>rw [hq] at h1;cases h1
    |some me=>rw [hq] at h1 h2;exact ⟨me,rfl,by simpa using h1,by simpa using h2⟩
   have e:(Pw 0 l).modify i (fun e=>{e with key:=.string ⟨s.toArray⟩})=Pw 0 l:=by
    refine List.ext_getElem? fun j=>?_
    rw [List.getElem?_modify]
    split
    ·rename_i hij;subst hij
     rw [hme]
     cases me;simp only at hme2;subst hme2;rfl
    simp
   have e2:(Pw 0 l).toArray.modify i (fun e=>{e with key:=.string ⟨s.toArray⟩})=(Pw 0 l).toArray:=by
    refine wK.mp ?_;simp [e]
   simp [Instr.mapEntry,run_underlying hx,Go.MapKept.run_getObj_map h,run_checkKey hk (show IsKey .string (.string ⟨s.toArray⟩) from trivial),hf,run_setObj_map _ h,Xv,Result.andThen,hme,hme2,hme3,run_keyThatStays (d:=.string) (k:=.string ⟨s.toArray⟩) trivial,e2,e,t1,hv,←t2]
theorem b1c {j:Nat} {n:Int} (hj:j<l.length) (h:MapAt w b l):
 (Instr.entryStore xt (.map (some b)) (goInt j) (.int .i64 n)).run P w=.ok () (Xv w b (setAt l j n)):=by
 have hf:=q1g l 0 j hj
 simp only [wY] at hf
 have e:=c2m l 0 j n
 have e2:(Pw 0 l).toArray.modify j (fun e=>{e with val:=.int .i64 n})=(Pw 0 (setAt l j n)).toArray:=by
  rw [←e];exact wK.mp (Array.toList_modify ..)
 have hl:=m0r l j n
 have hb:(asInt (goInt j)).run P w=.ok (j:Int) w:=by simp [goInt,asInt,asIntOf]
 simp [Instr.entryStore,Go.MapKept.run_getObj_map h,run_setObj_map _ h,Xv,Result.andThen,hb,hf,e2,e,hl]
end
end Go.Sy
namespace Go.Sy
open Go.MapKept
section
variable {P:Program} {B:Base} {d:Va} {S:St} {a:Act} {w:World} {b:Nat} {l l':Mp}
theorem MapAt.cell_none (h:MapAt w b l) (o:Nat):w.cell? ⟨b,o,none⟩=none:=by
 unfold MapAt at h
 simp [World.cell?,h]
theorem c1f (h:MapAt w b l) (l':Mp):MapAt (Xv w b l') b l'∧(∀ j,j≠b→(Xv w b l').heap[j]? =w.heap[j]?)∧(Xv w b l').heap.size=w.heap.size:=by
 obtain ⟨h1,h2⟩:=heap_set (o':=.map (Pw 0 l').toArray l'.length) (show w.heap[b]? =some _ from h)
 exact ⟨h1,h2,by simp [Xv]⟩
theorem Sim.Xv (h:Sim B d S a w) (hb:look S.mem (mp0+b)=some ⟨.m l,[]⟩) (hown:B.w0.heap.size≤b) (l':Mp):Sim B d ⟨S.env,a0c S.mem (mp0+b) ⟨.m l',[]⟩⟩ a (Go.Sy.Xv w b l'):=by
 have hm:=h.mp b l hb
 obtain ⟨g1,g2,g3⟩:=c1f hm l'
 have hbig: ∀ k,k<gl0→k≠mp0+b:=fun k hk=>by have:k<1000000:=hk;show k≠2000000+b;omega
 have hlow: ∀ {k o},look (a0c S.mem (mp0+b) ⟨.m l',[]⟩) k=some o→k<gl0→look S.mem k=some o:=fun {k o} hk hl=>by
  rw [Fw,if_neg (hbig k hl)] at hk;exact hk
 have hsome: ∀ k,(look (a0c S.mem (mp0+b) ⟨.m l',[]⟩) k).isSome=true→(look S.mem k).isSome=true:=fun k hk=>by
  rw [Fw] at hk
  split at hk
  ·rename_i e;subst e;rw [hb];rfl
  exact hk
 refine ⟨h.defers,h.nt,h.env,fun k o hk hl=>?_,fun k k' h1 h2=>h.inj k k' (hsome k h1) (hsome k' h2),fun k hk=>h.own k (hsome k hk),fun b' o y hy=>?_,h.old,h.os,h.tape,h.output,by rw [g3];exact h.size,fun b' hb' hn=>?_,h.gat,fun k o hk hg=>?_,fun k o p hk hp hl=>h.fix k o p (hlow hk hl) hp hl,h.fxn,fun b' q hq=>?_⟩
 ·obtain ⟨vals,spare,ty,fr,hh,rest⟩:=h.mem k o (hlow hk hl) hl
  refine ⟨vals,spare,ty,fr,?_,rest⟩
  rw [g2 _ (h.map_apart hm (by rw [hlow hk hl];rfl) hl)];exact hh
 ·have hc:=h.ro b' o y hy
  have hne:b'≠b:=by
   intro e;subst e
   rw [hm.cell_none] at hc;cases hc
  simp only [World.cell?] at hc ⊢
  rw [g2 b' hne];exact hc
 ·rw [g2 b' (by omega)];exact h.block b' hb' hn
 ·rw [Fw] at hk
  split at hk
  ·rename_i e;subst e
   rw [hb] at hk;cases hk
   exact .inl ⟨l',rfl⟩
  exact h.glob k o hk hg
 rw [Fw] at hq
 split at hq
 ·rename_i e
  have e:b'=b:=Nat.add_left_cancel e
  subst e
  rw [hb] at hq;cases hq
  exact g1
 rename_i e
 exact (h.mp b' q hq).of (g2 b' (fun e2=>e (by rw [e2])))
theorem Sim.mapNew (h:Sim B d S a w):Sim B d ⟨S.env,(mp0+w.heap.size,⟨.m [],[]⟩)::S.mem⟩ a (w.alloc (.map #[] 0)):=by
 obtain ⟨g1,g2⟩:=heap_alloc w (.map #[] 0)
 have hs:=h.stay (w':=w.alloc (.map #[] 0)) g2 (xV (Array.getElem?_eq_some_iff.1 g1).1) rfl rfl rfl
 have hbig: ∀ k,k<gl0→k≠mp0+w.heap.size:=fun k hk=>by have:k<1000000:=hk;show k≠2000000+w.heap.size;omega
 have hlow: ∀ {k:Nat},k<gl0→look ((mp0+w.heap.size,(⟨.m [],[]⟩:Ob))::S.mem) k=look S.mem k:=fun {k} hk=>by
  simp only [look];rw [if_neg (hbig k hk)]
 refine ⟨hs.defers,hs.nt,hs.env,fun k o hk hl=>hs.mem k o (by rw [←hlow hl];exact hk) hl,fun k k' h1 h2 l1 l2=>hs.inj k k' (by rw [←hlow l1];exact h1) (by rw [←hlow l2];exact h2) l1 l2,fun k hk hl=>hs.own k (by rw [←hlow hl];exact hk) hl,hs.ro,hs.old,hs.os,hs.tape,hs.output,hs.size,hs.block,hs.gat,fun k o hk hg=>?_,fun k o p hk hp hl=>hs.fix k o p (by rw [←hlow hl];exact hk) hp hl,hs.fxn,fun b' q hq=>?_⟩
 ·simp only [look] at hk
  split at hk
  ·cases hk;exact .inl ⟨[],rfl⟩
  exact hs.glob k o hk hg
 simp only [look] at hq
 split at hq
 ·rename_i e
  have e:b'=w.heap.size:=Nat.add_left_cancel e
  subst e
  cases hq
  exact g1
 exact hs.mp b' q hq
end
section
variable {P:Program} {B:Base} {S:St} {K:St→Prop} {ds:List (Option Tmp)} {r:List Oper} {ty:TypeId} {pos:String} {af:Array Edge} {xt kt et:TypeId} {x k y:Operand} {b n:Nat} {l:Mp} {s:List UInt8}
abbrev g2k (b:Nat):V:=.w (.one (.pl (.val (.map (some b)))))
theorem o0g {d:Va} {b:Nat} {y:Value} (h:(g2k b).den d y):y=.map (some b):=by
 change PL.den _ _ _ at h
 rw [PL.den] at h;exact h.1
theorem a2v (d:Va) (b:Nat):(g2k b).den d (.map (some b)):=by
 change PL.den _ _ _
 rw [PL.den];exact ⟨rfl,fun cs h=>(by cases h),fun vs h=>(by cases h)⟩
theorem a1z {d:Va} {s:List UInt8} {y:Value} (h:V.den d (.w (.one (.pl (.str s)))) y):y=.string ⟨s.toArray⟩:=by
 change PL.den _ _ _ at h
 rw [PL.den] at h;exact h.1
theorem h2f {d:Va} {m:Int} {y:Value} (h:V.den d (.w (.one (.pl (.i m)))) y):y=.int .i64 m:=by
 change PL.den _ _ _ at h
 rw [PL.den] at h;exact h
theorem i2r (d:Va) (m:Int):V.den d (.w (.one (.pl (.i m)))) (.int .i64 m):=by
 change PL.den _ _ _
 rw [PL.den]
theorem j1w (hn:n<B.nt) (hK: ∀ b,B.w0.heap.size≤b→Bv P B ds r ⟨(n,g2k b)::S.env,(mp0+b,⟨.m [],[]⟩)::S.mem⟩ K):
 Cj P B ⟨some n,.makeMap xt none,ty,pos,af,none⟩ S ds r K:=by
 intro d a w h next Q hq
 have hrun:(execOp a.eval ⟨some n,.makeMap xt none,ty,pos,af,none⟩).run P w=.ok (.value (.map (some w.heap.size))) (w.alloc (.map #[] 0)):=by
  simp [execOp,Instr.makeMap,Result.andThen]
 unfold Oper.wp
 rw [hrun]
 exact hq _ _ _ _ (hK w.heap.size h.size) (h.mapNew.put hn (a2v d _))
theorem at_lookup (hx:S.get x=some (g2k b)) (hk:S.get k=some (.w (.one (.pl (.str s))))) (hl:look S.mem (mp0+b)=some ⟨.m l,[]⟩) (hxt:P.underlying xt=some (.map kt et)) (hkt:P.underlying kt=some .string) (het:(P.info? et).bind (·.zero)=some (.int .i64 0))
 (hK:n<B.nt∧Bv P B ds r ⟨(n,.w (.one (.pl (.i (getM l s)))))::S.env,S.mem⟩ K):
 Cj P B ⟨some n,.lookup xt x k false,ty,pos,af,none⟩ S ds r K:=by
 intro d a w h next Q hq
 have e1:=o0g (h.get hx);have e2:=a1z (h.get hk)
 have hrun:(execOp a.eval ⟨some n,.lookup xt x k false,ty,pos,af,none⟩).run P w=.ok (.value (.int .i64 (getM l s))) w:=by
  have:=x0x (s:=s) hxt hkt het (h.mp b l hl)
  simp [execOp,e1,e2,this]
 unfold Oper.wp
 rw [hrun]
 exact hq _ _ _ _ hK.2 (h.put hK.1 (i2r d _))
theorem r1t {m:Int} (hown:B.w0.heap.size≤b) (hx:S.get x=some (g2k b)) (hk:S.get k=some (.w (.one (.pl (.str s))))) (hy:S.get y=some (.w (.one (.pl (.i m))))) (hl:look S.mem (mp0+b)=some ⟨.m l,[]⟩) (hxt:P.underlying xt=some (.map kt et)) (hkt:P.underlying kt=some .string)
 (hK:Bv P B ds r ⟨S.env,a0c S.mem (mp0+b) ⟨.m (Oj l s m),[]⟩⟩ K):
 Cj P B ⟨none,.mapUpdate xt x k y,ty,pos,af,none⟩ S ds r K:=by
 intro d a w h next Q hq
 have e1:=o0g (h.get hx);have e2:=a1z (h.get hk);have e3:=h2f (h.get hy)
 have hrun:(execOp a.eval ⟨none,.mapUpdate xt x k y,ty,pos,af,none⟩).run P w=.ok .skip (Xv w b (Oj l s m)):=by
  have:=x0w (s:=s) (n:=m) hxt hkt (h.mp b l hl)
  simp [execOp,e1,e2,e3,this]
 unfold Oper.wp
 rw [hrun,Oper.upon_skip]
 exact hq _ _ _ _ hK (h.Xv hl hown _)
theorem b2o (hown:B.w0.heap.size≤b) (hx:S.get x=some (g2k b)) (hk:S.get k=some (.w (.one (.pl (.str s))))) (hl:look S.mem (mp0+b)=some ⟨.m l,[]⟩) (hxt:P.underlying xt=some (.map kt et)) (hkt:P.underlying kt=some .string) (het:(P.info? et).bind (·.zero)=some (.int .i64 0))
 (hK:n<B.nt∧Bv P B ds r ⟨(n,.tup [.one (.pl (.i (getM l s))),.one (.pl (.i ((o0i l s:Nat):Int)))])::S.env,a0c S.mem (mp0+b) ⟨.m (Qy l s),[]⟩⟩ K):
 Cj P B ⟨some n,.mapEntry xt x k,ty,pos,af,none⟩ S ds r K:=by
 intro d a w h next Q hq
 have e1:=o0g (h.get hx);have e2:=a1z (h.get hk)
 have hrun:(execOp a.eval ⟨some n,.mapEntry xt x k,ty,pos,af,none⟩).run P w=.ok (.value (.tuple #[.int .i64 (getM l s),goInt (o0i l s)])) (Xv w b (Qy l s)):=by
  have:=b1d (s:=s) hxt hkt het (h.mp b l hl)
  simp [execOp,e1,e2,this]
 unfold Oper.wp
 rw [hrun]
 exact hq _ _ _ _ hK.2 ((h.Xv hl hown _).put hK.1 ⟨_,rfl,.cons (i2r d _) (.cons (i2r d _) .nil)⟩)
theorem b2n {m:Int} {j:Nat} (hown:B.w0.heap.size≤b) (hx:S.get x=some (g2k b)) (hk:S.get k=some (.w (.one (.pl (.i ((j:Nat):Int)))))) (hy:S.get y=some (.w (.one (.pl (.i m))))) (hl:look S.mem (mp0+b)=some ⟨.m l,[]⟩) (hj:j<l.length)
 (hK:Bv P B ds r ⟨S.env,a0c S.mem (mp0+b) ⟨.m (setAt l j m),[]⟩⟩ K):
 Cj P B ⟨none,.entryStore xt x k y,ty,pos,af,none⟩ S ds r K:=by
 intro d a w h next Q hq
 have e1:=o0g (h.get hx);have e2:=h2f (h.get hk);have e3:=h2f (h.get hy)
 have hrun:(execOp a.eval ⟨none,.entryStore xt x k y,ty,pos,af,none⟩).run P w=.ok .skip (Xv w b (setAt l j m)):=by
  have:=b1c (P:=P) (xt:=xt) (n:=m) hj (h.mp b l hl)
  simp only [goInt] at this
  simp [execOp,e1,e2,e3,this]
 unfold Oper.wp
 rw [hrun,Oper.upon_skip]
 exact hq _ _ _ _ hK (h.Xv hl hown _)
end
end Go.Sy
namespace Go.Sy
@[go_sem] theorem nmp {k b:Nat} (h:k<2000000):(k=2000000+b)=False:=eq_false (by omega)
@[go_sem] theorem c2b {k b:Nat} (h:k<2000000):(2000000+b=k)=False:=eq_false (by omega)
@[go_sem] theorem q2n {k b:Nat} (h:k<2000001):(2000000+b<k)=False:=eq_false (by omega)
@[go_sem] theorem k2m (k:Nat) (o:Ob):a0c [] k o=[]:=rfl
section
variable {P:Program} {B:Base} {S:St} {K:St→Prop} {ds:List (Option Tmp)} {r:List Oper} {ty:TypeId} {pos:String} {af:Array Edge} {xt kt et:TypeId} {x k y:Operand} {b n:Nat} {l:Mp} {s:List UInt8}
@[go_sem] theorem j2g (dst:Option Tmp) (t:TypeId) (v:Option Operand):Bv P B ds (⟨dst,.makeMap t v,ty,pos,af,none⟩::r) S K=Cj P B ⟨dst,.makeMap t v,ty,pos,af,none⟩ S ds r K:=by rw [n0i];rfl
@[go_sem] theorem l2j (dst:Option Tmp) (t:TypeId) (u v:Operand) (c:Bool):Bv P B ds (⟨dst,.lookup t u v c,ty,pos,af,none⟩::r) S K=Cj P B ⟨dst,.lookup t u v c,ty,pos,af,none⟩ S ds r K:=by rw [n0i];rfl
@[go_sem] theorem c2a (dst:Option Tmp) (t:TypeId) (u v w:Operand):Bv P B ds (⟨dst,.mapUpdate t u v w,ty,pos,af,none⟩::r) S K=Cj P B ⟨dst,.mapUpdate t u v w,ty,pos,af,none⟩ S ds r K:=by rw [n0i];rfl
@[go_sem] theorem f2m (dst:Option Tmp) (t:TypeId) (u v:Operand):Bv P B ds (⟨dst,.mapEntry t u v,ty,pos,af,none⟩::r) S K=Cj P B ⟨dst,.mapEntry t u v,ty,pos,af,none⟩ S ds r K:=by rw [n0i];rfl
@[go_sem] theorem w1z (dst:Option Tmp) (t:TypeId) (u v w:Operand):Bv P B ds (⟨dst,.entryStore t u v w,ty,pos,af,none⟩::r) S K=Cj P B ⟨dst,.entryStore t u v w,ty,pos,af,none⟩ S ds r K:=by rw [n0i];rfl
theorem mk_k (hn:n<B.nt) (hK: ∀ b,B.w0.heap.size≤b→Bv P B ds r ⟨(n,.w (.one (.pl (.val (.map (some b))))))::S.env,(2000000+b,⟨.m [],[]⟩)::S.mem⟩ K):Cj P B ⟨some n,.makeMap xt none,ty,pos,af,none⟩ S ds r K:=j1w hn hK
def o2m (b:Nat) (s:List UInt8):Option Ob→Option (Nat×Mp×List UInt8)
 |some ⟨.m l,[]⟩=>some (b,l,s)
 |_=>none
def j2j (m:List (Nat×Ob)):Option V→Option V→Option (Nat×Mp×List UInt8)
 |some (.w (.one (.pl (.val (.map (some b)))))),some (.w (.one (.pl (.str s))))=>o2m b s (look m (2000000+b))
 |_,_=>none
def y0o (x:Option (Nat×Mp×List UInt8)) (f:Nat→Mp→List UInt8→Prop):Prop:=
 match x with
 |some y=>f y.1 y.2.1 y.2.2
 |none=>False
def f1i (x:Option V) (f:Int→Prop):Prop:=
 match x with
 |some (.w (.one (.pl (.i m))))=>f m
 |_=>False
@[go_sem] theorem m2i (m:List (Nat×Ob)) (b:Nat) (s:List UInt8):j2j m (some (.w (.one (.pl (.val (.map (some b))))))) (some (.w (.one (.pl (.str s)))))=o2m b s (look m (2000000+b)):=rfl
@[go_sem] theorem m2h (b:Nat) (s:List UInt8) (l:Mp):o2m b s (some ⟨.m l,[]⟩)=some (b,l,s):=rfl
@[go_sem] theorem f2w (b:Nat) (l:Mp) (s:List UInt8) (f:Nat→Mp→List UInt8→Prop):y0o (some (b,l,s)) f=f b l s:=rfl
@[go_sem] theorem f2x (m:Int) (f:Int→Prop):f1i (some (.w (.one (.pl (.i m))))) f=f m:=rfl
theorem l0w {m:List (Nat×Ob)} {u v:Option V} {f:Nat→Mp→List UInt8→Prop} (hs: ∀ j,v≠some (.w (.one (.pl (.i j))))) (h:y0o (j2j m u v) f): ∃ b l s,u=some (.w (.one (.pl (.val (.map (some b))))))∧v=some (.w (.one (.pl (.str s))))∧look m (2000000+b)=some ⟨.m l,[]⟩∧f b l s:=by
 unfold j2j at h
 split at h
 ·rename_i b s
  unfold o2m at h
  split at h
  ·rename_i l e;exact ⟨b,l,s,rfl,rfl,e,h⟩
  exact h.elim
 exact h.elim
theorem x1e {u:Option V} {f:Int→Prop} (h:f1i u f): ∃ m,u=some (.w (.one (.pl (.i m))))∧f m:=by
 unfold f1i at h
 split at h
 ·exact ⟨_,rfl,h⟩
 exact h.elim
def isStr :Option V→Bool
 |some (.w (.one (.pl (.str _))))=>true
 |_=>false
theorem v0n {v:Option V} (h:isStr v=true) (j:Int):v≠some (.w (.one (.pl (.i j)))):=by
 rintro rfl;cases h
@[go_sem] theorem j2m (s:List UInt8):isStr (some (.w (.one (.pl (.str s)))))=true:=rfl
theorem lk_k (hxt:P.underlying xt=some (.map kt et)) (hkt:P.underlying kt=some .string) (het:(P.info? et).bind (·.zero)=some (.int .i64 0))
 (h:isStr (S.get k)=true∧y0o (j2j S.mem (S.get x) (S.get k)) fun _ l s=>n<B.nt∧Bv P B ds r ⟨(n,.w (.one (.pl (.i (getM l s)))))::S.env,S.mem⟩ K):Cj P B ⟨some n,.lookup xt x k false,ty,pos,af,none⟩ S ds r K:=by
 obtain ⟨b,l,s,h1,h2,h3,h4⟩:=l0w (v0n h.1) h.2
 exact at_lookup h1 h2 h3 hxt hkt het h4
theorem d2c (hxt:P.underlying xt=some (.map kt et)) (hkt:P.underlying kt=some .string) (hown:B.w0.heap.size≤b)
 (h:isStr (S.get k)=true∧y0o (j2j S.mem (S.get x) (S.get k)) fun b' l s=>b'=b∧f1i (S.get y) fun m=>Bv P B ds r ⟨S.env,a0c S.mem (2000000+b) ⟨.m (Oj l s m),[]⟩⟩ K):Cj P B ⟨none,.mapUpdate xt x k y,ty,pos,af,none⟩ S ds r K:=by
 obtain ⟨b',l,s,h1,h2,h3,rfl,h4⟩:=l0w (v0n h.1) h.2
 obtain ⟨m,h5,h6⟩:=x1e h4
 exact r1t hown h1 h2 h5 h3 hxt hkt h6
theorem o2s (hxt:P.underlying xt=some (.map kt et)) (hkt:P.underlying kt=some .string) (het:(P.info? et).bind (·.zero)=some (.int .i64 0)) (hown:B.w0.heap.size≤b)
 (h:isStr (S.get k)=true∧y0o (j2j S.mem (S.get x) (S.get k)) fun b' l s=>b'=b∧n<B.nt∧Bv P B ds r ⟨(n,.tup [.one (.pl (.i (getM l s))),.one (.pl (.i ((o0i l s:Nat):Int)))])::S.env,a0c S.mem (2000000+b) ⟨.m (Qy l s),[]⟩⟩ K):Cj P B ⟨some n,.mapEntry xt x k,ty,pos,af,none⟩ S ds r K:=by
 obtain ⟨b',l,s,h1,h2,h3,rfl,h4⟩:=l0w (v0n h.1) h.2
 exact b2o hown h1 h2 h3 hxt hkt het h4
end
end Go.Sy
namespace Go.Sy
def h2e (l:Nat) (N:St→Prop) (Q:Exit→St→Prop):Exit→St→Prop
 | .goto l',S=>l'=l∧N S
 |e,S=>Q e S
section
variable {P:Program} {B:Base} {S:St} {Q:Exit→St→Prop}
theorem HT.goto {l:Nat} (h:Q (.goto l) S):HT P B (.goto l) S Q:=fun d a w hs=>wp_goto ⟨S,d,h,hs⟩
theorem HT.label {l:Nat} (h:Q .normal S):HT P B (.label l) S Q:=fun d a w hs=>wp_label ⟨S,d,h,hs⟩
theorem HT.scope {c rest:Code} {ι:Type} (l:Nat) (hf:findLabel c l=some rest) (T:ι→St) (μ:ι→Nat)
 (first:HT P B c S (h2e l (fun S'=>∃ j,Le B S' (T j)) Q))
 (round: ∀ i,HT P B rest (T i) (h2e l (fun S'=>∃ j,μ j<μ i∧Le B S' (T j)) Q)):HT P B (.scope c) S Q:=by
 intro d a w hs b k cs
 have hg:gotoIn l (.inScope c::k)=some (.code rest::.inScope c::k):=by simp [gotoIn,hf]
 have key: ∀ n i d a w,μ i=n→Sim B d (T i) a w→∃ e a' w',(∃ S' d',Q e S'∧Sim B d' S' a' w')∧Arrives P (lone (b.at a (.code rest::.inScope c::k)) cs w) b k cs e a' w':=by
  intro n
  induction n using Nat.strongRecOn with
  |_ n ih=>
    intro i d a w hn hJ
    obtain ⟨e,a₁,w₁,⟨S1,d1,hq,hs1⟩,harr⟩:=round i d a w hJ b (.inScope c::k) cs
    cases e with
    |normal=>exact ⟨.normal,a₁,w₁,⟨S1,d1,hq,hs1⟩,Steps.trans harr (.one step_inScope)⟩
    |exit id=>exact ⟨.exit id,a₁,w₁,⟨S1,d1,hq,hs1⟩,fun k' hk=>harr k' (by simp [exitTo,hk])⟩
    |goto l'=>
      obtain ⟨rfl,j,hlt,hj⟩:=hq
      obtain ⟨d2,hs2⟩:=hj _ _ _ hs1
      obtain ⟨e₂,a₂,w₂,hq₂,harr₂⟩:=ih _ (by omega) j d2 a₁ w₁ rfl hs2
      exact ⟨e₂,a₂,w₂,hq₂,.of_steps (harr _ hg) harr₂⟩
    |ret=>exact ⟨_,a₁,w₁,⟨S1,d1,hq,hs1⟩,harr⟩
    |panic ch=>exact ⟨_,a₁,w₁,⟨S1,d1,hq,hs1⟩,harr⟩
    |outgrown=>exact ⟨_,a₁,w₁,⟨S1,d1,hq,hs1⟩,harr⟩
 obtain ⟨e,a₁,w₁,⟨S1,d1,hq,hs1⟩,harr⟩:=first d a w hs b (.inScope c::k) cs
 cases e with
 |normal=>exact ⟨.normal,a₁,w₁,⟨S1,d1,hq,hs1⟩,.head step_scope (Steps.trans harr (.one step_inScope))⟩
 |exit id=>exact ⟨.exit id,a₁,w₁,⟨S1,d1,hq,hs1⟩,fun k' hk=>.head step_scope (harr k' (by simp [exitTo,hk]))⟩
 |goto l'=>
   obtain ⟨rfl,j,hj⟩:=hq
   obtain ⟨d2,hs2⟩:=hj _ _ _ hs1
   obtain ⟨e₂,a₂,w₂,hq₂,harr₂⟩:=key _ j d2 a₁ w₁ rfl hs2
   exact ⟨e₂,a₂,w₂,hq₂,.of_steps (.head step_scope (harr _ hg)) harr₂⟩
 |ret=>exact ⟨_,a₁,w₁,⟨S1,d1,hq,hs1⟩,.of_steps (.one step_scope) harr⟩
 |panic ch=>exact ⟨_,a₁,w₁,⟨S1,d1,hq,hs1⟩,.of_steps (.one step_scope) harr⟩
 |outgrown=>exact ⟨_,a₁,w₁,⟨S1,d1,hq,hs1⟩,.of_steps (.one step_scope) harr⟩
theorem e2l {y:Code} {l:Nat} {ι:Type} (E:List (Nat×V)) (M:List (Nat×Ob)) (e:ι→List (Nat×V)) (m:ι→List (Nat×Ob)) (μ:ι→Nat) (i₀:ι) (h0:leX [] S.env (e i₀++E)) (h1:leX [] S.mem (m i₀++M))
 (round: ∀ i,∀ Z:Exit→St→Prop,(∀ j S',μ j<μ i→leX [] S'.env (e j++E)→leX [] S'.mem (m j++M)→Z (.goto l) S')→(∀ S',Q .normal S'→Z .normal S')→(∀ S',Q .ret S'→Z .ret S')→(∀ k S',Q (.exit k) S'→Z (.exit k) S')→HT P B y ⟨e i++E,m i++M⟩ Z):HT P B (.scope (.seq (.label l) y)) S Q:=by
 have r: ∀ i,HT P B y ⟨e i++E,m i++M⟩ (h2e l (fun S'=>∃ j,μ j<μ i∧Le B S' ⟨e j++E,m j++M⟩) Q):=fun i=>
  round i _ (fun j S' hj he hm=>⟨rfl,j,hj,Le.ofX he hm⟩) (fun _ h=>h) (fun _ h=>h) (fun _ _ h=>h)
 have hf:findLabel (.seq (.label l) y) l=some (.seq .skip y):=by simp [findLabel]
 refine HT.scope l hf (fun i=>⟨e i++E,m i++M⟩) μ (HT.seq (HT.label (HT.le (Le.ofX h0 h1) ((r i₀).mono ?_)))) fun i=>HT.seq (HT.skip (r i))
 intro x S' hq
 cases x with
 |goto l'=>exact ⟨hq.1,hq.2.elim fun j h=>⟨j,h.2⟩⟩
 |_=>exact hq
theorem m2t {l:Nat} (h:Q (.goto l) S):HT P B (.goto l) S Q:=HT.goto h
end
end Go.Sy
namespace Go.Sy
section
variable {P:Program} {B:Base} {S:St} {Q:Exit→St→Prop}
structure nxtQ (P:Program) (B:Base) (y:Code) (Q:Exit→St→Prop) (e:Exit) (S:St):Prop where
 h:j0n (fun S=>HT P B y S Q) Q e S
structure blkQ (id:Nat) (Q:Exit→St→Prop) (e:Exit) (S:St):Prop where
 h:f0c id Q e S
structure thnQ (N:St→Prop) (M:Exit→St→Prop) (e:Exit) (S:St):Prop where
 h:j0n N M e S
structure rndQ (P:Program) (B:Base) (x:Code) (Q:Exit→St→Prop) (n:Nat) (S:St):Prop where
 h:rnd P B x Q n S
theorem p2d {x y:Code} (h:HT P B x S (nxtQ P B y Q)):HT P B (.seq x y) S Q:=HT.seq (h.mono fun _ _ h=>h.h)
theorem sq_n {y:Code} (h:HT P B y S Q):nxtQ P B y Q .normal S:=⟨h⟩
theorem sq_e {y:Code} {i:Nat} (h:Q (.exit i) S):nxtQ P B y Q (.exit i) S:=⟨h⟩
theorem sq_r {y:Code} (h:Q .ret S):nxtQ P B y Q .ret S:=⟨h⟩
theorem sq_g {y:Code} {i:Nat} (h:Q (.goto i) S):nxtQ P B y Q (.goto i) S:=⟨h⟩
theorem i2x {id:Nat} {x:Code} (h:HT P B x S (blkQ id Q)):HT P B (.block id x) S Q:=HT.block (h.mono fun _ _ h=>h.h)
theorem bq_n {id:Nat} (h:Q .normal S):blkQ id Q .normal S:=⟨h⟩
theorem bq_r {id:Nat} (h:Q .ret S):blkQ id Q .ret S:=⟨h⟩
theorem bq_g {id i:Nat} (h:Q (.goto i) S):blkQ id Q (.goto i) S:=⟨h⟩
theorem bq_x {id:Nat} (h:Q .normal S):blkQ id Q (.exit id) S:=⟨by simp only [f0c,if_true];exact h⟩
theorem bq_e {id i:Nat} (hi:i≠id) (h:Q (.exit i) S):blkQ id Q (.exit i) S:=⟨by simp only [f0c,if_neg hi];exact h⟩
theorem tq_n {N:St→Prop} {M:Exit→St→Prop} (h:N S):thnQ N M .normal S:=⟨h⟩
theorem tq_r {N:St→Prop} {M:Exit→St→Prop} (h:M .ret S):thnQ N M .ret S:=⟨h⟩
theorem tq_e {N:St→Prop} {M:Exit→St→Prop} {i:Nat} (h:M (.exit i) S):thnQ N M (.exit i) S:=⟨h⟩
theorem tq_g {N:St→Prop} {M:Exit→St→Prop} {i:Nat} (h:M (.goto i) S):thnQ N M (.goto i) S:=⟨h⟩
theorem Nw {x:Code} {ι:Type} (e:ι→List (Nat×V)) (m:ι→List (Nat×Ob)) (μ:ι→Nat) (i₀:ι)
 (round: ∀ i,∀ (N:St→Prop) (M:Exit→St→Prop),(∀ j S',μ j<μ i→leX [] S'.env (e j++S.env)→leX [] S'.mem (m j++S.mem)→N S')→(∀ e S',Q e S'→M e S')→HT P B x ⟨e i++S.env,m i++S.mem⟩ (thnQ N M)) (h0:leX [] S.env (e i₀++S.env):=by (simp only [go_sem,leX,yC,yD,F0];try simp)) (h1:leX [] S.mem (m i₀++S.mem):=by (simp only [go_sem,leX,yC,yD,F0];try simp)):HT P B (.loop x) S Q:=
 b0s e m μ i₀ h0 h1 fun i N M hN hM=>(round i N M hN hM).mono fun _ _ h=>h.h
theorem Nq {x:Code} {ι:Type} (E:List (Nat×V)) (M:List (Nat×Ob)) (e:ι→List (Nat×V)) (m:ι→List (Nat×Ob)) (μ:ι→Nat) (i₀:ι)
 (round: ∀ i,∀ (N:St→Prop) (M':Exit→St→Prop),(∀ j S',μ j<μ i→leX [] S'.env (e j++E)→leX [] S'.mem (m j++M)→N S')→(∀ e S',Q e S'→M' e S')→HT P B x ⟨e i++E,m i++M⟩ (thnQ N M')) (h0:leX [] S.env (e i₀++E):=by (simp only [go_sem,leX,yC,yD,F0];try simp)) (h1:leX [] S.mem (m i₀++M):=by (simp only [go_sem,leX,yC,yD,F0];try simp)):HT P B (.loop x) S Q:=
 m2j E M e m μ i₀ h0 h1 fun i N M hN hM=>(round i N M hN hM).mono fun _ _ h=>h.h
theorem g0d {x y:Code} {α:Type} (e:α→List (Nat×V)) (m:α→List (Nat×Ob)) (p:α→Prop)
 (h1: ∀ (N:St→Prop) (M:Exit→St→Prop),(∀ a,p a→∀ S',leX [] S'.env (e a++S.env)→leX [] S'.mem (m a++S.mem)→N S')→(∀ e S',Q e S'→M e S')→HT P B x S (thnQ N M))
 (h2: ∀ a,p a→HT P B y ⟨e a++S.env,m a++S.mem⟩ Q):HT P B (.seq x y) S Q:=
 m2o e m p (fun N M hN hM=>(h1 N M hN hM).mono fun _ _ h=>h.h) h2
theorem k2u {x:Code} {n:Nat} {ks:List Nat} (hk:FG ks) (h:HT P B x (S.forget ks) (thnQ (rndQ P B x Q n) Q)):rndQ P B x Q (n+1) S:=⟨b0g ks (n:=n+1) (h.mono fun e S h=>by
 have h:=h.h
 cases e<;>first|exact h.h|exact h)⟩
structure NF :Prop where
 mk::
theorem k2t {x:Code} {n:Nat} (_:NF) (h:HT P B x S (thnQ (rndQ P B x Q n) Q)):rndQ P B x Q (n+1) S:=⟨(h.mono fun e S h=>by
 have h:=h.h
 cases e<;>first|exact h.h|exact h:HT P B x S (j0n (rnd P B x Q n) Q))⟩
def UR :Prop:=True
theorem ur :UR:=trivial
theorem w1e {x:Code} (_:UR) (n:Nat) (h:rndQ P B x Q n S):HT P B (.loop x) S Q:=n0p n h.h
structure Stop (p:Prop):Prop where
 h:p
structure ZS (id:Nat):Prop where
 mk::
structure ZG (id:Nat):Prop where
 mk::
structure DQ (id:Nat) (names c:List Nat) (need:List (Nat×Nat)):Prop where
 mk::
theorem b2u {id:Nat} {l:List Oper} {y:Code} {names d:List Nat} {need:List (Nat×Nat)} (hz:DQ id names d need) (hm:P.follows .mixedOrders=true) (hst:k0p (f0f l) d need l=true)
 (hn:names.all (fun k=>fresh k S&&(look S.mem k).isNone)=true)
 (h: ∀ K:St→List Da→Prop,(∀ S' D,z0v l D need→HT P B y S' Q→K S' D)→Rj P B.nt names (f0f l) (!need.isEmpty) l [] [] S K):HT P B (.seq (.region id l.toArray true) y) S Q:=o2j names d need hm hst hn h
theorem n0b {id:Nat} {l:List Oper} {names d:List Nat} {need:List (Nat×Nat)} (hz:DQ id names d need) (hm:P.follows .mixedOrders=true) (hst:k0p (f0f l) d need l=true)
 (hn:names.all (fun k=>fresh k S&&(look S.mem k).isNone)=true)
 (h: ∀ K:St→List Da→Prop,(∀ S' D,z0v l D need→Q .normal S'→K S' D)→Rj P B.nt names (f0f l) (!need.isEmpty) l [] [] S K):HT P B (.region id l.toArray true) S Q:=q1j names d need hm hst hn h
theorem k2e {id:Nat} {l:Array Oper} {b:Bool} {y:Code} (_:ZS id) (h:Stop (HT P B (.seq (.region id l b) y) S Q)):HT P B (.seq (.region id l b) y) S Q:=h.h
theorem k2g {id:Nat} {l:Array Oper} {b:Bool} (_:ZS id) (h:Stop (HT P B (.region id l b) S Q)):HT P B (.region id l b) S Q:=h.h
theorem k2f {id:Nat} {l:Array Oper} {b:Bool} {x y:Code} (_:ZG id) (h:Stop (HT P B (.seq (.seq (.region id l b) x) y) S Q)):HT P B (.seq (.seq (.region id l b) x) y) S Q:=h.h
theorem goW {p:Prop} (h:p:=by
 repeat (first
  |refine k2e zS ?_
  |refine k2g zS ?_
  |refine k2f zG ?_
  |refine sq_n ?_
  |refine sq_e ?_
  |refine sq_r ?_
  |refine sq_g ?_
  |refine bq_x ?_
  |(refine bq_e ?_ ?_;focus (decide))
  |refine bq_n ?_
  |refine bq_r ?_
  |refine bq_g ?_
  |refine tq_n ?_
  |refine tq_e ?_
  |refine tq_r ?_
  |refine tq_g ?_
  |(first|refine xhM0 _ _ ?_|refine xhM1 _ _ ?_|refine xhM2 _ _ ?_|refine xhM3 _ _ ?_|refine xhM4 _ _ ?_|refine xhM5 _ _ ?_|refine xhM6 _ _ ?_|refine xhM7 _ _ ?_|refine xhMj _ _ ?_)
  |(refine zhZ _ _ ?_;(try simp only [go_sem,F0,Nat.reduceAdd,Int.reduceTMod,Int.reduceTDiv,Int.reduceNeg,Int.reduceMul,Int.reduceToNat,yK]);(all_goals (first|rfl|exact ⟨rfl,rfl⟩|exact told_plain rfl ⟨rfl,rfl⟩|exact Av rfl (Bz (by simp [look,F0])) ⟨rfl,rfl⟩|exact zE|exact zE _|(rw [zE];done)|(simp [F0];done)|(refine u0i (n:=40) ?_ rfl;first|rfl|kernel_rfl)|exact Vv (by simp [look,F0]) ⟨rfl,rfl⟩|exact zE _ (by first|rfl|(simp [look,F0];done)))))
  |(refine zL _ ?_ ?_;all_goals (simp only [go_sem,leX,yC,yD,F0];try simp))
  |refine k2t zF ?_
  |(refine k2u zF ?_;(try simp only [go_sem,St.forget,fgt]))
  |(refine w1e (And.left zU) 65 ?_;replace zU:=And.right zU)
  |((first|refine l0n fun zK zhK=>?_|refine Jv fun zK zhK=>?_);(try simp only [go_sem,F0,Nat.reduceAdd,Int.reduceTMod,Int.reduceTDiv,Int.reduceNeg,Int.reduceMul,Int.reduceToNat,yK]);(repeat' (first|apply yA|intro _));(repeat (first
    |((first|(obtain ⟨cz,cq⟩:=cq;refine Nk (fun _ _=>rfl) ?_ cz ?_;focus (first|rfl|(simp only [go_sem,F0,Nat.reduceAdd,Int.reduceTMod,Int.reduceTDiv,Int.reduceNeg,Int.reduceMul,Int.reduceToNat,yK]<;>rfl)))|(obtain ⟨cz,cq⟩:=cq;refine Nk (fun _ _=>rfl) ?_ (cz ?_) ?_;focus (first|rfl|(simp only [go_sem,F0,Nat.reduceAdd,Int.reduceTMod,Int.reduceTDiv,Int.reduceNeg,Int.reduceMul,Int.reduceToNat,yK]<;>rfl)))|(refine Nk (fun _ _=>rfl) ?_ cv0 ?_;focus (first|rfl|(simp only [go_sem,F0,Nat.reduceAdd,Int.reduceTMod,Int.reduceTDiv,Int.reduceNeg,Int.reduceMul,Int.reduceToNat,yK]<;>rfl)))|(refine Nk (fun _ _=>rfl) ?_ cv1 ?_;focus (first|rfl|(simp only [go_sem,F0,Nat.reduceAdd,Int.reduceTMod,Int.reduceTDiv,Int.reduceNeg,Int.reduceMul,Int.reduceToNat,yK]<;>rfl)))|(refine Nk (fun _ _=>rfl) ?_ cv2 ?_;focus (first|rfl|(simp only [go_sem,F0,Nat.reduceAdd,Int.reduceTMod,Int.reduceTDiv,Int.reduceNeg,Int.reduceMul,Int.reduceToNat,yK]<;>rfl)))|(refine Nk (fun _ _=>rfl) ?_ cv3 ?_;focus (first|rfl|(simp only [go_sem,F0,Nat.reduceAdd,Int.reduceTMod,Int.reduceTDiv,Int.reduceNeg,Int.reduceMul,Int.reduceToNat,yK]<;>rfl)))|(refine Nk (fun _ _=>rfl) ?_ cv4 ?_;focus (first|rfl|(simp only [go_sem,F0,Nat.reduceAdd,Int.reduceTMod,Int.reduceTDiv,Int.reduceNeg,Int.reduceMul,Int.reduceToNat,yK]<;>rfl)))|(refine Nk (fun _ _=>rfl) ?_ cv5 ?_;focus (first|rfl|(simp only [go_sem,F0,Nat.reduceAdd,Int.reduceTMod,Int.reduceTDiv,Int.reduceNeg,Int.reduceMul,Int.reduceToNat,yK]<;>rfl)))|(refine Nk (fun _ _=>rfl) ?_ cv6 ?_;focus (first|rfl|(simp only [go_sem,F0,Nat.reduceAdd,Int.reduceTMod,Int.reduceTDiv,Int.reduceNeg,Int.reduceMul,Int.reduceToNat,yK]<;>rfl)))|(refine Nk (fun _ _=>rfl) ?_ cv7 ?_;focus (first|rfl|(simp only [go_sem,F0,Nat.reduceAdd,Int.reduceTMod,Int.reduceTDiv,Int.reduceNeg,Int.reduceMul,Int.reduceToNat,yK]<;>rfl)))|(refine Nk (fun _ _=>rfl) ?_ cv8 ?_;focus (first|rfl|(simp only [go_sem,F0,Nat.reduceAdd,Int.reduceTMod,Int.reduceTDiv,Int.reduceNeg,Int.reduceMul,Int.reduceToNat,yK]<;>rfl)))|(refine Nk (fun _ _=>rfl) ?_ cv9 ?_;focus (first|rfl|(simp only [go_sem,F0,Nat.reduceAdd,Int.reduceTMod,Int.reduceTDiv,Int.reduceNeg,Int.reduceMul,Int.reduceToNat,yK]<;>rfl))));rintro v m ⟨hR,hm⟩;subst hR;subst hm;refine yA ?_ (yA ?_ ?_);(iterate 2 (focus (first|rfl|simp only [go_sem,F0,Nat.reduceAdd,Int.reduceTMod,Int.reduceTDiv,Int.reduceNeg,Int.reduceMul,Int.reduceToNat,yK])));(try simp only [go_sem,F0,Nat.reduceAdd,Int.reduceTMod,Int.reduceTDiv,Int.reduceNeg,Int.reduceMul,Int.reduceToNat,yK]);(repeat' (first|apply yA|intro _)))
    |((first|(obtain ⟨cz,cq⟩:=cq;refine Oy (fun k=>k) _ [] (fun _ _=>rfl) ?_ cz ?_ ?_;focus (first|rfl|(simp only [go_sem,F0,Nat.reduceAdd,Int.reduceTMod,Int.reduceTDiv,Int.reduceNeg,Int.reduceMul,Int.reduceToNat,yK]<;>rfl)))|(obtain ⟨cz,cq⟩:=cq;refine Oy (fun k=>k) _ [] (fun _ _=>rfl) ?_ (cz ?_) ?_ ?_;focus (first|rfl|(simp only [go_sem,F0,Nat.reduceAdd,Int.reduceTMod,Int.reduceTDiv,Int.reduceNeg,Int.reduceMul,Int.reduceToNat,yK]<;>rfl))));(refine yA ?_ (yA ?_ (yA ?_ ?_))<;>first|rfl|simp only [go_sem]);(try simp only [go_sem,F0,Nat.reduceAdd,Int.reduceTMod,Int.reduceTDiv,Int.reduceNeg,Int.reduceMul,Int.reduceToNat,yK]);(repeat' (first|apply yA|intro _)))
    |((obtain ⟨cz,cq⟩:=cq;refine w0k ?_ cz ?_;focus (first|rfl|(simp only [go_sem,F0,Nat.reduceAdd,Int.reduceTMod,Int.reduceTDiv,Int.reduceNeg,Int.reduceMul,Int.reduceToNat,yK]<;>rfl)));(try simp only [go_sem,F0,Nat.reduceAdd,Int.reduceTMod,Int.reduceTDiv,Int.reduceNeg,Int.reduceMul,Int.reduceToNat,yK]);(repeat' (first|apply yA|intro _)))
    |((obtain ⟨cz,cq⟩:=cq;refine g0q ?_ cz ?_;focus (first|rfl|(simp only [go_sem,F0,Nat.reduceAdd,Int.reduceTMod,Int.reduceTDiv,Int.reduceNeg,Int.reduceMul,Int.reduceToNat,yK]<;>rfl)));(try simp only [go_sem,F0,Nat.reduceAdd,Int.reduceTMod,Int.reduceTDiv,Int.reduceNeg,Int.reduceMul,Int.reduceToNat,yK]);(repeat' (first|apply yA|intro _)))
    |((first|(obtain ⟨cz,cq⟩:=cq;refine Uy (fun _ _=>rfl) ?_ ?_ ?_ cz ?_;iterate 3 (focus (first|rfl|decide|(simp only [go_sem,F0,Nat.reduceAdd,Int.reduceTMod,Int.reduceTDiv,Int.reduceNeg,Int.reduceMul,Int.reduceToNat,yK]<;>first|done|rfl|simp))))|(refine Uy (fun _ _=>rfl) ?_ ?_ ?_ ch0 ?_;iterate 3 (focus (first|rfl|decide|(simp only [go_sem,F0,Nat.reduceAdd,Int.reduceTMod,Int.reduceTDiv,Int.reduceNeg,Int.reduceMul,Int.reduceToNat,yK]<;>first|done|rfl|simp))))|(refine Uy (fun _ _=>rfl) ?_ ?_ ?_ ch1 ?_;iterate 3 (focus (first|rfl|decide|(simp only [go_sem,F0,Nat.reduceAdd,Int.reduceTMod,Int.reduceTDiv,Int.reduceNeg,Int.reduceMul,Int.reduceToNat,yK]<;>first|done|rfl|simp))))|(refine Uy (fun _ _=>rfl) ?_ ?_ ?_ ch2 ?_;iterate 3 (focus (first|rfl|decide|(simp only [go_sem,F0,Nat.reduceAdd,Int.reduceTMod,Int.reduceTDiv,Int.reduceNeg,Int.reduceMul,Int.reduceToNat,yK]<;>first|done|rfl|simp))))|(refine Uy (fun _ _=>rfl) ?_ ?_ ?_ ch3 ?_;iterate 3 (focus (first|rfl|decide|(simp only [go_sem,F0,Nat.reduceAdd,Int.reduceTMod,Int.reduceTDiv,Int.reduceNeg,Int.reduceMul,Int.reduceToNat,yK]<;>first|done|rfl|simp))))|(refine Uy (fun _ _=>rfl) ?_ ?_ ?_ ch4 ?_;iterate 3 (focus (first|rfl|decide|(simp only [go_sem,F0,Nat.reduceAdd,Int.reduceTMod,Int.reduceTDiv,Int.reduceNeg,Int.reduceMul,Int.reduceToNat,yK]<;>first|done|rfl|simp))))|(refine Uy (fun _ _=>rfl) ?_ ?_ ?_ ch5 ?_;iterate 3 (focus (first|rfl|decide|(simp only [go_sem,F0,Nat.reduceAdd,Int.reduceTMod,Int.reduceTDiv,Int.reduceNeg,Int.reduceMul,Int.reduceToNat,yK]<;>first|done|rfl|simp))))|(refine Uy (fun _ _=>rfl) ?_ ?_ ?_ ch6 ?_;iterate 3 (focus (first|rfl|decide|(simp only [go_sem,F0,Nat.reduceAdd,Int.reduceTMod,Int.reduceTDiv,Int.reduceNeg,Int.reduceMul,Int.reduceToNat,yK]<;>first|done|rfl|simp))))|(obtain ⟨⟨cg,cz⟩,cq⟩:=cq;refine Ww ?_ ?_ (fun _ _=>rfl) ?_ ?_ ?_ cg cz ?_;iterate 5 (focus (first|rfl|decide|(simp only [go_sem,F0,Nat.reduceAdd,Int.reduceTMod,Int.reduceTDiv,Int.reduceNeg,Int.reduceMul,Int.reduceToNat,yK]<;>first|done|rfl|simp))))|(refine Ww ?_ ?_ (fun _ _=>rfl) ?_ ?_ ?_ cg0 cf0 ?_;iterate 5 (focus (first|rfl|decide|(simp only [go_sem,F0,Nat.reduceAdd,Int.reduceTMod,Int.reduceTDiv,Int.reduceNeg,Int.reduceMul,Int.reduceToNat,yK]<;>first|done|rfl|simp))))|(refine Ww ?_ ?_ (fun _ _=>rfl) ?_ ?_ ?_ cg1 cf1 ?_;iterate 5 (focus (first|rfl|decide|(simp only [go_sem,F0,Nat.reduceAdd,Int.reduceTMod,Int.reduceTDiv,Int.reduceNeg,Int.reduceMul,Int.reduceToNat,yK]<;>first|done|rfl|simp))))|(refine Ww ?_ ?_ (fun _ _=>rfl) ?_ ?_ ?_ cg2 cf2 ?_;iterate 5 (focus (first|rfl|decide|(simp only [go_sem,F0,Nat.reduceAdd,Int.reduceTMod,Int.reduceTDiv,Int.reduceNeg,Int.reduceMul,Int.reduceToNat,yK]<;>first|done|rfl|simp))))|(refine Ww ?_ ?_ (fun _ _=>rfl) ?_ ?_ ?_ cg3 cf3 ?_;iterate 5 (focus (first|rfl|decide|(simp only [go_sem,F0,Nat.reduceAdd,Int.reduceTMod,Int.reduceTDiv,Int.reduceNeg,Int.reduceMul,Int.reduceToNat,yK]<;>first|done|rfl|simp))))|(refine Ww ?_ ?_ (fun _ _=>rfl) ?_ ?_ ?_ cg4 cf4 ?_;iterate 5 (focus (first|rfl|decide|(simp only [go_sem,F0,Nat.reduceAdd,Int.reduceTMod,Int.reduceTDiv,Int.reduceNeg,Int.reduceMul,Int.reduceToNat,yK]<;>first|done|rfl|simp))))|(refine Ww ?_ ?_ (fun _ _=>rfl) ?_ ?_ ?_ cg5 cf5 ?_;iterate 5 (focus (first|rfl|decide|(simp only [go_sem,F0,Nat.reduceAdd,Int.reduceTMod,Int.reduceTDiv,Int.reduceNeg,Int.reduceMul,Int.reduceToNat,yK]<;>first|done|rfl|simp)))));rintro v m ⟨hR,hm⟩;subst hR;subst hm;refine yA ?_ (yA ?_ (yA ?_ ?_));(iterate 3 (focus (first|rfl|(simp only [go_sem,F0,Nat.reduceAdd,Int.reduceTMod,Int.reduceTDiv,Int.reduceNeg,Int.reduceMul,Int.reduceToNat,yK];done)|(simp [go_sem,look,F0];done))));(try simp only [go_sem,F0,Nat.reduceAdd,Int.reduceTMod,Int.reduceTDiv,Int.reduceNeg,Int.reduceMul,Int.reduceToNat,yK]);(repeat' (first|apply yA|intro _)))));refine zhK _ ?_)
  |((first|refine b2u zd0 mixed ?_ ?_ fun zK zhK=>?_|refine n0b zd0 mixed ?_ ?_ fun zK zhK=>?_|refine b2u zd1 mixed ?_ ?_ fun zK zhK=>?_|refine n0b zd1 mixed ?_ ?_ fun zK zhK=>?_|refine b2u zd2 mixed ?_ ?_ fun zK zhK=>?_|refine n0b zd2 mixed ?_ ?_ fun zK zhK=>?_|refine b2u zd3 mixed ?_ ?_ fun zK zhK=>?_|refine n0b zd3 mixed ?_ ?_ fun zK zhK=>?_|refine b2u zd4 mixed ?_ ?_ fun zK zhK=>?_|refine n0b zd4 mixed ?_ ?_ fun zK zhK=>?_|refine b2u zd5 mixed ?_ ?_ fun zK zhK=>?_|refine n0b zd5 mixed ?_ ?_ fun zK zhK=>?_|refine b2u zd6 mixed ?_ ?_ fun zK zhK=>?_|refine n0b zd6 mixed ?_ ?_ fun zK zhK=>?_|refine b2u zd7 mixed ?_ ?_ fun zK zhK=>?_|refine n0b zd7 mixed ?_ ?_ fun zK zhK=>?_);(focus (kernel_rfl));(focus (simp only [go_sem]));(try simp only [go_sem,F0]);(repeat' (first|apply yA|intro _));(repeat (first
    |((first|(obtain ⟨cz,cq⟩:=cq;refine Nk (fun _ _=>rfl) ?_ cz ?_;focus (first|rfl|(simp only [go_sem,F0,Nat.reduceAdd,Int.reduceTMod,Int.reduceTDiv,Int.reduceNeg,Int.reduceMul,Int.reduceToNat,yK]<;>rfl)))|(obtain ⟨cz,cq⟩:=cq;refine Nk (fun _ _=>rfl) ?_ (cz ?_) ?_;focus (first|rfl|(simp only [go_sem,F0,Nat.reduceAdd,Int.reduceTMod,Int.reduceTDiv,Int.reduceNeg,Int.reduceMul,Int.reduceToNat,yK]<;>rfl)))|(refine Nk (fun _ _=>rfl) ?_ cv0 ?_;focus (first|rfl|(simp only [go_sem,F0,Nat.reduceAdd,Int.reduceTMod,Int.reduceTDiv,Int.reduceNeg,Int.reduceMul,Int.reduceToNat,yK]<;>rfl)))|(refine Nk (fun _ _=>rfl) ?_ cv1 ?_;focus (first|rfl|(simp only [go_sem,F0,Nat.reduceAdd,Int.reduceTMod,Int.reduceTDiv,Int.reduceNeg,Int.reduceMul,Int.reduceToNat,yK]<;>rfl)))|(refine Nk (fun _ _=>rfl) ?_ cv2 ?_;focus (first|rfl|(simp only [go_sem,F0,Nat.reduceAdd,Int.reduceTMod,Int.reduceTDiv,Int.reduceNeg,Int.reduceMul,Int.reduceToNat,yK]<;>rfl)))|(refine Nk (fun _ _=>rfl) ?_ cv3 ?_;focus (first|rfl|(simp only [go_sem,F0,Nat.reduceAdd,Int.reduceTMod,Int.reduceTDiv,Int.reduceNeg,Int.reduceMul,Int.reduceToNat,yK]<;>rfl)))|(refine Nk (fun _ _=>rfl) ?_ cv4 ?_;focus (first|rfl|(simp only [go_sem,F0,Nat.reduceAdd,Int.reduceTMod,Int.reduceTDiv,Int.reduceNeg,Int.reduceMul,Int.reduceToNat,yK]<;>rfl)))|(refine Nk (fun _ _=>rfl) ?_ cv5 ?_;focus (first|rfl|(simp only [go_sem,F0,Nat.reduceAdd,Int.reduceTMod,Int.reduceTDiv,Int.reduceNeg,Int.reduceMul,Int.reduceToNat,yK]<;>rfl)))|(refine Nk (fun _ _=>rfl) ?_ cv6 ?_;focus (first|rfl|(simp only [go_sem,F0,Nat.reduceAdd,Int.reduceTMod,Int.reduceTDiv,Int.reduceNeg,Int.reduceMul,Int.reduceToNat,yK]<;>rfl)))|(refine Nk (fun _ _=>rfl) ?_ cv7 ?_;focus (first|rfl|(simp only [go_sem,F0,Nat.reduceAdd,Int.reduceTMod,Int.reduceTDiv,Int.reduceNeg,Int.reduceMul,Int.reduceToNat,yK]<;>rfl)))|(refine Nk (fun _ _=>rfl) ?_ cv8 ?_;focus (first|rfl|(simp only [go_sem,F0,Nat.reduceAdd,Int.reduceTMod,Int.reduceTDiv,Int.reduceNeg,Int.reduceMul,Int.reduceToNat,yK]<;>rfl)))|(refine Nk (fun _ _=>rfl) ?_ cv9 ?_;focus (first|rfl|(simp only [go_sem,F0,Nat.reduceAdd,Int.reduceTMod,Int.reduceTDiv,Int.reduceNeg,Int.reduceMul,Int.reduceToNat,yK]<;>rfl))));rintro v m ⟨hR,hm⟩;subst hR;subst hm;refine yA ?_ (yA ?_ ?_);(iterate 2 (focus (first|rfl|simp only [go_sem,F0,Nat.reduceAdd,Int.reduceTMod,Int.reduceTDiv,Int.reduceNeg,Int.reduceMul,Int.reduceToNat,yK])));(try simp only [go_sem,F0,Nat.reduceAdd,Int.reduceTMod,Int.reduceTDiv,Int.reduceNeg,Int.reduceMul,Int.reduceToNat,yK]);(repeat' (first|apply yA|intro _)))
    |((first|(obtain ⟨cz,cq⟩:=cq;refine Oy (fun k=>k) _ [] (fun _ _=>rfl) ?_ cz ?_ ?_;focus (first|rfl|(simp only [go_sem,F0,Nat.reduceAdd,Int.reduceTMod,Int.reduceTDiv,Int.reduceNeg,Int.reduceMul,Int.reduceToNat,yK]<;>rfl)))|(obtain ⟨cz,cq⟩:=cq;refine Oy (fun k=>k) _ [] (fun _ _=>rfl) ?_ (cz ?_) ?_ ?_;focus (first|rfl|(simp only [go_sem,F0,Nat.reduceAdd,Int.reduceTMod,Int.reduceTDiv,Int.reduceNeg,Int.reduceMul,Int.reduceToNat,yK]<;>rfl))));(refine yA ?_ (yA ?_ (yA ?_ ?_))<;>first|rfl|simp only [go_sem]);(try simp only [go_sem,F0,Nat.reduceAdd,Int.reduceTMod,Int.reduceTDiv,Int.reduceNeg,Int.reduceMul,Int.reduceToNat,yK]);(repeat' (first|apply yA|intro _)))
    |((obtain ⟨cz,cq⟩:=cq;refine w0k ?_ cz ?_;focus (first|rfl|(simp only [go_sem,F0,Nat.reduceAdd,Int.reduceTMod,Int.reduceTDiv,Int.reduceNeg,Int.reduceMul,Int.reduceToNat,yK]<;>rfl)));(try simp only [go_sem,F0,Nat.reduceAdd,Int.reduceTMod,Int.reduceTDiv,Int.reduceNeg,Int.reduceMul,Int.reduceToNat,yK]);(repeat' (first|apply yA|intro _)))
    |((obtain ⟨cz,cq⟩:=cq;refine g0q ?_ cz ?_;focus (first|rfl|(simp only [go_sem,F0,Nat.reduceAdd,Int.reduceTMod,Int.reduceTDiv,Int.reduceNeg,Int.reduceMul,Int.reduceToNat,yK]<;>rfl)));(try simp only [go_sem,F0,Nat.reduceAdd,Int.reduceTMod,Int.reduceTDiv,Int.reduceNeg,Int.reduceMul,Int.reduceToNat,yK]);(repeat' (first|apply yA|intro _)))
    |((first|(obtain ⟨cz,cq⟩:=cq;refine Uy (fun _ _=>rfl) ?_ ?_ ?_ cz ?_;iterate 3 (focus (first|rfl|decide|(simp only [go_sem,F0,Nat.reduceAdd,Int.reduceTMod,Int.reduceTDiv,Int.reduceNeg,Int.reduceMul,Int.reduceToNat,yK]<;>first|done|rfl|simp))))|(refine Uy (fun _ _=>rfl) ?_ ?_ ?_ ch0 ?_;iterate 3 (focus (first|rfl|decide|(simp only [go_sem,F0,Nat.reduceAdd,Int.reduceTMod,Int.reduceTDiv,Int.reduceNeg,Int.reduceMul,Int.reduceToNat,yK]<;>first|done|rfl|simp))))|(refine Uy (fun _ _=>rfl) ?_ ?_ ?_ ch1 ?_;iterate 3 (focus (first|rfl|decide|(simp only [go_sem,F0,Nat.reduceAdd,Int.reduceTMod,Int.reduceTDiv,Int.reduceNeg,Int.reduceMul,Int.reduceToNat,yK]<;>first|done|rfl|simp))))|(refine Uy (fun _ _=>rfl) ?_ ?_ ?_ ch2 ?_;iterate 3 (focus (first|rfl|decide|(simp only [go_sem,F0,Nat.reduceAdd,Int.reduceTMod,Int.reduceTDiv,Int.reduceNeg,Int.reduceMul,Int.reduceToNat,yK]<;>first|done|rfl|simp))))|(refine Uy (fun _ _=>rfl) ?_ ?_ ?_ ch3 ?_;iterate 3 (focus (first|rfl|decide|(simp only [go_sem,F0,Nat.reduceAdd,Int.reduceTMod,Int.reduceTDiv,Int.reduceNeg,Int.reduceMul,Int.reduceToNat,yK]<;>first|done|rfl|simp))))|(refine Uy (fun _ _=>rfl) ?_ ?_ ?_ ch4 ?_;iterate 3 (focus (first|rfl|decide|(simp only [go_sem,F0,Nat.reduceAdd,Int.reduceTMod,Int.reduceTDiv,Int.reduceNeg,Int.reduceMul,Int.reduceToNat,yK]<;>first|done|rfl|simp))))|(refine Uy (fun _ _=>rfl) ?_ ?_ ?_ ch5 ?_;iterate 3 (focus (first|rfl|decide|(simp only [go_sem,F0,Nat.reduceAdd,Int.reduceTMod,Int.reduceTDiv,Int.reduceNeg,Int.reduceMul,Int.reduceToNat,yK]<;>first|done|rfl|simp))))|(refine Uy (fun _ _=>rfl) ?_ ?_ ?_ ch6 ?_;iterate 3 (focus (first|rfl|decide|(simp only [go_sem,F0,Nat.reduceAdd,Int.reduceTMod,Int.reduceTDiv,Int.reduceNeg,Int.reduceMul,Int.reduceToNat,yK]<;>first|done|rfl|simp))))|(obtain ⟨⟨cg,cz⟩,cq⟩:=cq;refine Ww ?_ ?_ (fun _ _=>rfl) ?_ ?_ ?_ cg cz ?_;iterate 5 (focus (first|rfl|decide|(simp only [go_sem,F0,Nat.reduceAdd,Int.reduceTMod,Int.reduceTDiv,Int.reduceNeg,Int.reduceMul,Int.reduceToNat,yK]<;>first|done|rfl|simp))))|(refine Ww ?_ ?_ (fun _ _=>rfl) ?_ ?_ ?_ cg0 cf0 ?_;iterate 5 (focus (first|rfl|decide|(simp only [go_sem,F0,Nat.reduceAdd,Int.reduceTMod,Int.reduceTDiv,Int.reduceNeg,Int.reduceMul,Int.reduceToNat,yK]<;>first|done|rfl|simp))))|(refine Ww ?_ ?_ (fun _ _=>rfl) ?_ ?_ ?_ cg1 cf1 ?_;iterate 5 (focus (first|rfl|decide|(simp only [go_sem,F0,Nat.reduceAdd,Int.reduceTMod,Int.reduceTDiv,Int.reduceNeg,Int.reduceMul,Int.reduceToNat,yK]<;>first|done|rfl|simp))))|(refine Ww ?_ ?_ (fun _ _=>rfl) ?_ ?_ ?_ cg2 cf2 ?_;iterate 5 (focus (first|rfl|decide|(simp only [go_sem,F0,Nat.reduceAdd,Int.reduceTMod,Int.reduceTDiv,Int.reduceNeg,Int.reduceMul,Int.reduceToNat,yK]<;>first|done|rfl|simp))))|(refine Ww ?_ ?_ (fun _ _=>rfl) ?_ ?_ ?_ cg3 cf3 ?_;iterate 5 (focus (first|rfl|decide|(simp only [go_sem,F0,Nat.reduceAdd,Int.reduceTMod,Int.reduceTDiv,Int.reduceNeg,Int.reduceMul,Int.reduceToNat,yK]<;>first|done|rfl|simp))))|(refine Ww ?_ ?_ (fun _ _=>rfl) ?_ ?_ ?_ cg4 cf4 ?_;iterate 5 (focus (first|rfl|decide|(simp only [go_sem,F0,Nat.reduceAdd,Int.reduceTMod,Int.reduceTDiv,Int.reduceNeg,Int.reduceMul,Int.reduceToNat,yK]<;>first|done|rfl|simp))))|(refine Ww ?_ ?_ (fun _ _=>rfl) ?_ ?_ ?_ cg5 cf5 ?_;iterate 5 (focus (first|rfl|decide|(simp only [go_sem,F0,Nat.reduceAdd,Int.reduceTMod,Int.reduceTDiv,Int.reduceNeg,Int.reduceMul,Int.reduceToNat,yK]<;>first|done|rfl|simp)))));rintro v m ⟨hR,hm⟩;subst hR;subst hm;refine yA ?_ (yA ?_ (yA ?_ ?_));(iterate 3 (focus (first|rfl|(simp only [go_sem,F0,Nat.reduceAdd,Int.reduceTMod,Int.reduceTDiv,Int.reduceNeg,Int.reduceMul,Int.reduceToNat,yK];done)|(simp [go_sem,look,F0];done))));(try simp only [go_sem,F0,Nat.reduceAdd,Int.reduceTMod,Int.reduceTDiv,Int.reduceNeg,Int.reduceMul,Int.reduceToNat,yK]);(repeat' (first|apply yA|intro _)))));refine zhK _ _ ?_ ?_;focus (first|exact True.intro|(simp only [go_sem];done)|(simp only [go_sem];simp;done)|(simp only [go_sem];simp;simp only [go_sem])))
  |refine p2d ?_
  |refine i2x ?_
  |refine Yv ?_
  |refine b1i ?_
  |refine f0b ?_
  |refine m2t ?_
  |(refine Rv ?_ ?_;focus (first|rfl|(simp [go_sem,F0];done)))
  |(refine Xz ?_ ?_;focus (first|rfl|(simp [go_sem,F0];done))))
 first|done|exact zX):p:=h
end
theorem Ct.go {P:Program} {f:FuncId} {fn:Func} {c:Code} {args:List V} {R:V→List (Nat×Ob)→Prop} {nt:Nat} {rs:Array ResultVar} (hf:P.funcs[f]? =some fn) (hb:fn.body=some c) (hnt:fn.ntmps=nt) (hrs:fn.results=rs)
 (h: ∀ (w0:World) (ro:Ro) (zZ:Exit→St→Prop),(∀ e S',a2j P rs.toList R e S'→zZ e S')→HT P ⟨w0,fun _=>False,nt,ro,fun _=>none⟩ c ⟨j0f 0 args,[]⟩ zZ:=by intro w0 ro zZ zhZ;exact goW) (hn:args.length≤nt:=by simp):Ct P f args R:=
 Ct.k hf hb hnt (congrArg Array.toList hrs) hn fun w0 ro=>h w0 ro _ fun _ _ h=>h
theorem CtM.go {P:Program} {f:FuncId} {fn:Func} {c:Code} {args:List V} {m:List (Nat×Ob)} {R:V→List (Nat×Ob)→Prop} {nt:Nat} {rs:Array ResultVar} (hf:P.funcs[f]? =some fn) (hb:fn.body=some c) (hnt:fn.ntmps=nt) (hrs:fn.results=rs)
 (h: ∀ (w0:World) (ro:Ro) (may:Nat→Prop) (fx:Nat→Option (Nat×Nat)) (zZ:Exit→St→Prop),(∀ e S',a2j P rs.toList R e S'→zZ e S')→HT P ⟨w0,may,nt,ro,fx⟩ c ⟨j0f 0 args,m⟩ zZ:=by intro w0 ro may fx zZ zhZ;exact goW) (hn:args.length≤nt:=by simp):CtM P f args m R:=
 CtM.k hf hb hnt (congrArg Array.toList hrs) hn fun w0 ro may fx=>h w0 ro may fx _ fun _ _ h=>h
end Go.Sy
namespace Go.Sy
open Go.RowKit Go.WideShapes Go.ChangeShapes Go.ChangeAt
end Go.Sy
namespace Go.Sy
theorem Fq (c:List PL):(pls c).length=c.length:=by simp [pls]
theorem i0m (S:St) (r:List L): ∀ c:List PL,a0j S (pls c++r)=(a0j S r).map (pls c++ ·)
 | []=>by simp [pls]
 |x::l=>by
   have ih:=i0m S r l
   simp only [pls] at ih
   simp only [pls,yM,yC,a0j,j0l,ih]
   cases a0j S r<;>rfl
theorem h1h (S:St) (c:List PL):a0j S (pls c)=some (pls c):=by
 have:=i0m S [] c
 simpa [a0j] using this
theorem Cv (vw:Bool) (S:St) (hd:Hand) (r:List L): ∀ c:List PL,Kv vw S hd (pls c++r)=(Kv vw S hd r).map (pls c++ ·)
 | []=>by simp [pls]
 |x::l=>by
   have ih:=Cv vw S hd r l
   simp only [pls] at ih
   simp only [pls,yM,yC,Kv,Xq,ih]
   cases Kv vw S hd r<;>rfl
theorem Dz (vw:Bool) (S:St) (hd:Hand) (c:List PL):Kv vw S hd (pls c)=some (pls c):=by
 have:=Cv vw S hd [] c
 simpa [Kv] using this
theorem Dj (m:List (Nat×Ob)) (c:List PL):(pls c).all (Rx false m)=true:=by
 simp only [pls,yI,yY]
 rintro _ ⟨x,_,rfl⟩;rfl
theorem Gw (k:Nat) (c:List PL):(pls c).map (Yz k)=pls c:=by simp only [pls,List.map_map];congr 1
attribute [go_sem] i0m h1h Cv Dz Dj Gw Ez e2z Fq
end Go.Sy
