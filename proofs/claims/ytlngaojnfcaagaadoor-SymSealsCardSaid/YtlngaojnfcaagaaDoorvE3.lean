/- The layer that reckons a function out: what it says of states, operations, regions, loops, calls. CONDITIONS: those that each theorem names. -/
import Derived.Test.YtlngaojnfcaagaaDoorvE2
import Derived.ChangeSlices
import Derived.Lib.SmallJoins
import Derived.Handed
import Derived.Lib.LaidTab
import Derived.LaidLaws
import Derived.KernelRfl
set_option linter.unusedVariables false
set_option linter.unusedSimpArgs false
namespace Go.Sy
open Go.RowKit Go.WideShapes Go.ChangeShapes Go.ChangeAt
def Sh (P:Program):Nat→TypeId→List PL→Prop
 |0,_,_=>False
 |n+1,t,cs=>match P.underlying t with
  |some .bool=>∃ b,cs=[.b b]
  |some (.int .i64)=>∃ k:Int,cs=[.i k]∧ -9223372036854775808≤k∧k≤9223372036854775807
  |some (.int .u8)=>∃ x,cs=[.u8 x]
  |some (.int .u32)=>∃ x,cs=[.u32 x]
  |some (.int .u64)=>∃ x,cs=[.u64 x]
  |some .string=>∃ s,cs=[.str s]∧s.length≤maxLen
  |some (.slice e)=>∃ rows,cs=[.R false (P.cellsOf e) rows]∧(∀ r∈rows,Sh P n e r∧r.length=P.cellsOf e)∧rows.length≤maxLen
  |some (.struct fs)=>∃ ps:List (List PL),cs=ps.flatten∧Iy (fun (f:Field) p=>Sh P n f.type p∧p.length=P.cellsOf f.type) fs.toList ps
  |some (.array m e)=>∃ ps:List (List PL),cs=ps.flatten∧ps.length=m∧∀ p∈ps,Sh P n e p∧p.length=P.cellsOf e
  |_=>False
def Va.reads (w:World):Va:=⟨fun k=>k-gl0,fun _=>0,fun b o=>w.cell? ⟨b,o,none⟩⟩
def d0q (P:Program):List Field→Nat→Nat→Bool
 | [],off,n=>off==n
 |f::fs,off,n=>f.offset==off&&d0q P fs (off+P.cellsOf f.type) n
def known (P:Program) (G:Nat→TypeId→Bool):Nat→TypeId→Bool
 |0,_=>false
 |n+1,t=>match P.underlying t with
  |some .bool|some (.int .i64)|some (.int .u8)|some (.int .u32)|some (.int .u64)|some .string=>P.cellsOf t==1
  |some (.slice e)=>P.cellsOf t==1&&(G n e&&known P G n e)
  |some (.struct fs)=>d0q P fs.toList 0 (P.cellsOf t)&&fs.toList.all fun f=>known P G n f.type
  |some (.array m e)=>P.cellsOf t==m*P.cellsOf e&&known P G n e
  |_=>false
section
variable {H:Type} {enc:TypeId×Value→H} {P:Program} {w:World} {base:Nat} {spare:Nat→Bool} {held:Bool}
theorem trod_array {m:Nat} {t e:TypeId} {fuel:Nat} {cs:List Value} {x:DataW H×List MemPlace} (ht:P.underlying t=some (.array m e)) (h:DataW.trod enc P w base spare held fuel t cs=some x):
  ∃ n,fuel=n+1∧cs.length=P.cellsOf t∧∀ i,i<m→∃ y,DataW.trod enc P w base spare held n e ((cs.drop (i*P.cellsOf e)).take (P.cellsOf e))=some y:=by
 cases fuel with
 |zero=>simp [DataW.trod] at h
 |succ n=>
  unfold DataW.trod at h
  rw [ht] at h
  simp only at h
  split at h<;>try (simp at h;done)
  rename_i hl
  refine ⟨n,rfl,hl,fun i hi=>?_⟩
  obtain ⟨xs,hx,_⟩:=Option.map_eq_some_iff.mp h
  have: ∀ (l:List Nat) (ys:List (DataW H×List MemPlace)),l.mapM (fun i=>DataW.trod enc P w base spare held n e ((cs.drop (i*P.cellsOf e)).take (P.cellsOf e)))=some ys→∀ i∈l,∃ y,DataW.trod enc P w base spare held n e ((cs.drop (i*P.cellsOf e)).take (P.cellsOf e))=some y:=by
   intro l
   induction l with
   |nil=>intro _ _ i hi;cases hi
   |cons a r ih=>
    intro ys hy i hi
    rw [List.mapM_cons] at hy
    cases ha:DataW.trod enc P w base spare held n e ((cs.drop (a*P.cellsOf e)).take (P.cellsOf e)) with
    |none=>rw [ha] at hy;simp at hy
    |some y=>
     rw [ha] at hy
     rcases List.mem_cons.mp hi with rfl|hi
     ·exact ⟨y,ha⟩
     ·cases hr:r.mapM (fun i=>DataW.trod enc P w base spare held n e ((cs.drop (i*P.cellsOf e)).take (P.cellsOf e))) with
      |none=>rw [hr] at hy;simp at hy
      |some zs=>exact ih zs hr i hi
  exact this _ _ hx i (by simpa using hi)
def s0s (v:Value):Prop:=∀ a len cap,v=.slice (some a) len cap→a.spot=none
theorem r0o {ro:Ro} {blk:Nat}: ∀ {c:List PL} {vals:List Value} {off:Nat},Iy (PL.den ro) c vals→(∀ j v,vals[j]? =some v→ro blk (off+j)=some v)→PL.denAt ro blk c off
 | [],_,_,_,_=>by rw [PL.denAt];trivial
 |x::c,vals,off,h,hc=>by
  cases h with
  |cons h1 h2=>
   rename_i y m
   rw [PL.denAt]
   refine ⟨⟨y,by simpa using hc 0 y rfl,h1⟩,r0o h2 fun j v hv=>?_⟩
   have:=hc (j+1) v (by simpa using hv)
   rwa [show off+(j+1)=off+1+j from by omega] at this
theorem p0p {ro:Ro} {blk sz:Nat}: ∀ {rows:List (List PL)} {off:Nat},(∀ r∈rows,r.length=sz)→(∀ i r,rows[i]? =some r→PL.denAt ro blk r (off+i*sz))→PL.denRows ro blk sz rows off
 | [],_,_,_=>by rw [PL.denRows];trivial
 |r::rs,off,hl,h=>by
  rw [PL.denRows]
  refine ⟨hl r (by simp),by simpa using h 0 r rfl,p0p (fun r hr=>hl r (by simp [hr])) fun i r' hr=>?_⟩
  have:=h (i+1) r' (by simpa using hr)
  rwa [show off+(i+1)*sz=off+sz+i*sz from by rw [Nat.add_mul];omega] at this
theorem e0m {ro:Ro}: ∀ {ps:List (List PL)} {vs:List (List Value)},Iy (fun p v=>Iy (PL.den ro) p v) ps vs→Iy (PL.den ro) ps.flatten vs.flatten
 |_,_,.nil=>.nil
 |_,_,.cons h1 h2=>by simpa using h1.append (e0m h2)
theorem c0t {α β:Type} {p:α→β→Prop}: ∀ (l:List α),(∀ x∈l,∃ y,p x y)→∃ ys:List β,Iy p l ys
 | [],_=>⟨[],.nil⟩
 |x::r,h=>by
  obtain ⟨y,hy⟩:=h x (by simp)
  obtain ⟨ys,hys⟩:=c0t r fun z hz=>h z (by simp [hz])
  exact ⟨y::ys,.cons hy hys⟩
theorem Iy.flip {α β:Type} {R:α→β→Prop}: ∀ {l:List α} {m:List β},Iy R l m→Iy (fun b a=>R a b) m l
 |_,_,.nil=>.nil
 |_,_,.cons h1 h2=>.cons h1 h2.flip
theorem Zk {α:Type} (sz:Nat): ∀ (m:Nat) (cs:List α),cs.length=m*sz→((List.range m).map fun i=>(cs.drop (i*sz)).take sz).flatten=cs
 |0,cs,h=>by simp at h;simp [h]
 |m+1,cs,h=>by
  rw [List.range_succ_eq_map,List.map_cons,List.flatten_cons,List.map_map]
  have h2:(cs.drop sz).length=m*sz:=by rw [List.length_drop,h,Nat.add_mul];omega
  have ih:=Zk sz m (cs.drop sz) h2
  have e:(List.range m).map ((fun i=>(cs.drop (i*sz)).take sz)∘Nat.succ)=(List.range m).map fun i=>((cs.drop sz).drop (i*sz)).take sz:=by
   refine List.map_congr_left fun i _=>?_
   simp only [Function.comp_def,List.drop_drop]
   congr 2
   rw [Nat.succ_mul];omega
  rw [e,ih];simp
theorem i0y {n:Nat} (cs:List Value) (hl:cs.length=n): ∀ (fs:List Field) (off:Nat),d0q P fs off n=true→(fs.map fun f=>(cs.drop f.offset).take (P.cellsOf f.type)).flatten=cs.drop off
 | [],off,h=>by
  simp only [d0q,beq_iff_eq] at h
  subst h;subst hl;simp
 |f::fs,off,h=>by
  simp only [d0q,Bool.and_eq_true,beq_iff_eq] at h
  obtain ⟨h1,h2⟩:=h
  rw [List.map_cons,List.flatten_cons,i0y cs hl fs _ h2,h1,←List.drop_drop,List.take_append_drop]
theorem take_len {α:Type} {cs:List α} {a b:Nat} (h:a+b≤cs.length):((cs.drop a).take b).length=b:=by simp;omega
theorem e1u {n:Nat}: ∀ (fs:List Field) (off:Nat),d0q P fs off n=true→∀ f∈fs,f.offset+P.cellsOf f.type≤n
 | [],_,_,f,hf=>by cases hf
 |g::fs,off,h,f,hf=>by
  simp only [d0q,Bool.and_eq_true,beq_iff_eq] at h
  have hge: ∀ (fs:List Field) (off:Nat),d0q P fs off n=true→off≤n:=by
   intro fs
   induction fs with
   |nil=>intro off h;simp only [d0q,beq_iff_eq] at h;omega
   |cons g fs ih=>intro off h;simp only [d0q,Bool.and_eq_true,beq_iff_eq] at h;have:=ih _ h.2;omega
  rcases List.mem_cons.mp hf with rfl|hf
  ·have:=hge _ _ h.2;omega
  ·exact e1u fs _ h.2 f hf
theorem Iy.map_r {α β γ:Type} {R:α→γ→Prop} {f:β→γ}: ∀ {l:List α} {m:List β},Iy (fun a b=>R a (f b)) l m→Iy R l (m.map f)
 |_,_,.nil=>.nil
 |_,_,.cons h1 h2=>.cons h1 h2.map_r
theorem o1p {G:Nat→TypeId→Bool} (hsp: ∀ (n:Nat) (t:TypeId) (m:Nat) (cs:List Value) (y:DataW H×List MemPlace),DataW.trod enc P w base spare held n t cs=some y→G m t=true→∀ v∈cs,s0s v): ∀ (n:Nat) (t:TypeId) (m:Nat) (cs:List Value) (y:DataW H×List MemPlace),DataW.trod enc P w base spare held n t cs=some y→known P G m t=true→(∀ v∈cs,s0s v)→
  ∃ xs,Sh P m t xs∧xs.length=cs.length∧Iy (PL.den (Va.reads w).ro) xs cs:=by
 intro n
 induction n with
 |zero=>intro t m cs y h;simp [DataW.trod] at h
 |succ n ih=>
  intro t m cs y h hk hv
  cases m with
  |zero=>simp [known] at hk
  |succ m=>
   have hk0:=hk
   unfold known at hk
   split at hk<;>try (cases hk;done)
   ·rename_i ht
    obtain ⟨b,rfl,_⟩:=DataW.trod_bool ht h
    exact ⟨[.b b],by unfold Sh;rw [ht];exact ⟨b,rfl⟩,rfl,.cons (by rw [PL.den]) .nil⟩
   ·rename_i ht
    obtain ⟨k,rfl,_,hwf⟩:=DataW.trod_int ht h
    simp only [Lit.wf,IntKind.min,IntKind.max,IntKind.signed,IntKind.bits,Bool.and_eq_true,decide_eq_true_eq,if_true] at hwf
    exact ⟨[.i k],by unfold Sh;rw [ht];exact ⟨k,rfl,by omega,by omega⟩,rfl,.cons (by rw [PL.den]) .nil⟩
   ·rename_i ht
    obtain ⟨k,rfl,_,hwf⟩:=DataW.trod_int ht h
    simp only [Lit.wf,IntKind.min,IntKind.max,IntKind.signed,IntKind.bits,Bool.and_eq_true,decide_eq_true_eq] at hwf
    exact ⟨[.u8 (UInt8.ofNat k.toNat)],by unfold Sh;rw [ht];exact ⟨_,rfl⟩,rfl,.cons (by rw [PL.den];congr 1;simp at hwf ⊢;omega) .nil⟩
   ·rename_i ht
    obtain ⟨k,rfl,_,hwf⟩:=DataW.trod_int ht h
    simp only [Lit.wf,IntKind.min,IntKind.max,IntKind.signed,IntKind.bits,Bool.and_eq_true,decide_eq_true_eq] at hwf
    exact ⟨[.u32 (UInt32.ofNat k.toNat)],by unfold Sh;rw [ht];exact ⟨_,rfl⟩,rfl,.cons (by rw [PL.den];congr 1;simp at hwf ⊢;omega) .nil⟩
   ·rename_i ht
    obtain ⟨k,rfl,_,hwf⟩:=DataW.trod_int ht h
    simp only [Lit.wf,IntKind.min,IntKind.max,IntKind.signed,IntKind.bits,Bool.and_eq_true,decide_eq_true_eq] at hwf
    exact ⟨[.u64 (UInt64.ofNat k.toNat)],by unfold Sh;rw [ht];exact ⟨_,rfl⟩,rfl,.cons (by rw [PL.den];congr 1;simp at hwf ⊢;omega) .nil⟩
   ·rename_i ht
    obtain ⟨s,rfl,_,hs⟩:=DataW.trod_string ht h
    have hl:s.data.toList.length=s.size:=Array.length_toList
    exact ⟨[.str s.data.toList],by unfold Sh;rw [ht];exact ⟨_,rfl,by omega⟩,rfl,.cons (by rw [PL.den];exact ⟨by simp,by omega⟩) .nil⟩
   ·rename_i e ht
    simp only [Bool.and_eq_true,beq_iff_eq] at hk
    rcases DataW.trod_slice ht h with ⟨rfl,_⟩|⟨a,len,cap,elems,rest,n',hn,rfl,_,hb,hl,hm,hel,hi,_⟩
    ·exact ⟨[.R false (P.cellsOf e) []],by unfold Sh;rw [ht];exact ⟨[],rfl,fun r hr=>(by cases hr),Nat.zero_le _⟩,rfl,.cons (by rw [PL.den];exact .inl ⟨rfl,rfl⟩) .nil⟩
    ·cases hn
     have hsa:=hv _ (by simp) a len cap rfl
     obtain ⟨blk,off,sp⟩:=a
     simp only at hsa;subst hsa
     have each: ∀ i∈List.range len,∃ r:List PL,Sh P m e r∧r.length=P.cellsOf e∧PL.denAt (Va.reads w).ro blk r (off+i*P.cellsOf e):=by
      intro i hi'
      have hlt:i<len:=by simpa using hi'
      have h1:=hi i hlt
      have:i<elems.length:=by omega
      rw [List.getElem?_eq_getElem this] at h1
      obtain ⟨cs',hc,ht'⟩:=Option.bind_eq_some_iff.mp h1
      obtain ⟨_,hcl,hcc⟩:=World.cells?_some hc
      have hcell: ∀ j v,cs'[j]? =some v→w.cell? ⟨blk,off+i*P.cellsOf e+j,none⟩=some v:=by
       intro j v hj
       have hj':j<P.cellsOf e:=by
        have:=(List.getElem?_eq_some_iff.mp hj).1;omega
       have:=hcc j hj'
       rw [hj] at this
       rw [←this]
       congr 1
       rw [addr_add,addr_add]
      obtain ⟨xs,hx1,hx2,hx3⟩:=ih e m cs' _ ht' hk.2.2 (hsp _ e m cs' _ ht' hk.2.1)
      exact ⟨xs,hx1,by omega,r0o hx3 fun j v hj=>hcell j v hj⟩
     obtain ⟨rows,hrows⟩:=c0t _ each
     have hlen:rows.length=len:=by have:=hrows.length;simpa using this.symm
     have hget: ∀ i r,rows[i]? =some r→Sh P m e r∧r.length=P.cellsOf e∧PL.denAt (Va.reads w).ro blk r (off+i*P.cellsOf e):=by
      intro i r hr
      obtain ⟨j,hj,hp⟩:=hrows.flip.get hr
      have hil:i<len:=by
       have:=(List.getElem?_eq_some_iff.mp hr).1;omega
      rw [List.getElem?_range hil] at hj
      cases hj;exact hp
     refine ⟨[.R false (P.cellsOf e) rows],?_,rfl,.cons ?_ .nil⟩
     ·unfold Sh;rw [ht]
      refine ⟨rows,rfl,fun r hr=>?_,by omega⟩
      obtain ⟨i,hi'⟩:=List.mem_iff_getElem?.mp hr
      exact ⟨(hget i r hi').1,(hget i r hi').2.1⟩
     ·rw [PL.den]
      refine .inr (.inl ⟨blk,off,cap,by rw [hlen],by omega,hm,fun h=>(by cases h),p0p (fun r hr=>?_) fun i r hr=>(hget i r hr).2.2⟩)
      obtain ⟨i,hi'⟩:=List.mem_iff_getElem?.mp hr
      exact (hget i r hi').2.1
   ·rename_i fs ht
    simp only [Bool.and_eq_true,List.all_eq_true] at hk
    obtain ⟨xs,n',hn,_,hl,hxs,hf⟩:=DataW.trod_struct ht h
    cases hn
    have each: ∀ f∈fs.toList,∃ r:List PL,(Sh P m f.type r∧r.length=P.cellsOf f.type)∧Iy (PL.den (Va.reads w).ro) r ((cs.drop f.offset).take (P.cellsOf f.type)):=by
     intro f hf'
     obtain ⟨i,hi⟩:=List.mem_iff_getElem?.mp hf'
     rw [Array.getElem?_toList] at hi
     have h1:=hf i f hi
     have hi2:i<xs.length:=by rw [hxs];exact (Array.getElem?_eq_some_iff.mp hi).1
     rw [List.getElem?_eq_getElem hi2] at h1
     obtain ⟨ys,hy1,hy2,hy3⟩:=ih f.type m _ _ h1 (hk.2 f hf') (fun v hv'=>hv v (List.mem_of_mem_drop (List.mem_of_mem_take hv')))
     have hle:=e1u _ _ hk.1 f hf'
     exact ⟨ys,⟨hy1,by rw [hy2,take_len (by omega)]⟩,hy3⟩
    obtain ⟨ps,hps⟩:=c0t _ each
    have hfl:=i0y cs hl fs.toList 0 hk.1
    rw [List.drop_zero] at hfl
    have hall:Iy (PL.den (Va.reads w).ro) ps.flatten cs:=by
     rw [←hfl]
     refine e0m (Iy.map_r ?_)
     exact hps.flip.mono fun p f _ h=>h.2
    exact ⟨ps.flatten,by unfold Sh;rw [ht];exact ⟨ps,rfl,hps.mono fun f p _ h=>h.1⟩,hall.length,hall⟩
   ·rename_i k e ht
    simp only [Bool.and_eq_true,beq_iff_eq] at hk
    obtain ⟨n',hn,hl,hi⟩:=trod_array ht h
    cases hn
    have each: ∀ i∈List.range k,∃ r:List PL,(Sh P m e r∧r.length=P.cellsOf e)∧Iy (PL.den (Va.reads w).ro) r ((cs.drop (i*P.cellsOf e)).take (P.cellsOf e)):=by
     intro i hi'
     have hlt:i<k:=by simpa using hi'
     obtain ⟨y',hy'⟩:=hi i hlt
     obtain ⟨ys,hy1,hy2,hy3⟩:=ih e m _ _ hy' hk.2 (fun v hv'=>hv v (List.mem_of_mem_drop (List.mem_of_mem_take hv')))
     have hle:i*P.cellsOf e+P.cellsOf e≤cs.length:=by
      rw [hl,hk.1]
      have:(i+1)*P.cellsOf e≤k*P.cellsOf e:=Nat.mul_le_mul_right _ hlt
      rw [Nat.add_mul] at this;omega
     exact ⟨ys,⟨hy1,by rw [hy2,take_len hle]⟩,hy3⟩
    obtain ⟨ps,hps⟩:=c0t _ each
    have hfl:=Zk (P.cellsOf e) k cs (by rw [hl,hk.1])
    have hall:Iy (PL.den (Va.reads w).ro) ps.flatten cs:=by
     rw [←hfl]
     refine e0m (Iy.map_r ?_)
     exact hps.flip.mono fun p f _ h=>h.2
    refine ⟨ps.flatten,?_,hall.length,hall⟩
    unfold Sh;rw [ht]
    refine ⟨ps,rfl,by have:=hps.length;simpa using this.symm,fun p hp=>?_⟩
    obtain ⟨i,hi'⟩:=List.mem_iff_getElem?.mp hp
    obtain ⟨j,_,hj⟩:=hps.flip.get hi'
    exact hj.1
end
section
variable {P:Program}
theorem t1j {n:Nat} {t:TypeId} {cs:List PL} (h:Sh P n t cs) (ht:P.underlying t=some .bool): ∃ b,cs=[.b b]:=by
 cases n with
 |zero=>exact h.elim
 |succ n=>unfold Sh at h;rw [ht] at h;exact h
theorem z1z {n:Nat} {t:TypeId} {cs:List PL} (h:Sh P n t cs) (ht:P.underlying t=some (.int .u64)): ∃ x,cs=[.u64 x]:=by
 cases n with
 |zero=>exact h.elim
 |succ n=>unfold Sh at h;rw [ht] at h;exact h
theorem d2v {n:Nat} {t:TypeId} {cs:List PL} (h:Sh P n t cs) (ht:P.underlying t=some (.int .u8)): ∃ x,cs=[.u8 x]:=by
 cases n with
 |zero=>exact h.elim
 |succ n=>unfold Sh at h;rw [ht] at h;exact h
theorem m1r {n:Nat} {t e:TypeId} {cs:List PL} (h:Sh P n t cs) (ht:P.underlying t=some (.slice e)): ∃ (rows:List (List PL)) (m:Nat),cs=[.R false (P.cellsOf e) rows]∧(∀ r∈rows,Sh P m e r)∧rows.length≤maxLen:=by
 cases n with
 |zero=>exact h.elim
 |succ n=>unfold Sh at h;rw [ht] at h;obtain ⟨rows,h1,h2,h3⟩:=h;exact ⟨rows,n,h1,fun r hr=>(h2 r hr).1,h3⟩
theorem s0w {n:Nat} {t:TypeId} {fs:Array Field} {cs:List PL} (h:Sh P n t cs) (ht:P.underlying t=some (.struct fs)): ∃ (ps:List (List PL)) (m:Nat),cs=ps.flatten∧Iy (fun (f:Field) p=>Sh P m f.type p) fs.toList ps:=by
 cases n with
 |zero=>exact h.elim
 |succ n=>unfold Sh at h;rw [ht] at h;obtain ⟨ps,h1,h2⟩:=h;exact ⟨ps,n,h1,h2.mono fun f p _ h=>h.1⟩
theorem m1s {n k:Nat} {t e:TypeId} {cs:List PL} (h:Sh P n t cs) (ht:P.underlying t=some (.array k e)): ∃ (ps:List (List PL)) (m:Nat),cs=ps.flatten∧ps.length=k∧∀ p∈ps,Sh P m e p:=by
 cases n with
 |zero=>exact h.elim
 |succ n=>unfold Sh at h;rw [ht] at h;obtain ⟨ps,h1,h2,h3⟩:=h;exact ⟨ps,n,h1,h2,fun p hp=>(h3 p hp).1⟩
theorem j0k {m:Nat} {e:TypeId} (he:P.underlying e=some (.int .u8)): ∀ {ps:List (List PL)},(∀ p∈ps,Sh P m e p)→∃ l:List UInt8,l.length=ps.length∧ps=l.map fun x=>[.u8 x]
 | [],_=>⟨[],rfl,rfl⟩
 |p::r,h=>by
  obtain ⟨x,hx⟩:=d2v (h p (by simp)) he
  obtain ⟨l,h1,h2⟩:=j0k he (ps:=r) fun q hq=>h q (by simp [hq])
  exact ⟨x::l,by simp [h1],by simp [hx,←h2]⟩
theorem k0j {α:Type} {f:α→PL}: ∀ l:List α,(l.map fun x=>[f x]).flatten=l.map f
 | []=>rfl
 |x::r=>by simp [k0j r]
theorem q0l {n k:Nat} {t e:TypeId} {cs:List PL} (h:Sh P n t cs) (ht:P.underlying t=some (.array k e)) (he:P.underlying e=some (.int .u8)): ∃ l:List UInt8,l.length=k∧cs=l.map .u8:=by
 obtain ⟨ps,m,rfl,hl,hp⟩:=m1s h ht
 obtain ⟨l,h1,rfl⟩:=j0k he hp
 exact ⟨l,by omega,k0j l⟩
theorem s0x {n:Nat} {t e:TypeId} {cs:List PL} (h:Sh P n t cs) (ht:P.underlying t=some (.slice e)) (he:P.underlying e=some (.int .u8)) (hc:P.cellsOf e=1): ∃ l:List UInt8,cs=[.R false 1 (Aw l)]∧l.length≤maxLen:=by
 obtain ⟨rows,m,rfl,hp,hm⟩:=m1r h ht
 obtain ⟨l,h1,rfl⟩:=j0k he hp
 exact ⟨l,by rw [hc];rfl,by simpa using hm⟩
theorem j1t {d:Va}: ∀ {xs:List PL} {vs:List Value},Iy (PL.den d.ro) xs vs→Iy (L.den d) (pls xs) vs
 |_,_,.nil=>.nil
 |_,_,.cons h1 h2=>.cons h1 (j1t h2)
end
section
variable {H:Type} {enc:TypeId×Value→H} {P:Program} {w:World} {base:Nat} {spare:Nat→Bool} {held:Bool}
def c1x (P:Program):Nat→TypeId→Bool
 |0,_=>false
 |n+1,t=>match P.underlying t with
  |some .bool|some (.int _)|some .string=>true
  |some (.struct fs)=>d0q P fs.toList 0 (P.cellsOf t)&&fs.toList.all fun f=>c1x P n f.type
  |some (.array m e)=>P.cellsOf t==m*P.cellsOf e&&c1x P n e
  |_=>false
theorem e1n : ∀ (n:Nat) (t:TypeId) (m:Nat) (cs:List Value) (y:DataW H×List MemPlace),DataW.trod enc P w base spare held n t cs=some y→c1x P m t=true→∀ v∈cs,s0s v:=by
 intro n
 induction n with
 |zero=>intro t m cs y h;simp [DataW.trod] at h
 |succ n ih=>
  intro t m cs y h hk
  cases m with
  |zero=>simp [c1x] at hk
  |succ m=>
   unfold c1x at hk
   split at hk<;>try (cases hk;done)
   ·rename_i ht
    obtain ⟨b,rfl,_⟩:=DataW.trod_bool ht h
    intro v hv a len cap e;simp at hv;subst hv;cases e
   ·rename_i k ht
    obtain ⟨b,rfl,_⟩:=DataW.trod_int ht h
    intro v hv a len cap e;simp at hv;subst hv;cases e
   ·rename_i ht
    obtain ⟨b,rfl,_⟩:=DataW.trod_string ht h
    intro v hv a len cap e;simp at hv;subst hv;cases e
   ·rename_i fs ht
    simp only [Bool.and_eq_true,List.all_eq_true] at hk
    obtain ⟨xs,n',hn,_,hl,hxs,hf⟩:=DataW.trod_struct ht h
    cases hn
    have hfl:=i0y cs hl fs.toList 0 hk.1
    rw [List.drop_zero] at hfl
    intro v hv
    rw [←hfl] at hv
    obtain ⟨p,hp,hv⟩:=List.mem_flatten.mp hv
    obtain ⟨f,hf',rfl⟩:=List.mem_map.mp hp
    obtain ⟨i,hi⟩:=List.mem_iff_getElem?.mp hf'
    rw [Array.getElem?_toList] at hi
    have h1:=hf i f hi
    have hi2:i<xs.length:=by rw [hxs];exact (Array.getElem?_eq_some_iff.mp hi).1
    rw [List.getElem?_eq_getElem hi2] at h1
    exact ih f.type m _ _ h1 (hk.2 f hf') v hv
   ·rename_i k e ht
    simp only [Bool.and_eq_true,beq_iff_eq] at hk
    obtain ⟨n',hn,hl,hi⟩:=trod_array ht h
    cases hn
    have hfl:=Zk (P.cellsOf e) k cs (by rw [hl,hk.1])
    intro v hv
    rw [←hfl] at hv
    obtain ⟨p,hp,hv⟩:=List.mem_flatten.mp hv
    obtain ⟨i,hi',rfl⟩:=List.mem_map.mp hp
    obtain ⟨y',hy'⟩:=hi i (by simpa using hi')
    exact ih e m _ _ hy' hk.2 v hv
theorem a1h {sz:Nat} {t:TypeId} {v:Value} {d:DataW H} {p:List MemPlace} {b0:Nat} (m:Nat) (hv:Value.okWide P w .any b0 t v) (hk:known P (c1x P) m t=true) (hs:P.cellsOf t=sz) (hts:(match P.underlying t with
   |some (.struct _)|some (.array _ _)=>(match P.cellTypes P.depth t with
    |some ts=>ts.length==sz&&sz !=0&&ts.all fun u=>match P.underlying u with
     |some (.slice _)|some .bool|some (.int _)|some .string=>true
     |_=>false
    |none=>false)
   |some (.slice _)|some .bool|some (.int _)|some .string=>true
   |_=>false)=true) (h:DataW.Trod enc P w base spare held t v d p):
  ∃ xs:List PL,Sh P m t xs∧(V.w (match P.underlying t with
   |some (.struct _)|some (.array _ _)=>.agg (pls xs)
   |_=>.one (.pl (xs.headD .u)))).den (Va.reads w) v:=by
 obtain ⟨fuel,hf⟩:=h
 have hcell: ∀ (u:TypeId) (c:Value),Cell.okWide P w .any b0 u c→(match P.underlying u with
     |some (.slice _)|some .bool|some (.int _)|some .string=>true
     |_=>false)=true→s0s c:=by
  intro u c hc hu a len cap e
  subst e
  unfold Cell.okWide at hc
  cases hund:P.underlying u with
  |none=>rw [hund] at hu;cases hu
  |some d=>
   rw [hund] at hc hu
   cases d<;>first
    |(cases hu;done)
    |(simp only [Cell.ok,hund] at hc;done)
    |(simp only [Cell.ok,hund] at hc;exact hc.2.2.2.1)
 have hspot: ∀ c∈v.cells.toList,s0s c:=by
  unfold Value.okWide at hv
  split at hv
  ·rename_i fs ht
   obtain ⟨cs,rfl,hcs,ts,hct,_,hcc⟩:=hv
   rw [ht,hct] at hts
   simp only [Bool.and_eq_true,beq_iff_eq,List.all_eq_true] at hts
   intro c hc
   obtain ⟨i,hi⟩:=List.mem_iff_getElem?.mp hc
   have hi':cs[i]? =some c:=by rw [←Array.getElem?_toList];exact hi
   obtain ⟨u,hu,hok⟩:=hcc i c hi'
   exact hcell u c hok (hts.2 u (List.mem_of_getElem? hu))
  ·rename_i k e ht
   obtain ⟨cs,rfl,hcs,ts,hct,_,hcc⟩:=hv
   rw [ht,hct] at hts
   simp only [Bool.and_eq_true,beq_iff_eq,List.all_eq_true] at hts
   intro c hc
   obtain ⟨i,hi⟩:=List.mem_iff_getElem?.mp hc
   have hi':cs[i]? =some c:=by rw [←Array.getElem?_toList];exact hi
   obtain ⟨u,hu,hok⟩:=hcc i c hi'
   exact hcell u c hok (hts.2 u (List.mem_of_getElem? hu))
  ·rename_i hn1 hn2
   have hq:(match P.underlying t with
     |some (.slice _)|some .bool|some (.int _)|some .string=>true
     |_=>false)=true:=by
    split at hts
    ·rename_i fs ht;exact absurd ht (hn1 fs)
    ·rename_i k e ht;exact absurd ht (hn2 k e)
    all_goals simp_all
   intro c hc
   have hone:v.cells= #[v]:=by
    cases v<;>first|rfl|(exfalso;unfold Cell.okWide at hv;cases hu:P.underlying t with
     |none=>rw [hu] at hq;cases hq
     |some d=>rw [hu] at hv hq;cases d<;>first|(cases hq;done)|(simp [Cell.ok,hu] at hv))
   rw [hone] at hc
   simp at hc;subst hc
   exact hcell t c hv hq
 obtain ⟨xs,h1,h2,h3⟩:=o1p (fun n t m cs y h1 h2=>e1n n t m cs y h1 h2) fuel t m _ _ hf hk hspot
 refine ⟨xs,h1,?_⟩
 have hd:=j1t (d:=Va.reads w) h3
 unfold Value.okWide at hv
 split at hv
 ·rename_i fs ht
  obtain ⟨cs,rfl,_⟩:=hv
  rw [ht]
  exact ⟨cs,rfl,hd⟩
 ·rename_i k e ht
  obtain ⟨cs,rfl,_⟩:=hv
  rw [ht]
  exact ⟨cs,rfl,hd⟩
 ·rename_i hn1 hn2
  have hq:(match P.underlying t with
     |some (.slice _)|some .bool|some (.int _)|some .string=>true
     |_=>false)=true:=by
   split at hts
   ·rename_i fs ht;exact absurd ht (hn1 fs)
   ·rename_i k e ht;exact absurd ht (hn2 k e)
   all_goals simp_all
  have hone:v.cells= #[v]:=by
   cases v<;>first|rfl|(exfalso;unfold Cell.okWide at hv;cases hu:P.underlying t with
     |none=>rw [hu] at hq;cases hq
     |some d=>rw [hu] at hv hq;cases d<;>first|(cases hq;done)|(simp [Cell.ok,hu] at hv))
  rw [hone] at hd
  have: ∃ x,xs=[x]∧L.den (Va.reads w) (.pl x) v:=by
   cases xs with
   |nil=>cases hd
   |cons x r=>
    cases hd with
    |cons g1 g2=>
     cases r with
     |nil=>exact ⟨x,rfl,g1⟩
     |cons _ _=>cases g2
  obtain ⟨x,rfl,hx⟩:=this
  split
  ·rename_i fs ht;exact absurd ht (hn1 fs)
  ·rename_i k e ht;exact absurd ht (hn2 k e)
  ·exact hx
end
end Go.Sy
namespace Go.Sy
def St.dropE (ks:List Nat) (S:St):St:=⟨fgt ks S.env,S.mem⟩
theorem Fq {P:Program} {B:Base} {Q:Exit→St→Prop} {S:St} {x:Code} (ks:List Nat) (h:HT P B x (S.dropE ks) Q):HT P B x S Q:=by
 refine HT.le (fun d a w hs=>⟨d,?_⟩) h
 exact ⟨hs.defers,hs.nt,fun n v hv=>hs.env n v (a0s hv),hs.mem,hs.inj,hs.own,hs.ro,hs.old,hs.os,hs.tape,hs.output,hs.size,hs.block,hs.gat,hs.glob,hs.fix,hs.fxn⟩
theorem Gz (ks:List Nat) (e:List (Nat×V)) (m:List (Nat×Ob)):St.dropE ks ⟨e,m⟩=⟨fgt ks e,m⟩:=rfl
theorem Gj {α:Type} (ks:List Nat):fgt ks ([]:List (Nat×α))=[]:=rfl
theorem Fj {α:Type} (ks:List Nat) (n:Nat) (v:α) (r:List (Nat×α)):fgt ks ((n,v)::r)=if ks.contains n=true then fgt ks r else (n,v)::fgt ks r:=rfl
attribute [go_sem] t0x t0y w1j c2m v1c v1e v1f v1d b2i b2k b2j b2l nsC z1j z1l z1k z1m d1y Zw l0z x1s q1u r1a c0i gslot Eff.free y1i b2o d2j Op.operands Call.operands Nat.reduceBneDiff bne_self_eq_false Option.toArray List.append_toArray List.toList_toArray Array.append_empty Array.empty_append
end Go.Sy
namespace Go.Sy
theorem r0s (bs:List UInt8) (n:Nat):(Aw bs).drop n=Aw (bs.drop n):=by simp [Aw]
theorem r0r (bs:List UInt8) (n:Nat):(Aw bs).take n=Aw (bs.take n):=by simp [Aw]
theorem Iw {bs:List UInt8} {n:Nat} (h:n<bs.length):(Aw bs).getD n []=[.u8 (bs.getD n 0)]:=by
 simp [Aw,List.getD_eq_getElem?_getD,List.getElem?_map,List.getElem?_eq_getElem h]
theorem x0m {bs:List UInt8}:(Aw bs=[])=(bs=[]):=by simp [Aw]
attribute [go_sem] r0s r0r Nw d0f x0m
theorem e0n {ro:Ro} {ex:Bool} {sz sz':Nat} {y:Value} (h:PL.den ro (.R ex sz []) y):PL.den ro (.R ex sz' []) y:=by
 rw [PL.den] at h ⊢;simpa only [PL.denRows] using h
end Go.Sy
namespace Go.Sy
def Told (R:V→List (Nat×Ob)→Prop) (v:V) (m:List (Nat×Ob)):Prop:=
 ∃ v' m',(∀ (B:Base) d y w,B.nt=0→v.den d y→j0s B d m w→∃ d',v'.den d' y∧j0s B d' m' w)∧R v' m'
theorem CtM.told {P:Program} {f:FuncId} {args:List V} {ms:List (Nat×Ob)} {R:V→List (Nat×Ob)→Prop} (h:CtM P f args ms (Told R)):CtM P f args ms R:=by
 intro w d vals hm hargs
 refine (h w d vals hm hargs).mono fun e w' ⟨y,v,d',m',h1,⟨v2,m2,h2,h3⟩,h4,h5⟩=>?_
 obtain ⟨d2,h6,h7⟩:=h2 _ d' y w' rfl h4 h5
 exact ⟨y,v2,d2,m2,h1,h3,h6,h7⟩
theorem Ct.told {P:Program} {f:FuncId} {args:List V} {R:V→List (Nat×Ob)→Prop} (h:Ct P f args (Told R)):Ct P f args R:=by
 intro w d vals hro hg hargs
 refine (h w d vals hro hg hargs).mono fun e w' ⟨y,v,d',m',h1,⟨v2,m2,h2,h3⟩,h4,h5⟩=>?_
 obtain ⟨d2,h6,h7⟩:=h2 _ d' y w' rfl h4 h5
 exact ⟨y,v2,d2,m2,h1,h3,h6,h7⟩
section
variable {R:V→List (Nat×Ob)→Prop} {v v':V} {m m':List (Nat×Ob)}
theorem Vz (hw: ∀ d y,v.den d y→v'.den d y) (h:Told R v' m):Told R v m:=by
 obtain ⟨v2,m2,h1,h2⟩:=h
 exact ⟨v2,m2,fun B d y w hb hv hm=>h1 B d y w hb (hw d y hv) hm,h2⟩
theorem b0f (k:Nat) {b:Bool} (c:List PL) (hk:look m k=some ⟨b,pls c⟩) (hl:k<500000) (h:Told R (o0o k c v) (q0n k c m)):Told R v m:=by
 obtain ⟨v2,m2,h1,h2⟩:=h
 refine ⟨v2,m2,fun B d y w hb hv hm=>?_,h2⟩
 obtain ⟨a,hs⟩:=hm
 exact h1 B _ y w hb (t0c hs hk rfl (Nat.lt_trans hl a0h) hv) ⟨a,hs.sealed hk rfl hl⟩
theorem Yz (h:Tidy R v m):Told R v m:=by
 obtain ⟨g,v2,m2,h1,h2,h3⟩:=h
 subst h1
 exact ⟨v2,m2,fun B d y w hb hv hm=>⟨d.via g,V.den_via hv,hm.tidy h2⟩,h3⟩
end
def Uw :W→Bool
 | .one (.pl _)=>true
 | .one _=>false
 | .agg cs=>cs.all fun l=>match l with
  | .pl _=>true
  |_=>false
def Pw :V→Bool
 | .w x=>Uw x
 | .tup xs=>xs.all Uw
 | .any=>true
theorem t0p {g:Nat→Nat}: ∀ {v:V},Pw v=true→v.ren g=v:=by
 have hl: ∀ cs:List L,(cs.all fun l=>match l with| .pl _=>true|_=>false)=true→cs.map (L.ren g)=cs:=by
  intro cs h
  induction cs with
  |nil=>rfl
  |cons x r ih=>
   simp only [List.all_cons,Bool.and_eq_true] at h
   rw [List.map_cons,ih h.2]
   cases x<;>first|rfl|(cases h.1)
 have hw: ∀ x:W,Uw x=true→x.ren g=x:=by
  intro x h
  cases x with
  |one l=>cases l<;>first|rfl|(cases h)
  |agg cs=>simp only [W.ren];rw [hl cs h]
 intro v h
 cases v with
 |w x=>simp only [V.ren];rw [hw x h]
 |tup xs=>
  simp only [V.ren]
  congr 1
  simp only [Pw,List.all_eq_true] at h
  induction xs with
  |nil=>rfl
  |cons x r ih=>rw [List.map_cons,hw x (h x (by simp)),ih fun y hy=>h y (by simp [hy])]
 |any=>rfl
theorem told_plain {R:V→List (Nat×Ob)→Prop} {v:V} {m:List (Nat×Ob)} (hp:Pw v=true) (h:R v []):Told R v m:=
 Yz ⟨fun k=>k,v,[],(t0p hp).symm,.empty,h⟩
end Go.Sy
namespace Go.Sy
theorem a1q {P:Program} {B:Base} {ops:Array Oper} {ds:List (Option Tmp)} (hds:ds=ops.toList.map (·.dst)) {Q:Exit→Act→World→Prop} {K:St→Prop} (hK: ∀ S' d' a' w',K S'→Sim B d' S' a' w'→Q .normal a' w'):
  ∀ (its:List It) (S:St),OKs P ds its S→e0p its S→Px its→(∀ x∈its,∀ n,x.o.dst=some n→n<B.nt)→K (fin its S)→∀ d a w,Sim B d S a w→wpList P ops Q (its.map (·.o)) a w
 | [],S,_,_,_,_,h,d,a,w,hs=>hK _ _ _ _ h hs
 |x::r,S,ho,hn,ha,hd,h,d,a,w,hs=>by
  obtain ⟨g1,g2⟩:=ho
  have hnx: ∀ k∈x.e.names,New k S:=fun k hk=>hn x (by simp) k hk
  have hdst: ∀ n,x.o.dst=some n→n<B.nt:=hd x (by simp)
  have hgo: ∀ d' a' w',Sim B d' (x.on S) a' w'→wpList P ops Q (r.map (·.o)) a' w':=fun d' a' w' hs'=>
   a1q hds hK r (x.on S) g2 (e0p.on (fun y hy k hk=>hn y (by simp [hy]) k hk) g1 (fun y hy k hk hk2=>ha.1 y hy k hk2 hk)) ha.2.2 (fun y hy=>hd y (by simp [hy])) h d' a' w' hs'
  rw [List.map_cons]
  refine wpList_step fun N hN=>?_
  have hev:=g1.ev
  have hg:=g1.guard
  have run:x.skip=false→x.o.wp P a w N Q:=by
   intro hsk
   rw [hsk] at hev
   simp only [Bool.false_eq_true,if_false] at hev
   exact hev.run hs hnx hdst _ _ fun d' a' w' hs'=>hN _ _ (hgo d' a' w' hs')
  have skp:x.skip=true→N (a.put x.o.dst undef) w:=by
   intro hsk
   rw [hsk] at hev
   simp only [if_true] at hev
   refine hN _ _ (hgo d _ _ ?_)
   unfold It.on
   rw [hev]
   exact Sim.putE hs (v:=.tup []) (d0o d) hdst
  cases hgd:x.o.guard with
  |none=>
   rw [hgd] at hg
   rw [if_pos (by simp [Region.wanted,hgd])]
   exact run hg
  |some g=>
   rw [hgd] at hg
   simp only at hg
   obtain ⟨c,hc,hsk⟩:=hg
   have hw:=d0l hs hds hgd hc
   rw [hw]
   by_cases hcg:c=g.2
   ·rw [if_pos (by simp [hcg])]
    exact run (by rw [hsk,hcg];simp)
   ·rw [if_neg (by simp [hcg])]
    exact skp (by rw [hsk];simpa using hcg)
theorem s0n {P:Program} {B:Base} {id:Nat} {l:List Oper} {S:St} {Q:Exit→St→Prop} (names:List Nat)
  (hn:names.all (fun k=>fresh k S&&(look S.mem k).isNone)=true)
  (h: ∀ K:St→List Da→Prop,(∀ S' D,Q .normal S'→K S' D)→Oj P B.nt names (i0s l) false l [] [] S K):HT P B (.region id l.toArray false) S Q:=by
 intro d a w hs
 obtain ⟨its,hi,hQ⟩:=b0j (h (fun S' D=>Q .normal S') (fun _ _ h1=>h1))
 refine wp_region_list ?_
 have:=a1q (P:=P) (B:=B) (ops:=l.toArray) (ds:=i0s l) (by rw [j0m]) (Q:=fun e a' w'=>∃ S' d',Q e S'∧Sim B d' S' a' w') (K:=Q .normal) (fun S' d' a' w' hq hs'=>⟨S',d',hq,hs'⟩) its S hi.ok ?_ hi.apart hi.dst hQ d a w hs
 ·rw [hi.ops] at this
  simpa only [List.toList_toArray] using this
 ·intro x hx k hk
  have:=(hi.nm x hx k hk).1
  simp only [List.all_eq_true,Bool.and_eq_true] at hn
  have h1:=hn k this
  have h2:=h0t h1.1
  exact ⟨⟨fun n v hv=>Vq h2.1 hv,fun n o ho=>a0j h2.2 ho,f0f h1.1⟩,by simpa using h1.2⟩
end Go.Sy
namespace Go.Sy
theorem L.ren_id (l:L):l.ren (fun k=>k)=l:=by cases l<;>simp [L.ren]
theorem o0t {m m2:List (Nat×Ob)} (h: ∀ k o,look m2 k=some o→look m k=some o):Within (fun k=>k) m2 m:=
 ⟨fun k o hk=>by rw [h k o hk];congr 1;cases o;simp only [Ob.mk.injEq,true_and];exact (List.map_id'' L.ren_id _).symm,fun _ _ _ _ h=>h,fun _ h=>h,fun _ _=>rfl⟩
theorem s0l {R:V→List (Nat×Ob)→Prop} {v:V} {m m2:List (Nat×Ob)} (hp:Pw v=true) (hm: ∀ k o,look m2 k=some o→look m k=some o) (h:R v m2):Told R v m:=
 Yz ⟨fun k=>k,v,m2,(t0p hp).symm,o0t hm,h⟩
theorem a1p {m:List (Nat×Ob)} {j:Nat} {o0:Ob} (h:look m j=some o0): ∀ k o,look [(j,o0)] k=some o→look m k=some o:=by
 intro k o hk
 simp only [look] at hk
 split at hk
 ·rename_i e;cases hk;rw [e];exact h
 ·cases hk
theorem c0j (vw:Bool) (S:St) (hd:Hand) (r:List L): ∀ l:List UInt8,Hz vw S hd (Aq l++r)=(Hz vw S hd r).map (Aq l++ ·)
 | []=>by simp [Aq]
 |x::l=>by
  have ih:=c0j vw S hd r l
  simp only [Aq] at ih
  simp only [Aq,List.map_cons,List.cons_append,Hz,Vw,ih]
  cases Hz vw S hd r<;>rfl
theorem m0r (vw:Bool) (S:St) (hd:Hand) (l:List UInt8):Hz vw S hd (Aq l)=some (Aq l):=by
 have:=c0j vw S hd [] l
 simpa [Hz] using this
theorem o0p (vw:Bool) (m:List (Nat×Ob)) (l:List UInt8):(Aq l).all (Qx vw m)=true:=by
 simp only [Aq,List.all_eq_true,List.mem_map]
 rintro x ⟨y,_,rfl⟩
 simp [Qx,Rz]
section
variable {P:Program} {B:Base} {ds:List (Option Tmp)} {r:List Oper} {S:St} {K:St→Prop}
theorem e2d (j:Nat) (o:Oper):Ey (some true) j true P B ds o r S K=Cw P B ds (⟨o.dst,o.op,o.type,o.pos,o.after,none⟩::r) (s0y S ds j true) K:=by rw [b0t];simp
theorem e2g (j:Nat) (o:Oper):Ey (some false) j false P B ds o r S K=Cw P B ds (⟨o.dst,o.op,o.type,o.pos,o.after,none⟩::r) (s0y S ds j false) K:=by rw [b0t];simp
theorem e2e (j:Nat) (o:Oper):Ey (some true) j false P B ds o r S K=Qv ((s0y S ds j true).put B.nt o.dst (.tup [])) P B ds r K:=by rw [b0t];simp
theorem e2f (j:Nat) (o:Oper):Ey (some false) j true P B ds o r S K=Qv ((s0y S ds j false).put B.nt o.dst (.tup [])) P B ds r K:=by rw [b0t];simp
end
section
variable {P:Program} {nt:Nat} {names:List Nat} {ds:List (Option Tmp)} {keep:Bool} {o:Oper} {N:List Nat} {D:List Da} {S:St} {k:List Nat→List Da→St→Prop}
theorem e2r (j:Nat):onG P nt names ds keep o (j,true) N D S k (some true)=onO P nt names ds keep o N D S k:=by rw [g1l];simp
theorem e2s (j:Nat):onG P nt names ds keep o (j,true) N D S k (some false)=(g0m nt o.dst∧k N (D++bif keep then [⟨.val (.tup []),(gslot ds o).filterMap S.get,[]⟩] else []) ((Eff.val (.tup [])).on o.dst S)):=by rw [g1l];simp
end
attribute [go_sem high] e2d e2g e2e e2f e2r e2s
attribute [go_sem] c0j m0r o0p j0o
end Go.Sy
namespace Go.Sy
section
variable {k j:Nat} {c:List PL}
theorem l0h (x:PL):c0g k c (.pl x)=.pl x:=rfl
theorem b0h {n:Nat} {bs:List UInt8} (h:n=bs.length):c0g k (bs.map .u8) (.s k [] n 1)=.pl (.R false 1 (Aw bs)):=by
 subst h
 simp only [c0g,if_true,rd,pok,psz,List.length_map,Nat.mul_one,and_self,e0i]
theorem h1r (l:List UInt8):(Aq l).map (c0g k c)=Aq l:=by simp [Aq,c0g]
end
end Go.Sy
namespace Go.Sy
section
variable {H:Type} {enc:TypeId×Value→H} {P:Program} {w w2:World} {base:Nat} {spare:Nat→Bool} {held:Bool}
theorem w0a {e t:TypeId} {v:Value} {d:DataW H} {p:List MemPlace} {ex:Bool} {sz:Nat} {rows:List (List PL)} (ht:P.underlying t=some (.slice e)) (h:DataW.Trod enc P w base spare held t v d p) (hd:(V.w (.one (.pl (.R ex sz rows)))).den (Va.reads w2) v):
  rows.length=0∨∃ elems rest,d=.slice elems rest∧elems.length=rows.length:=by
 obtain ⟨fuel,h⟩:=h
 simp only [V.den,W.den,L.den] at hd
 rw [PL.den] at hd
 rcases hd with ⟨_,rfl⟩|⟨blk,off,cap,rfl,_⟩|⟨_,_,rfl,rfl,_⟩
 ·exact .inl rfl
 ·rcases DataW.trod_slice ht h with ⟨h0,_⟩|⟨a,len,cap',elems,rest,n,_,hc,hx,_,_,_,hlen,_⟩
  ·simp [Value.cells] at h0
  ·simp only [Value.cells,List.cons.injEq,Value.slice.injEq,and_true] at hc
   obtain ⟨_,e2,_⟩:=hc
   cases hx
   exact .inr ⟨_,_,rfl,by rw [List.length_map];omega⟩
 ·exact .inl rfl
end
end Go.Sy
namespace Go.Sy
section
variable {P:Program}
end
end Go.Sy
namespace Go.Sy
section
variable {H:Type} {enc:TypeId×Value→H} {P:Program}
theorem v0u {t e:TypeId} {d:DataW H} {n k:Nat} (ht:P.underlying t=some (.slice e)) (hb:P.bytesOf e=k) (h:n=0∨∃ elems rest,d=.slice elems rest∧elems.length=n) (hw:(d.weights P t).all (· ≤reachBytes)=true):n*k≤140737488351232:=by
 rcases h with rfl|⟨elems,rest,rfl,rfl⟩
 ·simp
 ·simp only [DataW.weights,ht,hb,List.all_cons,Bool.and_eq_true,decide_eq_true_eq] at hw
  exact Nat.le_trans (Nat.mul_le_mul_right k (Nat.le_add_right _ _)) hw.1
theorem j0t {p:Nat→Bool} {t:TypeId} {ts:List TypeId} {d:DataW H} {ds:List (DataW H)} (h:(DataW.weightsEach P (t::ts) (d::ds)).all p=true):(d.weights P t).all p=true∧(DataW.weightsEach P ts ds).all p=true:=by
 simpa only [DataW.weightsEach,List.all_append,Bool.and_eq_true] using h
end
end Go.Sy
namespace Go.Sy
open Go.RowKit Go.WideShapes Go.ChangeShapes Go.ChangeAt
theorem r0f {P:Program} {W:World}: ∀ {l:List (String×DataW Unit)} {ps:List MemPlace},DataW.LaidVars P W l ps→∀ {name:String} {x:DataW Unit},(name,x)∈l→
  ∃ g t cs fuel p,P.globalNamed name=some g∧(P.globals[g]?).map (·.type)=some t∧W.var? P name=some cs∧DataW.trod (fun _=>()) P W 0 (fun _=>true) false fuel t cs.toList=some (x,p)
 | [],_,_,_,_,hm=>by cases hm
 |(n,y)::r,ps,h,name,x,hm=>by
  obtain ⟨g,t,cs,fuel,p,q,h1,h2,h3,h4,h5,_⟩:=h
  rcases List.mem_cons.mp hm with e|hm
  ·cases e
   exact ⟨g,t,cs,fuel,p,h1,h2,h3,h4⟩
  ·exact r0f h5 hm
theorem r1h {P:Program} {W:World} {l:List (String×DataW Unit)} (h:laidMet P l W) {name:String} {k:IntKind} {zs:List Int} (hm:(name,Lib.tabData k zs)∈l) {g:Nat} {t e:TypeId} {n:Nat}
  (hg:P.globalNamed name=some g) (hty:(P.globals[g]?).map (·.type)=some t) (ht:P.underlying t=some (.array n e)) (he:P.underlying e=some (.int k)) (hce:P.cellsOf e=1) (hct:P.cellsOf t=n):
  W.var? P name=some (zs.map fun z=>Value.int k z).toArray:=by
 obtain ⟨ps,hl,_⟩:=h
 obtain ⟨g',t',cs,fuel,p,hg',ht',hvar,hd⟩:=r0f hl hm
 obtain rfl:=Option.some.inj (hg.symm.trans hg')
 obtain rfl:=Option.some.inj (hty.symm.trans ht')
 rw [hvar,←Lib.cells_of_tab ht he hce hct hd]
theorem s1p {P:Program} {W:World} {l:List (String×DataW Unit)} (h:laidMet P l W) {name:String} {k:IntKind} {zss:List (List Int)} (hm:(name,DataW.agg (zss.map (Lib.tabData k)))∈l) {g:Nat} {t e u:TypeId} {n m:Nat}
  (hg:P.globalNamed name=some g) (hty:(P.globals[g]?).map (·.type)=some t) (ht:P.underlying t=some (.array n e)) (he:P.underlying e=some (.array m u)) (hu:P.underlying u=some (.int k))
  (hcu:P.cellsOf u=1) (hce:P.cellsOf e=m) (hct:P.cellsOf t=n*m):
  W.var? P name=some (zss.flatten.map fun z=>Value.int k z).toArray:=by
 obtain ⟨ps,hl,_⟩:=h
 obtain ⟨g',t',cs,fuel,p,hg',ht',hvar,hd⟩:=r0f hl hm
 obtain rfl:=Option.some.inj (hg.symm.trans hg')
 obtain rfl:=Option.some.inj (hty.symm.trans ht')
 rw [hvar]
 suffices e0:cs.toList=zss.flatten.map fun z=>Value.int k z by rw [←e0]
 generalize cs.toList=cl at hd
 cases fuel with
 |zero=>simp [DataW.trod] at hd
 |succ fuel=>
  simp only [DataW.trod,ht,hce,hct] at hd
  split at hd
  ·rename_i hcl
   obtain ⟨xs,hx,hy⟩:=Option.map_eq_some_iff.1 hd
   have hxs:xs.map (·.1)=zss.map (Lib.tabData k):=by
    have:=congrArg Prod.fst hy
    simpa using this
   have hfl:=Zk m n cl hcl
   have hxl:xs.length=n:=by simpa using Lib.mapM_length hx
   have hzl:zss.length=n:=by
    have:=congrArg List.length hxs
    simp only [List.length_map] at this
    omega
   have key:(List.range n).map (fun i=>(cl.drop (i*m)).take m)=zss.map (fun zs=>zs.map fun z=>Value.int k z):=by
    apply List.ext_getElem?
    intro i
    by_cases hi:i<n
    ·obtain ⟨b,hb,hf⟩:=Lib.mapM_at hx i i (by simp [hi])
     have h2:(xs.map (·.1))[i]? =some b.1:=by simp [hb]
     rw [hxs,List.getElem?_map] at h2
     obtain ⟨zs,hz,hzb⟩:=Option.map_eq_some_iff.1 h2
     obtain ⟨b1,b2⟩:=b
     simp only at hzb
     subst hzb
     have:=Lib.cells_of_tab he hu hcu hce hf
     rw [List.getElem?_map,List.getElem?_map,hz]
     simp only [List.getElem?_range hi,Option.map_some]
     rw [this]
    ·rw [List.getElem?_eq_none (by simp;omega),List.getElem?_eq_none (by simp;omega)]
   rw [←hfl,key,←List.map_flatten]
  ·cases hd
theorem n0k {P:Program} {W:World} {name:String} {g:Nat} {vs:List Value} (h:W.var? P name=some vs.toArray) (hg:P.globalNamed name=some g) {cs:List PL} (hc:Iy (PL.den (Va.reads W).ro) cs vs):PL.denAt (Va.reads W).ro g cs 0:=by
 refine r0o hc fun j v hj=>?_
 have:=World.var?_cell hg h j
 simp only [Nat.zero_add]
 show W.cell? ⟨g,j,none⟩=some v
 rw [this]
 simpa using hj
theorem r0n {ro:Ro}: ∀ l:List UInt32,Iy (PL.den ro) (l.map PL.u32) (l.map fun x=>Value.int .u32 x.toNat)
 | []=>.nil
 |x::l=>.cons (by rw [PL.den]) (r0n l)
theorem s1d {ro:Ro}: ∀ l:List Int,Iy (PL.den ro) (l.map PL.i) (l.map fun x=>Value.int .i64 x)
 | []=>.nil
 |x::l=>.cons (by rw [PL.den]) (s1d l)
def Va.readsG (w:World) (G:List (Nat×List PL)):Va:=⟨fun k=>k-gl0,fun k=>match look G k with|some cs=>cs.length|none=>0,fun b o=>w.cell? ⟨b,o,none⟩⟩
def u0p (G:List (Nat×List PL)):List (Nat×Ob):=G.map fun x=>(x.1,⟨false,x.2.map L.pl⟩)
theorem f0b : ∀ {G:List (Nat×List PL)} {k:Nat} {o:Ob},look (u0p G) k=some o→∃ cs,look G k=some cs∧o=⟨false,cs.map L.pl⟩
 | [],_,_,h=>by cases h
 |x::r,k,o,h=>by
  simp only [u0p,List.map_cons,look] at h ⊢
  split at h
  ·rename_i e
   rw [if_pos e]
   cases h
   exact ⟨_,rfl,rfl⟩
  ·rename_i e
   rw [if_neg e]
   exact f0b h
theorem w0o {w:World} {G:List (Nat×List PL)} (hg: ∀ k cs,look G k=some cs→gl0≤k∧PL.denAt (Va.reads w).ro (k-gl0) cs 0) {may:Nat→Prop} {fx:Nat→Option (Nat×Nat)} (hf: ∀ k,fx k=none):
  j0s ⟨w,may,0,(Va.readsG w G).ro,fx⟩ (Va.readsG w G) (u0p G) w:=by
 have hlt: ∀ k,(look (u0p G) k).isSome=true→k<gl0→False:=fun k h1 h2=>by
  obtain ⟨o,ho⟩:=Option.isSome_iff_exists.mp h1
  obtain ⟨cs,hc,_⟩:=f0b ho
  exact absurd (hg k cs hc).1 (Nat.not_le.mpr h2)
 refine ⟨⟨#[],[]⟩,⟨rfl,rfl,fun n v hv=>(by cases hv),fun k o hk hl=>(hlt k (by rw [hk];rfl) hl).elim,fun k k' h1 _ h2=>(hlt k h1 h2).elim,fun k h1 h2=>(hlt k h1 h2).elim,fun _ _ _ h=>h,fun b o y hy _=>hy,rfl,rfl,rfl,Nat.le_refl _,fun _ _ _=>rfl,fun _ _=>rfl,?_,fun k o p hk h=>absurd ((hf k).symm.trans h) (by simp),fun k p h=>absurd ((hf k).symm.trans h) (by simp)⟩⟩
 intro k o hk _
 obtain ⟨cs,hc,rfl⟩:=f0b hk
 refine ⟨?_,cs,rfl,(hg k cs hc).2⟩
 show (match look G k with|some cs=>cs.length|none=>0)=_
 rw [hc,List.length_map]
def plW :W→Bool
 | .one (.pl _)=>true
 | .one _=>false
 | .agg l=>l.all fun| .pl _=>true|_=>false
def plV :V→Bool
 | .w x=>plW x
 |_=>false
theorem c2u {d d':Va} (h:d.ro=d'.ro): ∀ {v:V} {y:Value},plV v=true→V.den d v y→V.den d' v y
 | .w (.one (.pl x)),y,_,hd=>by simp only [V.den,W.den,L.den] at hd ⊢;rw [←h];exact hd
 | .w (.one (.p _ _)),y,hp,_=>by simp [plV,plW] at hp
 | .w (.one (.s _ _ _ _)),y,hp,_=>by simp [plV,plW] at hp
 | .w (.one (.fn _ _)),y,hp,_=>by simp [plV,plW] at hp
 | .w (.agg l),y,hp,hd=>by
  simp only [V.den,W.den] at hd ⊢
  obtain ⟨vs,e,ha⟩:=hd
  refine ⟨vs,e,?_⟩
  simp only [plV,plW] at hp
  generalize vs.toList=q at ha
  clear e
  induction ha with
  |nil=>exact .nil
  | @cons a b l m h1 _ ih=>
   simp only [List.all_cons,Bool.and_eq_true] at hp
   refine .cons ?_ (ih hp.2)
   cases a with
   |pl x=>simp only [L.den] at h1 ⊢;rw [←h];exact h1
   |_=>simp at hp
 | .tup _,y,hp,_=>by simp [plV] at hp
 | .any,y,hp,_=>by simp [plV] at hp
theorem j1v {d d':Va} (h:d.ro=d'.ro): ∀ {vs:List V} {ys:List Value},(vs.all plV)=true→Iy (V.den d) vs ys→Iy (V.den d') vs ys
 | [],_,_,.nil=>.nil
 |v::vs,_,hp,.cons h1 h2=>by
  simp only [List.all_cons,Bool.and_eq_true] at hp
  exact .cons (c2u h hp.1 h1) (j1v h hp.2 h2)
theorem CtM.callsG {P:Program} {f:FuncId} {args:List V} {G:List (Nat×List PL)} {R:V→List (Nat×Ob)→Prop} {b:Bool} (hc:CtM P f args (u0p G) R) (hR: ∀ v m,R v m→v=.w (.one (.pl (.b b)))) (w:World) (vals:Array Value)
  (hg: ∀ k cs,look G k=some cs→gl0≤k∧PL.denAt (Va.reads w).ro (k-gl0) cs 0) (hp:args.all plV=true) (ha:Iy (V.den (Va.reads w)) args vals.toList):Calls P f vals w fun e w'=>e=.returned (.bool b)∧Below w.heap.size w w':=by
 have hlt: ∀ k,(look (u0p G) k).isSome=true→k<gl0→False:=fun k h1 h2=>by
  obtain ⟨o,ho⟩:=Option.isSome_iff_exists.mp h1
  obtain ⟨cs,hc,_⟩:=f0b ho
  exact absurd (hg k cs hc).1 (Nat.not_le.mpr h2)
 have hf: ∀ k,i1z (Va.readsG w G) (u0p G) k=none:=fun k=>by
  unfold i1z
  rw [if_neg]
  rintro ⟨h1,_,h2⟩
  exact hlt k h1 h2
 refine (hc w (Va.readsG w G) vals (w0o hg hf) (j1v (d:=Va.reads w) (d':=Va.readsG w G) rfl hp ha)).mono fun e w' ⟨y,v,d',m',he,hr,hd,hm⟩=>?_
 rw [hR v m' hr] at hd
 refine ⟨by rw [he];exact congrArg _ hd,?_⟩
 obtain ⟨a,hs⟩:=hm
 refine ⟨hs.os,hs.tape,hs.output,hs.size,fun k hk=>hs.block k hk ?_⟩
 rintro ⟨k,h1,h2,_⟩
 exact hlt k h1 h2
end Go.Sy
namespace Go.Sy
section
variable {P:Program} {B:Base} {S:St} {Q:Exit→St→Prop}
theorem Dx {c:Code} (h: ∀ Z:Exit→St→Prop,(∀ e S',Q e S'→Z e S')→HT P B c S Z):HT P B c S Q:=h Q fun _ _ h=>h
theorem Dz {id:Nat} {l:List Oper} {y:Code} (h: ∀ K:St→Prop,(∀ S',HT P B y S' Q→K S')→Cw P B (i0s l) l S K):HT P B (.seq (.region id l.toArray false) y) S Q:=
 Bq fun N M hN hM=>Cv fun K hK=>h K fun S' hy=>hK S' (hN S' hy)
theorem d0c {id:Nat} {l:List Oper} {y:Code} (names c:List Nat) (need:List (Nat×Nat)) (hm:P.follows .mixedOrders=true) (hst:p0o (i0s l) c need l=true)
  (hn:names.all (fun k=>fresh k S&&(look S.mem k).isNone)=true)
  (h: ∀ K:St→List Da→Prop,(∀ S' D,a1x l D need→HT P B y S' Q→K S' D)→Oj P B.nt names (i0s l) (!need.isEmpty) l [] [] S K):HT P B (.seq (.region id l.toArray true) y) S Q:=
 Bq fun N M hN hM=>Kk names c need hm hst hn fun K hK=>h K fun S' D hd hy=>hK S' D hd (hN S' hy)
theorem Bz {c:Operand} {x y:Code} (hc:S.get c=some (.w (.one (.pl (.b true))))) (h:HT P B x S Q):HT P B (.cond c x y) S Q:=p0t hc (fun _=>h) (fun e=>by cases e)
theorem Bj {c:Operand} {x y:Code} (hc:S.get c=some (.w (.one (.pl (.b false))))) (h:HT P B y S Q):HT P B (.cond c x y) S Q:=p0t hc (fun e=>by cases e) (fun _=>h)
end
end Go.Sy
namespace Go.Sy
@[go_sem] theorem y1m (S:St) (g:Nat):S.get (.global g)=some (.w (.one (.p (1000000+g) []))):=rfl
theorem c1v (n j:Nat):(List.replicate n (0:UInt32)).getD j 0=0:=by
 simp only [List.getD,List.getElem?_replicate]
 split<;>rfl
end Go.Sy
namespace Go.Sy
section
variable {P:Program}
end
end Go.Sy
namespace Go.Sy
def kept {α:Type} (ks:List Nat):List (Nat×α)→List (Nat×α)
 | []=>[]
 |x::r=>if ks.contains x.1=true then x::kept ks r else kept ks r
theorem m0p {α:Type} {ks:List Nat} {n:Nat} {v:α}: ∀ {e:List (Nat×α)},look (kept ks e) n=some v→look e n=some v
 | [],h=>h
 |x::r,h=>by
  simp only [kept] at h
  split at h
  ·simp only [look] at h ⊢
   split
   ·rename_i e;rw [if_pos e] at h;exact h
   ·rename_i e;rw [if_neg e] at h;exact m0p h
  ·rename_i hc
   have:=m0p h
   simp only [look]
   split
   ·rename_i e
    exfalso
    have hk: ∀ {e:List (Nat×α)},look (kept ks e) n=some v→ks.contains n=true:=by
     intro e
     induction e with
     |nil=>intro h;cases h
     |cons y s ih=>
      intro h
      simp only [kept] at h
      split at h
      ·rename_i hy
       simp only [look] at h
       split at h
       ·rename_i e2;rw [e2];exact hy
       ·exact ih h
      ·exact ih h
    exact hc (by rw [←e];exact hk h)
   ·exact this
def St.keepE (ks:List Nat) (S:St):St:=⟨kept ks S.env,S.mem⟩
theorem l0l (ks:List Nat) (e:List (Nat×V)) (m:List (Nat×Ob)):St.keepE ks ⟨e,m⟩=⟨kept ks e,m⟩:=rfl
theorem l0k {α:Type} (ks:List Nat):kept ks ([]:List (Nat×α))=[]:=rfl
theorem h0o {α:Type} (ks:List Nat) (n:Nat) (v:α) (r:List (Nat×α)):kept ks ((n,v)::r)=if ks.contains n=true then (n,v)::kept ks r else kept ks r:=rfl
section
variable {P:Program} {B:Base} {Q:Exit→St→Prop} {S:St} {x y:Code}
theorem p1i (ks:List Nat) (h:HT P B x (S.keepE ks) Q):HT P B x S Q:=by
 refine HT.le (fun d a w hs=>⟨d,?_⟩) h
 exact ⟨hs.defers,hs.nt,fun n v hv=>hs.env n v (m0p hv),hs.mem,hs.inj,hs.own,hs.ro,hs.old,hs.os,hs.tape,hs.output,hs.size,hs.block,hs.gat,hs.glob,hs.fix,hs.fxn⟩
theorem r1z {α:Type} (ks:List Nat) (F:α→St) (p:α→Prop)
  (h1: ∀ (N:St→Prop) (M:Exit→St→Prop),(∀ a,p a→∀ S',S'.keepE ks=F a→N S')→(∀ e S',Q e S'→M e S')→HT P B x S (o0l N M))
  (h2: ∀ a,p a→HT P B y (F a) Q):HT P B (.seq x y) S Q:=
 HT.seq (h1 (fun S'=>HT P B y S' Q) Q (fun a ha S' e=>p1i ks (e▸h2 a ha)) (fun _ _ h=>h))
end
attribute [go_sem] a0m u0y v0a i0a k0v Qj k0r Vw Hz Sq b0w Kq Lx f0c Qx okN d0h inv Uy Qw nameOut Ob.ren V.ren W.ren L.ren o0n
end Go.Sy
namespace Go.Sy
def CH (vw:Bool) (hd:Hand) (P:Program) (f:FuncId) (args:List V) (m:List (Nat×Ob)) (R:V→List (Nat×Ob)→Prop):Prop:=CtM P f args m R
def CF (caps:List Nat) (vw:Bool) (hd:Hand):Prop:=True
theorem Ct.cv {P:Program} {f:FuncId} {args:List V} {T:V→Prop} (h:Ct P f args fun v _=>T v):Ct P f args fun v m=>T v∧m=[]:=h.plain fun _ _ h=>h
theorem CtM.ch {P:Program} {f:FuncId} {args:List V} {m:List (Nat×Ob)} {R:V→List (Nat×Ob)→Prop} (hd:Hand) (h:CtM P f args m R) (vw:Bool:=false):CH vw hd P f args m R:=h
theorem CF.mk (caps:List Nat) (hd:Hand) (vw:Bool:=false):CF caps vw hd:=trivial
section
variable {P:Program} {B:Base} {S:St} {K:St→Prop} {dst:Option Tmp} {ty:TypeId} {pos:String} {af:Array Edge} {f:FuncId} {args:List Operand} {ts:Array TypeId} {ds:List (Option Tmp)} {r:List Oper} {vs:List V} {m:List (Nat×Ob)} {R:V→List (Nat×Ob)→Prop}
theorem d0d (hgo: ∀ vals w,(callFunc f vals).run P w=.ok (.enter f vals) w) (hargs:Sv S args=some vs) (hc:Ct P f vs R) (hK: ∀ v m,R v m→d0s m v=true∧a0o (fun k=>k) S.env m S.mem=true∧(match dst with
   |some n=>n<B.nt∧Cw P B ds r ⟨(n,v.ren (fun k=>k))::S.env,adopt (fun k=>k) m S.mem⟩ K
   |none=>Cw P B ds r ⟨S.env,adopt (fun k=>k) m S.mem⟩ K)):
  Fz P B ⟨dst,.call ⟨.value (.func f),args.toArray,ts⟩,ty,pos,af,none⟩ S ds r K:=Cy (fun k=>k) hgo hargs hc hK
theorem n0t {vw:Bool} {hd:Hand} (hgo: ∀ vals w,(callFunc f vals).run P w=.ok (.enter f vals) w) (hargs:Qj vw S hd args=some vs) (hok:l1q hd=true) (hm:Kq S hd m) (hc:CH vw hd P f vs m R)
  (hK: ∀ v m',R v m'→Lx vw m' v=true∧d0h vw (fun k=>k) hd S m m' m'∧hd.all (fun x=>(look m' x.1).isSome)=true∧(match dst with
   |some n=>n<B.nt∧Cw P B ds r ⟨(n,v.ren (Qw (fun k=>k) hd))::S.env,Uy (fun k=>k) hd m' S.mem⟩ K
   |none=>Cw P B ds r ⟨S.env,Uy (fun k=>k) hd m' S.mem⟩ K)):
  Fz P B ⟨dst,.call ⟨.value (.func f),args.toArray,ts⟩,ty,pos,af,none⟩ S ds r K:=Dy vw hd (fun k=>k) hgo hargs hok hm hc hK
theorem n0u {vw:Bool} {hd:Hand} {t:Tmp} {caps ks:List Nat} (hfn:S.get (.tmp t)=some (.w (.one (.fn f caps)))) (hcaps:b0w hd caps=some ks) (hgo: ∀ vals w,(callFunc f vals).run P w=.ok (.enter f vals) w) (hargs:Qj vw S hd args=some vs) (hok:l1q hd=true) (hm:Kq S hd m) (hx:CF caps vw hd) (hc:CtM P f (vs++ks.map fun k=>.w (.one (.p k []))) m R)
  (hK: ∀ v m',R v m'→Lx vw m' v=true∧d0h vw (fun k=>k) hd S m m' m'∧hd.all (fun x=>(look m' x.1).isSome)=true∧(match dst with
   |some n=>n<B.nt∧Cw P B ds r ⟨(n,v.ren (Qw (fun k=>k) hd))::S.env,Uy (fun k=>k) hd m' S.mem⟩ K
   |none=>Cw P B ds r ⟨S.env,Uy (fun k=>k) hd m' S.mem⟩ K)):
  Fz P B ⟨dst,.call ⟨.value (.tmp t),args.toArray,ts⟩,ty,pos,af,none⟩ S ds r K:=g0q vw hd (fun k=>k) hfn hcaps hgo hargs hok hm hc hK
end
section
variable {P:Program} {B:Base} {c:Code} {S:St} {Q:Exit→St→Prop}
theorem HT.w (h : HT P B c S Q := by
    repeat (first
      | refine zhK _ ?_
      | (refine zhN _ ?_; clear zhN zhM)
      | (refine zhM _ _ ?_; clear zhN zhM)
      | (refine zbn _ ?_; clear zbn zbx zbr zbi)
      | (refine zbx _ ?_; clear zbn zbx zbr zbi)
      | (refine zbr _ ?_; clear zbn zbx zbr zbi)
      | (refine zbi _ _ ?_ ?_; focus (decide); clear zbn zbx zbr zbi)
      | (refine zhZ _ _ ?_; (try simp only [go_sem, F0]); (all_goals (first | rfl | exact ⟨rfl, rfl⟩ | exact told_plain rfl ⟨rfl, rfl⟩ | exact s0l rfl (a1p (by simp [look, F0])) ⟨rfl, rfl⟩ | exact zE | exact zE _ | (rw [zE]; done) | (simp [F0]; done) | exact zE _ (by first | rfl | (simp [look, F0]; done)))))
      | (refine zL _ ?_ ?_; all_goals (simp only [go_sem, leX, List.cons_append, List.nil_append, F0]; try simp))
      | (refine Dz fun zK zhK => ?_; (try simp only [go_sem, F0]); (repeat' (first | apply And.intro | intro _)))
      | (refine Cv fun zK zhK => ?_; (try simp only [go_sem, F0]); (repeat' (first | apply And.intro | intro _)))
      | ((first | (refine d0d (fun _ _ => rfl) ?_ cv0 ?_; focus (first | rfl | (simp only [go_sem, F0] <;> rfl))) | (refine d0d (fun _ _ => rfl) ?_ cv1 ?_; focus (first | rfl | (simp only [go_sem, F0] <;> rfl))) | (refine d0d (fun _ _ => rfl) ?_ cv2 ?_; focus (first | rfl | (simp only [go_sem, F0] <;> rfl))) | (refine d0d (fun _ _ => rfl) ?_ cv3 ?_; focus (first | rfl | (simp only [go_sem, F0] <;> rfl))) | (refine d0d (fun _ _ => rfl) ?_ cv4 ?_; focus (first | rfl | (simp only [go_sem, F0] <;> rfl))) | (refine d0d (fun _ _ => rfl) ?_ cv5 ?_; focus (first | rfl | (simp only [go_sem, F0] <;> rfl))) | (refine d0d (fun _ _ => rfl) ?_ cv6 ?_; focus (first | rfl | (simp only [go_sem, F0] <;> rfl))) | (refine d0d (fun _ _ => rfl) ?_ cv7 ?_; focus (first | rfl | (simp only [go_sem, F0] <;> rfl))) | (refine d0d (fun _ _ => rfl) ?_ cv8 ?_; focus (first | rfl | (simp only [go_sem, F0] <;> rfl))) | (refine d0d (fun _ _ => rfl) ?_ cv9 ?_; focus (first | rfl | (simp only [go_sem, F0] <;> rfl))))
         rintro v m ⟨hR, hm⟩; subst hR; subst hm
         refine And.intro ?_ (And.intro ?_ ?_); iterate 2 (focus (first | rfl | simp only [go_sem, F0]))
         (try simp only [go_sem, F0]); (repeat' (first | apply And.intro | intro _)))
      | ((first | (refine n0t (fun _ _ => rfl) ?_ ?_ ?_ ch0 ?_; iterate 3 (focus (first | rfl | (simp only [go_sem, F0] <;> first | done | rfl | simp)))) | (refine n0t (fun _ _ => rfl) ?_ ?_ ?_ ch1 ?_; iterate 3 (focus (first | rfl | (simp only [go_sem, F0] <;> first | done | rfl | simp)))) | (refine n0t (fun _ _ => rfl) ?_ ?_ ?_ ch2 ?_; iterate 3 (focus (first | rfl | (simp only [go_sem, F0] <;> first | done | rfl | simp)))) | (refine n0t (fun _ _ => rfl) ?_ ?_ ?_ ch3 ?_; iterate 3 (focus (first | rfl | (simp only [go_sem, F0] <;> first | done | rfl | simp)))) | (refine n0t (fun _ _ => rfl) ?_ ?_ ?_ ch4 ?_; iterate 3 (focus (first | rfl | (simp only [go_sem, F0] <;> first | done | rfl | simp)))) | (refine n0t (fun _ _ => rfl) ?_ ?_ ?_ ch5 ?_; iterate 3 (focus (first | rfl | (simp only [go_sem, F0] <;> first | done | rfl | simp)))) | (refine n0t (fun _ _ => rfl) ?_ ?_ ?_ ch6 ?_; iterate 3 (focus (first | rfl | (simp only [go_sem, F0] <;> first | done | rfl | simp)))) | (refine n0u ?_ ?_ (fun _ _ => rfl) ?_ ?_ ?_ cg0 cf0 ?_; iterate 5 (focus (first | rfl | (simp only [go_sem, F0] <;> first | done | rfl | simp)))) | (refine n0u ?_ ?_ (fun _ _ => rfl) ?_ ?_ ?_ cg1 cf1 ?_; iterate 5 (focus (first | rfl | (simp only [go_sem, F0] <;> first | done | rfl | simp)))) | (refine n0u ?_ ?_ (fun _ _ => rfl) ?_ ?_ ?_ cg2 cf2 ?_; iterate 5 (focus (first | rfl | (simp only [go_sem, F0] <;> first | done | rfl | simp)))) | (refine n0u ?_ ?_ (fun _ _ => rfl) ?_ ?_ ?_ cg3 cf3 ?_; iterate 5 (focus (first | rfl | (simp only [go_sem, F0] <;> first | done | rfl | simp)))) | (refine n0u ?_ ?_ (fun _ _ => rfl) ?_ ?_ ?_ cg4 cf4 ?_; iterate 5 (focus (first | rfl | (simp only [go_sem, F0] <;> first | done | rfl | simp)))) | (refine n0u ?_ ?_ (fun _ _ => rfl) ?_ ?_ ?_ cg5 cf5 ?_; iterate 5 (focus (first | rfl | (simp only [go_sem, F0] <;> first | done | rfl | simp)))))
         rintro v m ⟨hR, hm⟩; subst hR; subst hm
         refine And.intro ?_ (And.intro ?_ (And.intro ?_ ?_)); iterate 3 (focus (first | rfl | (simp only [go_sem, F0]; done) | (simp [go_sem, look, F0]; done)))
         (try simp only [go_sem, F0]); (repeat' (first | apply And.intro | intro _)))
      | refine Bq fun zN zM zhN zhM => ?_
      | refine Cx fun zB zbn zbx zbr zbi => ?_
      | refine Cq ?_
      | refine Ck ?_
      | refine Fx ?_
      | (refine Bj ?_ ?_; focus (first | rfl | (simp [go_sem, F0]; done)))
      | (refine Bz ?_ ?_; focus (first | rfl | (simp [go_sem, F0]; done))))) : HT P B c S Q := h
end
theorem CtM.w {P:Program} {f:FuncId} {fn:Func} {c:Code} {args:List V} {m:List (Nat×Ob)} {R:V→List (Nat×Ob)→Prop} {nt:Nat} {rs:Array ResultVar} (hf:P.funcs[f]? =some fn) (hb:fn.body=some c) (hnt:fn.ntmps=nt) (hrs:fn.results=rs)
  (h: ∀ (w0:World) (ro:Ro) (may:Nat→Prop) (fx:Nat→Option (Nat×Nat)),HT P ⟨w0,may,nt,ro,fx⟩ c ⟨k0w 0 args,m⟩ (y1n P rs.toList R):=by intro w0 ro may fx;refine Dx fun zZ zhZ=>?_;exact HT.w) (hn:args.length≤nt:=by simp):CtM P f args m R:=
 CtM.k hf hb hnt (congrArg Array.toList hrs) hn h
end Go.Sy
namespace Go.Sy
section
variable {P:Program} {B:Base} {S:St} {Q:Exit→St→Prop}
end
end Go.Sy
namespace Go.Sy
theorem c0k (vw:Bool) (S:St) (hd:Hand) (r:List L): ∀ c:List PL,Hz vw S hd (pls c++r)=(Hz vw S hd r).map (pls c++ ·)
 | []=>by simp [pls]
 |x::l=>by
  have ih:=c0k vw S hd r l
  simp only [pls] at ih
  simp only [pls,List.map_cons,List.cons_append,Hz,Vw,ih]
  cases Hz vw S hd r<;>rfl
theorem k0d (vw:Bool) (S:St) (hd:Hand) (c:List PL):Hz vw S hd (pls c)=some (pls c):=by
 have:=c0k vw S hd [] c
 simpa [Hz] using this
attribute [go_sem] c0k k0d q0t
end Go.Sy
namespace Go.Sy
def FG (ks:List Nat):Prop:=True
theorem V.ren_same (v:V):v.ren (fun k=>k)=v:=by
 have hw: ∀ x:W,x.ren (fun k=>k)=x:=by
  intro x
  cases x with
  |one l=>simp only [W.ren,L.ren_id]
  |agg cs=>simp only [W.ren,W.agg.injEq];exact List.map_id'' L.ren_id _
 cases v with
 |w x=>simp only [V.ren,hw]
 |tup xs=>simp only [V.ren,V.tup.injEq];exact List.map_id'' hw _
 |any=>rfl
theorem p1c {m2:List (Nat×Ob)} {k:Nat} {o:Ob} (h:look m2 k=some o):(k,o)∈m2:=by
 induction m2 with
 |nil=>cases h
 |cons x r ih=>
  simp only [look] at h
  split at h
  ·rename_i e;cases h;subst e;exact .head _
  ·exact .tail _ (ih h)
theorem g0v {R:V→List (Nat×Ob)→Prop} {v:V} {m m2:List (Nat×Ob)} (hm: ∀ x∈m2,look m x.1=some x.2) (h:R v m2):Told R v m:=
 Yz ⟨fun k=>k,v,m2,(V.ren_same v).symm,o0t fun k o hk=>hm _ (p1c hk),h⟩
def m0j (m0:List (Nat×Ob)):List (Nat×Ob)→Option (Nat×List PL)
 | []=>none
 |x::r=>match (look m0 x.1).bind fun o=>z0k o.cells with
  |some c=>if x.1<500000 then some (x.1,c) else m0j m0 r
  |none=>m0j m0 r
def q0o :Nat→List (Nat×Ob)→V→Option V
 |0,_,v=>if Pw v=true then some v else none
 |n+1,m,v=>if Pw v=true then some v else match m0j m m with
  |none=>none
  |some x=>q0o n (q0n x.1 x.2 m) (o0o x.1 x.2 v)
theorem j0f {m0:List (Nat×Ob)}: ∀ {m:List (Nat×Ob)} {x:Nat×List PL},m0j m0 m=some x→(∃ b,look m0 x.1=some ⟨b,pls x.2⟩)∧x.1<500000
 | [],_,h=>by cases h
 |y::r,x,h=>by
  simp only [m0j] at h
  split at h
  ·rename_i c hc
   split at h
   ·rename_i hl
    cases h
    obtain ⟨o,ho,hu⟩:=Option.bind_eq_some_iff.mp hc
    have:=l0x hu
    obtain ⟨b,cs⟩:=o
    simp only at this
    subst this
    exact ⟨⟨b,ho⟩,hl⟩
   ·exact j0f h
  ·exact j0f h
theorem z0m {R:V→List (Nat×Ob)→Prop}: ∀ {n:Nat} {m:List (Nat×Ob)} {v v':V},q0o n m v=some v'→R v' []→Told R v m
 |0,m,v,v',h,hr=>by
  simp only [q0o] at h
  split at h
  ·rename_i hp;cases h;exact told_plain hp hr
  ·cases h
 |n+1,m,v,v',h,hr=>by
  simp only [q0o] at h
  split at h
  ·rename_i hp;cases h;exact told_plain hp hr
  ·split at h
   ·cases h
   ·rename_i x hx
    obtain ⟨⟨b,hk⟩,hl⟩:=j0f hx
    exact b0f x.1 x.2 hk hl (z0m h hr)
section
variable {P:Program} {B:Base} {S:St} {K:St→Prop} {dst:Option Tmp} {ty:TypeId} {pos:String} {af:Array Edge} {f:FuncId} {args:List Operand} {ts:Array TypeId} {ds:List (Option Tmp)} {r:List Oper} {vs:List V} {m:List (Nat×Ob)} {R:V→List (Nat×Ob)→Prop}
theorem x1u {vw:Bool} {hd:Hand} (hgo: ∀ vals w,(callFunc f vals).run P w=.ok (.enter f vals) w) (hargs:Qj vw S hd args=some vs) (hok:l1q hd=true) (hm:Kq S hd m) (hc:CH vw hd P f vs m R)
  (hK: ∀ v m',R v m'→Lx vw m' v=true∧d0h vw (fun k=>k+1000) hd S m m' m'∧hd.all (fun x=>(look m' x.1).isSome)=true∧(match dst with
   |some n=>n<B.nt∧Cw P B ds r ⟨(n,v.ren (Qw (fun k=>k+1000) hd))::S.env,Uy (fun k=>k+1000) hd m' S.mem⟩ K
   |none=>Cw P B ds r ⟨S.env,Uy (fun k=>k+1000) hd m' S.mem⟩ K)):
  Fz P B ⟨dst,.call ⟨.value (.func f),args.toArray,ts⟩,ty,pos,af,none⟩ S ds r K:=Dy vw hd (fun k=>k+1000) hgo hargs hok hm hc hK
end
section
variable {P:Program} {B:Base} {c:Code} {S:St} {Q:Exit→St→Prop}
theorem a2i {x:Code} {n:Nat} {ks:List Nat} (hk:FG ks) (h: ∀ (N:St→Prop) (M:Exit→St→Prop),(∀ S',rnd P B x Q n S'→N S')→(∀ e S',Q e S'→M e S')→HT P B x (S.forget ks) (o0l N M)):rnd P B x Q (n+1) S:=Dj ks (Hw h)
def DR (id:Nat) (names c:List Nat) (need:List (Nat×Nat)):Prop:=True
theorem k0n {id:Nat} {l:List Oper} {names d:List Nat} {need:List (Nat×Nat)} (hz:DR id names d need) (hm:P.follows .mixedOrders=true) (hst:p0o (i0s l) d need l=true)
  (hn:names.all (fun k=>fresh k S&&(look S.mem k).isNone)=true)
  (h: ∀ K:St→List Da→Prop,(∀ S' D,a1x l D need→Q .normal S'→K S' D)→Oj P B.nt names (i0s l) (!need.isEmpty) l [] [] S K):HT P B (.region id l.toArray true) S Q:=Kk names d need hm hst hn h
theorem r1m {id:Nat} {l:List Oper} {y:Code} {names d:List Nat} {need:List (Nat×Nat)} (hz:DR id names d need) (hm:P.follows .mixedOrders=true) (hst:p0o (i0s l) d need l=true)
  (hn:names.all (fun k=>fresh k S&&(look S.mem k).isNone)=true)
  (h: ∀ K:St→List Da→Prop,(∀ S' D,a1x l D need→HT P B y S' Q→K S' D)→Oj P B.nt names (i0s l) (!need.isEmpty) l [] [] S K):HT P B (.seq (.region id l.toArray true) y) S Q:=d0c names d need hm hst hn h
end
end Go.Sy
namespace Go.Sy
section
variable {P:Program} {B:Base} {c:Code} {S:St} {Q:Exit→St→Prop}
theorem HT.run2 (h : HT P B c S Q := by
    repeat (first
      | refine zhK _ ?_
      | (refine zhN _ ?_; clear zhN zhM)
      | (refine zhM _ _ ?_; clear zhN zhM)
      | (refine zbn _ ?_; clear zbn zbx zbr zbi)
      | (refine zbx _ ?_; clear zbn zbx zbr zbi)
      | (refine zbr _ ?_; clear zbn zbx zbr zbi)
      | (refine zbi _ _ ?_ ?_; focus (decide); clear zbn zbx zbr zbi)
      | (refine zhZ _ _ ?_; (try simp only [go_sem, F0, Nat.reduceAdd, Int.reduceTMod, Int.reduceTDiv, Int.reduceNeg, Int.reduceMul, Int.reduceToNat, Int.mul_zero]); (all_goals (first | rfl | exact ⟨rfl, rfl⟩ | exact told_plain rfl ⟨rfl, rfl⟩ | exact s0l rfl (a1p (by simp [look, F0])) ⟨rfl, rfl⟩ | exact zE | exact zE _ | (rw [zE]; done) | (simp [F0]; done) | (refine z0m (n := 40) ?_ rfl; first | rfl | kernel_rfl) | exact g0v (by simp [look, F0]) ⟨rfl, rfl⟩ | exact zE _ (by first | rfl | (simp [look, F0]; done)))))
      | (refine zL _ ?_ ?_; all_goals (simp only [go_sem, leX, List.cons_append, List.nil_append, F0]; try simp))
      | (refine a2i zF fun zN zM zhN zhM => ?_; (try simp only [go_sem, St.forget, fgt]))
      | refine Fw 64 ?_
      | (refine Dz fun zK zhK => ?_; (try simp only [go_sem, F0, Nat.reduceAdd, Int.reduceTMod, Int.reduceTDiv, Int.reduceNeg, Int.reduceMul, Int.reduceToNat, Int.mul_zero]); (repeat' (first | apply And.intro | intro _)))
      | (refine Cv fun zK zhK => ?_; (try simp only [go_sem, F0, Nat.reduceAdd, Int.reduceTMod, Int.reduceTDiv, Int.reduceNeg, Int.reduceMul, Int.reduceToNat, Int.mul_zero]); (repeat' (first | apply And.intro | intro _)))
      | ((first | (obtain ⟨cz, cq⟩ := cq; refine d0d (fun _ _ => rfl) ?_ cz ?_; focus (first | rfl | (simp only [go_sem, F0, Nat.reduceAdd, Int.reduceTMod, Int.reduceTDiv, Int.reduceNeg, Int.reduceMul, Int.reduceToNat, Int.mul_zero] <;> rfl))) | (obtain ⟨cz, cq⟩ := cq; refine d0d (fun _ _ => rfl) ?_ (cz ?_) ?_; focus (first | rfl | (simp only [go_sem, F0, Nat.reduceAdd, Int.reduceTMod, Int.reduceTDiv, Int.reduceNeg, Int.reduceMul, Int.reduceToNat, Int.mul_zero] <;> rfl))))
         rintro v m ⟨hR, hm⟩; subst hR; subst hm
         refine And.intro ?_ (And.intro ?_ ?_); iterate 2 (focus (first | rfl | simp only [go_sem, F0, Nat.reduceAdd, Int.reduceTMod, Int.reduceTDiv, Int.reduceNeg, Int.reduceMul, Int.reduceToNat, Int.mul_zero]))
         (try simp only [go_sem, F0, Nat.reduceAdd, Int.reduceTMod, Int.reduceTDiv, Int.reduceNeg, Int.reduceMul, Int.reduceToNat, Int.mul_zero]); (repeat' (first | apply And.intro | intro _)))
      | ((first | (obtain ⟨cz, cq⟩ := cq; refine Dv (fun k => k) _ [] (fun _ _ => rfl) ?_ cz ?_ ?_; focus (first | rfl | (simp only [go_sem, F0, Nat.reduceAdd, Int.reduceTMod, Int.reduceTDiv, Int.reduceNeg, Int.reduceMul, Int.reduceToNat, Int.mul_zero] <;> rfl))) | (obtain ⟨cz, cq⟩ := cq; refine Dv (fun k => k) _ [] (fun _ _ => rfl) ?_ (cz ?_) ?_ ?_; focus (first | rfl | (simp only [go_sem, F0, Nat.reduceAdd, Int.reduceTMod, Int.reduceTDiv, Int.reduceNeg, Int.reduceMul, Int.reduceToNat, Int.mul_zero] <;> rfl))))
         (refine And.intro ?_ (And.intro ?_ (And.intro ?_ ?_)) <;> first | rfl | simp only [go_sem])
         (try simp only [go_sem, F0, Nat.reduceAdd, Int.reduceTMod, Int.reduceTDiv, Int.reduceNeg, Int.reduceMul, Int.reduceToNat, Int.mul_zero]); (repeat' (first | apply And.intro | intro _)))
      | ((first | (obtain ⟨cz, cq⟩ := cq; refine l0q ?_ cz ?_; focus (first | rfl | (simp only [go_sem, F0, Nat.reduceAdd, Int.reduceTMod, Int.reduceTDiv, Int.reduceNeg, Int.reduceMul, Int.reduceToNat, Int.mul_zero] <;> rfl))))
         (try simp only [go_sem, F0, Nat.reduceAdd, Int.reduceTMod, Int.reduceTDiv, Int.reduceNeg, Int.reduceMul, Int.reduceToNat, Int.mul_zero]); (repeat' (first | apply And.intro | intro _)))
      | ((first | (obtain ⟨cz, cq⟩ := cq; refine k0p ?_ cz ?_; focus (first | rfl | (simp only [go_sem, F0, Nat.reduceAdd, Int.reduceTMod, Int.reduceTDiv, Int.reduceNeg, Int.reduceMul, Int.reduceToNat, Int.mul_zero] <;> rfl))))
         (try simp only [go_sem, F0, Nat.reduceAdd, Int.reduceTMod, Int.reduceTDiv, Int.reduceNeg, Int.reduceMul, Int.reduceToNat, Int.mul_zero]); (repeat' (first | apply And.intro | intro _)))
      | ((first | (obtain ⟨cz, cq⟩ := cq; refine x1u (fun _ _ => rfl) ?_ ?_ ?_ cz ?_; iterate 3 (focus (first | rfl | decide | (simp only [go_sem, F0, Nat.reduceAdd, Int.reduceTMod, Int.reduceTDiv, Int.reduceNeg, Int.reduceMul, Int.reduceToNat, Int.mul_zero] <;> first | done | rfl | simp)))) | (obtain ⟨⟨cg, cz⟩, cq⟩ := cq; refine n0u ?_ ?_ (fun _ _ => rfl) ?_ ?_ ?_ cg cz ?_; iterate 5 (focus (first | rfl | decide | (simp only [go_sem, F0, Nat.reduceAdd, Int.reduceTMod, Int.reduceTDiv, Int.reduceNeg, Int.reduceMul, Int.reduceToNat, Int.mul_zero] <;> first | done | rfl | simp)))))
         rintro v m ⟨hR, hm⟩; subst hR; subst hm
         refine And.intro ?_ (And.intro ?_ (And.intro ?_ ?_)); iterate 3 (focus (first | rfl | (simp only [go_sem, F0, Nat.reduceAdd, Int.reduceTMod, Int.reduceTDiv, Int.reduceNeg, Int.reduceMul, Int.reduceToNat, Int.mul_zero]; done) | (simp [go_sem, look, F0]; done)))
         (try simp only [go_sem, F0, Nat.reduceAdd, Int.reduceTMod, Int.reduceTDiv, Int.reduceNeg, Int.reduceMul, Int.reduceToNat, Int.mul_zero]); (repeat' (first | apply And.intro | intro _)))
      | ((first | refine r1m zd0 mixed ?_ ?_ fun zK zhK => ?_ | refine k0n zd0 mixed ?_ ?_ fun zK zhK => ?_ | refine r1m zd1 mixed ?_ ?_ fun zK zhK => ?_ | refine k0n zd1 mixed ?_ ?_ fun zK zhK => ?_ | refine r1m zd2 mixed ?_ ?_ fun zK zhK => ?_ | refine k0n zd2 mixed ?_ ?_ fun zK zhK => ?_ | refine r1m zd3 mixed ?_ ?_ fun zK zhK => ?_ | refine k0n zd3 mixed ?_ ?_ fun zK zhK => ?_ | refine r1m zd4 mixed ?_ ?_ fun zK zhK => ?_ | refine k0n zd4 mixed ?_ ?_ fun zK zhK => ?_ | refine r1m zd5 mixed ?_ ?_ fun zK zhK => ?_ | refine k0n zd5 mixed ?_ ?_ fun zK zhK => ?_ | refine r1m zd6 mixed ?_ ?_ fun zK zhK => ?_ | refine k0n zd6 mixed ?_ ?_ fun zK zhK => ?_ | refine r1m zd7 mixed ?_ ?_ fun zK zhK => ?_ | refine k0n zd7 mixed ?_ ?_ fun zK zhK => ?_); (focus (kernel_rfl)); (focus (simp only [go_sem])); (try simp only [go_sem, F0]); (repeat' (first | apply And.intro | intro _)))
      | (refine zhK _ _ ?_ ?_; focus (first | trivial | (simp only [go_sem]; done) | (simp only [go_sem]; simp; done) | (simp only [go_sem]; simp; simp only [go_sem])))
      | refine Bq fun zN zM zhN zhM => ?_
      | refine Cx fun zB zbn zbx zbr zbi => ?_
      | refine Cq ?_
      | refine Ck ?_
      | refine Fx ?_
      | (refine Bj ?_ ?_; focus (first | rfl | (simp [go_sem, F0]; done)))
      | (refine Bz ?_ ?_; focus (first | rfl | (simp [go_sem, F0]; done))))) : HT P B c S Q := h
end
theorem CtM.run2 {P:Program} {f:FuncId} {fn:Func} {c:Code} {args:List V} {m:List (Nat×Ob)} {R:V→List (Nat×Ob)→Prop} {nt:Nat} {rs:Array ResultVar} (hf:P.funcs[f]? =some fn) (hb:fn.body=some c) (hnt:fn.ntmps=nt) (hrs:fn.results=rs)
  (h: ∀ (w0:World) (ro:Ro) (may:Nat→Prop) (fx:Nat→Option (Nat×Nat)),HT P ⟨w0,may,nt,ro,fx⟩ c ⟨k0w 0 args,m⟩ (y1n P rs.toList R):=by intro w0 ro may fx;refine Dx fun zZ zhZ=>?_;exact HT.run2) (hn:args.length≤nt:=by simp):CtM P f args m R:=
 CtM.k hf hb hnt (congrArg Array.toList hrs) hn h
end Go.Sy
