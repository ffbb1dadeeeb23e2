/- The layer that reckons a function out: what it says of states, operations, regions, loops, calls. CONDITIONS: those that each theorem names. -/
import Derived.Test.YtlmbdhfkdhjcfaaDoorvE2
import Derived.ChangeSlices
import Derived.Lib.SmallJoins
import Derived.Handed
import Derived.Lib.LaidTab
import Derived.LaidLaws
import Derived.KernelRfl
import Derived.MapKept
import Derived.Orders
set_option linter.unusedVariables false
set_option linter.unusedSimpArgs false
namespace Go.Sy
open Go.RowKit Go.WideShapes Go.ChangeShapes Go.ChangeAt
def Sh (P:Program):Nat→TypeId→List PL→Prop
 |0,_,_=>False
 |n+1,t,cs=>match P.underlying t with
  |some .bool=>∃ b,cs=[.b b]
  |some (.int .i64)=>∃ k:Int,cs=[.i k]∧ -9223372036854775808≤k∧k≤9223372036854775807
  |some (.int .u8)=>∃ x,cs=[.u8 x]
  |some (.int .u32)=>∃ x,cs=[.u32 x]
  |some (.int .u64)=>∃ x,cs=[.u64 x]
  |some .string=>∃ s,cs=[.str s]∧s.length≤maxLen
  |some (.slice e)=>∃ rows,cs=[.R false (P.cellsOf e) rows]∧(∀ r∈rows,Sh P n e r∧r.length=P.cellsOf e)∧rows.length≤maxLen
  |some (.struct fs)=>∃ ps:List (List PL),cs=ps.flatten∧Hy (fun (f:Field) p=>Sh P n f.type p∧p.length=P.cellsOf f.type) fs.toList ps
  |some (.array m e)=>∃ ps:List (List PL),cs=ps.flatten∧ps.length=m∧∀ p∈ps,Sh P n e p∧p.length=P.cellsOf e
  |_=>False
def Va.reads (w:World):Va:=⟨fun k=>k-gl0,fun _=>0,fun b o=>w.cell? ⟨b,o,none⟩⟩
def c0k (P:Program):List Field→Nat→Nat→Bool
 | [],off,n=>off==n
 |f::fs,off,n=>f.offset==off&&c0k P fs (off+P.cellsOf f.type) n
def known (P:Program) (G:Nat→TypeId→Bool):Nat→TypeId→Bool
 |0,_=>false
 |n+1,t=>match P.underlying t with
  |some .bool|some (.int .i64)|some (.int .u8)|some (.int .u32)|some (.int .u64)|some .string=>P.cellsOf t==1
  |some (.slice e)=>P.cellsOf t==1&&(G n e&&known P G n e)
  |some (.struct fs)=>c0k P fs.toList 0 (P.cellsOf t)&&fs.toList.all fun f=>known P G n f.type
  |some (.array m e)=>P.cellsOf t==m*P.cellsOf e&&known P G n e
  |_=>false
section
variable {H:Type} {enc:TypeId×Value→H} {P:Program} {w:World} {base:Nat} {spare:Nat→Bool} {held:Bool}
theorem trod_array {m:Nat} {t e:TypeId} {fuel:Nat} {cs:List Value} {x:DataW H×List MemPlace} (ht:P.underlying t=some (.array m e)) (h:DataW.trod enc P w base spare held fuel t cs=some x):
  ∃ n,fuel=n+1∧cs.length=P.cellsOf t∧∀ i,i<m→∃ y,DataW.trod enc P w base spare held n e ((cs.drop (i*P.cellsOf e)).take (P.cellsOf e))=some y:=by
 cases fuel with
 |zero=>simp [DataW.trod] at h
 |succ n=>
  unfold DataW.trod at h
  rw [ht] at h
  simp only at h
  split at h<;>try (simp at h;done)
  rename_i hl
  refine ⟨n,rfl,hl,fun i hi=>?_⟩
  obtain ⟨xs,hx,_⟩:=Option.map_eq_some_iff.mp h
  have: ∀ (l:List Nat) (ys:List (DataW H×List MemPlace)),l.mapM (fun i=>DataW.trod enc P w base spare held n e ((cs.drop (i*P.cellsOf e)).take (P.cellsOf e)))=some ys→∀ i∈l,∃ y,DataW.trod enc P w base spare held n e ((cs.drop (i*P.cellsOf e)).take (P.cellsOf e))=some y:=by
   intro l
   induction l with
   |nil=>intro _ _ i hi;cases hi
   |cons a r ih=>
    intro ys hy i hi
    rw [List.mapM_cons] at hy
    cases ha:DataW.trod enc P w base spare held n e ((cs.drop (a*P.cellsOf e)).take (P.cellsOf e)) with
    |none=>rw [ha] at hy;simp at hy
    |some y=>
     rw [ha] at hy
     rcases List.mem_cons.mp hi with rfl|hi
     ·exact ⟨y,ha⟩
     ·cases hr:r.mapM (fun i=>DataW.trod enc P w base spare held n e ((cs.drop (i*P.cellsOf e)).take (P.cellsOf e))) with
      |none=>rw [hr] at hy;simp at hy
      |some zs=>exact ih zs hr i hi
  exact this _ _ hx i (by simpa using hi)
def r0l (v:Value):Prop:=∀ a len cap,v=.slice (some a) len cap→a.spot=none
theorem q0i {ro:Ro} {blk:Nat}: ∀ {c:List PL} {vals:List Value} {off:Nat},Hy (PL.den ro) c vals→(∀ j v,vals[j]? =some v→ro blk (off+j)=some v)→PL.denAt ro blk c off
 | [],_,_,_,_=>by rw [PL.denAt];trivial
 |x::c,vals,off,h,hc=>by
  cases h with
  |cons h1 h2=>
   rename_i y m
   rw [PL.denAt]
   refine ⟨⟨y,by simpa using hc 0 y rfl,h1⟩,q0i h2 fun j v hv=>?_⟩
   have:=hc (j+1) v (by simpa using hv)
   rwa [show off+(j+1)=off+1+j from by omega] at this
theorem o0j {ro:Ro} {blk sz:Nat}: ∀ {rows:List (List PL)} {off:Nat},(∀ r∈rows,r.length=sz)→(∀ i r,rows[i]? =some r→PL.denAt ro blk r (off+i*sz))→PL.denRows ro blk sz rows off
 | [],_,_,_=>by rw [PL.denRows];trivial
 |r::rs,off,hl,h=>by
  rw [PL.denRows]
  refine ⟨hl r (by simp),by simpa using h 0 r rfl,o0j (fun r hr=>hl r (by simp [hr])) fun i r' hr=>?_⟩
  have:=h (i+1) r' (by simpa using hr)
  rwa [show off+(i+1)*sz=off+sz+i*sz from by rw [Nat.add_mul];omega] at this
theorem d0o {ro:Ro}: ∀ {ps:List (List PL)} {vs:List (List Value)},Hy (fun p v=>Hy (PL.den ro) p v) ps vs→Hy (PL.den ro) ps.flatten vs.flatten
 |_,_,.nil=>.nil
 |_,_,.cons h1 h2=>by simpa using h1.append (d0o h2)
theorem b0t {α β:Type} {p:α→β→Prop}: ∀ (l:List α),(∀ x∈l,∃ y,p x y)→∃ ys:List β,Hy p l ys
 | [],_=>⟨[],.nil⟩
 |x::r,h=>by
  obtain ⟨y,hy⟩:=h x (by simp)
  obtain ⟨ys,hys⟩:=b0t r fun z hz=>h z (by simp [hz])
  exact ⟨y::ys,.cons hy hys⟩
theorem Hy.flip {α β:Type} {R:α→β→Prop}: ∀ {l:List α} {m:List β},Hy R l m→Hy (fun b a=>R a b) m l
 |_,_,.nil=>.nil
 |_,_,.cons h1 h2=>.cons h1 h2.flip
theorem Wj {α:Type} (sz:Nat): ∀ (m:Nat) (cs:List α),cs.length=m*sz→((List.range m).map fun i=>(cs.drop (i*sz)).take sz).flatten=cs
 |0,cs,h=>by simp at h;simp [h]
 |m+1,cs,h=>by
  rw [List.range_succ_eq_map,List.map_cons,List.flatten_cons,List.map_map]
  have h2:(cs.drop sz).length=m*sz:=by rw [List.length_drop,h,Nat.add_mul];omega
  have ih:=Wj sz m (cs.drop sz) h2
  have e:(List.range m).map ((fun i=>(cs.drop (i*sz)).take sz)∘Nat.succ)=(List.range m).map fun i=>((cs.drop sz).drop (i*sz)).take sz:=by
   refine List.map_congr_left fun i _=>?_
   simp only [Function.comp_def,List.drop_drop]
   congr 2
   rw [Nat.succ_mul];omega
  rw [e,ih];simp
theorem h0u {n:Nat} (cs:List Value) (hl:cs.length=n): ∀ (fs:List Field) (off:Nat),c0k P fs off n=true→(fs.map fun f=>(cs.drop f.offset).take (P.cellsOf f.type)).flatten=cs.drop off
 | [],off,h=>by
  simp only [c0k,beq_iff_eq] at h
  subst h;subst hl;simp
 |f::fs,off,h=>by
  simp only [c0k,Bool.and_eq_true,beq_iff_eq] at h
  obtain ⟨h1,h2⟩:=h
  rw [List.map_cons,List.flatten_cons,h0u cs hl fs _ h2,h1,←List.drop_drop,List.take_append_drop]
theorem take_len {α:Type} {cs:List α} {a b:Nat} (h:a+b≤cs.length):((cs.drop a).take b).length=b:=by simp;omega
theorem d1m {n:Nat}: ∀ (fs:List Field) (off:Nat),c0k P fs off n=true→∀ f∈fs,f.offset+P.cellsOf f.type≤n
 | [],_,_,f,hf=>by cases hf
 |g::fs,off,h,f,hf=>by
  simp only [c0k,Bool.and_eq_true,beq_iff_eq] at h
  have hge: ∀ (fs:List Field) (off:Nat),c0k P fs off n=true→off≤n:=by
   intro fs
   induction fs with
   |nil=>intro off h;simp only [c0k,beq_iff_eq] at h;omega
   |cons g fs ih=>intro off h;simp only [c0k,Bool.and_eq_true,beq_iff_eq] at h;have:=ih _ h.2;omega
  rcases List.mem_cons.mp hf with rfl|hf
  ·have:=hge _ _ h.2;omega
  ·exact d1m fs _ h.2 f hf
theorem Hy.map_r {α β γ:Type} {R:α→γ→Prop} {f:β→γ}: ∀ {l:List α} {m:List β},Hy (fun a b=>R a (f b)) l m→Hy R l (m.map f)
 |_,_,.nil=>.nil
 |_,_,.cons h1 h2=>.cons h1 h2.map_r
theorem l1l {G:Nat→TypeId→Bool} (hsp: ∀ (n:Nat) (t:TypeId) (m:Nat) (cs:List Value) (y:DataW H×List MemPlace),DataW.trod enc P w base spare held n t cs=some y→G m t=true→∀ v∈cs,r0l v): ∀ (n:Nat) (t:TypeId) (m:Nat) (cs:List Value) (y:DataW H×List MemPlace),DataW.trod enc P w base spare held n t cs=some y→known P G m t=true→(∀ v∈cs,r0l v)→
  ∃ xs,Sh P m t xs∧xs.length=cs.length∧Hy (PL.den (Va.reads w).ro) xs cs:=by
 intro n
 induction n with
 |zero=>intro t m cs y h;simp [DataW.trod] at h
 |succ n ih=>
  intro t m cs y h hk hv
  cases m with
  |zero=>simp [known] at hk
  |succ m=>
   have hk0:=hk
   unfold known at hk
   split at hk<;>try (cases hk;done)
   ·rename_i ht
    obtain ⟨b,rfl,_⟩:=DataW.trod_bool ht h
    exact ⟨[.b b],by unfold Sh;rw [ht];exact ⟨b,rfl⟩,rfl,.cons (by rw [PL.den]) .nil⟩
   ·rename_i ht
    obtain ⟨k,rfl,_,hwf⟩:=DataW.trod_int ht h
    simp only [Lit.wf,IntKind.min,IntKind.max,IntKind.signed,IntKind.bits,Bool.and_eq_true,decide_eq_true_eq,if_true] at hwf
    exact ⟨[.i k],by unfold Sh;rw [ht];exact ⟨k,rfl,by omega,by omega⟩,rfl,.cons (by rw [PL.den]) .nil⟩
   ·rename_i ht
    obtain ⟨k,rfl,_,hwf⟩:=DataW.trod_int ht h
    simp only [Lit.wf,IntKind.min,IntKind.max,IntKind.signed,IntKind.bits,Bool.and_eq_true,decide_eq_true_eq] at hwf
    exact ⟨[.u8 (UInt8.ofNat k.toNat)],by unfold Sh;rw [ht];exact ⟨_,rfl⟩,rfl,.cons (by rw [PL.den];congr 1;simp at hwf ⊢;omega) .nil⟩
   ·rename_i ht
    obtain ⟨k,rfl,_,hwf⟩:=DataW.trod_int ht h
    simp only [Lit.wf,IntKind.min,IntKind.max,IntKind.signed,IntKind.bits,Bool.and_eq_true,decide_eq_true_eq] at hwf
    exact ⟨[.u32 (UInt32.ofNat k.toNat)],by unfold Sh;rw [ht];exact ⟨_,rfl⟩,rfl,.cons (by rw [PL.den];congr 1;simp at hwf ⊢;omega) .nil⟩
   ·rename_i ht
    obtain ⟨k,rfl,_,hwf⟩:=DataW.trod_int ht h
    simp only [Lit.wf,IntKind.min,IntKind.max,IntKind.signed,IntKind.bits,Bool.and_eq_true,decide_eq_true_eq] at hwf
    exact ⟨[.u64 (UInt64.ofNat k.toNat)],by unfold Sh;rw [ht];exact ⟨_,rfl⟩,rfl,.cons (by rw [PL.den];congr 1;simp at hwf ⊢;omega) .nil⟩
   ·rename_i ht
    obtain ⟨s,rfl,_,hs⟩:=DataW.trod_string ht h
    have hl:s.data.toList.length=s.size:=Array.length_toList
    exact ⟨[.str s.data.toList],by unfold Sh;rw [ht];exact ⟨_,rfl,by omega⟩,rfl,.cons (by rw [PL.den];exact ⟨by simp,by omega⟩) .nil⟩
   ·rename_i e ht
    simp only [Bool.and_eq_true,beq_iff_eq] at hk
    rcases DataW.trod_slice ht h with ⟨rfl,_⟩|⟨a,len,cap,elems,rest,n',hn,rfl,_,hb,hl,hm,hel,hi,_⟩
    ·exact ⟨[.R false (P.cellsOf e) []],by unfold Sh;rw [ht];exact ⟨[],rfl,fun r hr=>(by cases hr),Nat.zero_le _⟩,rfl,.cons (by rw [PL.den];exact .inl ⟨rfl,rfl⟩) .nil⟩
    ·cases hn
     have hsa:=hv _ (by simp) a len cap rfl
     obtain ⟨blk,off,sp⟩:=a
     simp only at hsa;subst hsa
     have each: ∀ i∈List.range len,∃ r:List PL,Sh P m e r∧r.length=P.cellsOf e∧PL.denAt (Va.reads w).ro blk r (off+i*P.cellsOf e):=by
      intro i hi'
      have hlt:i<len:=by simpa using hi'
      have h1:=hi i hlt
      have:i<elems.length:=by omega
      rw [List.getElem?_eq_getElem this] at h1
      obtain ⟨cs',hc,ht'⟩:=Option.bind_eq_some_iff.mp h1
      obtain ⟨_,hcl,hcc⟩:=World.cells?_some hc
      have hcell: ∀ j v,cs'[j]? =some v→w.cell? ⟨blk,off+i*P.cellsOf e+j,none⟩=some v:=by
       intro j v hj
       have hj':j<P.cellsOf e:=by
        have:=(List.getElem?_eq_some_iff.mp hj).1;omega
       have:=hcc j hj'
       rw [hj] at this
       rw [←this]
       congr 1
       rw [addr_add,addr_add]
      obtain ⟨xs,hx1,hx2,hx3⟩:=ih e m cs' _ ht' hk.2.2 (hsp _ e m cs' _ ht' hk.2.1)
      exact ⟨xs,hx1,by omega,q0i hx3 fun j v hj=>hcell j v hj⟩
     obtain ⟨rows,hrows⟩:=b0t _ each
     have hlen:rows.length=len:=by have:=hrows.length;simpa using this.symm
     have hget: ∀ i r,rows[i]? =some r→Sh P m e r∧r.length=P.cellsOf e∧PL.denAt (Va.reads w).ro blk r (off+i*P.cellsOf e):=by
      intro i r hr
      obtain ⟨j,hj,hp⟩:=hrows.flip.get hr
      have hil:i<len:=by
       have:=(List.getElem?_eq_some_iff.mp hr).1;omega
      rw [List.getElem?_range hil] at hj
      cases hj;exact hp
     refine ⟨[.R false (P.cellsOf e) rows],?_,rfl,.cons ?_ .nil⟩
     ·unfold Sh;rw [ht]
      refine ⟨rows,rfl,fun r hr=>?_,by omega⟩
      obtain ⟨i,hi'⟩:=List.mem_iff_getElem?.mp hr
      exact ⟨(hget i r hi').1,(hget i r hi').2.1⟩
     ·rw [PL.den]
      refine .inr (.inl ⟨blk,off,cap,by rw [hlen],by omega,hm,fun h=>(by cases h),o0j (fun r hr=>?_) fun i r hr=>(hget i r hr).2.2⟩)
      obtain ⟨i,hi'⟩:=List.mem_iff_getElem?.mp hr
      exact (hget i r hi').2.1
   ·rename_i fs ht
    simp only [Bool.and_eq_true,List.all_eq_true] at hk
    obtain ⟨xs,n',hn,_,hl,hxs,hf⟩:=DataW.trod_struct ht h
    cases hn
    have each: ∀ f∈fs.toList,∃ r:List PL,(Sh P m f.type r∧r.length=P.cellsOf f.type)∧Hy (PL.den (Va.reads w).ro) r ((cs.drop f.offset).take (P.cellsOf f.type)):=by
     intro f hf'
     obtain ⟨i,hi⟩:=List.mem_iff_getElem?.mp hf'
     rw [Array.getElem?_toList] at hi
     have h1:=hf i f hi
     have hi2:i<xs.length:=by rw [hxs];exact (Array.getElem?_eq_some_iff.mp hi).1
     rw [List.getElem?_eq_getElem hi2] at h1
     obtain ⟨ys,hy1,hy2,hy3⟩:=ih f.type m _ _ h1 (hk.2 f hf') (fun v hv'=>hv v (List.mem_of_mem_drop (List.mem_of_mem_take hv')))
     have hle:=d1m _ _ hk.1 f hf'
     exact ⟨ys,⟨hy1,by rw [hy2,take_len (by omega)]⟩,hy3⟩
    obtain ⟨ps,hps⟩:=b0t _ each
    have hfl:=h0u cs hl fs.toList 0 hk.1
    rw [List.drop_zero] at hfl
    have hall:Hy (PL.den (Va.reads w).ro) ps.flatten cs:=by
     rw [←hfl]
     refine d0o (Hy.map_r ?_)
     exact hps.flip.mono fun p f _ h=>h.2
    exact ⟨ps.flatten,by unfold Sh;rw [ht];exact ⟨ps,rfl,hps.mono fun f p _ h=>h.1⟩,hall.length,hall⟩
   ·rename_i k e ht
    simp only [Bool.and_eq_true,beq_iff_eq] at hk
    obtain ⟨n',hn,hl,hi⟩:=trod_array ht h
    cases hn
    have each: ∀ i∈List.range k,∃ r:List PL,(Sh P m e r∧r.length=P.cellsOf e)∧Hy (PL.den (Va.reads w).ro) r ((cs.drop (i*P.cellsOf e)).take (P.cellsOf e)):=by
     intro i hi'
     have hlt:i<k:=by simpa using hi'
     obtain ⟨y',hy'⟩:=hi i hlt
     obtain ⟨ys,hy1,hy2,hy3⟩:=ih e m _ _ hy' hk.2 (fun v hv'=>hv v (List.mem_of_mem_drop (List.mem_of_mem_take hv')))
     have hle:i*P.cellsOf e+P.cellsOf e≤cs.length:=by
      rw [hl,hk.1]
      have:(i+1)*P.cellsOf e≤k*P.cellsOf e:=Nat.mul_le_mul_right _ hlt
      rw [Nat.add_mul] at this;omega
     exact ⟨ys,⟨hy1,by rw [hy2,take_len hle]⟩,hy3⟩
    obtain ⟨ps,hps⟩:=b0t _ each
    have hfl:=Wj (P.cellsOf e) k cs (by rw [hl,hk.1])
    have hall:Hy (PL.den (Va.reads w).ro) ps.flatten cs:=by
     rw [←hfl]
     refine d0o (Hy.map_r ?_)
     exact hps.flip.mono fun p f _ h=>h.2
    refine ⟨ps.flatten,?_,hall.length,hall⟩
    unfold Sh;rw [ht]
    refine ⟨ps,rfl,by have:=hps.length;simpa using this.symm,fun p hp=>?_⟩
    obtain ⟨i,hi'⟩:=List.mem_iff_getElem?.mp hp
    obtain ⟨j,_,hj⟩:=hps.flip.get hi'
    exact hj.1
end
section
variable {P:Program}
theorem e1a {n:Nat} {t:TypeId} {cs:List PL} (h:Sh P n t cs) (ht:P.underlying t=some .bool): ∃ b,cs=[.b b]:=by
 cases n with
 |zero=>exact h.elim
 |succ n=>unfold Sh at h;rw [ht] at h;exact h
theorem y0g {n:Nat} {t:TypeId} {cs:List PL} (h:Sh P n t cs) (ht:P.underlying t=some (.int .i64)): ∃ k:Int,cs=[.i k]∧ -9223372036854775808≤k∧k≤9223372036854775807:=by
 cases n with
 |zero=>exact h.elim
 |succ n=>unfold Sh at h;rw [ht] at h;exact h
theorem c2l {n:Nat} {t:TypeId} {cs:List PL} (h:Sh P n t cs) (ht:P.underlying t=some (.int .u8)): ∃ x,cs=[.u8 x]:=by
 cases n with
 |zero=>exact h.elim
 |succ n=>unfold Sh at h;rw [ht] at h;exact h
theorem k1g {n:Nat} {t e:TypeId} {cs:List PL} (h:Sh P n t cs) (ht:P.underlying t=some (.slice e)): ∃ (rows:List (List PL)) (m:Nat),cs=[.R false (P.cellsOf e) rows]∧(∀ r∈rows,Sh P m e r)∧rows.length≤maxLen:=by
 cases n with
 |zero=>exact h.elim
 |succ n=>unfold Sh at h;rw [ht] at h;obtain ⟨rows,h1,h2,h3⟩:=h;exact ⟨rows,n,h1,fun r hr=>(h2 r hr).1,h3⟩
theorem r0n {n:Nat} {t:TypeId} {fs:Array Field} {cs:List PL} (h:Sh P n t cs) (ht:P.underlying t=some (.struct fs)): ∃ (ps:List (List PL)) (m:Nat),cs=ps.flatten∧Hy (fun (f:Field) p=>Sh P m f.type p) fs.toList ps:=by
 cases n with
 |zero=>exact h.elim
 |succ n=>unfold Sh at h;rw [ht] at h;obtain ⟨ps,h1,h2⟩:=h;exact ⟨ps,n,h1,h2.mono fun f p _ h=>h.1⟩
theorem k1h {n k:Nat} {t e:TypeId} {cs:List PL} (h:Sh P n t cs) (ht:P.underlying t=some (.array k e)): ∃ (ps:List (List PL)) (m:Nat),cs=ps.flatten∧ps.length=k∧∀ p∈ps,Sh P m e p:=by
 cases n with
 |zero=>exact h.elim
 |succ n=>unfold Sh at h;rw [ht] at h;obtain ⟨ps,h1,h2,h3⟩:=h;exact ⟨ps,n,h1,h2,fun p hp=>(h3 p hp).1⟩
theorem o0g {m:Nat} {e:TypeId} (he:P.underlying e=some (.int .u8)): ∀ {ps:List (List PL)},(∀ p∈ps,Sh P m e p)→∃ l:List UInt8,l.length=ps.length∧ps=l.map fun x=>[.u8 x]
 | [],_=>⟨[],rfl,rfl⟩
 |p::r,h=>by
  obtain ⟨x,hx⟩:=c2l (h p (by simp)) he
  obtain ⟨l,h1,h2⟩:=o0g he (ps:=r) fun q hq=>h q (by simp [hq])
  exact ⟨x::l,by simp [h1],by simp [hx,←h2]⟩
theorem j0a {α:Type} {f:α→PL}: ∀ l:List α,(l.map fun x=>[f x]).flatten=l.map f
 | []=>rfl
 |x::r=>by simp [j0a r]
theorem Uk {n k:Nat} {t e:TypeId} {cs:List PL} (h:Sh P n t cs) (ht:P.underlying t=some (.array k e)) (he:P.underlying e=some (.int .u8)): ∃ l:List UInt8,l.length=k∧cs=l.map .u8:=by
 obtain ⟨ps,m,rfl,hl,hp⟩:=k1h h ht
 obtain ⟨l,h1,rfl⟩:=o0g he hp
 exact ⟨l,by omega,j0a l⟩
theorem h1u {d:Va}: ∀ {xs:List PL} {vs:List Value},Hy (PL.den d.ro) xs vs→Hy (L.den d) (pls xs) vs
 |_,_,.nil=>.nil
 |_,_,.cons h1 h2=>.cons h1 (h1u h2)
end
section
variable {H:Type} {enc:TypeId×Value→H} {P:Program} {w:World} {base:Nat} {spare:Nat→Bool} {held:Bool}
def b1b (P:Program):Nat→TypeId→Bool
 |0,_=>false
 |n+1,t=>match P.underlying t with
  |some .bool|some (.int _)|some .string=>true
  |some (.struct fs)=>c0k P fs.toList 0 (P.cellsOf t)&&fs.toList.all fun f=>b1b P n f.type
  |some (.array m e)=>P.cellsOf t==m*P.cellsOf e&&b1b P n e
  |_=>false
theorem d1d : ∀ (n:Nat) (t:TypeId) (m:Nat) (cs:List Value) (y:DataW H×List MemPlace),DataW.trod enc P w base spare held n t cs=some y→b1b P m t=true→∀ v∈cs,r0l v:=by
 intro n
 induction n with
 |zero=>intro t m cs y h;simp [DataW.trod] at h
 |succ n ih=>
  intro t m cs y h hk
  cases m with
  |zero=>simp [b1b] at hk
  |succ m=>
   unfold b1b at hk
   split at hk<;>try (cases hk;done)
   ·rename_i ht
    obtain ⟨b,rfl,_⟩:=DataW.trod_bool ht h
    intro v hv a len cap e;simp at hv;subst hv;cases e
   ·rename_i k ht
    obtain ⟨b,rfl,_⟩:=DataW.trod_int ht h
    intro v hv a len cap e;simp at hv;subst hv;cases e
   ·rename_i ht
    obtain ⟨b,rfl,_⟩:=DataW.trod_string ht h
    intro v hv a len cap e;simp at hv;subst hv;cases e
   ·rename_i fs ht
    simp only [Bool.and_eq_true,List.all_eq_true] at hk
    obtain ⟨xs,n',hn,_,hl,hxs,hf⟩:=DataW.trod_struct ht h
    cases hn
    have hfl:=h0u cs hl fs.toList 0 hk.1
    rw [List.drop_zero] at hfl
    intro v hv
    rw [←hfl] at hv
    obtain ⟨p,hp,hv⟩:=List.mem_flatten.mp hv
    obtain ⟨f,hf',rfl⟩:=List.mem_map.mp hp
    obtain ⟨i,hi⟩:=List.mem_iff_getElem?.mp hf'
    rw [Array.getElem?_toList] at hi
    have h1:=hf i f hi
    have hi2:i<xs.length:=by rw [hxs];exact (Array.getElem?_eq_some_iff.mp hi).1
    rw [List.getElem?_eq_getElem hi2] at h1
    exact ih f.type m _ _ h1 (hk.2 f hf') v hv
   ·rename_i k e ht
    simp only [Bool.and_eq_true,beq_iff_eq] at hk
    obtain ⟨n',hn,hl,hi⟩:=trod_array ht h
    cases hn
    have hfl:=Wj (P.cellsOf e) k cs (by rw [hl,hk.1])
    intro v hv
    rw [←hfl] at hv
    obtain ⟨p,hp,hv⟩:=List.mem_flatten.mp hv
    obtain ⟨i,hi',rfl⟩:=List.mem_map.mp hp
    obtain ⟨y',hy'⟩:=hi i (by simpa using hi')
    exact ih e m _ _ hy' hk.2 v hv
theorem j0w {sz:Nat} {t:TypeId} {v:Value} {d:DataW H} {p:List MemPlace} {b0:Nat} (m:Nat) (hv:Value.okWide P w .any b0 t v) (hk:known P (b1b P) m t=true) (hs:P.cellsOf t=sz) (hts:(match P.underlying t with
   |some (.struct _)|some (.array _ _)=>(match P.cellTypes P.depth t with
    |some ts=>ts.length==sz&&sz !=0&&ts.all fun u=>match P.underlying u with
     |some (.slice _)|some .bool|some (.int _)|some .string=>true
     |_=>false
    |none=>false)
   |some (.slice _)|some .bool|some (.int _)|some .string=>true
   |_=>false)=true) (h:DataW.Trod enc P w base spare held t v d p):
  ∃ xs:List PL,Sh P m t xs∧(V.w (match P.underlying t with
   |some (.struct _)|some (.array _ _)=>.agg (pls xs)
   |_=>.one (.pl (xs.headD .u)))).den (Va.reads w) v:=by
 obtain ⟨fuel,hf⟩:=h
 have hcell: ∀ (u:TypeId) (c:Value),Cell.okWide P w .any b0 u c→(match P.underlying u with
     |some (.slice _)|some .bool|some (.int _)|some .string=>true
     |_=>false)=true→r0l c:=by
  intro u c hc hu a len cap e
  subst e
  unfold Cell.okWide at hc
  cases hund:P.underlying u with
  |none=>rw [hund] at hu;cases hu
  |some d=>
   rw [hund] at hc hu
   cases d<;>first
    |(cases hu;done)
    |(simp only [Cell.ok,hund] at hc;done)
    |(simp only [Cell.ok,hund] at hc;exact hc.2.2.2.1)
 have hspot: ∀ c∈v.cells.toList,r0l c:=by
  unfold Value.okWide at hv
  split at hv
  ·rename_i fs ht
   obtain ⟨cs,rfl,hcs,ts,hct,_,hcc⟩:=hv
   rw [ht,hct] at hts
   simp only [Bool.and_eq_true,beq_iff_eq,List.all_eq_true] at hts
   intro c hc
   obtain ⟨i,hi⟩:=List.mem_iff_getElem?.mp hc
   have hi':cs[i]? =some c:=by rw [←Array.getElem?_toList];exact hi
   obtain ⟨u,hu,hok⟩:=hcc i c hi'
   exact hcell u c hok (hts.2 u (List.mem_of_getElem? hu))
  ·rename_i k e ht
   obtain ⟨cs,rfl,hcs,ts,hct,_,hcc⟩:=hv
   rw [ht,hct] at hts
   simp only [Bool.and_eq_true,beq_iff_eq,List.all_eq_true] at hts
   intro c hc
   obtain ⟨i,hi⟩:=List.mem_iff_getElem?.mp hc
   have hi':cs[i]? =some c:=by rw [←Array.getElem?_toList];exact hi
   obtain ⟨u,hu,hok⟩:=hcc i c hi'
   exact hcell u c hok (hts.2 u (List.mem_of_getElem? hu))
  ·rename_i hn1 hn2
   have hq:(match P.underlying t with
     |some (.slice _)|some .bool|some (.int _)|some .string=>true
     |_=>false)=true:=by
    split at hts
    ·rename_i fs ht;exact absurd ht (hn1 fs)
    ·rename_i k e ht;exact absurd ht (hn2 k e)
    all_goals simp_all
   intro c hc
   have hone:v.cells= #[v]:=by
    cases v<;>first|rfl|(exfalso;unfold Cell.okWide at hv;cases hu:P.underlying t with
     |none=>rw [hu] at hq;cases hq
     |some d=>rw [hu] at hv hq;cases d<;>first|(cases hq;done)|(simp [Cell.ok,hu] at hv))
   rw [hone] at hc
   simp at hc;subst hc
   exact hcell t c hv hq
 obtain ⟨xs,h1,h2,h3⟩:=l1l (fun n t m cs y h1 h2=>d1d n t m cs y h1 h2) fuel t m _ _ hf hk hspot
 refine ⟨xs,h1,?_⟩
 have hd:=h1u (d:=Va.reads w) h3
 unfold Value.okWide at hv
 split at hv
 ·rename_i fs ht
  obtain ⟨cs,rfl,_⟩:=hv
  rw [ht]
  exact ⟨cs,rfl,hd⟩
 ·rename_i k e ht
  obtain ⟨cs,rfl,_⟩:=hv
  rw [ht]
  exact ⟨cs,rfl,hd⟩
 ·rename_i hn1 hn2
  have hq:(match P.underlying t with
     |some (.slice _)|some .bool|some (.int _)|some .string=>true
     |_=>false)=true:=by
   split at hts
   ·rename_i fs ht;exact absurd ht (hn1 fs)
   ·rename_i k e ht;exact absurd ht (hn2 k e)
   all_goals simp_all
  have hone:v.cells= #[v]:=by
   cases v<;>first|rfl|(exfalso;unfold Cell.okWide at hv;cases hu:P.underlying t with
     |none=>rw [hu] at hq;cases hq
     |some d=>rw [hu] at hv hq;cases d<;>first|(cases hq;done)|(simp [Cell.ok,hu] at hv))
  rw [hone] at hd
  have: ∃ x,xs=[x]∧L.den (Va.reads w) (.pl x) v:=by
   cases xs with
   |nil=>cases hd
   |cons x r=>
    cases hd with
    |cons g1 g2=>
     cases r with
     |nil=>exact ⟨x,rfl,g1⟩
     |cons _ _=>cases g2
  obtain ⟨x,rfl,hx⟩:=this
  split
  ·rename_i fs ht;exact absurd ht (hn1 fs)
  ·rename_i k e ht;exact absurd ht (hn2 k e)
  ·exact hx
end
end Go.Sy
namespace Go.Sy
def St.dropE (ks:List Nat) (S:St):St:=⟨fgt ks S.env,S.mem⟩
theorem Gv {P:Program} {B:Base} {Q:Exit→St→Prop} {S:St} {x:Code} (ks:List Nat) (h:HT P B x (S.dropE ks) Q):HT P B x S Q:=by
 refine HT.le (fun d a w hs=>⟨d,?_⟩) h
 exact ⟨hs.defers,hs.nt,fun n v hv=>hs.env n v (Wq hv),hs.mem,hs.inj,hs.own,hs.ro,hs.old,hs.os,hs.tape,hs.output,hs.size,hs.block,hs.gat,hs.glob,hs.fix,hs.fxn,hs.mp⟩
theorem Gj (ks:List Nat) (e:List (Nat×V)) (m:List (Nat×Ob)):St.dropE ks ⟨e,m⟩=⟨fgt ks e,m⟩:=rfl
theorem Iq {α:Type} (ks:List Nat):fgt ks ([]:List (Nat×α))=[]:=rfl
theorem Gq {α:Type} (ks:List Nat) (n:Nat) (v:α) (r:List (Nat×α)):fgt ks ((n,v)::r)=if ks.contains n=true then fgt ks r else (n,v)::fgt ks r:=rfl
attribute [go_sem] s0o s0p u1j a2o s1v s1x s1y s1w z1h z1j z1i x1b x1d x1c x1e c1k Ww k0o v1r o1i o1n b0i gslot Eff.free w1f z1m b2o Op.operands Call.operands Nat.reduceBneDiff bne_self_eq_false Option.toArray List.append_toArray List.toList_toArray Array.append_empty Array.empty_append
end Go.Sy
namespace Go.Sy
theorem d0k {bs:List UInt8} {n:Nat} (h:n<bs.length):(Ej bs).getD n []=[.u8 (bs.getD n 0)]:=by
 simp [Ej,List.getD_eq_getElem?_getD,List.getElem?_map,List.getElem?_eq_getElem h]
theorem v0y {bs:List UInt8}:(Ej bs=[])=(bs=[]):=by simp [Ej]
attribute [go_sem] d0j c0d v0y
end Go.Sy
namespace Go.Sy
def Told (R:V→List (Nat×Ob)→Prop) (v:V) (m:List (Nat×Ob)):Prop:=
 ∃ v' m',(∀ (B:Base) d y w,B.nt=0→v.den d y→i0n B d m w→∃ d',v'.den d' y∧i0n B d' m' w)∧R v' m'
theorem CtM.told {P:Program} {f:FuncId} {args:List V} {ms:List (Nat×Ob)} {R:V→List (Nat×Ob)→Prop} (h:CtM P f args ms (Told R)):CtM P f args ms R:=by
 intro w d vals hm hargs
 refine (h w d vals hm hargs).mono fun e w' ⟨y,v,d',m',h1,⟨v2,m2,h2,h3⟩,h4,h5⟩=>?_
 obtain ⟨d2,h6,h7⟩:=h2 _ d' y w' rfl h4 h5
 exact ⟨y,v2,d2,m2,h1,h3,h6,h7⟩
theorem Ct.told {P:Program} {f:FuncId} {args:List V} {R:V→List (Nat×Ob)→Prop} (h:Ct P f args (Told R)):Ct P f args R:=by
 intro w d vals hro hg hargs
 refine (h w d vals hro hg hargs).mono fun e w' ⟨y,v,d',m',h1,⟨v2,m2,h2,h3⟩,h4,h5⟩=>?_
 obtain ⟨d2,h6,h7⟩:=h2 _ d' y w' rfl h4 h5
 exact ⟨y,v2,d2,m2,h1,h3,h6,h7⟩
section
variable {R:V→List (Nat×Ob)→Prop} {v v':V} {m m':List (Nat×Ob)}
theorem d1h (k:Nat) {b:Rw} (c:List PL) (hk:look m k=some ⟨b,pls c⟩) (hl:k<500000) (h:Told R (e1b k c v) (r0s k c m)):Told R v m:=by
 obtain ⟨v2,m2,h1,h2⟩:=h
 refine ⟨v2,m2,fun B d y w hb hv hm=>?_,h2⟩
 obtain ⟨a,hs⟩:=hm
 exact h1 B _ y w hb (r0r hs hk rfl (Nat.lt_trans hl Wv) hv) ⟨a,hs.sealed hk rfl hl⟩
theorem c0j (h:Tidy R v m):Told R v m:=by
 obtain ⟨g,v2,m2,h1,h2,h3⟩:=h
 subst h1
 exact ⟨v2,m2,fun B d y w hb hv hm=>⟨d.via g,V.den_via hv,hm.tidy h2⟩,h3⟩
end
def Hz :W→Bool
 | .one (.pl _)=>true
 | .one _=>false
 | .agg cs=>cs.all fun l=>match l with
  | .pl _=>true
  |_=>false
def Fj :V→Bool
 | .w x=>Hz x
 | .tup xs=>xs.all Hz
 | .any=>true
theorem s0i {g:Nat→Nat}: ∀ {v:V},Fj v=true→v.ren g=v:=by
 have hl: ∀ cs:List L,(cs.all fun l=>match l with| .pl _=>true|_=>false)=true→cs.map (L.ren g)=cs:=by
  intro cs h
  induction cs with
  |nil=>rfl
  |cons x r ih=>
   simp only [List.all_cons,Bool.and_eq_true] at h
   rw [List.map_cons,ih h.2]
   cases x<;>first|rfl|(cases h.1)
 have hw: ∀ x:W,Hz x=true→x.ren g=x:=by
  intro x h
  cases x with
  |one l=>cases l<;>first|rfl|(cases h)
  |agg cs=>simp only [W.ren];rw [hl cs h]
 intro v h
 cases v with
 |w x=>simp only [V.ren];rw [hw x h]
 |tup xs=>
  simp only [V.ren]
  congr 1
  simp only [Fj,List.all_eq_true] at h
  induction xs with
  |nil=>rfl
  |cons x r ih=>rw [List.map_cons,hw x (h x (by simp)),ih fun y hy=>h y (by simp [hy])]
 |any=>rfl
theorem told_plain {R:V→List (Nat×Ob)→Prop} {v:V} {m:List (Nat×Ob)} (hp:Fj v=true) (h:R v []):Told R v m:=
 c0j ⟨fun k=>k,v,[],(s0i hp).symm,.empty,h⟩
end Go.Sy
namespace Go.Sy
theorem z0d {P:Program} {B:Base} {ops:Array Oper} {ds:List (Option Tmp)} (hds:ds=ops.toList.map (·.dst)) {Q:Exit→Act→World→Prop} {K:St→Prop} (hK: ∀ S' d' a' w',K S'→Sim B d' S' a' w'→Q .normal a' w'):
  ∀ (its:List It) (S:St),OKs P ds its S→d0q its S→Nj its→(∀ x∈its,∀ n,x.o.dst=some n→n<B.nt)→K (fin its S)→∀ d a w,Sim B d S a w→wpList P ops Q (its.map (·.o)) a w
 | [],S,_,_,_,_,h,d,a,w,hs=>hK _ _ _ _ h hs
 |x::r,S,ho,hn,ha,hd,h,d,a,w,hs=>by
  obtain ⟨g1,g2⟩:=ho
  have hnx: ∀ k∈x.e.names,New k S:=fun k hk=>hn x (by simp) k hk
  have hdst: ∀ n,x.o.dst=some n→n<B.nt:=hd x (by simp)
  have hgo: ∀ d' a' w',Sim B d' (x.on S) a' w'→wpList P ops Q (r.map (·.o)) a' w':=fun d' a' w' hs'=>
   z0d hds hK r (x.on S) g2 (d0q.on (fun y hy k hk=>hn y (by simp [hy]) k hk) g1 (fun y hy k hk hk2=>ha.1 y hy k hk2 hk)) ha.2.2 (fun y hy=>hd y (by simp [hy])) h d' a' w' hs'
  rw [List.map_cons]
  refine wpList_step fun N hN=>?_
  have hev:=g1.ev
  have hg:=g1.guard
  have run:x.skip=false→x.o.wp P a w N Q:=by
   intro hsk
   rw [hsk] at hev
   simp only [Bool.false_eq_true,if_false] at hev
   exact hev.run hs hnx hdst _ _ fun d' a' w' hs'=>hN _ _ (hgo d' a' w' hs')
  have skp:x.skip=true→N (a.put x.o.dst undef) w:=by
   intro hsk
   rw [hsk] at hev
   simp only [if_true] at hev
   refine hN _ _ (hgo d _ _ ?_)
   unfold It.on
   rw [hev]
   exact Sim.putE hs (v:=.tup []) (c0i d) hdst
  cases hgd:x.o.guard with
  |none=>
   rw [hgd] at hg
   rw [if_pos (by simp [Region.wanted,hgd])]
   exact run hg
  |some g=>
   rw [hgd] at hg
   simp only at hg
   obtain ⟨c,hc,hsk⟩:=hg
   have hw:=c0f hs hds hgd hc
   rw [hw]
   by_cases hcg:c=g.2
   ·rw [if_pos (by simp [hcg])]
    exact run (by rw [hsk,hcg];simp)
   ·rw [if_neg (by simp [hcg])]
    exact skp (by rw [hsk];simpa using hcg)
theorem n0o {P:Program} {B:Base} {id:Nat} {l:List Oper} {S:St} {Q:Exit→St→Prop} (names:List Nat)
  (hn:names.all (fun k=>fresh k S&&(look S.mem k).isNone)=true)
  (h: ∀ K:St→List Da→Prop,(∀ S' D,Q .normal S'→K S' D)→Px P B.nt names (f0l l) false l [] [] S K):HT P B (.region id l.toArray false) S Q:=by
 intro d a w hs
 obtain ⟨its,hi,hQ⟩:=a0n (h (fun S' D=>Q .normal S') (fun _ _ h1=>h1))
 refine wp_region_list ?_
 have:=z0d (P:=P) (B:=B) (ops:=l.toArray) (ds:=f0l l) (by rw [i0h]) (Q:=fun e a' w'=>∃ S' d',Q e S'∧Sim B d' S' a' w') (K:=Q .normal) (fun S' d' a' w' hq hs'=>⟨S',d',hq,hs'⟩) its S hi.ok ?_ hi.apart hi.dst hQ d a w hs
 ·rw [hi.ops] at this
  simpa only [List.toList_toArray] using this
 ·intro x hx k hk
  have:=(hi.nm x hx k hk).1
  simp only [List.all_eq_true,Bool.and_eq_true] at hn
  have h1:=hn k this
  have h2:=g0l h1.1
  exact ⟨⟨fun n v hv=>Tw h2.1 hv,fun n o ho=>Yy h2.2 ho,d0x h1.1⟩,by simpa using h1.2⟩
end Go.Sy
namespace Go.Sy
theorem e1l (g:Nat→Nat) (c:List PL):(pls c).map (L.ren g)=pls c:=by simp [pls,L.ren,Function.comp_def]
theorem z0x {m:List (Nat×Ob)} {j:Nat} {r:Bool} {c:List PL} (h:look m j=some ⟨r,pls c⟩) (hj:j<px0):Within (only j) [(0,⟨r,pls c⟩)] m:=by
 refine ⟨fun k o hk=>?_,fun k k' h1 h2 _=>?_,fun k hk=>?_,fun k hk=>?_⟩
 ·simp only [look] at hk
  split at hk
  ·rename_i e;subst e;cases hk;rw [show only j 0=j from rfl,h,e1l]
  ·cases hk
 ·have e: ∀ k,(look [(0,(⟨r,pls c⟩:Ob))] k).isSome=true→k=0:=by
   intro k hk
   simp only [look] at hk
   split at hk
   ·rename_i h0
    first|exact h0|exact h0.symm|exact (beq_iff_eq.mp h0).symm|exact beq_iff_eq.mp h0
   ·cases hk
  rw [e k h1,e k' h2]
 ·rw [only,if_pos hk];exact hj
 ·rw [only,if_neg (by omega)]
theorem L.ren_id (l:L):l.ren (fun k=>k)=l:=by cases l<;>simp [L.ren]
theorem n0h {m m2:List (Nat×Ob)} (h: ∀ k o,look m2 k=some o→look m k=some o):Within (fun k=>k) m2 m:=
 ⟨fun k o hk=>by rw [h k o hk];congr 1;cases o;simp only [Ob.mk.injEq,true_and];exact (List.map_id'' L.ren_id _).symm,fun _ _ _ _ h=>h,fun _ h=>h,fun _ _=>rfl⟩
theorem r0e {R:V→List (Nat×Ob)→Prop} {v:V} {m m2:List (Nat×Ob)} (hp:Fj v=true) (hm: ∀ k o,look m2 k=some o→look m k=some o) (h:R v m2):Told R v m:=
 c0j ⟨fun k=>k,v,m2,(s0i hp).symm,n0h hm,h⟩
theorem z0c {m:List (Nat×Ob)} {j:Nat} {o0:Ob} (h:look m j=some o0): ∀ k o,look [(j,o0)] k=some o→look m k=some o:=by
 intro k o hk
 simp only [look] at hk
 split at hk
 ·rename_i e;cases hk;rw [e];exact h
 ·cases hk
theorem b0j (vw:Bool) (S:St) (hd:Hand) (r:List L): ∀ l:List UInt8,Fw vw S hd (Az l++r)=(Fw vw S hd r).map (Az l++ ·)
 | []=>by simp [Az]
 |x::l=>by
  have ih:=b0j vw S hd r l
  simp only [Az] at ih
  simp only [Az,List.map_cons,List.cons_append,Fw,Rv,ih]
  cases Fw vw S hd r<;>rfl
theorem l0f (vw:Bool) (S:St) (hd:Hand) (l:List UInt8):Fw vw S hd (Az l)=some (Az l):=by
 have:=b0j vw S hd [] l
 simpa [Fw] using this
theorem n0b (vw:Bool) (m:List (Nat×Ob)) (l:List UInt8):(Az l).all (Mw vw m)=true:=by
 simp only [Az,List.all_eq_true,List.mem_map]
 rintro x ⟨y,_,rfl⟩
 simp [Mw,Pq]
section
variable {P:Program} {B:Base} {ds:List (Option Tmp)} {r:List Oper} {S:St} {K:St→Prop}
theorem c2u (j:Nat) (o:Oper):Dw (some true) j true P B ds o r S K=Cz P B ds (⟨o.dst,o.op,o.type,o.pos,o.after,none⟩::r) (r0o S ds j true) K:=by rw [a0z];simp
theorem c2x (j:Nat) (o:Oper):Dw (some false) j false P B ds o r S K=Cz P B ds (⟨o.dst,o.op,o.type,o.pos,o.after,none⟩::r) (r0o S ds j false) K:=by rw [a0z];simp
theorem c2v (j:Nat) (o:Oper):Dw (some true) j false P B ds o r S K=Qx ((r0o S ds j true).put B.nt o.dst (.tup [])) P B ds r K:=by rw [a0z];simp
theorem c2w (j:Nat) (o:Oper):Dw (some false) j true P B ds o r S K=Qx ((r0o S ds j false).put B.nt o.dst (.tup [])) P B ds r K:=by rw [a0z];simp
end
section
variable {P:Program} {nt:Nat} {names:List Nat} {ds:List (Option Tmp)} {keep:Bool} {o:Oper} {N:List Nat} {D:List Da} {S:St} {k:List Nat→List Da→St→Prop}
end
attribute [go_sem high] c2u c2x c2v c2w
attribute [go_sem] b0j l0f n0b i0k
end Go.Sy
namespace Go.Sy
section
variable {k j:Nat} {c:List PL}
end
end Go.Sy
namespace Go.Sy
section
variable {H:Type} {enc:TypeId×Value→H} {P:Program} {w w2:World} {base:Nat} {spare:Nat→Bool} {held:Bool}
end
end Go.Sy
namespace Go.Sy
section
variable {P:Program}
end
end Go.Sy
namespace Go.Sy
section
variable {H:Type} {enc:TypeId×Value→H} {P:Program}
end
end Go.Sy
namespace Go.Sy
open Go.RowKit Go.WideShapes Go.ChangeShapes Go.ChangeAt
theorem p0w {P:Program} {W:World}: ∀ {l:List (String×DataW Unit)} {ps:List MemPlace},DataW.LaidVars P W l ps→∀ {name:String} {x:DataW Unit},(name,x)∈l→
  ∃ g t cs fuel p,P.globalNamed name=some g∧(P.globals[g]?).map (·.type)=some t∧W.var? P name=some cs∧DataW.trod (fun _=>()) P W 0 (fun _=>true) false fuel t cs.toList=some (x,p)
 | [],_,_,_,_,hm=>by cases hm
 |(n,y)::r,ps,h,name,x,hm=>by
  obtain ⟨g,t,cs,fuel,p,q,h1,h2,h3,h4,h5,_⟩:=h
  rcases List.mem_cons.mp hm with e|hm
  ·cases e
   exact ⟨g,t,cs,fuel,p,h1,h2,h3,h4⟩
  ·exact p0w h5 hm
theorem y0a {P:Program} {W:World} {l:List (String×DataW Unit)} (h:laidMet P l W) {name:String} {k:IntKind} {zs:List Int} (hm:(name,Lib.tabData k zs)∈l) {g:Nat} {t e:TypeId} {n:Nat}
  (hg:P.globalNamed name=some g) (hty:(P.globals[g]?).map (·.type)=some t) (ht:P.underlying t=some (.array n e)) (he:P.underlying e=some (.int k)) (hce:P.cellsOf e=1) (hct:P.cellsOf t=n):
  W.var? P name=some (zs.map fun z=>Value.int k z).toArray:=by
 obtain ⟨ps,hl,_⟩:=h
 obtain ⟨g',t',cs,fuel,p,hg',ht',hvar,hd⟩:=p0w hl hm
 obtain rfl:=Option.some.inj (hg.symm.trans hg')
 obtain rfl:=Option.some.inj (hty.symm.trans ht')
 rw [hvar,←Lib.cells_of_tab ht he hce hct hd]
theorem q1n {P:Program} {W:World} {l:List (String×DataW Unit)} (h:laidMet P l W) {name:String} {k:IntKind} {zss:List (List Int)} (hm:(name,DataW.agg (zss.map (Lib.tabData k)))∈l) {g:Nat} {t e u:TypeId} {n m:Nat}
  (hg:P.globalNamed name=some g) (hty:(P.globals[g]?).map (·.type)=some t) (ht:P.underlying t=some (.array n e)) (he:P.underlying e=some (.array m u)) (hu:P.underlying u=some (.int k))
  (hcu:P.cellsOf u=1) (hce:P.cellsOf e=m) (hct:P.cellsOf t=n*m):
  W.var? P name=some (zss.flatten.map fun z=>Value.int k z).toArray:=by
 obtain ⟨ps,hl,_⟩:=h
 obtain ⟨g',t',cs,fuel,p,hg',ht',hvar,hd⟩:=p0w hl hm
 obtain rfl:=Option.some.inj (hg.symm.trans hg')
 obtain rfl:=Option.some.inj (hty.symm.trans ht')
 rw [hvar]
 suffices e0:cs.toList=zss.flatten.map fun z=>Value.int k z by rw [←e0]
 generalize cs.toList=cl at hd
 cases fuel with
 |zero=>simp [DataW.trod] at hd
 |succ fuel=>
  simp only [DataW.trod,ht,hce,hct] at hd
  split at hd
  ·rename_i hcl
   obtain ⟨xs,hx,hy⟩:=Option.map_eq_some_iff.1 hd
   have hxs:xs.map (·.1)=zss.map (Lib.tabData k):=by
    have:=congrArg Prod.fst hy
    simpa using this
   have hfl:=Wj m n cl hcl
   have hxl:xs.length=n:=by simpa using Lib.mapM_length hx
   have hzl:zss.length=n:=by
    have:=congrArg List.length hxs
    simp only [List.length_map] at this
    omega
   have key:(List.range n).map (fun i=>(cl.drop (i*m)).take m)=zss.map (fun zs=>zs.map fun z=>Value.int k z):=by
    apply List.ext_getElem?
    intro i
    by_cases hi:i<n
    ·obtain ⟨b,hb,hf⟩:=Lib.mapM_at hx i i (by simp [hi])
     have h2:(xs.map (·.1))[i]? =some b.1:=by simp [hb]
     rw [hxs,List.getElem?_map] at h2
     obtain ⟨zs,hz,hzb⟩:=Option.map_eq_some_iff.1 h2
     obtain ⟨b1,b2⟩:=b
     simp only at hzb
     subst hzb
     have:=Lib.cells_of_tab he hu hcu hce hf
     rw [List.getElem?_map,List.getElem?_map,hz]
     simp only [List.getElem?_range hi,Option.map_some]
     rw [this]
    ·rw [List.getElem?_eq_none (by simp;omega),List.getElem?_eq_none (by simp;omega)]
   rw [←hfl,key,←List.map_flatten]
  ·cases hd
theorem d0e {P:Program} {W:World} {name:String} {g:Nat} {vs:List Value} (h:W.var? P name=some vs.toArray) (hg:P.globalNamed name=some g) {cs:List PL} (hc:Hy (PL.den (Va.reads W).ro) cs vs):PL.denAt (Va.reads W).ro g cs 0:=by
 refine q0i hc fun j v hj=>?_
 have:=World.var?_cell hg h j
 simp only [Nat.zero_add]
 show W.cell? ⟨g,j,none⟩=some v
 rw [this]
 simpa using hj
theorem q0h {ro:Ro}: ∀ l:List UInt32,Hy (PL.den ro) (l.map PL.u32) (l.map fun x=>Value.int .u32 x.toNat)
 | []=>.nil
 |x::l=>.cons (by rw [PL.den]) (q0h l)
theorem q0g {ro:Ro}: ∀ l:List UInt64,Hy (PL.den ro) (l.map PL.u64) (l.map fun x=>Value.int .u64 x.toNat)
 | []=>.nil
 |x::l=>.cons (by rw [PL.den]) (q0g l)
theorem p1u {ro:Ro}: ∀ l:List Int,Hy (PL.den ro) (l.map PL.i) (l.map fun x=>Value.int .i64 x)
 | []=>.nil
 |x::l=>.cons (by rw [PL.den]) (p1u l)
def Va.readsG (w:World) (G:List (Nat×List PL)):Va:=⟨fun k=>k-gl0,fun k=>match look G k with|some cs=>cs.length|none=>0,fun b o=>w.cell? ⟨b,o,none⟩⟩
def t0f (G:List (Nat×List PL)):List (Nat×Ob):=G.map fun x=>(x.1,⟨false,x.2.map L.pl⟩)
theorem a0t : ∀ {G:List (Nat×List PL)} {k:Nat} {o:Ob},look (t0f G) k=some o→∃ cs,look G k=some cs∧o=⟨false,cs.map L.pl⟩
 | [],_,_,h=>by cases h
 |x::r,k,o,h=>by
  simp only [t0f,List.map_cons,look] at h ⊢
  split at h
  ·rename_i e
   rw [if_pos e]
   cases h
   exact ⟨_,rfl,rfl⟩
  ·rename_i e
   rw [if_neg e]
   exact a0t h
theorem v0d {w:World} {G:List (Nat×List PL)} (hg: ∀ k cs,look G k=some cs→gl0≤k∧PL.denAt (Va.reads w).ro (k-gl0) cs 0) {may:Nat→Prop} {fx:Nat→Option (Nat×Nat)} (hf: ∀ k,fx k=none):
  i0n ⟨w,may,0,(Va.readsG w G).ro,fx⟩ (Va.readsG w G) (t0f G) w:=by
 have hlt: ∀ k,(look (t0f G) k).isSome=true→k<gl0→False:=fun k h1 h2=>by
  obtain ⟨o,ho⟩:=Option.isSome_iff_exists.mp h1
  obtain ⟨cs,hc,_⟩:=a0t ho
  exact absurd (hg k cs hc).1 (Nat.not_le.mpr h2)
 refine ⟨⟨#[],[]⟩,⟨rfl,rfl,fun n v hv=>(by cases hv),fun k o hk hl=>(hlt k (by rw [hk];rfl) hl).elim,fun k k' h1 _ h2=>(hlt k h1 h2).elim,fun k h1 h2=>(hlt k h1 h2).elim,fun _ _ _ h=>h,fun b o y hy _=>hy,rfl,rfl,rfl,Nat.le_refl _,fun _ _ _=>rfl,fun _ _=>rfl,?_,fun k o p hk h=>absurd ((hf k).symm.trans h) (by simp),fun k p h=>absurd ((hf k).symm.trans h) (by simp),fun b l hb=>?_⟩⟩
 rotate_left
 ·obtain ⟨cs,_,e⟩:=a0t hb
  cases e
 intro k o hk _
 obtain ⟨cs,hc,rfl⟩:=a0t hk
 refine .inr ⟨?_,cs,rfl,(hg k cs hc).2⟩
 show (match look G k with|some cs=>cs.length|none=>0)=_
 rw [hc,List.length_map]
def plW :W→Bool
 | .one (.pl _)=>true
 | .one _=>false
 | .agg l=>l.all fun| .pl _=>true|_=>false
def plV :V→Bool
 | .w x=>plW x
 |_=>false
theorem a2y {d d':Va} (h:d.ro=d'.ro): ∀ {v:V} {y:Value},plV v=true→V.den d v y→V.den d' v y
 | .w (.one (.pl x)),y,_,hd=>by simp only [V.den,W.den,L.den] at hd ⊢;rw [←h];exact hd
 | .w (.one (.p _ _)),y,hp,_=>by simp [plV,plW] at hp
 | .w (.one (.s _ _ _ _)),y,hp,_=>by simp [plV,plW] at hp
 | .w (.one (.fn _ _)),y,hp,_=>by simp [plV,plW] at hp
 | .w (.agg l),y,hp,hd=>by
  simp only [V.den,W.den] at hd ⊢
  obtain ⟨vs,e,ha⟩:=hd
  refine ⟨vs,e,?_⟩
  simp only [plV,plW] at hp
  generalize vs.toList=q at ha
  clear e
  induction ha with
  |nil=>exact .nil
  | @cons a b l m h1 _ ih=>
   simp only [List.all_cons,Bool.and_eq_true] at hp
   refine .cons ?_ (ih hp.2)
   cases a with
   |pl x=>simp only [L.den] at h1 ⊢;rw [←h];exact h1
   |_=>simp at hp
 | .tup _,y,hp,_=>by simp [plV] at hp
 | .any,y,hp,_=>by simp [plV] at hp
theorem h1y {d d':Va} (h:d.ro=d'.ro): ∀ {vs:List V} {ys:List Value},(vs.all plV)=true→Hy (V.den d) vs ys→Hy (V.den d') vs ys
 | [],_,_,.nil=>.nil
 |v::vs,_,hp,.cons h1 h2=>by
  simp only [List.all_cons,Bool.and_eq_true] at hp
  exact .cons (a2y h hp.1 h1) (h1y h hp.2 h2)
theorem CtM.callsG {P:Program} {f:FuncId} {args:List V} {G:List (Nat×List PL)} {R:V→List (Nat×Ob)→Prop} {b:Bool} (hc:CtM P f args (t0f G) R) (hR: ∀ v m,R v m→v=.w (.one (.pl (.b b)))) (w:World) (vals:Array Value)
  (hg: ∀ k cs,look G k=some cs→gl0≤k∧PL.denAt (Va.reads w).ro (k-gl0) cs 0) (hp:args.all plV=true) (ha:Hy (V.den (Va.reads w)) args vals.toList):Calls P f vals w fun e w'=>e=.returned (.bool b)∧Below w.heap.size w w':=by
 have hlt: ∀ k,(look (t0f G) k).isSome=true→k<gl0→False:=fun k h1 h2=>by
  obtain ⟨o,ho⟩:=Option.isSome_iff_exists.mp h1
  obtain ⟨cs,hc,_⟩:=a0t ho
  exact absurd (hg k cs hc).1 (Nat.not_le.mpr h2)
 have hf: ∀ k,g1r (Va.readsG w G) (t0f G) k=none:=fun k=>by
  unfold g1r
  rw [if_neg]
  rintro ⟨h1,_,h2⟩
  exact hlt k h1 h2
 refine (hc w (Va.readsG w G) vals (v0d hg hf) (h1y (d:=Va.reads w) (d':=Va.readsG w G) rfl hp ha)).mono fun e w' ⟨y,v,d',m',he,hr,hd,hm⟩=>?_
 rw [hR v m' hr] at hd
 refine ⟨by rw [he];exact congrArg _ hd,?_⟩
 obtain ⟨a,hs⟩:=hm
 refine ⟨hs.os,hs.tape,hs.output,hs.size,fun k hk=>hs.block k hk ?_⟩
 rintro ⟨k,h1,h2,_⟩
 exact hlt k h1 h2
end Go.Sy
namespace Go.Sy
section
variable {P:Program} {B:Base} {S:St} {Q:Exit→St→Prop}
theorem Dj {c:Code} (h: ∀ Z:Exit→St→Prop,(∀ e S',Q e S'→Z e S')→HT P B c S Z):HT P B c S Q:=h Q fun _ _ h=>h
theorem Cx {id:Nat} {l:List Oper} {y:Code} (h: ∀ K:St→Prop,(∀ S',HT P B y S' Q→K S')→Cz P B (f0l l) l S K):HT P B (.seq (.region id l.toArray false) y) S Q:=
 Bz fun N M hN hM=>Av fun K hK=>h K fun S' hy=>hK S' (hN S' hy)
theorem r0v {id:Nat} {l:List Oper} {y:Code} (names c:List Nat) (need:List (Nat×Nat)) (hm:P.follows .mixedOrders=true) (hst:l0w (f0l l) c need l=true)
  (hn:names.all (fun k=>fresh k S&&(look S.mem k).isNone)=true)
  (h: ∀ K:St→List Da→Prop,(∀ S' D,v0t l D need→HT P B y S' Q→K S' D)→Px P B.nt names (f0l l) (!need.isEmpty) l [] [] S K):HT P B (.seq (.region id l.toArray true) y) S Q:=
 Bz fun N M hN hM=>Vw names c need hm hst hn fun K hK=>h K fun S' D hd hy=>hK S' D hd (hN S' hy)
theorem Bv {c:Operand} {x y:Code} (hc:S.get c=some (.w (.one (.pl (.b true))))) (h:HT P B x S Q):HT P B (.cond c x y) S Q:=z0l hc (fun _=>h) (fun e=>by cases e)
theorem Cy {c:Operand} {x y:Code} (hc:S.get c=some (.w (.one (.pl (.b false))))) (h:HT P B y S Q):HT P B (.cond c x y) S Q:=z0l hc (fun e=>by cases e) (fun _=>h)
end
end Go.Sy
namespace Go.Sy
@[go_sem] theorem w1k (S:St) (g:Nat):S.get (.global g)=some (.w (.one (.p (1000000+g) []))):=rfl
theorem a1z (n j:Nat):(List.replicate n (0:UInt32)).getD j 0=0:=by
 simp only [List.getD,List.getElem?_replicate]
 split<;>rfl
end Go.Sy
namespace Go.Sy
section
variable {P:Program}
end
end Go.Sy
namespace Go.Sy
def kept {α:Type} (ks:List Nat):List (Nat×α)→List (Nat×α)
 | []=>[]
 |x::r=>if ks.contains x.1=true then x::kept ks r else kept ks r
theorem l0e {α:Type} {ks:List Nat} {n:Nat} {v:α}: ∀ {e:List (Nat×α)},look (kept ks e) n=some v→look e n=some v
 | [],h=>h
 |x::r,h=>by
  simp only [kept] at h
  split at h
  ·simp only [look] at h ⊢
   split
   ·rename_i e;rw [if_pos e] at h;exact h
   ·rename_i e;rw [if_neg e] at h;exact l0e h
  ·rename_i hc
   have:=l0e h
   simp only [look]
   split
   ·rename_i e
    exfalso
    have hk: ∀ {e:List (Nat×α)},look (kept ks e) n=some v→ks.contains n=true:=by
     intro e
     induction e with
     |nil=>intro h;cases h
     |cons y s ih=>
      intro h
      simp only [kept] at h
      split at h
      ·rename_i hy
       simp only [look] at h
       split at h
       ·rename_i e2;rw [e2];exact hy
       ·exact ih h
      ·exact ih h
    exact hc (by rw [←e];exact hk h)
   ·exact this
def St.keepE (ks:List Nat) (S:St):St:=⟨kept ks S.env,S.mem⟩
theorem j0z (ks:List Nat) (e:List (Nat×V)) (m:List (Nat×Ob)):St.keepE ks ⟨e,m⟩=⟨kept ks e,m⟩:=rfl
theorem j0y {α:Type} (ks:List Nat):kept ks ([]:List (Nat×α))=[]:=rfl
theorem g0h {α:Type} (ks:List Nat) (n:Nat) (v:α) (r:List (Nat×α)):kept ks ((n,v)::r)=if ks.contains n=true then (n,v)::kept ks r else kept ks r:=rfl
section
variable {P:Program} {B:Base} {Q:Exit→St→Prop} {S:St} {x y:Code}
theorem m1p (ks:List Nat) (h:HT P B x (S.keepE ks) Q):HT P B x S Q:=by
 refine HT.le (fun d a w hs=>⟨d,?_⟩) h
 exact ⟨hs.defers,hs.nt,fun n v hv=>hs.env n v (l0e hv),hs.mem,hs.inj,hs.own,hs.ro,hs.old,hs.os,hs.tape,hs.output,hs.size,hs.block,hs.gat,hs.glob,hs.fix,hs.fxn,hs.mp⟩
theorem p1m {α:Type} (ks:List Nat) (F:α→St) (p:α→Prop)
  (h1: ∀ (N:St→Prop) (M:Exit→St→Prop),(∀ a,p a→∀ S',S'.keepE ks=F a→N S')→(∀ e S',Q e S'→M e S')→HT P B x S (m0w N M))
  (h2: ∀ a,p a→HT P B y (F a) Q):HT P B (.seq x y) S Q:=
 HT.seq (h1 (fun S'=>HT P B y S' Q) Q (fun a ha S' e=>m1p ks (e▸h2 a ha)) (fun _ _ h=>h))
end
attribute [go_sem] Wz t0o t0q g0r j0o Qz j0h Rv Fw Ry b0b Oy Jk d0v Mw okN c0q inv Sw Nk nameOut Ob.ren V.ren W.ren L.ren e0i
end Go.Sy
namespace Go.Sy
def CH (vw:Bool) (hd:Hand) (P:Program) (f:FuncId) (args:List V) (m:List (Nat×Ob)) (R:V→List (Nat×Ob)→Prop):Prop:=CtM P f args m R
def CF (caps:List Nat) (vw:Bool) (hd:Hand):Prop:=True
theorem Ct.cv {P:Program} {f:FuncId} {args:List V} {T:V→Prop} (h:Ct P f args fun v _=>T v):Ct P f args fun v m=>T v∧m=[]:=h.plain fun _ _ h=>h
theorem CF.mk (caps:List Nat) (hd:Hand) (vw:Bool:=false):CF caps vw hd:=trivial
section
variable {P:Program} {B:Base} {S:St} {K:St→Prop} {dst:Option Tmp} {ty:TypeId} {pos:String} {af:Array Edge} {f:FuncId} {args:List Operand} {ts:Array TypeId} {ds:List (Option Tmp)} {r:List Oper} {vs:List V} {m:List (Nat×Ob)} {R:V→List (Nat×Ob)→Prop}
theorem b0z (hgo: ∀ vals w,(callFunc f vals).run P w=.ok (.enter f vals) w) (hargs:Rz S args=some vs) (hc:Ct P f vs R) (hK: ∀ v m,R v m→c0l m v=true∧Yj (fun k=>k) S.env m S.mem=true∧(match dst with
   |some n=>n<B.nt∧Cz P B ds r ⟨(n,v.ren (fun k=>k))::S.env,adopt (fun k=>k) m S.mem⟩ K
   |none=>Cz P B ds r ⟨S.env,adopt (fun k=>k) m S.mem⟩ K)):
  Dv P B ⟨dst,.call ⟨.value (.func f),args.toArray,ts⟩,ty,pos,af,none⟩ S ds r K:=Cq (fun k=>k) hgo hargs hc hK
theorem m0f {vw:Bool} {hd:Hand} (hgo: ∀ vals w,(callFunc f vals).run P w=.ok (.enter f vals) w) (hargs:Qz vw S hd args=some vs) (hok:m1r hd=true) (hm:Oy S hd m) (hc:CH vw hd P f vs m R)
  (hK: ∀ v m',R v m'→Jk vw m' v=true∧c0q vw (fun k=>k) hd S m m' m'∧hd.all (fun x=>(look m' x.1).isSome)=true∧(match dst with
   |some n=>n<B.nt∧Cz P B ds r ⟨(n,v.ren (Nk (fun k=>k) hd))::S.env,Sw (fun k=>k) hd m' S.mem⟩ K
   |none=>Cz P B ds r ⟨S.env,Sw (fun k=>k) hd m' S.mem⟩ K)):
  Dv P B ⟨dst,.call ⟨.value (.func f),args.toArray,ts⟩,ty,pos,af,none⟩ S ds r K:=Bq vw hd (fun k=>k) hgo hargs hok hm hc hK
theorem m0g {vw:Bool} {hd:Hand} {t:Tmp} {caps ks:List Nat} (hfn:S.get (.tmp t)=some (.w (.one (.fn f caps)))) (hcaps:b0b hd caps=some ks) (hgo: ∀ vals w,(callFunc f vals).run P w=.ok (.enter f vals) w) (hargs:Qz vw S hd args=some vs) (hok:m1r hd=true) (hm:Oy S hd m) (hx:CF caps vw hd) (hc:CtM P f (vs++ks.map fun k=>.w (.one (.p k []))) m R)
  (hK: ∀ v m',R v m'→Jk vw m' v=true∧c0q vw (fun k=>k) hd S m m' m'∧hd.all (fun x=>(look m' x.1).isSome)=true∧(match dst with
   |some n=>n<B.nt∧Cz P B ds r ⟨(n,v.ren (Nk (fun k=>k) hd))::S.env,Sw (fun k=>k) hd m' S.mem⟩ K
   |none=>Cz P B ds r ⟨S.env,Sw (fun k=>k) hd m' S.mem⟩ K)):
  Dv P B ⟨dst,.call ⟨.value (.tmp t),args.toArray,ts⟩,ty,pos,af,none⟩ S ds r K:=f0i vw hd (fun k=>k) hfn hcaps hgo hargs hok hm hc hK
end
section
variable {P:Program} {B:Base} {c:Code} {S:St} {Q:Exit→St→Prop}
theorem HT.w (h : HT P B c S Q := by
    repeat (first
      | refine zhK _ ?_
      | (refine zhN _ ?_; clear zhN zhM)
      | (refine zhM _ _ ?_; clear zhN zhM)
      | (refine zbn _ ?_; clear zbn zbx zbr zbi)
      | (refine zbx _ ?_; clear zbn zbx zbr zbi)
      | (refine zbr _ ?_; clear zbn zbx zbr zbi)
      | (refine zbi _ _ ?_ ?_; focus (decide); clear zbn zbx zbr zbi)
      | (refine zhZ _ _ ?_; (try simp only [go_sem, F0]); (all_goals (first | rfl | exact ⟨rfl, rfl⟩ | exact told_plain rfl ⟨rfl, rfl⟩ | exact r0e rfl (z0c (by simp [look, F0])) ⟨rfl, rfl⟩ | exact zE | exact zE _ | (rw [zE]; done) | (simp [F0]; done) | exact zE _ (by first | rfl | (simp [look, F0]; done)))))
      | (refine zL _ ?_ ?_; all_goals (simp only [go_sem, leX, List.cons_append, List.nil_append, F0]; try simp))
      | (refine Cx fun zK zhK => ?_; (try simp only [go_sem, F0]); (repeat' (first | apply And.intro | intro _)))
      | (refine Av fun zK zhK => ?_; (try simp only [go_sem, F0]); (repeat' (first | apply And.intro | intro _)))
      | ((first | (refine b0z (fun _ _ => rfl) ?_ cv0 ?_; focus (first | rfl | (simp only [go_sem, F0] <;> rfl))) | (refine b0z (fun _ _ => rfl) ?_ cv1 ?_; focus (first | rfl | (simp only [go_sem, F0] <;> rfl))) | (refine b0z (fun _ _ => rfl) ?_ cv2 ?_; focus (first | rfl | (simp only [go_sem, F0] <;> rfl))) | (refine b0z (fun _ _ => rfl) ?_ cv3 ?_; focus (first | rfl | (simp only [go_sem, F0] <;> rfl))) | (refine b0z (fun _ _ => rfl) ?_ cv4 ?_; focus (first | rfl | (simp only [go_sem, F0] <;> rfl))) | (refine b0z (fun _ _ => rfl) ?_ cv5 ?_; focus (first | rfl | (simp only [go_sem, F0] <;> rfl))) | (refine b0z (fun _ _ => rfl) ?_ cv6 ?_; focus (first | rfl | (simp only [go_sem, F0] <;> rfl))) | (refine b0z (fun _ _ => rfl) ?_ cv7 ?_; focus (first | rfl | (simp only [go_sem, F0] <;> rfl))) | (refine b0z (fun _ _ => rfl) ?_ cv8 ?_; focus (first | rfl | (simp only [go_sem, F0] <;> rfl))) | (refine b0z (fun _ _ => rfl) ?_ cv9 ?_; focus (first | rfl | (simp only [go_sem, F0] <;> rfl))))
         rintro v m ⟨hR, hm⟩; subst hR; subst hm
         refine And.intro ?_ (And.intro ?_ ?_); iterate 2 (focus (first | rfl | simp only [go_sem, F0]))
         (try simp only [go_sem, F0]); (repeat' (first | apply And.intro | intro _)))
      | ((first | (refine m0f (fun _ _ => rfl) ?_ ?_ ?_ ch0 ?_; iterate 3 (focus (first | rfl | (simp only [go_sem, F0] <;> first | done | rfl | simp)))) | (refine m0f (fun _ _ => rfl) ?_ ?_ ?_ ch1 ?_; iterate 3 (focus (first | rfl | (simp only [go_sem, F0] <;> first | done | rfl | simp)))) | (refine m0f (fun _ _ => rfl) ?_ ?_ ?_ ch2 ?_; iterate 3 (focus (first | rfl | (simp only [go_sem, F0] <;> first | done | rfl | simp)))) | (refine m0f (fun _ _ => rfl) ?_ ?_ ?_ ch3 ?_; iterate 3 (focus (first | rfl | (simp only [go_sem, F0] <;> first | done | rfl | simp)))) | (refine m0f (fun _ _ => rfl) ?_ ?_ ?_ ch4 ?_; iterate 3 (focus (first | rfl | (simp only [go_sem, F0] <;> first | done | rfl | simp)))) | (refine m0f (fun _ _ => rfl) ?_ ?_ ?_ ch5 ?_; iterate 3 (focus (first | rfl | (simp only [go_sem, F0] <;> first | done | rfl | simp)))) | (refine m0f (fun _ _ => rfl) ?_ ?_ ?_ ch6 ?_; iterate 3 (focus (first | rfl | (simp only [go_sem, F0] <;> first | done | rfl | simp)))) | (refine m0g ?_ ?_ (fun _ _ => rfl) ?_ ?_ ?_ cg0 cf0 ?_; iterate 5 (focus (first | rfl | (simp only [go_sem, F0] <;> first | done | rfl | simp)))) | (refine m0g ?_ ?_ (fun _ _ => rfl) ?_ ?_ ?_ cg1 cf1 ?_; iterate 5 (focus (first | rfl | (simp only [go_sem, F0] <;> first | done | rfl | simp)))) | (refine m0g ?_ ?_ (fun _ _ => rfl) ?_ ?_ ?_ cg2 cf2 ?_; iterate 5 (focus (first | rfl | (simp only [go_sem, F0] <;> first | done | rfl | simp)))) | (refine m0g ?_ ?_ (fun _ _ => rfl) ?_ ?_ ?_ cg3 cf3 ?_; iterate 5 (focus (first | rfl | (simp only [go_sem, F0] <;> first | done | rfl | simp)))) | (refine m0g ?_ ?_ (fun _ _ => rfl) ?_ ?_ ?_ cg4 cf4 ?_; iterate 5 (focus (first | rfl | (simp only [go_sem, F0] <;> first | done | rfl | simp)))) | (refine m0g ?_ ?_ (fun _ _ => rfl) ?_ ?_ ?_ cg5 cf5 ?_; iterate 5 (focus (first | rfl | (simp only [go_sem, F0] <;> first | done | rfl | simp)))))
         rintro v m ⟨hR, hm⟩; subst hR; subst hm
         refine And.intro ?_ (And.intro ?_ (And.intro ?_ ?_)); iterate 3 (focus (first | rfl | (simp only [go_sem, F0]; done) | (simp [go_sem, look, F0]; done)))
         (try simp only [go_sem, F0]); (repeat' (first | apply And.intro | intro _)))
      | refine Bz fun zN zM zhN zhM => ?_
      | refine Aj fun zB zbn zbx zbr zbi => ?_
      | refine Cw ?_
      | refine Dx ?_
      | refine Ey ?_
      | (refine Cy ?_ ?_; focus (first | rfl | (simp [go_sem, F0]; done)))
      | (refine Bv ?_ ?_; focus (first | rfl | (simp [go_sem, F0]; done))))) : HT P B c S Q := h
end
end Go.Sy
namespace Go.Sy
section
variable {P:Program} {B:Base} {S:St} {Q:Exit→St→Prop}
end
end Go.Sy
namespace Go.Sy
theorem b0k (vw:Bool) (S:St) (hd:Hand) (r:List L): ∀ c:List PL,Fw vw S hd (pls c++r)=(Fw vw S hd r).map (pls c++ ·)
 | []=>by simp [pls]
 |x::l=>by
  have ih:=b0k vw S hd r l
  simp only [pls] at ih
  simp only [pls,List.map_cons,List.cons_append,Fw,Rv,ih]
  cases Fw vw S hd r<;>rfl
theorem i0u (vw:Bool) (S:St) (hd:Hand) (c:List PL):Fw vw S hd (pls c)=some (pls c):=by
 have:=b0k vw S hd [] c
 simpa [Fw] using this
attribute [go_sem] b0k i0u p0m e1l
end Go.Sy
namespace Go.Sy
def FG (ks:List Nat):Prop:=True
theorem V.ren_same (v:V):v.ren (fun k=>k)=v:=by
 have hw: ∀ x:W,x.ren (fun k=>k)=x:=by
  intro x
  cases x with
  |one l=>simp only [W.ren,L.ren_id]
  |agg cs=>simp only [W.ren,W.agg.injEq];exact List.map_id'' L.ren_id _
 cases v with
 |w x=>simp only [V.ren,hw]
 |tup xs=>simp only [V.ren,V.tup.injEq];exact List.map_id'' hw _
 |any=>rfl
theorem l1y {m2:List (Nat×Ob)} {k:Nat} {o:Ob} (h:look m2 k=some o):(k,o)∈m2:=by
 induction m2 with
 |nil=>cases h
 |cons x r ih=>
  simp only [look] at h
  split at h
  ·rename_i e;cases h;subst e;exact .head _
  ·exact .tail _ (ih h)
theorem d1g {R:V→List (Nat×Ob)→Prop} {v:V} {m m2:List (Nat×Ob)} (hm: ∀ x∈m2,look m x.1=some x.2) (h:R v m2):Told R v m:=
 c0j ⟨fun k=>k,v,m2,(V.ren_same v).symm,n0h fun k o hk=>hm _ (l1y hk),h⟩
def k0y (m0:List (Nat×Ob)):List (Nat×Ob)→Option (Nat×List PL)
 | []=>none
 |x::r=>match (look m0 x.1).bind fun o=>x0w o.cells with
  |some c=>if x.1<500000 then some (x.1,c) else k0y m0 r
  |none=>k0y m0 r
def p0e :Nat→List (Nat×Ob)→V→Option V
 |0,_,v=>if Fj v=true then some v else none
 |n+1,m,v=>if Fj v=true then some v else match k0y m m with
  |none=>none
  |some x=>p0e n (r0s x.1 x.2 m) (e1b x.1 x.2 v)
theorem h0w {m0:List (Nat×Ob)}: ∀ {m:List (Nat×Ob)} {x:Nat×List PL},k0y m0 m=some x→(∃ b,look m0 x.1=some ⟨b,pls x.2⟩)∧x.1<500000
 | [],_,h=>by cases h
 |y::r,x,h=>by
  simp only [k0y] at h
  split at h
  ·rename_i c hc
   split at h
   ·rename_i hl
    cases h
    obtain ⟨o,ho,hu⟩:=Option.bind_eq_some_iff.mp hc
    have:=k0j hu
    obtain ⟨b,cs⟩:=o
    simp only at this
    subst this
    exact ⟨⟨b,ho⟩,hl⟩
   ·exact h0w h
  ·exact h0w h
theorem x0y {R:V→List (Nat×Ob)→Prop}: ∀ {n:Nat} {m:List (Nat×Ob)} {v v':V},p0e n m v=some v'→R v' []→Told R v m
 |0,m,v,v',h,hr=>by
  simp only [p0e] at h
  split at h
  ·rename_i hp;cases h;exact told_plain hp hr
  ·cases h
 |n+1,m,v,v',h,hr=>by
  simp only [p0e] at h
  split at h
  ·rename_i hp;cases h;exact told_plain hp hr
  ·split at h
   ·cases h
   ·rename_i x hx
    obtain ⟨⟨b,hk⟩,hl⟩:=h0w hx
    exact d1h x.1 x.2 hk hl (x0y h hr)
section
variable {P:Program} {B:Base} {S:St} {K:St→Prop} {dst:Option Tmp} {ty:TypeId} {pos:String} {af:Array Edge} {f:FuncId} {args:List Operand} {ts:Array TypeId} {ds:List (Option Tmp)} {r:List Oper} {vs:List V} {m:List (Nat×Ob)} {R:V→List (Nat×Ob)→Prop}
theorem v1s {vw:Bool} {hd:Hand} (hgo: ∀ vals w,(callFunc f vals).run P w=.ok (.enter f vals) w) (hargs:Qz vw S hd args=some vs) (hok:m1r hd=true) (hm:Oy S hd m) (hc:CH vw hd P f vs m R)
  (hK: ∀ v m',R v m'→Jk vw m' v=true∧c0q vw (fun k=>k+1000) hd S m m' m'∧hd.all (fun x=>(look m' x.1).isSome)=true∧(match dst with
   |some n=>n<B.nt∧Cz P B ds r ⟨(n,v.ren (Nk (fun k=>k+1000) hd))::S.env,Sw (fun k=>k+1000) hd m' S.mem⟩ K
   |none=>Cz P B ds r ⟨S.env,Sw (fun k=>k+1000) hd m' S.mem⟩ K)):
  Dv P B ⟨dst,.call ⟨.value (.func f),args.toArray,ts⟩,ty,pos,af,none⟩ S ds r K:=Bq vw hd (fun k=>k+1000) hgo hargs hok hm hc hK
end
section
variable {P:Program} {B:Base} {c:Code} {S:St} {Q:Exit→St→Prop}
theorem x1z {x:Code} {n:Nat} {ks:List Nat} (hk:FG ks) (h: ∀ (N:St→Prop) (M:Exit→St→Prop),(∀ S',rnd P B x Q n S'→N S')→(∀ e S',Q e S'→M e S')→HT P B x (S.forget ks) (m0w N M)):rnd P B x Q (n+1) S:=Cv ks (Fq h)
def DR (id:Nat) (names c:List Nat) (need:List (Nat×Nat)):Prop:=True
theorem j0e {id:Nat} {l:List Oper} {names d:List Nat} {need:List (Nat×Nat)} (hz:DR id names d need) (hm:P.follows .mixedOrders=true) (hst:l0w (f0l l) d need l=true)
  (hn:names.all (fun k=>fresh k S&&(look S.mem k).isNone)=true)
  (h: ∀ K:St→List Da→Prop,(∀ S' D,v0t l D need→Q .normal S'→K S' D)→Px P B.nt names (f0l l) (!need.isEmpty) l [] [] S K):HT P B (.region id l.toArray true) S Q:=Vw names d need hm hst hn h
theorem o1v {id:Nat} {l:List Oper} {y:Code} {names d:List Nat} {need:List (Nat×Nat)} (hz:DR id names d need) (hm:P.follows .mixedOrders=true) (hst:l0w (f0l l) d need l=true)
  (hn:names.all (fun k=>fresh k S&&(look S.mem k).isNone)=true)
  (h: ∀ K:St→List Da→Prop,(∀ S' D,v0t l D need→HT P B y S' Q→K S' D)→Px P B.nt names (f0l l) (!need.isEmpty) l [] [] S K):HT P B (.seq (.region id l.toArray true) y) S Q:=r0v names d need hm hst hn h
end
end Go.Sy
namespace Go.Sy
section
variable {P:Program} {B:Base} {c:Code} {S:St} {Q:Exit→St→Prop}
theorem HT.run2 (h : HT P B c S Q := by
    repeat (first
      | refine zhK _ ?_
      | (refine zhN _ ?_; clear zhN zhM)
      | (refine zhM _ _ ?_; clear zhN zhM)
      | (refine zbn _ ?_; clear zbn zbx zbr zbi)
      | (refine zbx _ ?_; clear zbn zbx zbr zbi)
      | (refine zbr _ ?_; clear zbn zbx zbr zbi)
      | (refine zbi _ _ ?_ ?_; focus (decide); clear zbn zbx zbr zbi)
      | (refine zhZ _ _ ?_; (try simp only [go_sem, F0, Nat.reduceAdd, Int.reduceTMod, Int.reduceTDiv, Int.reduceNeg, Int.reduceMul, Int.reduceToNat, Int.mul_zero]); (all_goals (first | rfl | exact ⟨rfl, rfl⟩ | exact told_plain rfl ⟨rfl, rfl⟩ | exact r0e rfl (z0c (by simp [look, F0])) ⟨rfl, rfl⟩ | exact zE | exact zE _ | (rw [zE]; done) | (simp [F0]; done) | (refine x0y (n := 40) ?_ rfl; first | rfl | kernel_rfl) | exact d1g (by simp [look, F0]) ⟨rfl, rfl⟩ | exact zE _ (by first | rfl | (simp [look, F0]; done)))))
      | (refine zL _ ?_ ?_; all_goals (simp only [go_sem, leX, List.cons_append, List.nil_append, F0]; try simp))
      | (refine x1z zF fun zN zM zhN zhM => ?_; (try simp only [go_sem, St.forget, fgt]))
      | refine Fx 64 ?_
      | (refine Cx fun zK zhK => ?_; (try simp only [go_sem, F0, Nat.reduceAdd, Int.reduceTMod, Int.reduceTDiv, Int.reduceNeg, Int.reduceMul, Int.reduceToNat, Int.mul_zero]); (repeat' (first | apply And.intro | intro _)))
      | (refine Av fun zK zhK => ?_; (try simp only [go_sem, F0, Nat.reduceAdd, Int.reduceTMod, Int.reduceTDiv, Int.reduceNeg, Int.reduceMul, Int.reduceToNat, Int.mul_zero]); (repeat' (first | apply And.intro | intro _)))
      | ((first | (obtain ⟨cz, cq⟩ := cq; refine b0z (fun _ _ => rfl) ?_ cz ?_; focus (first | rfl | (simp only [go_sem, F0, Nat.reduceAdd, Int.reduceTMod, Int.reduceTDiv, Int.reduceNeg, Int.reduceMul, Int.reduceToNat, Int.mul_zero] <;> rfl))) | (obtain ⟨cz, cq⟩ := cq; refine b0z (fun _ _ => rfl) ?_ (cz ?_) ?_; focus (first | rfl | (simp only [go_sem, F0, Nat.reduceAdd, Int.reduceTMod, Int.reduceTDiv, Int.reduceNeg, Int.reduceMul, Int.reduceToNat, Int.mul_zero] <;> rfl))))
         rintro v m ⟨hR, hm⟩; subst hR; subst hm
         refine And.intro ?_ (And.intro ?_ ?_); iterate 2 (focus (first | rfl | simp only [go_sem, F0, Nat.reduceAdd, Int.reduceTMod, Int.reduceTDiv, Int.reduceNeg, Int.reduceMul, Int.reduceToNat, Int.mul_zero]))
         (try simp only [go_sem, F0, Nat.reduceAdd, Int.reduceTMod, Int.reduceTDiv, Int.reduceNeg, Int.reduceMul, Int.reduceToNat, Int.mul_zero]); (repeat' (first | apply And.intro | intro _)))
      | ((first | (obtain ⟨cz, cq⟩ := cq; refine Jj (fun k => k) _ [] (fun _ _ => rfl) ?_ cz ?_ ?_; focus (first | rfl | (simp only [go_sem, F0, Nat.reduceAdd, Int.reduceTMod, Int.reduceTDiv, Int.reduceNeg, Int.reduceMul, Int.reduceToNat, Int.mul_zero] <;> rfl))) | (obtain ⟨cz, cq⟩ := cq; refine Jj (fun k => k) _ [] (fun _ _ => rfl) ?_ (cz ?_) ?_ ?_; focus (first | rfl | (simp only [go_sem, F0, Nat.reduceAdd, Int.reduceTMod, Int.reduceTDiv, Int.reduceNeg, Int.reduceMul, Int.reduceToNat, Int.mul_zero] <;> rfl))))
         (refine And.intro ?_ (And.intro ?_ (And.intro ?_ ?_)) <;> first | rfl | simp only [go_sem])
         (try simp only [go_sem, F0, Nat.reduceAdd, Int.reduceTMod, Int.reduceTDiv, Int.reduceNeg, Int.reduceMul, Int.reduceToNat, Int.mul_zero]); (repeat' (first | apply And.intro | intro _)))
      | ((first | (obtain ⟨cz, cq⟩ := cq; refine Ez ?_ cz ?_; focus (first | rfl | (simp only [go_sem, F0, Nat.reduceAdd, Int.reduceTMod, Int.reduceTDiv, Int.reduceNeg, Int.reduceMul, Int.reduceToNat, Int.mul_zero] <;> rfl))))
         (try simp only [go_sem, F0, Nat.reduceAdd, Int.reduceTMod, Int.reduceTDiv, Int.reduceNeg, Int.reduceMul, Int.reduceToNat, Int.mul_zero]); (repeat' (first | apply And.intro | intro _)))
      | ((first | (obtain ⟨cz, cq⟩ := cq; refine a0b ?_ cz ?_; focus (first | rfl | (simp only [go_sem, F0, Nat.reduceAdd, Int.reduceTMod, Int.reduceTDiv, Int.reduceNeg, Int.reduceMul, Int.reduceToNat, Int.mul_zero] <;> rfl))))
         (try simp only [go_sem, F0, Nat.reduceAdd, Int.reduceTMod, Int.reduceTDiv, Int.reduceNeg, Int.reduceMul, Int.reduceToNat, Int.mul_zero]); (repeat' (first | apply And.intro | intro _)))
      | ((first | (obtain ⟨cz, cq⟩ := cq; refine v1s (fun _ _ => rfl) ?_ ?_ ?_ cz ?_; iterate 3 (focus (first | rfl | decide | (simp only [go_sem, F0, Nat.reduceAdd, Int.reduceTMod, Int.reduceTDiv, Int.reduceNeg, Int.reduceMul, Int.reduceToNat, Int.mul_zero] <;> first | done | rfl | simp)))) | (obtain ⟨⟨cg, cz⟩, cq⟩ := cq; refine m0g ?_ ?_ (fun _ _ => rfl) ?_ ?_ ?_ cg cz ?_; iterate 5 (focus (first | rfl | decide | (simp only [go_sem, F0, Nat.reduceAdd, Int.reduceTMod, Int.reduceTDiv, Int.reduceNeg, Int.reduceMul, Int.reduceToNat, Int.mul_zero] <;> first | done | rfl | simp)))))
         rintro v m ⟨hR, hm⟩; subst hR; subst hm
         refine And.intro ?_ (And.intro ?_ (And.intro ?_ ?_)); iterate 3 (focus (first | rfl | (simp only [go_sem, F0, Nat.reduceAdd, Int.reduceTMod, Int.reduceTDiv, Int.reduceNeg, Int.reduceMul, Int.reduceToNat, Int.mul_zero]; done) | (simp [go_sem, look, F0]; done)))
         (try simp only [go_sem, F0, Nat.reduceAdd, Int.reduceTMod, Int.reduceTDiv, Int.reduceNeg, Int.reduceMul, Int.reduceToNat, Int.mul_zero]); (repeat' (first | apply And.intro | intro _)))
      | ((first | refine o1v zd0 mixed ?_ ?_ fun zK zhK => ?_ | refine j0e zd0 mixed ?_ ?_ fun zK zhK => ?_ | refine o1v zd1 mixed ?_ ?_ fun zK zhK => ?_ | refine j0e zd1 mixed ?_ ?_ fun zK zhK => ?_ | refine o1v zd2 mixed ?_ ?_ fun zK zhK => ?_ | refine j0e zd2 mixed ?_ ?_ fun zK zhK => ?_ | refine o1v zd3 mixed ?_ ?_ fun zK zhK => ?_ | refine j0e zd3 mixed ?_ ?_ fun zK zhK => ?_ | refine o1v zd4 mixed ?_ ?_ fun zK zhK => ?_ | refine j0e zd4 mixed ?_ ?_ fun zK zhK => ?_ | refine o1v zd5 mixed ?_ ?_ fun zK zhK => ?_ | refine j0e zd5 mixed ?_ ?_ fun zK zhK => ?_ | refine o1v zd6 mixed ?_ ?_ fun zK zhK => ?_ | refine j0e zd6 mixed ?_ ?_ fun zK zhK => ?_ | refine o1v zd7 mixed ?_ ?_ fun zK zhK => ?_ | refine j0e zd7 mixed ?_ ?_ fun zK zhK => ?_); (focus (kernel_rfl)); (focus (simp only [go_sem])); (try simp only [go_sem, F0]); (repeat' (first | apply And.intro | intro _)))
      | (refine zhK _ _ ?_ ?_; focus (first | trivial | (simp only [go_sem]; done) | (simp only [go_sem]; simp; done) | (simp only [go_sem]; simp; simp only [go_sem])))
      | refine Bz fun zN zM zhN zhM => ?_
      | refine Aj fun zB zbn zbx zbr zbi => ?_
      | refine Cw ?_
      | refine Dx ?_
      | refine Ey ?_
      | (refine Cy ?_ ?_; focus (first | rfl | (simp [go_sem, F0]; done)))
      | (refine Bv ?_ ?_; focus (first | rfl | (simp [go_sem, F0]; done))))) : HT P B c S Q := h
end
theorem CtM.run2 {P:Program} {f:FuncId} {fn:Func} {c:Code} {args:List V} {m:List (Nat×Ob)} {R:V→List (Nat×Ob)→Prop} {nt:Nat} {rs:Array ResultVar} (hf:P.funcs[f]? =some fn) (hb:fn.body=some c) (hnt:fn.ntmps=nt) (hrs:fn.results=rs)
  (h: ∀ (w0:World) (ro:Ro) (may:Nat→Prop) (fx:Nat→Option (Nat×Nat)),HT P ⟨w0,may,nt,ro,fx⟩ c ⟨m0m 0 args,m⟩ (a2w P rs.toList R):=by intro w0 ro may fx;refine Dj fun zZ zhZ=>?_;exact HT.run2) (hn:args.length≤nt:=by simp):CtM P f args m R:=
 CtM.k hf hb hnt (congrArg Array.toList hrs) hn h
end Go.Sy
namespace Go.Sy
open Go.MapKept
abbrev Mp :=List (List UInt8×Int)
def getM :Mp→List UInt8→Int
 | [],_=>0
 |x::r,s=>if x.1=s then x.2 else getM r s
def m0z :Mp→List UInt8→Int→Mp
 | [],s,n=>[(s,n)]
 |x::r,s,n=>if x.1=s then (s,n)::r else x::m0z r s n
def posM :Mp→List UInt8→Nat→Option (Nat×Value)
 | [],_,_=>none
 |x::r,s,j=>if x.1=s then some (j,.int .i64 x.2) else posM r s (j+1)
theorem str_inj {a b:List UInt8}:((⟨a.toArray⟩:ByteArray)=⟨b.toArray⟩)↔a=b:=by
 constructor
 ·intro h
  have:=congrArg (fun x:ByteArray=>x.data.toList) h
  simpa using this
 ·rintro rfl;rfl
theorem i0g (s:List UInt8): ∀ (l:Mp) (i j:Nat),Instr.findNow .string (.string ⟨s.toArray⟩) (Tq i l) j=some (posM l s j)
 | [],_,_=>rfl
 |x::r,i,j=>by
  rw [Tq,Instr.findNow,posM]
  simp only [Instr.sameNow]
  by_cases h:x.1=s
  ·have hb:((⟨s.toArray⟩:ByteArray)==⟨x.1.toArray⟩)=true:=(bytes_beq _ _).mpr (str_inj.mpr h.symm)
   rw [hb,if_pos h]
  ·have hb:((⟨s.toArray⟩:ByteArray)==⟨x.1.toArray⟩)=false:=by
    cases hq:((⟨s.toArray⟩:ByteArray)==⟨x.1.toArray⟩) with
    |false=>rfl
    |true=>exact absurd (str_inj.mp ((bytes_beq _ _).mp hq)).symm h
   rw [hb,if_neg h]
   exact i0g s r (i+1) (j+1)
theorem k0v {s:List UInt8}: ∀ {l:Mp} {j:Nat},posM l s j=none→(∀ n,m0z l s n=l++[(s,n)])∧getM l s=0
 | [],_,_=>⟨fun _=>rfl,rfl⟩
 |x::r,j,h=>by
  rw [posM] at h
  split at h
  ·cases h
  ·rename_i hn
   obtain ⟨h1,h2⟩:=k0v h
   refine ⟨fun n=>?_,?_⟩
   ·rw [m0z,if_neg hn,h1];rfl
   ·rw [getM,if_neg hn];exact h2
theorem k0u {s:List UInt8}: ∀ {l:Mp} {j i:Nat} {v:Value},posM l s j=some (i,v)→∃ k,i=j+k∧k<l.length∧v=.int .i64 (getM l s)∧
  ∀ (q:Nat),((Tq q l)[k]?).map (·.key)=some (.string ⟨s.toArray⟩)∧((Tq q l)[k]?).map (·.born)=some (q+k)∧∀ n (f:MapEntry→MapEntry),(∀ e,f e={e with key:=.string ⟨s.toArray⟩,val:=.int .i64 n})→(Tq q l).modify k f=Tq q (m0z l s n)
 | [],_,_,_,h=>by cases h
 |x::r,j,i,v,h=>by
  rw [posM] at h
  split at h
  ·rename_i hs
   cases h
   refine ⟨0,rfl,by simp,by rw [getM,if_pos hs],fun q=>⟨by simp [Tq,hs],by simp [Tq],fun n f hf=>?_⟩⟩
   rw [Tq,m0z,if_pos hs,Tq]
   simp [hf]
  ·rename_i hn
   obtain ⟨k,hk,hl,hv,hq⟩:=k0u h
   refine ⟨k+1,by omega,by simp only [List.length_cons];omega,by rw [getM,if_neg hn];exact hv,fun q=>?_⟩
   obtain ⟨h1,h2,h3⟩:=hq (q+1)
   refine ⟨by simpa [Tq] using h1,by simp only [Tq,List.getElem?_cons_succ];rw [h2];congr 1;omega,fun n f hf=>?_⟩
   rw [Tq,m0z,if_neg hn,Tq,List.modify_succ_cons,h3 n f hf]
section
variable {P:Program} {w:World} {b:Nat} {l:Mp} {s:List UInt8} {xt kt et:TypeId}
theorem u0t (he:(P.info? et).bind (·.zero)=some (.int .i64 0)):(zeroValue et).run P w=.ok (.int .i64 0) w:=by
 obtain ⟨i,hi,hz⟩:=Option.bind_eq_some_iff.mp he
 simp [zeroValue,typeInfo,hi,hz]
theorem r0z (hx:P.underlying xt=some (.map kt et)) (hk:P.underlying kt=some .string) (he:(P.info? et).bind (·.zero)=some (.int .i64 0)) (h:MapAt w b l):
  (Instr.lookup xt (.map (some b)) (.string ⟨s.toArray⟩) false).run P w=.ok (.int .i64 (getM l s)) w:=by
 have hf:=run_findKey (P:=P) (w:=w) hk (i0g s l 0 0)
 cases hp:posM l s 0 with
 |none=>
  rw [hp] at hf
  simp [Instr.lookup,run_underlying hx,Go.MapKept.run_getObj_map h,run_checkKey hk (show IsKey .string (.string ⟨s.toArray⟩) from trivial),hf,u0t he,(k0v hp).2,Result.andThen]
 |some x=>
  obtain ⟨i,v⟩:=x
  rw [hp] at hf
  obtain ⟨_,_,_,hv,_⟩:=k0u hp
  simp [Instr.lookup,run_underlying hx,Go.MapKept.run_getObj_map h,run_checkKey hk (show IsKey .string (.string ⟨s.toArray⟩) from trivial),hf,hv,Result.andThen]
theorem u1w (l:Mp) (s:List UInt8) (n:Int) (i:Nat):Tq i l++[⟨.string ⟨s.toArray⟩,.int .i64 n,i+l.length⟩]=Tq i (l++[(s,n)]):=by
 induction l generalizing i with
 |nil=>simp [Tq]
 |cons x r ih=>
  have:=ih (i+1)
  simp only [List.length_cons,List.cons_append,Tq]
  rw [←this,show i+(r.length+1)=i+1+r.length from by omega]
theorem u0y {l:Mp} {s:List UInt8} {n:Int}:(m0z l s n).length=if posM l s 0=none then l.length+1 else l.length:=by
 have key: ∀ (l:Mp) (j:Nat),(m0z l s n).length=if posM l s j=none then l.length+1 else l.length:=by
  intro l
  induction l with
  |nil=>intro j;simp [m0z,posM]
  |cons x r ih=>
   intro j
   rw [m0z,posM]
   split
   ·simp
   ·rw [List.length_cons,ih (j+1)];split<;>simp
 exact key l 0
def c0t (w:World) (b:Nat) (l:Mp):World:={w with heap:=w.heap.setIfInBounds b (.map (Tq 0 l).toArray l.length)}
theorem r0y {n:Int} (hx:P.underlying xt=some (.map kt et)) (hk:P.underlying kt=some .string) (h:MapAt w b l):
  (Instr.mapUpdate xt (.map (some b)) (.string ⟨s.toArray⟩) (.int .i64 n)).run P w=.ok () (c0t w b (m0z l s n)):=by
 have hf:=run_findKey (P:=P) (w:=w) hk (i0g s l 0 0)
 have hl:=u0y (l:=l) (s:=s) (n:=n)
 cases hp:posM l s 0 with
 |none=>
  rw [hp] at hf hl
  rw [if_pos rfl] at hl
  have e:=u1w l s n 0
  simp only [Nat.zero_add] at e
  simp [Instr.mapUpdate,run_underlying hx,Go.MapKept.run_getObj_map h,run_checkKey hk (show IsKey .string (.string ⟨s.toArray⟩) from trivial),hf,run_setObj_map _ h,c0t,(k0v hp).1 n,Result.andThen,e]
 |some x=>
  obtain ⟨i,v⟩:=x
  rw [hp] at hf hl
  rw [if_neg (by simp)] at hl
  obtain ⟨k,hk2,hlt,hv,hq⟩:=k0u hp
  obtain ⟨h1,h2,h3⟩:=hq 0
  simp only [Nat.zero_add] at hk2 h2
  subst hk2
  have e:=h3 n (fun e=>{e with key:=.string ⟨s.toArray⟩,val:=.int .i64 n}) (fun _=>rfl)
  have e2:(Tq 0 l).toArray.modify i (fun e=>{e with key:=.string ⟨s.toArray⟩,val:=.int .i64 n})=(Tq 0 (m0z l s n)).toArray:=by
   rw [←e];exact Array.toList_inj.mp (by simp)
  obtain ⟨me,hme,hme2⟩: ∃ me,(Tq 0 l)[i]? =some me∧me.key=.string ⟨s.toArray⟩:=by
   cases hq:(Tq 0 l)[i]? with
   |none=>rw [hq] at h1;cases h1
   |some me=>rw [hq] at h1;exact ⟨me,rfl,by simpa using h1⟩
  simp [Instr.mapUpdate,run_underlying hx,Go.MapKept.run_getObj_map h,run_checkKey hk (show IsKey .string (.string ⟨s.toArray⟩) from trivial),hf,run_setObj_map _ h,c0t,Result.andThen,hme,hme2,run_keyThatStays (d:=.string) (k:=.string ⟨s.toArray⟩) trivial,e2,e,hl]
end
end Go.Sy
namespace Go.Sy
open Go.MapKept
section
variable {P:Program} {w:World} {b:Nat} {l:Mp} {s:List UInt8} {xt kt et:TypeId}
end
end Go.Sy
namespace Go.Sy
open Go.MapKept
section
variable {P:Program} {B:Base} {d:Va} {S:St} {a:Act} {w:World} {b:Nat} {l l':Mp}
theorem MapAt.cell_none (h:MapAt w b l) (o:Nat):w.cell? ⟨b,o,none⟩=none:=by
 unfold MapAt at h
 simp [World.cell?,h]
theorem v0i (h:MapAt w b l) (l':Mp):MapAt (c0t w b l') b l'∧(∀ j,j≠b→(c0t w b l').heap[j]? =w.heap[j]?)∧(c0t w b l').heap.size=w.heap.size:=by
 obtain ⟨h1,h2⟩:=heap_set (o':=.map (Tq 0 l').toArray l'.length) (show w.heap[b]? =some _ from h)
 exact ⟨h1,h2,by simp [c0t]⟩
theorem Sim.c0t (h:Sim B d S a w) (hb:look S.mem (mp0+b)=some ⟨.m l,[]⟩) (hown:B.w0.heap.size≤b) (l':Mp):Sim B d ⟨S.env,e0i S.mem (mp0+b) ⟨.m l',[]⟩⟩ a (Go.Sy.c0t w b l'):=by
 have hm:=h.mp b l hb
 obtain ⟨g1,g2,g3⟩:=v0i hm l'
 have hbig: ∀ k,k<gl0→k≠mp0+b:=fun k hk=>by have:k<1000000:=hk;show k≠2000000+b;omega
 have hlow: ∀ {k o},look (e0i S.mem (mp0+b) ⟨.m l',[]⟩) k=some o→k<gl0→look S.mem k=some o:=fun {k o} hk hl=>by
  rw [Gy,if_neg (hbig k hl)] at hk;exact hk
 have hsome: ∀ k,(look (e0i S.mem (mp0+b) ⟨.m l',[]⟩) k).isSome=true→(look S.mem k).isSome=true:=fun k hk=>by
  rw [Gy] at hk
  split at hk
  ·rename_i e;subst e;rw [hb];rfl
  ·exact hk
 refine ⟨h.defers,h.nt,h.env,fun k o hk hl=>?_,fun k k' h1 h2=>h.inj k k' (hsome k h1) (hsome k' h2),fun k hk=>h.own k (hsome k hk),fun b' o y hy=>?_,h.old,h.os,h.tape,h.output,by rw [g3];exact h.size,fun b' hb' hn=>?_,h.gat,fun k o hk hg=>?_,fun k o p hk hp hl=>h.fix k o p (hlow hk hl) hp hl,h.fxn,fun b' q hq=>?_⟩
 ·obtain ⟨vals,spare,ty,fr,hh,rest⟩:=h.mem k o (hlow hk hl) hl
  refine ⟨vals,spare,ty,fr,?_,rest⟩
  rw [g2 _ (h.map_apart hm (by rw [hlow hk hl];rfl) hl)];exact hh
 ·have hc:=h.ro b' o y hy
  have hne:b'≠b:=by
   intro e;subst e
   rw [hm.cell_none] at hc;cases hc
  simp only [World.cell?] at hc ⊢
  rw [g2 b' hne];exact hc
 ·rw [g2 b' (by omega)];exact h.block b' hb' hn
 ·rw [Gy] at hk
  split at hk
  ·rename_i e;subst e
   rw [hb] at hk;cases hk
   exact .inl ⟨l',rfl⟩
  ·exact h.glob k o hk hg
 ·rw [Gy] at hq
  split at hq
  ·rename_i e
   have e:b'=b:=Nat.add_left_cancel e
   subst e
   rw [hb] at hq;cases hq
   exact g1
  ·rename_i e
   exact (h.mp b' q hq).of (g2 b' (fun e2=>e (by rw [e2])))
theorem Sim.mapNew (h:Sim B d S a w):Sim B d ⟨S.env,(mp0+w.heap.size,⟨.m [],[]⟩)::S.mem⟩ a (w.alloc (.map #[] 0)):=by
 obtain ⟨g1,g2⟩:=heap_alloc w (.map #[] 0)
 have hs:=h.stay (w':=w.alloc (.map #[] 0)) g2 (Nat.le_of_lt (Array.getElem?_eq_some_iff.1 g1).1) rfl rfl rfl
 have hbig: ∀ k,k<gl0→k≠mp0+w.heap.size:=fun k hk=>by have:k<1000000:=hk;show k≠2000000+w.heap.size;omega
 have hlow: ∀ {k:Nat},k<gl0→look ((mp0+w.heap.size,(⟨.m [],[]⟩:Ob))::S.mem) k=look S.mem k:=fun {k} hk=>by
  simp only [look];rw [if_neg (hbig k hk)]
 refine ⟨hs.defers,hs.nt,hs.env,fun k o hk hl=>hs.mem k o (by rw [←hlow hl];exact hk) hl,fun k k' h1 h2 l1 l2=>hs.inj k k' (by rw [←hlow l1];exact h1) (by rw [←hlow l2];exact h2) l1 l2,fun k hk hl=>hs.own k (by rw [←hlow hl];exact hk) hl,hs.ro,hs.old,hs.os,hs.tape,hs.output,hs.size,hs.block,hs.gat,fun k o hk hg=>?_,fun k o p hk hp hl=>hs.fix k o p (by rw [←hlow hl];exact hk) hp hl,hs.fxn,fun b' q hq=>?_⟩
 ·simp only [look] at hk
  split at hk
  ·cases hk;exact .inl ⟨[],rfl⟩
  ·exact hs.glob k o hk hg
 ·simp only [look] at hq
  split at hq
  ·rename_i e
   have e:b'=w.heap.size:=Nat.add_left_cancel e
   subst e
   cases hq
   exact g1
  ·exact hs.mp b' q hq
end
section
variable {P:Program} {B:Base} {S:St} {K:St→Prop} {ds:List (Option Tmp)} {r:List Oper} {ty:TypeId} {pos:String} {af:Array Edge} {xt kt et:TypeId} {x k y:Operand} {b n:Nat} {l:Mp} {s:List UInt8}
abbrev z1z (b:Nat):V:=.w (.one (.pl (.val (.map (some b)))))
theorem y0s {d:Va} {b:Nat} {y:Value} (h:(z1z b).den d y):y=.map (some b):=by
 change PL.den _ _ _ at h
 rw [PL.den] at h;exact h.1
theorem n1x (d:Va) (b:Nat):(z1z b).den d (.map (some b)):=by
 change PL.den _ _ _
 rw [PL.den];exact ⟨rfl,fun cs h=>(by cases h),fun vs h=>(by cases h)⟩
theorem d1o {d:Va} {s:List UInt8} {y:Value} (h:V.den d (.w (.one (.pl (.str s)))) y):y=.string ⟨s.toArray⟩:=by
 change PL.den _ _ _ at h
 rw [PL.den] at h;exact h.1
theorem d2f {d:Va} {m:Int} {y:Value} (h:V.den d (.w (.one (.pl (.i m)))) y):y=.int .i64 m:=by
 change PL.den _ _ _ at h
 rw [PL.den] at h;exact h
theorem d2j (d:Va) (m:Int):V.den d (.w (.one (.pl (.i m)))) (.int .i64 m):=by
 change PL.den _ _ _
 rw [PL.den]
theorem c1l (hn:n<B.nt) (hK: ∀ b,B.w0.heap.size≤b→Cz P B ds r ⟨(n,z1z b)::S.env,(mp0+b,⟨.m [],[]⟩)::S.mem⟩ K):
  Dv P B ⟨some n,.makeMap xt none,ty,pos,af,none⟩ S ds r K:=by
 intro d a w h next Q hq
 have hrun:(execOp a.eval ⟨some n,.makeMap xt none,ty,pos,af,none⟩).run P w=.ok (.value (.map (some w.heap.size))) (w.alloc (.map #[] 0)):=by
  simp [execOp,Instr.makeMap,Result.andThen]
 unfold Oper.wp
 rw [hrun]
 exact hq _ _ _ _ (hK w.heap.size h.size) (h.mapNew.put hn (n1x d _))
theorem at_lookup (hx:S.get x=some (z1z b)) (hk:S.get k=some (.w (.one (.pl (.str s))))) (hl:look S.mem (mp0+b)=some ⟨.m l,[]⟩) (hxt:P.underlying xt=some (.map kt et)) (hkt:P.underlying kt=some .string) (het:(P.info? et).bind (·.zero)=some (.int .i64 0))
  (hK:n<B.nt∧Cz P B ds r ⟨(n,.w (.one (.pl (.i (getM l s)))))::S.env,S.mem⟩ K):
  Dv P B ⟨some n,.lookup xt x k false,ty,pos,af,none⟩ S ds r K:=by
 intro d a w h next Q hq
 have e1:=y0s (h.get hx);have e2:=d1o (h.get hk)
 have hrun:(execOp a.eval ⟨some n,.lookup xt x k false,ty,pos,af,none⟩).run P w=.ok (.value (.int .i64 (getM l s))) w:=by
  have:=r0z (s:=s) hxt hkt het (h.mp b l hl)
  simp [execOp,e1,e2,this]
 unfold Oper.wp
 rw [hrun]
 exact hq _ _ _ _ hK.2 (h.put hK.1 (d2j d _))
theorem i1y {m:Int} (hown:B.w0.heap.size≤b) (hx:S.get x=some (z1z b)) (hk:S.get k=some (.w (.one (.pl (.str s))))) (hy:S.get y=some (.w (.one (.pl (.i m))))) (hl:look S.mem (mp0+b)=some ⟨.m l,[]⟩) (hxt:P.underlying xt=some (.map kt et)) (hkt:P.underlying kt=some .string)
  (hK:Cz P B ds r ⟨S.env,e0i S.mem (mp0+b) ⟨.m (m0z l s m),[]⟩⟩ K):
  Dv P B ⟨none,.mapUpdate xt x k y,ty,pos,af,none⟩ S ds r K:=by
 intro d a w h next Q hq
 have e1:=y0s (h.get hx);have e2:=d1o (h.get hk);have e3:=d2f (h.get hy)
 have hrun:(execOp a.eval ⟨none,.mapUpdate xt x k y,ty,pos,af,none⟩).run P w=.ok .skip (c0t w b (m0z l s m)):=by
  have:=r0y (s:=s) (n:=m) hxt hkt (h.mp b l hl)
  simp [execOp,e1,e2,e3,this]
 unfold Oper.wp
 rw [hrun,Oper.upon_skip]
 exact hq _ _ _ _ hK (h.c0t hl hown _)
end
end Go.Sy
namespace Go.Sy
@[go_sem] theorem nmp {k b:Nat} (h:k<2000000):(k=2000000+b)=False:=eq_false (by omega)
@[go_sem] theorem nmp' {k b:Nat} (h:k<2000000):(2000000+b=k)=False:=eq_false (by omega)
@[go_sem] theorem x1w (k:Nat) (o:Ob):e0i [] k o=[]:=rfl
section
variable {P:Program} {B:Base} {S:St} {K:St→Prop} {ds:List (Option Tmp)} {r:List Oper} {ty:TypeId} {pos:String} {af:Array Edge} {xt kt et:TypeId} {x k y:Operand} {b n:Nat} {l:Mp} {s:List UInt8}
@[go_sem] theorem w1e (dst:Option Tmp) (t:TypeId) (v:Option Operand):Cz P B ds (⟨dst,.makeMap t v,ty,pos,af,none⟩::r) S K=Dv P B ⟨dst,.makeMap t v,ty,pos,af,none⟩ S ds r K:=by rw [n0d];rfl
@[go_sem] theorem y1u (dst:Option Tmp) (t:TypeId) (u v:Operand) (c:Bool):Cz P B ds (⟨dst,.lookup t u v c,ty,pos,af,none⟩::r) S K=Dv P B ⟨dst,.lookup t u v c,ty,pos,af,none⟩ S ds r K:=by rw [n0d];rfl
@[go_sem] theorem p1d (dst:Option Tmp) (t:TypeId) (u v w:Operand):Cz P B ds (⟨dst,.mapUpdate t u v w,ty,pos,af,none⟩::r) S K=Dv P B ⟨dst,.mapUpdate t u v w,ty,pos,af,none⟩ S ds r K:=by rw [n0d];rfl
theorem mk_k (hn:n<B.nt) (hK: ∀ b,B.w0.heap.size≤b→Cz P B ds r ⟨(n,.w (.one (.pl (.val (.map (some b))))))::S.env,(2000000+b,⟨.m [],[]⟩)::S.mem⟩ K):Dv P B ⟨some n,.makeMap xt none,ty,pos,af,none⟩ S ds r K:=c1l hn hK
def b2q (b:Nat) (s:List UInt8):Option Ob→Option (Nat×Mp×List UInt8)
 |some ⟨.m l,[]⟩=>some (b,l,s)
 |_=>none
def a2c (m:List (Nat×Ob)):Option V→Option V→Option (Nat×Mp×List UInt8)
 |some (.w (.one (.pl (.val (.map (some b)))))),some (.w (.one (.pl (.str s))))=>b2q b s (look m (2000000+b))
 |_,_=>none
def y0o (x:Option (Nat×Mp×List UInt8)) (f:Nat→Mp→List UInt8→Prop):Prop:=
 match x with
 |some y=>f y.1 y.2.1 y.2.2
 |none=>False
def y0p (x:Option V) (f:Int→Prop):Prop:=
 match x with
 |some (.w (.one (.pl (.i m))))=>f m
 |_=>False
@[go_sem] theorem a2b (m:List (Nat×Ob)) (b:Nat) (s:List UInt8):a2c m (some (.w (.one (.pl (.val (.map (some b))))))) (some (.w (.one (.pl (.str s)))))=b2q b s (look m (2000000+b)):=rfl
@[go_sem] theorem a2a (b:Nat) (s:List UInt8) (l:Mp):b2q b s (some ⟨.m l,[]⟩)=some (b,l,s):=rfl
@[go_sem] theorem s1n (b:Nat) (l:Mp) (s:List UInt8) (f:Nat→Mp→List UInt8→Prop):y0o (some (b,l,s)) f=f b l s:=rfl
@[go_sem] theorem s1o (m:Int) (f:Int→Prop):y0p (some (.w (.one (.pl (.i m))))) f=f m:=rfl
theorem n0z {m:List (Nat×Ob)} {u v:Option V} {f:Nat→Mp→List UInt8→Prop} (hs: ∀ j,v≠some (.w (.one (.pl (.i j))))) (h:y0o (a2c m u v) f): ∃ b l s,u=some (.w (.one (.pl (.val (.map (some b))))))∧v=some (.w (.one (.pl (.str s))))∧look m (2000000+b)=some ⟨.m l,[]⟩∧f b l s:=by
 unfold a2c at h
 split at h
 ·rename_i b s
  unfold b2q at h
  split at h
  ·rename_i l e;exact ⟨b,l,s,rfl,rfl,e,h⟩
  ·exact h.elim
 ·exact h.elim
theorem l1s {u:Option V} {f:Int→Prop} (h:y0p u f): ∃ m,u=some (.w (.one (.pl (.i m))))∧f m:=by
 unfold y0p at h
 split at h
 ·exact ⟨_,rfl,h⟩
 ·exact h.elim
def isStr :Option V→Bool
 |some (.w (.one (.pl (.str _))))=>true
 |_=>false
theorem z0e {v:Option V} (h:isStr v=true) (j:Int):v≠some (.w (.one (.pl (.i j)))):=by
 rintro rfl;cases h
@[go_sem] theorem w1j (s:List UInt8):isStr (some (.w (.one (.pl (.str s)))))=true:=rfl
theorem e2c (hxt:P.underlying xt=some (.map kt et)) (hkt:P.underlying kt=some .string) (het:(P.info? et).bind (·.zero)=some (.int .i64 0))
  (h:isStr (S.get k)=true∧y0o (a2c S.mem (S.get x) (S.get k)) fun _ l s=>n<B.nt∧Cz P B ds r ⟨(n,.w (.one (.pl (.i (getM l s)))))::S.env,S.mem⟩ K):Dv P B ⟨some n,.lookup xt x k false,ty,pos,af,none⟩ S ds r K:=by
 obtain ⟨b,l,s,h1,h2,h3,h4⟩:=n0z (z0e h.1) h.2
 exact at_lookup h1 h2 h3 hxt hkt het h4
theorem d2u (hxt:P.underlying xt=some (.map kt et)) (hkt:P.underlying kt=some .string) (hown:B.w0.heap.size≤b)
  (h:isStr (S.get k)=true∧y0o (a2c S.mem (S.get x) (S.get k)) fun b' l s=>b'=b∧y0p (S.get y) fun m=>Cz P B ds r ⟨S.env,e0i S.mem (2000000+b) ⟨.m (m0z l s m),[]⟩⟩ K):Dv P B ⟨none,.mapUpdate xt x k y,ty,pos,af,none⟩ S ds r K:=by
 obtain ⟨b',l,s,h1,h2,h3,rfl,h4⟩:=n0z (z0e h.1) h.2
 obtain ⟨m,h5,h6⟩:=l1s h4
 exact i1y hown h1 h2 h5 h3 hxt hkt h6
end
end Go.Sy
