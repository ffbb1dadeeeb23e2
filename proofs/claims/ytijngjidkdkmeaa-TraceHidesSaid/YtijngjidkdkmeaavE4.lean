/- The layer that reckons a function out: what it says of states, operations, regions, loops, calls. CONDITIONS: those that each theorem names. -/
import Derived.Test.YtijngjidkdkmeaavE3
set_option linter.unusedVariables false
set_option linter.unusedSimpArgs false
namespace Go.Sy
open Go.RowKit Go.WideShapes Go.ChangeShapes Go.ChangeAt
def p1p (P:Program) (K:List TypeId) (t:TypeId):Bool:=match P.underlying t with
 |some .bool|some (.int .i64)|some (.int .u8)|some (.int .u32)|some (.int .u64)|some .string=>P.cellsOf t==1
 |some (.slice e)=>P.cellsOf t==1&&(P.cellsOf e !=0&&K.contains e)
 |some (.struct fs)=>e0x P fs.toList 0 (P.cellsOf t)&&fs.toList.all fun f=>K.contains f.type
 |some (.array m e)=>P.cellsOf t==m*P.cellsOf e&&K.contains e
 |_=>false
theorem cell_spot {w:World} {a:Addr} {v:Value} (h:w.cell? a=some v):a.spot=none:=by
 unfold World.cell? at h
 split at h<;>try (cases h;done)
 split at h
 ·cases h
 rename_i hs;simpa using hs
section
variable {H:Type} {enc:TypeId×Value→H} {P:Program} {w:World} {base:Nat} {spare:Nat→Bool} {held:Bool}
theorem w1v {K:List TypeId} (hK:K.all (p1p P K)=true): ∀ (n:Nat) (t:TypeId) (cs:List Value) (y:DataW H×List MemPlace),DataW.trod enc P w base spare held n t cs=some y→K.contains t=true→
 ∃ xs,Sh P n t xs∧xs.length=cs.length∧Hq (PL.den (Va.reads w).ro) xs cs:=by
 intro n
 induction n with
 |zero=>intro t cs y h;simp [DataW.trod] at h
 |succ n ih=>
   intro t cs y h hk0
   have hk:=yI.mp hK t (by simpa using hk0)
   unfold p1p at hk
   split at hk<;>try (cases hk;done)
   ·rename_i ht
    obtain ⟨b,rfl,_⟩:=DataW.trod_bool ht h
    exact ⟨[.b b],by unfold Sh;rw [ht];exact ⟨b,rfl⟩,rfl,.cons (by rw [PL.den]) .nil⟩
   ·rename_i ht
    obtain ⟨k,rfl,_,hwf⟩:=DataW.trod_int ht h
    simp only [Lit.wf,IntKind.min,IntKind.max,IntKind.signed,IntKind.bits,yF,decide_eq_true_eq,if_true] at hwf
    exact ⟨[.i k],by unfold Sh;rw [ht];exact ⟨k,rfl,by omega,by omega⟩,rfl,.cons (by rw [PL.den]) .nil⟩
   ·rename_i ht
    obtain ⟨k,rfl,_,hwf⟩:=DataW.trod_int ht h
    simp only [Lit.wf,IntKind.min,IntKind.max,IntKind.signed,IntKind.bits,yF,decide_eq_true_eq] at hwf
    exact ⟨[.u8 (UInt8.ofNat k.toNat)],by unfold Sh;rw [ht];exact ⟨_,rfl⟩,rfl,.cons (by rw [PL.den];congr 1;simp at hwf ⊢;omega) .nil⟩
   ·rename_i ht
    obtain ⟨k,rfl,_,hwf⟩:=DataW.trod_int ht h
    simp only [Lit.wf,IntKind.min,IntKind.max,IntKind.signed,IntKind.bits,yF,decide_eq_true_eq] at hwf
    exact ⟨[.u32 (UInt32.ofNat k.toNat)],by unfold Sh;rw [ht];exact ⟨_,rfl⟩,rfl,.cons (by rw [PL.den];congr 1;simp at hwf ⊢;omega) .nil⟩
   ·rename_i ht
    obtain ⟨k,rfl,_,hwf⟩:=DataW.trod_int ht h
    simp only [Lit.wf,IntKind.min,IntKind.max,IntKind.signed,IntKind.bits,yF,decide_eq_true_eq] at hwf
    exact ⟨[.u64 (UInt64.ofNat k.toNat)],by unfold Sh;rw [ht];exact ⟨_,rfl⟩,rfl,.cons (by rw [PL.den];congr 1;simp at hwf ⊢;omega) .nil⟩
   ·rename_i ht
    obtain ⟨s,rfl,_,hs⟩:=DataW.trod_string ht h
    have hl:s.data.toList.length=s.size:=wB
    exact ⟨[.str s.data.toList],by unfold Sh;rw [ht];exact ⟨_,rfl,by omega⟩,rfl,.cons (by rw [PL.den];exact ⟨by simp,by omega⟩) .nil⟩
   ·rename_i e ht
    simp only [yF,beq_iff_eq,bne_iff_ne] at hk
    rcases DataW.trod_slice ht h with ⟨rfl,_⟩|⟨a,len,cap,elems,rest,n',hn,rfl,_,hb,hl,hm,hel,hi,_⟩
    ·exact ⟨[.R false (P.cellsOf e) []],by unfold Sh;rw [ht];exact ⟨[],rfl,fun r hr=>(by cases hr),yP _⟩,rfl,.cons (by rw [PL.den];exact .inl ⟨rfl,rfl⟩) .nil⟩
    cases hn
    rcases Nat.eq_zero_or_pos len with rfl|hpos
    ·exact ⟨[.R false (P.cellsOf e) []],by unfold Sh;rw [ht];exact ⟨[],rfl,fun r hr=>(by cases hr),yP _⟩,rfl,.cons (by rw [PL.den];exact .inr (.inr ⟨a,cap,rfl,rfl,hm,fun h=>(by cases h)⟩)) .nil⟩
    have hsa:a.spot=none:=by
     have h1:=hi 0 hpos
     have:0<elems.length:=by omega
     rw [yX this] at h1
     obtain ⟨cs',hc,_⟩:=Option.bind_eq_some_iff.mp h1
     obtain ⟨_,hcl,hcc⟩:=World.cells?_some hc
     have h0:=hcc 0 (by omega)
     have hlt:0<cs'.length:=by omega
     rw [yX hlt] at h0
     have:=cell_spot h0
     simpa [Addr.add] using this
    obtain ⟨blk,off,sp⟩:=a
    simp only at hsa;subst hsa
    have each: ∀ i∈List.range len,∃ r:List PL,Sh P n e r∧r.length=P.cellsOf e∧PL.denAt (Va.reads w).ro blk r (off+i*P.cellsOf e):=by
     intro i hi'
     have hlt:i<len:=by simpa using hi'
     have h1:=hi i hlt
     have:i<elems.length:=by omega
     rw [yX this] at h1
     obtain ⟨cs',hc,ht'⟩:=Option.bind_eq_some_iff.mp h1
     obtain ⟨_,hcl,hcc⟩:=World.cells?_some hc
     have hcell: ∀ j v,cs'[j]? =some v→w.cell? ⟨blk,off+i*P.cellsOf e+j,none⟩=some v:=by
      intro j v hj
      have hj':j<P.cellsOf e:=by
       have:=(wF.mp hj).1;omega
      have:=hcc j hj'
      rw [hj] at this
      rw [←this]
      congr 1
      rw [addr_add,addr_add]
     obtain ⟨xs,hx1,hx2,hx3⟩:=ih e cs' _ ht' hk.2.2
     exact ⟨xs,hx1,by omega,w0g hx3 fun j v hj=>hcell j v hj⟩
    obtain ⟨rows,hrows⟩:=Xy _ each
    have hlen:rows.length=len:=by have:=hrows.length;simpa using this.symm
    have hget: ∀ i r,rows[i]? =some r→Sh P n e r∧r.length=P.cellsOf e∧PL.denAt (Va.reads w).ro blk r (off+i*P.cellsOf e):=by
     intro i r hr
     obtain ⟨j,hj,hp⟩:=hrows.flip.get hr
     have hil:i<len:=by
      have:=(wF.mp hr).1;omega
     rw [List.getElem?_range hil] at hj
     cases hj;exact hp
    refine ⟨[.R false (P.cellsOf e) rows],?_,rfl,.cons ?_ .nil⟩
    ·unfold Sh;rw [ht]
     refine ⟨rows,rfl,fun r hr=>?_,by omega⟩
     obtain ⟨i,hi'⟩:=wH.mp hr
     exact ⟨(hget i r hi').1,(hget i r hi').2.1⟩
    rw [PL.den]
    refine .inr (.inl ⟨blk,off,cap,by rw [hlen],by omega,hm,fun h=>(by cases h),m0h (fun r hr=>?_) fun i r hr=>(hget i r hr).2.2⟩)
    obtain ⟨i,hi'⟩:=wH.mp hr
    exact (hget i r hi').2.1
   ·rename_i fs ht
    simp only [yF,yI] at hk
    obtain ⟨xs,n',hn,_,hl,hxs,hf⟩:=DataW.trod_struct ht h
    cases hn
    have each: ∀ f∈fs.toList,∃ r:List PL,(Sh P n f.type r∧r.length=P.cellsOf f.type)∧Hq (PL.den (Va.reads w).ro) r ((cs.drop f.offset).take (P.cellsOf f.type)):=by
     intro f hf'
     obtain ⟨i,hi⟩:=wH.mp hf'
     rw [wW] at hi
     have h1:=hf i f hi
     have hi2:i<xs.length:=by rw [hxs];exact (Array.getElem?_eq_some_iff.mp hi).1
     rw [yX hi2] at h1
     obtain ⟨ys,hy1,hy2,hy3⟩:=ih f.type _ _ h1 (hk.2 f hf')
     have hle:=a1w _ _ hk.1 f hf'
     exact ⟨ys,⟨hy1,by rw [hy2,take_len (by omega)]⟩,hy3⟩
    obtain ⟨ps,hps⟩:=Xy _ each
    have hfl:=g0v cs hl fs.toList 0 hk.1
    rw [List.drop_zero] at hfl
    have hall:Hq (PL.den (Va.reads w).ro) ps.flatten cs:=by
     rw [←hfl]
     refine a0s (Hq.map_r ?_)
     exact hps.flip.mono fun p f _ h=>h.2
    exact ⟨ps.flatten,by unfold Sh;rw [ht];exact ⟨ps,rfl,hps.mono fun f p _ h=>h.1⟩,hall.length,hall⟩
   rename_i k e ht
   simp only [yF,beq_iff_eq] at hk
   obtain ⟨n',hn,hl,hi⟩:=trod_array ht h
   cases hn
   have each: ∀ i∈List.range k,∃ r:List PL,(Sh P n e r∧r.length=P.cellsOf e)∧Hq (PL.den (Va.reads w).ro) r ((cs.drop (i*P.cellsOf e)).take (P.cellsOf e)):=by
    intro i hi'
    have hlt:i<k:=by simpa using hi'
    obtain ⟨y',hy'⟩:=hi i hlt
    obtain ⟨ys,hy1,hy2,hy3⟩:=ih e _ _ hy' hk.2
    have hle:i*P.cellsOf e+P.cellsOf e≤cs.length:=by
     rw [hl,hk.1]
     have:(i+1)*P.cellsOf e≤k*P.cellsOf e:=wP _ hlt
     rw [wQ] at this;omega
    exact ⟨ys,⟨hy1,by rw [hy2,take_len hle]⟩,hy3⟩
   obtain ⟨ps,hps⟩:=Xy _ each
   have hfl:=b0f (P.cellsOf e) k cs (by rw [hl,hk.1])
   have hall:Hq (PL.den (Va.reads w).ro) ps.flatten cs:=by
    rw [←hfl]
    refine a0s (Hq.map_r ?_)
    exact hps.flip.mono fun p f _ h=>h.2
   refine ⟨ps.flatten,?_,hall.length,hall⟩
   unfold Sh;rw [ht]
   refine ⟨ps,rfl,by have:=hps.length;simpa using this.symm,fun p hp=>?_⟩
   obtain ⟨i,hi'⟩:=wH.mp hp
   obtain ⟨j,_,hj⟩:=hps.flip.get hi'
   exact hj.1
theorem y0l {t:TypeId} {v:Value} {d:DataW H} {p:List MemPlace} {b0:Nat} (K:List TypeId) (hK:K.all (p1p P K)=true) (hk:K.contains t=true) (hv:Value.okWide P w .any b0 t v) (hts:(match P.underlying t with
 |some (.struct _)|some (.array _ _)|some (.slice _)|some .bool|some (.int _)|some .string=>true
 |_=>false)=true) (h:DataW.Trod enc P w base spare held t v d p):
 ∃ (n:Nat) (xs:List PL),Sh P n t xs∧(V.w (match P.underlying t with
  |some (.struct _)|some (.array _ _)=>.agg (pls xs)
  |_=>.one (.pl (xs.headD .u)))).den (Va.reads w) v:=by
 obtain ⟨fuel,hf⟩:=h
 obtain ⟨xs,h1,h2,h3⟩:=w1v hK fuel t _ _ hf hk
 refine ⟨fuel,xs,h1,?_⟩
 have hd:=c1p (d:=Va.reads w) h3
 unfold Value.okWide at hv
 split at hv
 ·rename_i fs ht
  obtain ⟨cs,rfl,_⟩:=hv
  rw [ht]
  exact ⟨cs,rfl,hd⟩
 ·rename_i k e ht
  obtain ⟨cs,rfl,_⟩:=hv
  rw [ht]
  exact ⟨cs,rfl,hd⟩
 rename_i hn1 hn2
 have hq:(match P.underlying t with
  |some (.slice _)|some .bool|some (.int _)|some .string=>true
  |_=>false)=true:=by
  split at hts
  ·rename_i fs ht;exact absurd ht (hn1 fs)
  ·rename_i k e ht;exact absurd ht (hn2 k e)
  all_goals simp_all
 have hone:v.cells= #[v]:=by
  cases v<;>first|rfl|(exfalso;unfold Cell.okWide at hv;cases hu:P.underlying t with
   |none=>rw [hu] at hq;cases hq
   |some d=>rw [hu] at hv hq;cases d<;>first|(cases hq;done)|(simp [Cell.ok,hu] at hv))
 rw [hone] at hd
 have: ∃ x,xs=[x]∧L.den (Va.reads w) (.pl x) v:=by
  cases xs with
  |nil=>cases hd
  |cons x r=>
    cases hd with
    |cons g1 g2=>
      cases r with
      |nil=>exact ⟨x,rfl,g1⟩
      |cons _ _=>cases g2
 obtain ⟨x,rfl,hx⟩:=this
 split
 ·rename_i fs ht;exact absurd ht (hn1 fs)
 ·rename_i k e ht;exact absurd ht (hn2 k e)
 exact hx
end
end Go.Sy
