/- The layer that reckons a function out: what it says of states, operations, regions, loops, calls. CONDITIONS: those that each theorem names. -/
import Derived.Test.YtijngjidkdkmeaavE1
import Derived.Orders
import Derived.Laws.CopyRow
import Derived.LoopN
import Derived.ProofKit
import Derived.Below
import Derived.ChangeSame
import Derived.Carry
import Derived.ChangeSlices
import Derived.Lib.SmallJoins
import Derived.Handed
set_option linter.unusedVariables false
set_option linter.unusedSimpArgs false
namespace Go.Sy
def Zq :Op→Bool
 | .load .. | .convert .. | .slice .. | .store .. | .call _=>true
 |_=>false
section
variable {P:Program} {S S':St}
theorem w0r {t:TypeId} {v:V} (hm: ∀ k,v.has k=true→look S'.mem k=look S.mem k):h0f P S' t v=h0f P S t v:=by
 unfold h0f
 split
 ·rename_i k path
  rw [hm k (by simp [V.has,W.has,L.has])]
 ·rfl
 ·rfl
theorem x0e {s t:TypeId} {v:V} (hm: ∀ k,v.has k=true→look S'.mem k=look S.mem k):j0y P S' s t v=j0y P S s t v:=by
 unfold j0y
 split<;>try rfl
 rename_i k path len sz _ _
 rw [hm k (by simp [V.has,W.has,L.has])]
theorem r0k {t:TypeId} {v:V} {a b c:Option V} (hm: ∀ k,v.has k=true→look S'.mem k=look S.mem k):e0c P S' t v a b c=e0c P S t v a b c:=by
 unfold e0c
 split<;>try rfl
 rename_i k path _
 rw [hm k (by simp [V.has,W.has,L.has])]
theorem f0n {l:L} (hm: ∀ k,l.has k=true→look S'.mem k=look S.mem k):f0o S' l=f0o S l:=by
 unfold f0o
 split<;>try rfl
 rename_i k path len sz
 rw [hm k (by simp [L.has])]
theorem i0e : ∀ {cs:List L} (hm: ∀ k,cs.any (L.has k)=true→look S'.mem k=look S.mem k),a0y S' cs=a0y S cs
 | [],_=>rfl
 |l::r,hm=>by
  simp only [a0y]
  rw [f0n (fun k h=>hm k (by simp [h])),i0e (cs:=r) (fun k h=>hm k (by simp only [List.any_cons,h,Bool.or_true]))]
theorem v0t {v:V} (hm: ∀ k,v.has k=true→look S'.mem k=look S.mem k):o0c S' v=o0c S v:=by
 unfold o0c
 split
 ·rw [f0n (fun k h=>hm k h)]
 ·rw [i0e (fun k h=>hm k h)]
 ·rfl
theorem d0j : ∀ {l:List (Nat×Operand)} (hg: ∀ x∈l,S'.get x.2=S.get x.2),Qx S' l=Qx S l
 | [],_=>rfl
 |x::r,hg=>by
  simp only [Qx]
  rw [hg x (by simp),d0j (l:=r) fun y hy=>hg y (by simp [hy])]
theorem m0h : ∀ {l:List Operand} (hg: ∀ x∈l,S'.get x=S.get x),g0k S' l=g0k S l
 | [],_=>rfl
 |x::r,hg=>by
  simp only [g0k]
  rw [hg x (by simp),m0h (l:=r) fun y hy=>hg y (by simp [hy])]
theorem Qj : ∀ {l:List Operand} (hg: ∀ x∈l,S'.get x=S.get x) (hm: ∀ x∈l,∀ v,S.get x=some v→∀ k,v.has k=true→look S'.mem k=look S.mem k),Nk S' l=Nk S l
 | [],_,_=>rfl
 |x::r,hg,hm=>by
  simp only [Nk]
  rw [hg x (by simp),Qj (l:=r) (fun y hy=>hg y (by simp [hy])) (fun y hy=>hm y (by simp [hy]))]
  cases h:S.get x with
  |none=>rfl
  |some v=>simp only [Option.bind_some];rw [v0t (hm x (by simp) v h)]
theorem d0o {x:Option Operand} (hg: ∀ y∈x,S'.get y=S.get y):d0d S' x=d0d S x:=by
 cases x with
 |none=>rfl
 |some x=>simp only [d0d];rw [hg x rfl]
theorem Sv {x:Operand} {f g:V→Option V} (hg:S'.get x=S.get x) (hf: ∀ v,S.get x=some v→g v=f v):(S'.get x).bind g=(S.get x).bind f:=by
 rw [hg]
 cases h:S.get x with
 |none=>rfl
 |some v=>exact hf v h
theorem w0k {op:Op} (hg: ∀ x∈op.operands,S'.get x=S.get x) (hm:Zq op=true→∀ x∈op.operands,∀ v,S.get x=some v→∀ k,v.has k=true→look S'.mem k=look S.mem k):Fw P S' op=Fw P S op:=by
 unfold Fw
 split
 ·exact hg _ (by simp [Op.operands])
 ·exact hg _ (by simp [Op.operands])
 ·rw [hg _ (by simp [Op.operands]),hg _ (by simp [Op.operands]),hg _ (by simp [Op.operands])]
 ·unfold h0c
  rw [d0j fun x hx=>hg x.2 (by simp only [Op.operands];simp;exact ⟨x.1,by simpa using hx⟩)]
 ·exact Sv (hg _ (by simp [Op.operands])) fun v hv=>w0r (hm rfl _ (by simp [Op.operands]) v hv)
 ·exact Sv (hg _ (by simp [Op.operands])) fun v hv=>rfl
 ·rw [hg _ (by simp [Op.operands]),hg _ (by simp [Op.operands])]
 ·exact Sv (hg _ (by simp [Op.operands])) fun v hv=>rfl
 ·exact Sv (hg _ (by simp [Op.operands])) fun v hv=>x0e (hm rfl _ (by simp [Op.operands]) v hv)
 ·rename_i t x lo hi mx
  rw [hg x (by simp [Op.operands]),d0o (x:=lo) fun y hy=>hg y (by simp only [Option.mem_def] at hy;subst hy;simp [Op.operands]),
   d0o (x:=hi) fun y hy=>hg y (by simp only [Option.mem_def] at hy;subst hy;simp [Op.operands]),d0o (x:=mx) fun y hy=>hg y (by simp only [Option.mem_def] at hy;subst hy;simp [Op.operands])]
  split
  ·rename_i v l h m hv _ _ _
   exact r0k (hm rfl _ (by simp [Op.operands]) v hv)
  ·rfl
 ·exact Sv (hg _ (by simp [Op.operands])) fun v hv=>rfl
 ·exact Sv (hg _ (by simp [Op.operands])) fun v hv=>rfl
 ·rw [hg _ (by simp [Op.operands]),hg _ (by simp [Op.operands])]
 ·rw [hg _ (by simp [Op.operands]),hg _ (by simp [Op.operands])]
 ·exact Sv (hg _ (by simp [Op.operands])) fun v hv=>rfl
 ·rename_i f first caps
  rw [m0h fun x hx=>hg x (by simp [Op.operands];exact .inr (by simpa using hx))]
 ·split
  ·rename_i x t ha ht
   exact Sv (hg _ (by simp only [Op.operands,Call.operands];first|exact Array.mem_def.2 (by rw [ha];simp)|(simp;exact Array.mem_def.2 (by rw [ha];simp)))) fun v hv=>rfl
  ·rfl
 ·split
  ·rename_i x y ha
   rw [hg x (by simp only [Op.operands,Call.operands];first|exact Array.mem_def.2 (by rw [ha];simp)|(simp;exact Array.mem_def.2 (by rw [ha];simp))),hg y (by simp only [Op.operands,Call.operands];first|exact Array.mem_def.2 (by rw [ha];simp)|(simp;exact Array.mem_def.2 (by rw [ha];simp)))]
  ·rfl
 ·split
  ·rename_i x y ha
   rw [hg x (by simp only [Op.operands,Call.operands];first|exact Array.mem_def.2 (by rw [ha];simp)|(simp;exact Array.mem_def.2 (by rw [ha];simp))),hg y (by simp only [Op.operands,Call.operands];first|exact Array.mem_def.2 (by rw [ha];simp)|(simp;exact Array.mem_def.2 (by rw [ha];simp)))]
  ·rfl
 ·rfl
theorem t0x {k:Nat} {op:Op} (hg: ∀ x∈op.operands,S'.get x=S.get x):Ij P k S' op=Ij P k S op:=by
 unfold Ij
 split
 ·rfl
 ·rw [hg _ (by simp [Op.operands])]
 ·rw [d0j fun x hx=>hg x.2 (by simp only [Op.operands];simp;exact ⟨x.1,by simpa using hx⟩)]
 ·rw [hg _ (by simp [Op.operands]),hg _ (by simp [Op.operands])]
 ·rw [hg _ (by simp [Op.operands])]
 ·rfl
theorem o0k {e tx:TypeId} {v:V} (hm: ∀ k,v.has k=true→look S'.mem k=look S.mem k):y0c P S' e tx v=y0c P S e tx v:=by
 unfold y0c
 split<;>try rfl
 rename_i k path len sz _
 rw [hm k (by simp [V.has,W.has,L.has])]
theorem y0m {e tx:TypeId} {v:V} (hm: ∀ k,v.has k=true→look S'.mem k=look S.mem k):e1o P S' e tx v=e1o P S e tx v:=by
 unfold e1o
 split
 ·rfl
 ·exact o0k hm
end
end Go.Sy
namespace Go.Sy
def Fr (k:Nat) (S:St):Prop:=(∀ n v,look S.env n=some v→v.has k=false)∧(∀ n o,look S.mem n=some o→o.has k=false)∧k<px0
section
variable {P:Program} {S S':St} {k:Nat}
theorem Qw {x:Operand} {v:V} (hf:Fr k S) (h:S.get x=some v):v.has k=false:=by
 cases x with
 |tmp t=>exact hf.1 _ _ h
 |const c=>
  simp only [St.get] at h
  cases hl:lit c with
  |none=>simp [hl] at h
  |some y=>simp only [hl,Option.map_some,Option.some.injEq] at h;subst h;exact b1e hl k
 |func f=>simp only [St.get] at h;cases h;rfl
 | «global» g=>
  simp only [St.get,Option.some.injEq] at h;subst h
  have h1:=hf.2.2;have h2:=Tv
  simp only [V.has,W.has,L.has,beq_eq_false_iff_ne];omega
theorem t0w {cs:List L} (h:cs.any (L.has k)=false) (o n:Nat):(win cs o n).any (L.has k)=false:=by
 simp only [List.any_eq_false] at h ⊢
 intro x hx
 exact h x (List.mem_of_mem_drop (List.mem_of_mem_take hx))
theorem r0a {cs:List L} (h:cs.any (L.has k)=false): ∀ p,(rd cs p).any (L.has k)=false
 | []=>h
 |x::p=>t0w (r0a h p) _ _
theorem n0h {t:TypeId} {cs:List L} {x:W} (h:mkW P t cs=some x) (hc:cs.any (L.has k)=false):x.has k=false:=by
 unfold mkW at h
 split at h<;>try (cases h;done)
 ·cases h;exact hc
 ·cases h;exact hc
 ·split at h<;>cases h
  simpa [W.has] using hc
theorem g1m (hf:Fr k S) {t:TypeId} {v z:V} (h:h0f P S t v=some z):z.has k=false:=by
 unfold h0f at h
 split at h
 ·split at h<;>try (cases h;done)
  rename_i o ho
  split at h<;>try (cases h;done)
  obtain ⟨x,hx,rfl⟩:=Option.map_eq_some_iff.mp h
  exact n0h hx (r0a (hf.2.1 _ _ ho) _)
 ·split at h<;>try (cases h;done)
  obtain ⟨x,hx,rfl⟩:=Option.map_eq_some_iff.mp h
  refine n0h hx ?_
  simp only [List.any_eq_false,pls,List.mem_map]
  rintro y ⟨z,_,rfl⟩
  simp [L.has]
 ·cases h
theorem n0r {place:Nat→Option (Nat×Nat)}: ∀ {cells:List L} {ps:List (Nat×V)} {out:List L},Vw place cells ps=some out→cells.any (L.has k)=false→(∀ p∈ps,p.2.has k=false)→out.any (L.has k)=false:=
 fun h hc hp=>j0o h hc hp
theorem e0k (hf:Fr k S): ∀ {l:List (Nat×Operand)} {vs:List (Nat×V)},Qx S l=some vs→∀ p∈vs,p.2.has k=false
 | [],vs,h=>by simp only [Qx] at h;cases h;intro p hp;cases hp
 |x::r,vs,h=>by
  simp only [Qx] at h
  split at h
  ·rename_i v us hv hu
   cases h
   intro p hp
   rcases List.mem_cons.mp hp with rfl|hp
   ·exact Qw hf hv
   ·exact e0k hf hu p hp
  ·cases h
theorem d1l (hf:Fr k S) {t:TypeId} {l:List (Nat×Operand)} {v:V} (h:h0c P S t l=some v):v.has k=false:=by
 unfold h0c at h
 split at h
 ·rename_i hz hp _
  split at h<;>try (cases h;done)
  obtain ⟨x,hx,rfl⟩:=Option.map_eq_some_iff.mp h
  exact n0r hx (Pq hz k) (e0k hf hp)
 ·rename_i hz hp _
  split at h<;>try (cases h;done)
  obtain ⟨x,hx,rfl⟩:=Option.map_eq_some_iff.mp h
  exact n0r hx (Pq hz k) (e0k hf hp)
 ·cases h
theorem v0o (hf:Fr k S): ∀ {l:List Operand} {ks:List Nat},g0k S l=some ks→(ks.any fun j=>k==j)=false
 | [],ks,h=>by simp only [g0k] at h;cases h;rfl
 |x::r,ks,h=>by
  simp only [g0k] at h
  split at h
  ·rename_i j js hj hjs
   cases h
   have:=Qw hf hj
   simp only [V.has,W.has,L.has] at this
   simp only [List.any_cons,this,v0o hf hjs,Bool.or_self]
  ·cases h
theorem m1i {c:Bool} {x y:V} (hx:x.has k=false) (hy:y.has k=false):(h0e c x y).has k=false:=by
 unfold h0e
 split
 ·rfl
 ·cases c<;>assumption
theorem c0d {x:Operand} {f:V→Option V} {v:V} (hf:Fr k S) (h:(S.get x).bind f=some v) (hg: ∀ u,u.has k=false→f u=some v→v.has k=false):v.has k=false:=by
 obtain ⟨u,hu,h⟩:=bind_some h
 exact hg u (Qw hf hu) h
theorem j1o {s t:TypeId} {u v:V} (hu:u.has k=false) (h:j0y P S s t u=some v):v.has k=false:=by
 unfold j0y at h
 split at h
 ·split at h
  ·cases h;rfl
  ·unfold f1j at h
   split at h
   ·split at h
    ·cases h;rfl
    ·cases h
   ·cases h
 ·split at h
  ·cases h;rfl
  ·cases h
 ·cases h;rfl
 ·split at h
  ·split at h
   ·obtain ⟨x,_,rfl⟩:=Option.map_eq_some_iff.mp h;rfl
   ·cases h
  ·cases h
 ·split at h
  ·split at h
   ·obtain ⟨x,_,rfl⟩:=Option.map_eq_some_iff.mp h;rfl
   ·cases h
  ·cases h
 ·cases h
theorem y0o {t:TypeId} {u v:V} {a b c:Option V} (hu:u.has k=false) (h:e0c P S t u a b c=some v):v.has k=false:=by
 unfold e0c at h
 split at h
 ·split at h<;>try (cases h;done)
  split at h<;>try (cases h;done)
  split at h<;>cases h
  rfl
 ·split at h<;>try (cases h;done)
  split at h<;>try (cases h;done)
  split at h<;>try (cases h;done)
  split at h<;>cases h
  exact hu
 ·split at h<;>try (cases h;done)
  split at h<;>try (cases h;done)
  split at h<;>try (cases h;done)
  split at h<;>cases h
  exact hu
 ·split at h<;>try (cases h;done)
  split at h<;>try (cases h;done)
  split at h<;>try (cases h;done)
  split at h
  ·cases h;rfl
  ·split at h<;>try (cases h;done)
   split at h<;>cases h
   rfl
 ·cases h
theorem c1m {t f:Nat} {u v:V} (hu:u.has k=false) (h:g0y P t f u=some v):v.has k=false:=by
 unfold g0y at h
 split at h<;>try (cases h;done)
 split at h<;>try (cases h;done)
 split at h<;>try (cases h;done)
 split at h<;>cases h
 ·exact hu
 ·rfl
theorem n0n {t:TypeId} {u i v:V} (hu:u.has k=false) (h:Pz P t u i=some v):v.has k=false:=by
 unfold Pz at h
 split at h<;>try (cases h;done)
 split at h<;>try (cases h;done)
 ·split at h<;>try (cases h;done)
  split at h<;>cases h
  ·exact hu
  ·rfl
 ·split at h<;>try (cases h;done)
  ·split at h<;>cases h
   exact hu
  ·split at h<;>cases h
   rfl
theorem w0n {t f:Nat} {u v:V} (hu:u.has k=false) (h:g0a P t f u=some v):v.has k=false:=by
 unfold g0a at h
 split at h<;>try (cases h;done)
 split at h<;>try (cases h;done)
 unfold p0g at h
 split at h<;>try (cases h;done)
 obtain ⟨x,hx,rfl⟩:=Option.map_eq_some_iff.mp h
 exact n0h hx (t0w hu _ _)
theorem b1t {t:TypeId} {u i v:V} (hu:u.has k=false) (h:j0i P t u i=some v):v.has k=false:=by
 unfold j0i at h
 split at h<;>try (cases h;done)
 split at h<;>try (cases h;done)
 ·split at h<;>try (cases h;done)
  unfold p0g at h
  split at h<;>try (cases h;done)
  obtain ⟨x,hx,rfl⟩:=Option.map_eq_some_iff.mp h
  exact n0h hx (t0w hu _ _)
 ·split at h<;>cases h
  rfl
theorem p1k {op:BinOp} {t:TypeId} {x y v:V} (h:Mj P op t x y=some v):v.has k=false:=by
 unfold Mj at h
 split at h
 ·split at h<;>first
   |(cases h;done)
   |(cases h;rfl)
   |(split at h<;>cases h;rfl)
 ·split at h<;>first
   |(cases h;done)
   |(cases h;rfl)
 ·split at h
  ·split at h
   ·obtain ⟨x,_,rfl⟩:=Option.map_eq_some_iff.mp h;rfl
   ·cases h
  ·split at h
   ·obtain ⟨x,_,rfl⟩:=Option.map_eq_some_iff.mp h;rfl
   ·cases h
  ·obtain ⟨x,_,rfl⟩:=Option.map_eq_some_iff.mp h;rfl
 ·split at h
  ·split at h
   ·obtain ⟨x,_,rfl⟩:=Option.map_eq_some_iff.mp h;rfl
   ·obtain ⟨x,_,rfl⟩:=Option.map_eq_some_iff.mp h;rfl
   ·cases h
  ·cases h
 ·cases h
theorem f1o {op:Op} {v:V} (hf:Fr k S) (h:Fw P S op=some v):v.has k=false:=by
 unfold Fw at h
 split at h
 ·exact Qw hf h
 ·exact Qw hf h
 ·split at h
  ·rename_i h1 h2 h3
   cases h
   exact m1i (Qw hf h2) (Qw hf h3)
  ·cases h
 ·exact d1l hf h
 ·exact c0d hf h fun u _ h=>g1m hf h
 ·refine c0d hf h fun u hu h=>?_
  unfold t1n at h
  split at h<;>cases h<;>exact hu
 ·split at h
  ·exact p1k h
  ·cases h
 ·refine c0d hf h fun u hu h=>?_
  unfold unV at h
  split at h<;>cases h<;>rfl
 ·exact c0d hf h fun u hu h=>j1o hu h
 ·split at h
  ·rename_i h1 _ _ _
   exact y0o (Qw hf h1) h
  ·cases h
 ·exact c0d hf h fun u hu h=>c1m hu h
 ·exact c0d hf h fun u hu h=>w0n hu h
 ·split at h
  ·rename_i h1 _
   exact n0n (Qw hf h1) h
  ·cases h
 ·split at h
  ·rename_i h1 _
   exact b1t (Qw hf h1) h
  ·cases h
 ·refine c0d hf h fun u hu h=>?_
  unfold c0r at h
  split at h
  ·rename_i xs
   obtain ⟨x,hx,rfl⟩:=Option.map_eq_some_iff.mp h
   simp only [V.has,List.any_eq_false] at hu ⊢
   simpa using hu x (List.mem_of_getElem? hx)
  ·cases h
 ·split at h
  ·obtain ⟨ks,hk,rfl⟩:=Option.map_eq_some_iff.mp h
   exact v0o hf hk
  ·cases h
 ·split at h
  ·refine c0d hf h fun u hu h=>?_
   unfold w0s at h
   split at h<;>cases h<;>rfl
  ·cases h
 ·split at h
  ·split at h
   ·unfold d0l at h
    split at h<;>cases h<;>rfl
   ·cases h
  ·cases h
 ·split at h
  ·split at h
   ·unfold d0l at h
    split at h<;>cases h<;>rfl
   ·cases h
  ·cases h
 ·cases h
theorem e1l {j:Nat} {op:Op} {r:V×Ob} (hf:Fr k S) (hj:k≠j) (h:Ij P j S op=some r):r.1.has k=false∧r.2.has k=false:=by
 have hkj:(k==j)=false:=by simpa using hj
 unfold Ij at h
 split at h
 ·obtain ⟨cs,hc,rfl⟩:=Option.map_eq_some_iff.mp h
  exact ⟨by simpa [V.has,W.has,L.has] using hj,Pq hc k⟩
 ·split at h<;>cases h
  rename_i v hv
  exact ⟨by simpa [V.has,W.has,L.has] using hj,f0e (Qw hf hv)⟩
 ·split at h<;>try (cases h;done)
  split at h<;>try (cases h;done)
  rename_i hz hp
  split at h<;>try (cases h;done)
  obtain ⟨cs,hc,rfl⟩:=Option.map_eq_some_iff.mp h
  exact ⟨by simpa [V.has,W.has,L.has] using hj,n0r hc (any_replicate (Pq hz k) _) (e0k hf hp)⟩
 ·split at h<;>try (cases h;done)
  split at h<;>try (cases h;done)
  rename_i hz
  split at h<;>cases h
  exact ⟨by simpa [V.has,W.has,L.has] using hj,any_replicate (Pq hz k) _⟩
 ·split at h<;>try (cases h;done)
  split at h<;>cases h
  refine ⟨by simpa [V.has,W.has,L.has] using hj,?_⟩
  simp only [Ob.has,k0f,List.any_eq_false,List.mem_map]
  rintro x ⟨y,_,rfl⟩
  simp [L.has]
 ·cases h
theorem y0l {e tx:TypeId} {v:V} {r:List L×Nat} (hf:Fr k S) (h:y0c P S e tx v=some r):r.1.any (L.has k)=false:=by
 unfold y0c at h
 split at h
 ·split at h<;>cases h
  exact Pk k _
 ·split at h<;>try (cases h;done)
  rename_i o ho
  split at h<;>cases h
  exact r0a (hf.2.1 _ _ ho) _
 ·split at h<;>cases h
  simp only [k0f,List.any_eq_false,List.mem_map]
  rintro x ⟨y,_,rfl⟩
  simp [L.has]
 ·cases h
theorem l1k {e tx:TypeId} {v:V} {r:List L×Nat} (hf:Fr k S) (h:e1o P S e tx v=some r):r.1.any (L.has k)=false:=by
 unfold e1o at h
 split at h
 ·split at h<;>try (cases h;done)
  rename_i z hz
  split at h<;>cases h
  have:=Pq hz k
  simp only [List.any_cons,List.any_nil,Bool.or_false] at this
  rw [List.any_eq_false]
  intro x hx
  rw [(List.mem_replicate.mp hx).2,this];simp
 ·exact y0l hf h
end
end Go.Sy
namespace Go.Sy
theorem Jy.take {w:World} {b o:Nat} {vals:List Value} (h:Jy w b o vals) (n:Nat):Jy w b o (vals.take n):=by
 intro j v hv
 rw [List.getElem?_take] at hv
 split at hv
 ·exact h j v hv
 ·cases hv
theorem f1b {P:Program} {B:Base} {d:Va} {S:St} {a:Act} {w:World} (h:Sim B d S a w) {e tx:TypeId} {x:V} {y:Value} {cs:List L} {n m:Nat} (hv:y0c P S e tx x=some (cs,n)) (hx:x.den d y) (hm:m≤n):
  ∃ vals:List Value,(Builtin.lenOf y).run P w=.ok n w∧(Builtin.firstCells (P.cellsOf e) m y).run P w=.ok (vals.take (m*P.cellsOf e)).toArray w∧Fv (L.den d) cs vals∧vals.length=n*P.cellsOf e:=by
 unfold y0c at hv
 split at hv
 ·rename_i e' ex sz rows hu
  split at hv<;>cases hv
  rename_i hc
  change PL.den _ _ _ at hx;rw [PL.den] at hx
  rcases hx with ⟨rfl,rfl⟩|⟨blk,off,cap,rfl,hlc,hcm,_,hrows⟩|⟨sa,cap,rfl,rfl,hcm,_⟩
  ·exact ⟨[],by simp [Builtin.lenOf],by simp [Builtin.firstCells],.nil,by simp⟩
  ·have hrows':PL.denRows d.ro blk (P.cellsOf e) rows off:=by
    rcases hc with rfl|rfl
    ·exact hrows
    ·simp [PL.denRows]
   obtain ⟨vals,hd,hcell,hl⟩:=Vk h.ro hrows'
   refine ⟨vals,by simp [Builtin.lenOf],?_,hd,hl⟩
   simp only [Builtin.firstCells]
   exact Kq (hcell.take _) (by rw [List.length_take,hl];exact Nat.min_eq_left (Nat.mul_le_mul_right _ hm))
  ·obtain rfl:m=0:=by simpa using hm
   exact ⟨[],by simp [Builtin.lenOf],by simp only [Builtin.firstCells,Nat.zero_mul,List.take_nil];exact run_loadCells_list _ sa [] (fun j v hv=>by simp at hv),.nil,by simp⟩
 ·rename_i e' k path len sz hu
  split at hv<;>try (cases hv;done)
  rename_i o hk
  split at hv<;>cases hv
  rename_i hc
  obtain ⟨hp,hps,rfl⟩:=hc
  obtain ⟨vals,hd,hcell,hl⟩:=h.readObj hk hp
  rw [hps] at hl
  obtain ⟨oo,cap,rfl,hlc,hcm,ho,_⟩:=hx
  have hcell':Jy w (d.at_ k) oo vals:=by
   rcases ho with ho|rfl
   ·have hz:n=0:=by omega
    rw [hz,Nat.zero_mul] at hl
    have:=List.eq_nil_of_length_eq_zero hl
    subst this;exact fun j v hv=>by simp at hv
   ·exact hcell
  refine ⟨vals,by simp [Builtin.lenOf],?_,hd,hl⟩
  simp only [Builtin.firstCells]
  exact Kq (hcell'.take _) (by rw [List.length_take,hl];exact Nat.min_eq_left (Nat.mul_le_mul_right _ hm))
 ·rename_i bs hu
  split at hv<;>cases hv
  rename_i hc
  change PL.den _ _ _ at hx;rw [PL.den] at hx
  obtain ⟨rfl,_⟩:=hx
  have hext:((⟨bs.toArray⟩:ByteArray).extract 0 m).data.map (fun b=>Value.int .u8 b.toNat)=((bs.map fun b=>Value.int .u8 b.toNat).take (m*P.cellsOf e)).toArray:=by
   apply Array.ext';simp [ByteArray.data_extract,hc,List.map_take]
  exact ⟨bs.map fun b=>.int .u8 b.toNat,by simp [Builtin.lenOf,b0z],by simp only [Builtin.firstCells,hext,Sem.run_pure],Yj bs,by simp [hc]⟩
 ·cases hv
def copyV (P:Program) (S:St) (t tx:TypeId) (x y:V):Option (V×Nat×Ob):=
 match P.underlying t with
 |some (.slice e)=>match y0c P S e tx y,x with
  |some r,.w (.one (.s k path len sz))=>match look S.mem k with
   |some o=>if k<1000000∧sz=P.cellsOf e∧P.cellsOf e≠0∧pok o.cells.length path∧psz o.cells.length path=len*sz then
     some (.w (.one (.pl (.i (min r.2 len:Nat)))),k,⟨o.row,wr o.cells ((0,min r.2 len*sz)::path) (r.1.take (min r.2 len*sz))⟩)
    else none
   |none=>none
  |_,_=>none
 |_=>none
theorem e1t {α:Type} (c:List α) (o:Nat):upd c o 0 []=c:=by simp [upd]
theorem j1l {P:Program} {B:Base} {d:Va} {S:St} {a:Act} {w:World} (h:Sim B d S a w) {t tx ty:TypeId} {x y v:V} {k:Nat} {ob:Ob} {p z:Value} (hv:copyV P S t tx x y=some (v,k,ob)) (hp:x.den d p) (hz:y.den d z):
  ∃ u w',(Builtin.copy_ #[t,tx] ty #[p,z]).run P w=.ok u w'∧v.den d u∧Sim B d ⟨S.env,Qk S.mem k ob⟩ a w':=by
 unfold copyV at hv
 split at hv<;>try (cases hv;done)
 rename_i e hu
 split at hv<;>try (cases hv;done)
 rename_i r k' path len sz hsrc
 split at hv<;>try (cases hv;done)
 rename_i o hk
 split at hv<;>cases hv
 rename_i hc
 obtain ⟨hkl,hsz,h0,hpk,hps⟩:=hc
 subst hsz
 obtain ⟨cs,n⟩:=r
 obtain ⟨new,hlen,hfirst,hnd,hnl⟩:=f1b h (m:=min n len) hsrc hz (Nat.min_le_left _ _)
 obtain ⟨oo,cap,rfl,hlc,hcm,ho,_⟩:=hp
 have hsize:=Ky h0 w
 have hm:Nat.min n len=min n len:=rfl
 obtain ⟨vals,spare,tyo,fr,hh,hfr,hd,hs,hl⟩:=h.mem k o hk hkl
 have hlv:=hd.length
 have hle:=e0i hpk
 have htl:(new.take (min n len*P.cellsOf e)).length=min n len*P.cellsOf e:=by
  rw [List.length_take,hnl];exact Nat.min_eq_left (Nat.mul_le_mul_right _ (Nat.min_le_left _ _))
 have hpk2:pok o.cells.length ((0,min n len*P.cellsOf e)::path):=⟨hpk,by rw [hps];simp;exact Nat.mul_le_mul_right _ (Nat.min_le_right _ _)⟩
 have hctl:(cs.take (min n len*P.cellsOf e)).length=psz o.cells.length ((0,min n len*P.cellsOf e)::path):=by
  have:=(hnd.take (min n len*P.cellsOf e)).length
  rw [htl] at this;simpa [psz] using this
 have hnum:V.den d (.w (.one (.pl (.i (min n len:Nat))))) (goInt ((min n len:Nat):Int)):=by
  show PL.den _ _ _;rw [PL.den];rfl
 have hin:Qy path+min n len*P.cellsOf e≤vals.length:=by
  have:min n len*P.cellsOf e≤len*P.cellsOf e:=Nat.mul_le_mul_right _ (Nat.min_le_right _ _)
  omega
 have hset: ∃ w',(storeCells ⟨d.at_ k,oo,none⟩ (new.take (min n len*P.cellsOf e)) 0).run P w=.ok () w'∧Sim B d ⟨S.env,Qk S.mem k ⟨o.row,wr o.cells ((0,min n len*P.cellsOf e)::path) (cs.take (min n len*P.cellsOf e))⟩⟩ a w':=by
  rcases ho with ho|rfl
  ·have hz0:min n len=0:=by omega
   rw [hz0] at hctl hpk2 ⊢
   simp only [Nat.zero_mul,List.take_zero,storeCells,Sem.run_pure] at hctl hpk2 ⊢
   refine ⟨w,rfl,?_⟩
   have e2:wr o.cells ((0,0)::path) []=o.cells:=by
    rw [e1p _ _ hpk2 (by simpa using hctl)]
    simp only [psz];exact e1t _ _
   rw [e2]
   have hsame: ∀ {j p},look (Qk S.mem k ⟨o.row,o.cells⟩) j=some p→look S.mem j=some p:=by
    intro j p hp
    rw [Dj] at hp
    split at hp
    ·rename_i e;subst e;rw [hk] at hp;cases hp;exact hk
    ·exact hp
   have hsome: ∀ j,(look (Qk S.mem k ⟨o.row,o.cells⟩) j).isSome=true→(look S.mem j).isSome=true:=by
    intro j hj
    rw [Dj] at hj
    split at hj
    ·rename_i e;subst e;rw [hk];rfl
    ·exact hj
   refine ⟨h.defers,h.nt,h.env,fun j p hp hjl=>?_,fun k1 k2 h1 h2=>h.inj k1 k2 (hsome _ h1) (hsome _ h2),fun k' hk'=>h.own k' (hsome _ hk'),h.ro,h.old,h.os,h.tape,h.output,h.size,h.block,h.gat,fun j p hp hjl=>h.glob j p (hsame hp) hjl,fun j p q hp=>h.fix j p q (hsame hp),h.fxn,fun b l hb=>h.mp b l (hsame hb)⟩
   exact h.mem j p (hsame hp) hjl
  ·have hst:=c0i P (d.at_ k) (Qy path) tyo fr (new.take (min n len*P.cellsOf e)) 0 (vals++spare).toArray w hh (by simpa using hfr) (by rw [htl];simp;omega) (Ov (hnd.take _))
   have e3:upd (vals++spare).toArray.toList (Qy path+0) (new.take (min n len*P.cellsOf e)).length (new.take (min n len*P.cellsOf e))=upd vals (Qy path) (min n len*P.cellsOf e) (new.take (min n len*P.cellsOf e))++spare:=by
    rw [htl,Nat.add_zero]
    show upd (vals++spare) _ _ _=_
    rw [b0a _ _ _ _ _ (by omega)]
   rw [e3] at hst
   have hul:(upd vals (Qy path) (min n len*P.cellsOf e) (new.take (min n len*P.cellsOf e))).length=vals.length:=f0q _ _ _ _ htl (by omega)
   refine ⟨_,hst,h.write hk hkl (cells:=wr o.cells ((0,min n len*P.cellsOf e)::path) (cs.take (min n len*P.cellsOf e))) (vals:=upd vals (Qy path) (min n len*P.cellsOf e) (new.take (min n len*P.cellsOf e))) (spare:=spare) (ty:=tyo) (fr:=fr) ?_ hs ?_ ?_ (setRow_heap w _ _ _ tyo fr hh) (fun b hb=>setRow_other w _ b _ hb) (setRow_size _ _ _) rfl rfl rfl⟩
   ·rw [e1p _ _ hpk2 hctl]
    have e4:Qy ((0,min n len*P.cellsOf e)::path)=Qy path:=by simp [Qy]
    rw [e4]
    exact hd.upd (hnd.take _) _ _
   ·simp only [List.length_append,hul];simpa using hfr
   ·simp only [List.length_append,hul];simpa using hl
 obtain ⟨w',hst,hsim⟩:=hset
 refine ⟨_,w',?_,hnum,hsim⟩
 unfold Builtin.copy_
 simp [run_underlying hu w,hlen,hsize,hm,hfirst,hst,Result.andThen]
end Go.Sy
namespace Go.Sy
inductive Eff where
 |val (v:V)
 |new (v:V) (ms:List (Nat×Ob))
 |app (v:V) (j:Nat) (o:Ob)
 |sto (v:V) (k:Nat) (o:Ob)
def e1n (dst:Option Tmp) (v:V) (e:List (Nat×V)):List (Nat×V):=match dst with
 |some n=>(n,v)::e
 |none=>e
def Eff.on (dst:Option Tmp):Eff→St→St
 | .val v,S=>⟨e1n dst v S.env,S.mem⟩
 | .new v ms,S=>⟨e1n dst v S.env,ms++S.mem⟩
 | .app v j o,S=>⟨e1n dst v (b0m j S.env),(j,o)::Yy j S.mem⟩
 | .sto v k o,S=>⟨e1n dst v S.env,Qk S.mem k o⟩
def Eff.names :Eff→List Nat
 | .new _ ms=>ms.map (·.1)
 |_=>[]
def Eff.mut :Eff→Bool
 | .app .. | .sto .. =>true
 |_=>false
def e0a (P:Program) (S:St) (t:TypeId) (a x:V):Option Eff:=
 match a,x with
 | .w (.one (.p k path)),.w v=>match look S.mem k with
  |some o=>if k<1000000∧pok o.cells.length path∧psz o.cells.length path=P.cellsOf t∧P.cellsOf t≠0∧v.cells.length=P.cellsOf t then some (.sto .any k ⟨o.row,wr o.cells path v.cells⟩) else none
  |none=>none
 |_,_=>none
def c0e (P:Program) (k:Nat) (S:St) (t tx:TypeId) (s x:V):Option Eff:=
 match P.underlying t with
 |some (.slice e)=>
  match Ik P e,e1o P S e tx x with
  |some z,some r=>
   if z.length=P.cellsOf e∧P.cellsOf e≠0∧P.bytesOf e≠0 then
    match s with
    | .w (.one (.s j [] len sz))=>
     match look S.mem j with
     |some o=>if (j<500000∨750000≤j∧j<1000000)∧o.row=true∧sz=P.cellsOf e∧o.cells.length=len*sz∧(len+r.2)*P.bytesOf e≤140737488355328∧(o.cells++r.1).any (L.has j)=false then
       some (.app (.w (.one (.s j [] (len+r.2) sz))) j ⟨true,o.cells++r.1⟩)
      else none
     |none=>none
    | .w (.one (.pl (.R true sz rows)))=>
     if sz=P.cellsOf e∨rows=[] then
      if r.2=0 then some (.val (.w (.one (.pl (.R true (P.cellsOf e) rows)))))
      else if (rows.length+r.2)*P.bytesOf e≤140737488355328∧r.1.any (L.has k)=false then
       some (.new (.w (.one (.s k [] (rows.length+r.2) (P.cellsOf e)))) [(k,⟨true,pls rows.flatten++r.1⟩)])
      else none
     else none
    |_=>none
   else none
  |_,_=>none
 |_=>none
def j1m (x:Option (V×Nat×Ob)):Option Eff:=x.map fun r=>.sto r.1 r.2.1 r.2.2
def Lv (P:Program) (S:St) (dst:Option Tmp) (op:Op):Option Eff:=
 match op with
 | .store t x y=>match S.get x,S.get y,dst with
  |some u,some v,none=>e0a P S t u v
  |_,_,_=>none
 | .call ⟨.builtin .append,args,ts⟩=>match args.toList,ts.toList,dst with
  | [x,y],[t,tx],some k=>match S.get x,S.get y with
   |some u,some v=>c0e P k S t tx u v
   |_,_=>none
  |_,_,_=>none
 | .call ⟨.builtin .copy,args,ts⟩=>match args.toList,ts.toList with
  | [x,y],[t,tx]=>match S.get x,S.get y with
   |some u,some v=>j1m (copyV P S t tx u v)
   |_,_=>none
  |_,_=>none
 |op=>match Fw P S op with
  |some v=>some (.val v)
  |none=>match dst with
   |some k=>(Ij P k S op).map fun r=>.new r.1 [(k,r.2)]
   |none=>none
structure Eqv (S S':St):Prop where
 env: ∀ n,look S'.env n=look S.env n
 mem: ∀ k,look S'.mem k=look S.mem k
theorem Eqv.rfl' (S:St):Eqv S S:=⟨fun _=>rfl,fun _=>rfl⟩
theorem Eqv.symm {S S':St} (h:Eqv S S'):Eqv S' S:=⟨fun n=>(h.env n).symm,fun n=>(h.mem n).symm⟩
theorem Eqv.trans {S T U:St} (h:Eqv S T) (k:Eqv T U):Eqv S U:=⟨fun n=>(k.env n).trans (h.env n),fun n=>(k.mem n).trans (h.mem n)⟩
theorem Eqv.get {S S':St} (h:Eqv S S') (x:Operand):S'.get x=S.get x:=by
 cases x<;>first|exact h.env _|rfl
theorem Sim.eqv {B:Base} {d:Va} {S S':St} {a:Act} {w:World} (hs:Sim B d S a w) (h:Eqv S S'):Sim B d S' a w:=by
 refine ⟨hs.defers,hs.nt,fun n v hv=>hs.env n v (by rw [←h.env];exact hv),fun k o hk=>hs.mem k o (by rw [←h.mem];exact hk),fun k k' h1 h2=>hs.inj k k' (by rw [←h.mem];exact h1) (by rw [←h.mem];exact h2),fun k h1=>hs.own k (by rw [←h.mem];exact h1),hs.ro,hs.old,hs.os,hs.tape,hs.output,hs.size,hs.block,hs.gat,fun k o hk=>hs.glob k o (by rw [←h.mem];exact hk),fun k o p hk=>hs.fix k o p (by rw [←h.mem];exact hk),hs.fxn,fun b l hb=>hs.mp b l (by rw [←h.mem];exact hb)⟩
section
variable {P:Program} {S S':St}
theorem m0a {dst:Option Tmp} {op:Op} (hg: ∀ x∈op.operands,S'.get x=S.get x) (hm:Zq op=true→∀ x∈op.operands,∀ v,S.get x=some v→∀ k,v.has k=true→look S'.mem k=look S.mem k):Lv P S' dst op=Lv P S dst op:=by
 unfold Lv
 split
 ·rename_i t x y
  rw [hg x (by simp [Op.operands]),hg y (by simp [Op.operands])]
  split
  ·rename_i u v hu hv
   unfold e0a
   split
   ·rename_i k path v'
    rw [hm rfl x (by simp [Op.operands]) _ hu k (by simp [V.has,W.has,L.has])]
   ·rfl
  ·rfl
 ·rename_i args ts
  split
  ·rename_i x y t tx k ha ht
   have hx:x∈(Op.call ⟨.builtin .append,args,ts⟩).operands:=by simp only [Op.operands,Call.operands];first|exact Array.mem_def.2 (by rw [ha];simp)|(simp;exact Array.mem_def.2 (by rw [ha];simp))
   have hy:y∈(Op.call ⟨.builtin .append,args,ts⟩).operands:=by simp only [Op.operands,Call.operands];first|exact Array.mem_def.2 (by rw [ha];simp)|(simp;exact Array.mem_def.2 (by rw [ha];simp))
   rw [hg x hx,hg y hy]
   split
   ·rename_i u v hu hv
    unfold c0e
    split
    ·rw [y0m (hm rfl y hy v hv)]
     split
     ·split
      ·split
       ·rename_i j _ _
        rw [hm rfl x hx _ hu j (by simp [V.has,W.has,L.has])]
       ·rfl
       ·rfl
      ·rfl
     ·rfl
    ·rfl
   ·rfl
  ·rfl
 ·rename_i args ts
  split
  ·rename_i x y t tx ha ht
   have hx:x∈(Op.call ⟨.builtin .copy,args,ts⟩).operands:=by simp only [Op.operands,Call.operands];first|exact Array.mem_def.2 (by rw [ha];simp)|(simp;exact Array.mem_def.2 (by rw [ha];simp))
   have hy:y∈(Op.call ⟨.builtin .copy,args,ts⟩).operands:=by simp only [Op.operands,Call.operands];first|exact Array.mem_def.2 (by rw [ha];simp)|(simp;exact Array.mem_def.2 (by rw [ha];simp))
   rw [hg x hx,hg y hy]
   split
   ·rename_i u v hu hv
    congr 1
    unfold copyV
    split
    ·rw [o0k (hm rfl y hy v hv)]
     split
     ·rename_i k path len sz _
      rw [hm rfl x hx _ hu k (by simp [V.has,W.has,L.has])]
     ·rfl
    ·rfl
   ·rfl
  ·rfl
 ·rw [w0k hg hm]
  split
  ·rfl
  ·split
   ·rw [t0x hg]
   ·rfl
def Eff.free (k:Nat):Eff→Bool
 | .val v=>!v.has k
 | .new v ms=>!v.has k&&ms.all fun m=>!m.2.has k
 | .app v j o=>!v.has k&& !o.has k&&k !=j
 | .sto v j o=>!v.has k&& !o.has k&&k !=j
theorem any_append' {k:Nat} {a b:List L} (ha:a.any (L.has k)=false) (hb:b.any (L.has k)=false):(a++b).any (L.has k)=false:=by
 rw [List.any_append,ha,hb];rfl
theorem e1j {k:Nat} {c d:List L} (hc:c.any (L.has k)=false): ∀ {p:Path} {d:List L},d.any (L.has k)=false→(wr c p d).any (L.has k)=false
 | [],d,hd=>hd
 |x::p,d,hd=>e1j (d:=d) hc (p:=p) (e1k (r0a hc p) hd _ _)
theorem j1z {k:Nat} {c:List L} (hc:c.any (L.has k)=false) (n:Nat):(c.take n).any (L.has k)=false:=by
 simp only [List.any_eq_false] at hc ⊢
 intro x hx
 exact hc x (List.mem_of_mem_take hx)
theorem u1t {k j len sz len' sz':Nat} {p p':Path} (h:V.has k (.w (.one (.s j p len sz)))=false):V.has k (.w (.one (.s j p' len' sz')))=false:=h
theorem i1u {k:Nat} {dst:Option Tmp} {op:Op} {e:Eff} (hf:Fr k S) (h:Lv P S dst op=some e) (hk:k∉e.names):e.free k=true:=by
 unfold Lv at h
 split at h
 ·split at h<;>try (cases h;done)
  rename_i u v hu hv
  unfold e0a at h
  split at h<;>try (cases h;done)
  split at h<;>try (cases h;done)
  rename_i o ho
  split at h<;>cases h
  have hj:=Qw hf hu
  simp only [V.has,W.has,L.has,beq_eq_false_iff_ne] at hj
  simp only [Eff.free,V.has,Bool.not_false,Bool.true_and,Bool.and_eq_true,Bool.not_eq_true',bne_iff_ne]
  exact ⟨e1j (d:=[]) (hf.2.1 _ _ ho) (f0e (Qw hf hv)),hj⟩
 ·split at h<;>try (cases h;done)
  split at h<;>try (cases h;done)
  rename_i u v hu hv
  unfold c0e at h
  split at h<;>try (cases h;done)
  split at h<;>try (cases h;done)
  rename_i z r hz hr
  have hn:=l1k hf hr
  split at h<;>try (cases h;done)
  split at h
  ·split at h<;>try (cases h;done)
   rename_i o ho
   split at h<;>cases h
   have hj:=Qw hf hu
   have hj':=hj
   simp only [V.has,W.has,L.has,beq_eq_false_iff_ne] at hj'
   simp only [Eff.free,u1t hj,Bool.not_false,Bool.true_and,Bool.and_eq_true,Bool.not_eq_true',bne_iff_ne]
   exact ⟨any_append' (hf.2.1 _ _ ho) hn,hj'⟩
  ·split at h<;>try (cases h;done)
   split at h
   ·cases h;rfl
   ·split at h<;>cases h
    simp only [Eff.names,List.map_cons,List.map_nil,List.mem_singleton] at hk
    simp only [Eff.free,V.has,W.has,L.has,List.all_cons,List.all_nil,Bool.and_true,Bool.and_eq_true,Bool.not_eq_true',beq_eq_false_iff_ne]
    exact ⟨hk,any_append' (Pk k _) hn⟩
  ·cases h
 ·split at h<;>try (cases h;done)
  split at h<;>try (cases h;done)
  rename_i u v hu hv
  unfold j1m at h
  obtain ⟨r,hr,rfl⟩:=Option.map_eq_some_iff.mp h
  unfold copyV at hr
  split at hr<;>try (cases hr;done)
  split at hr<;>try (cases hr;done)
  rename_i r' _ _ _ _ hs
  split at hr<;>try (cases hr;done)
  rename_i o ho
  split at hr<;>cases hr
  have hj:=Qw hf hu
  simp only [V.has,W.has,L.has,beq_eq_false_iff_ne] at hj
  simp only [Eff.free,V.has,W.has,L.has,Bool.not_false,Bool.true_and,Bool.and_eq_true,Bool.not_eq_true',bne_iff_ne]
  exact ⟨e1j (d:=[]) (hf.2.1 _ _ ho) (j1z (y0l hf hs) _),hj⟩
 ·split at h
  ·rename_i v hv
   cases h
   simp only [Eff.free,Bool.not_eq_true']
   exact f1o hf hv
  ·split at h<;>try (cases h;done)
   obtain ⟨r,hr,rfl⟩:=Option.map_eq_some_iff.mp h
   simp only [Eff.names,List.map_cons,List.map_nil,List.mem_singleton] at hk
   have:=e1l hf hk hr
   simp only [Eff.free,this.1,this.2,List.all_cons,List.all_nil,Bool.not_false,Bool.and_self]
end
end Go.Sy
namespace Go.Sy
def dedup {α:Type}:List (Nat×α)→List (Nat×α)
 | []=>[]
 |x::r=>x::(dedup r).filter fun y=>y.1 !=x.1
theorem d0m {α:Type} {a:Nat}: ∀ {l:List (Nat×α)} {n:Nat},look (l.filter fun y=>y.1 !=a) n=if n=a then none else look l n
 | [],n=>by simp [look]
 |x::r,n=>by
  rw [List.filter_cons]
  by_cases h:x.1=a
  ·rw [if_neg (by simp [h]),d0m]
   by_cases hn:n=a
   ·rw [if_pos hn,if_pos hn]
   ·rw [if_neg hn,if_neg hn];simp only [look];rw [if_neg (fun e=>hn (e.trans h))]
  ·rw [if_pos (by simp [h])]
   simp only [look]
   by_cases hn:n=x.1
   ·rw [if_pos hn,if_neg (fun e=>h (hn.symm.trans e)),if_pos hn]
   ·rw [if_neg hn,d0m,if_neg hn]
theorem g0d {α:Type}: ∀ {l:List (Nat×α)} {n:Nat},look (dedup l) n=look l n
 | [],n=>rfl
 |x::r,n=>by
  simp only [dedup,look]
  by_cases h:n=x.1
  ·rw [if_pos h,if_pos h]
  ·rw [if_neg h,if_neg h,d0m,if_neg h,g0d]
theorem j0b {α:Type}: ∀ {l:List (Nat×α)} {y:Nat×α},y∈dedup l→look l y.1=some y.2
 | [],y,h=>by cases h
 |x::r,y,h=>by
  simp only [dedup,List.mem_cons,List.mem_filter,bne_iff_ne] at h
  simp only [look]
  rcases h with rfl|⟨h,hne⟩
  ·rw [if_pos rfl]
  ·rw [if_neg hne];exact j0b h
theorem b1x {k:Nat}: ∀ {l:List (Nat×V)},(∀ x∈l,x.2.has k=false)→r0f k l=false
 | [],_=>rfl
 |x::r,h=>by rw [r0f,h x (by simp),b1x (l:=r) fun y hy=>h y (by simp [hy])];rfl
theorem b1w {k:Nat}: ∀ {l:List (Nat×Ob)},(∀ x∈l,x.2.has k=false)→p0v k l=false
 | [],_=>rfl
 |x::r,h=>by rw [p0v,h x (by simp),b1w (l:=r) fun y hy=>h y (by simp [hy])];rfl
def St.norm (S:St):St:=⟨dedup S.env,dedup S.mem⟩
theorem e0l (S:St):Eqv S S.norm:=⟨fun _=>g0d,fun _=>g0d⟩
theorem Xw {S:St} {k:Nat} (h:Fr k S):fresh k S.norm=true:=by
 simp only [fresh,St.norm,b1x (fun x hx=>h.1 _ _ (j0b hx)),b1w (fun x hx=>h.2.1 _ _ (j0b hx)),Bool.or_self,Bool.not_false,Bool.and_true]
 exact decide_eq_true h.2.2
theorem Xj {dst:Option Tmp} {v:V} {e:List (Nat×V)} {n:Nat} (h:dst≠some n):look (e1n dst v e) n=look e n:=by
 cases dst with
 |none=>rfl
 |some m=>simp only [e1n,look];rw [if_neg (fun e=>h (by rw [e]))]
theorem Wy {v:V} {e:List (Nat×V)} {n:Nat}:look (e1n (some n) v e) n=some v:=by simp [e1n,look]
theorem Ez {α:Type} {a b:List (Nat×α)} {n:Nat}:look (a++b) n=(look a n).or (look b n):=by
 induction a with
 |nil=>simp [look]
 |cons x r ih=>
  simp only [List.cons_append,look]
  split
  ·simp
  ·exact ih
theorem Kv {α:Type} {l:List (Nat×α)} {n:Nat} (h:n∉l.map (·.1)):look l n=none:=by
 induction l with
 |nil=>rfl
 |cons x r ih=>
  simp only [List.map_cons,List.mem_cons,not_or] at h
  simp only [look,if_neg h.1,ih h.2]
theorem l0r {S S':St} (h:Eqv S S') (e:Eff) (dst:Option Tmp):Eqv (e.on dst S) (e.on dst S'):=by
 have he: ∀ {a b:List (Nat×V)} (v:V),(∀ n,look b n=look a n)→∀ n,look (e1n dst v b) n=look (e1n dst v a) n:=by
  intro a b v hab n
  by_cases hd:dst=some n
  ·subst hd;rw [Wy,Wy]
  ·rw [Xj hd,Xj hd,hab]
 cases e with
 |val v=>exact ⟨he v h.env,h.mem⟩
 |new v ms=>exact ⟨he v h.env,fun k=>by simp only [Eff.on];rw [Ez,Ez,h.mem]⟩
 |app v j o=>
  refine ⟨he v fun n=>by rw [Uz,Uz,h.env],fun k=>?_⟩
  simp only [Eff.on,look]
  rw [Hy,Hy,h.mem]
 |sto v k o=>exact ⟨he v h.env,fun n=>by simp only [Eff.on];rw [Dj,Dj,h.mem,h.mem]⟩
section
variable {P:Program} {S:St}
theorem e1w {t:TypeId} {u v:V} {e:Eff} (h:e0a P S t u v=some e):g0q P S t u v=some (e.on none S):=by
 unfold e0a at h
 unfold g0q
 split at h<;>try (cases h;done)
 rename_i k path v
 simp only
 split at h<;>try (cases h;done)
 rename_i o ho
 simp only [ho]
 split at h<;>cases h
 rename_i hc
 rw [if_pos hc];rfl
theorem e1h {k:Nat} {t tx:TypeId} {u v:V} {e:Eff} (h:c0e P k S t tx u v=some e) (hf: ∀ j∈e.names,fresh j S=true): ∃ z S',a0j P k S t tx u v=some (z,S')∧e.on (some k) S=⟨(k,z)::S'.env,S'.mem⟩:=by
 unfold c0e at h
 unfold a0j
 split at h<;>try (cases h;done)
 rename_i e' he
 simp only [he]
 split at h<;>try (cases h;done)
 rename_i z r hz hr
 simp only [hz,hr]
 split at h<;>try (cases h;done)
 rename_i hc
 rw [if_pos hc]
 split at h
 ·split at h<;>try (cases h;done)
  rename_i o ho
  simp only [ho]
  split at h<;>cases h
  rename_i hc2
  rw [if_pos hc2]
  exact ⟨_,_,rfl,rfl⟩
 ·split at h<;>try (cases h;done)
  rename_i hc2
  simp only
  rw [if_pos hc2]
  split at h
  ·rename_i h0
   cases h
   rw [if_pos h0]
   exact ⟨_,_,rfl,rfl⟩
  ·rename_i h0
   split at h<;>cases h
   rename_i hc3
   rw [if_neg h0,if_pos ⟨hf k (by simp [Eff.names]),hc3.1,hc3.2⟩]
   exact ⟨_,_,rfl,rfl⟩
 ·cases h
def Ran (P:Program) (B:Base) (o:Oper) (a:Act) (w:World) (S':St):Prop:=
 (∃ y w' d',(execOp a.eval o).run P w=.ok (.value y) w'∧Sim B d' S' (a.put o.dst y) w')∨
 (∃ w' d',(execOp a.eval o).run P w=.ok .skip w'∧o.dst=none∧Sim B d' S' a w')
theorem Sim.putE {B:Base} {d:Va} {a:Act} {w:World} (h:Sim B d S a w) {dst:Option Tmp} {v:V} {y:Value} (hd:v.den d y) (hn: ∀ n,dst=some n→n<B.nt):Sim B d ⟨e1n dst v S.env,S.mem⟩ (a.put dst y) w:=by
 cases dst with
 |none=>exact h
 |some n=>exact h.put (hn n rfl) hd
theorem w0y {B:Base} {d:Va} {a:Act} {w:World} (h:Sim B d S a w) {o:Oper} {e:Eff} (hev:Lv P S o.dst o.op=some e) (hf: ∀ k∈e.names,fresh k S=true) (hn: ∀ n,o.dst=some n→n<B.nt):Ran P B o a w (e.on o.dst S):=by
 unfold Lv at hev
 split at hev
 ·rename_i t x y ho
  split at hev<;>try (cases hev;done)
  rename_i u v hu hv hdst
  rw [hdst]
  obtain ⟨w',hr,hs⟩:=o0i h (e1w hev) (h.get hu) (h.get hv)
  refine .inr ⟨w',d,?_,hdst,hs⟩
  unfold execOp
  rw [ho]
  simp [hr]
 ·rename_i args ts ho
  split at hev<;>try (cases hev;done)
  rename_i x y t tx k ha ht hdst
  split at hev<;>try (cases hev;done)
  rename_i u v hu hv
  have ea:args= #[x,y]:=by rw [←Array.toList_inj,ha]
  have et:ts= #[t,tx]:=by rw [←Array.toList_inj,ht]
  subst ea;subst et
  rw [hdst]
  obtain ⟨z,S',hz,hS⟩:=e1h hev hf
  obtain ⟨r,w',d',hrun,hd,hs⟩:=m0k (ty:=o.type) h hz (h.get hu) (h.get hv)
  rw [hS]
  refine .inl ⟨r,w',d',?_,by rw [hdst];exact hs.put (hn k hdst) hd⟩
  unfold execOp
  rw [ho]
  simp [resolve,invoke,builtin,hrun]
 ·rename_i args ts ho
  split at hev<;>try (cases hev;done)
  rename_i x y t tx ha ht
  split at hev<;>try (cases hev;done)
  rename_i u v hu hv
  have ea:args= #[x,y]:=by rw [←Array.toList_inj,ha]
  have et:ts= #[t,tx]:=by rw [←Array.toList_inj,ht]
  subst ea;subst et
  unfold j1m at hev
  obtain ⟨⟨r1,k,ob⟩,hr,rfl⟩:=Option.map_eq_some_iff.mp hev
  obtain ⟨z,w',hrun,hd,hs⟩:=j1l (ty:=o.type) h hr (h.get hu) (h.get hv)
  refine .inl ⟨z,w',d,?_,Sim.putE hs hd hn⟩
  unfold execOp
  rw [ho]
  simp [resolve,invoke,builtin,hrun]
 ·split at hev
  ·rename_i v hp
   cases hev
   obtain ⟨y,hrun,hd⟩:=n0b h (o:=o) hp
   exact .inl ⟨y,w,d,hrun,Sim.putE h hd hn⟩
  ·split at hev<;>try (cases hev;done)
   rename_i k hdst
   obtain ⟨r,hr,rfl⟩:=Option.map_eq_some_iff.mp hev
   obtain ⟨y,w',d',hrun,hd,hs⟩:=r0b h (hf k (by simp [Eff.names])) (v:=r.1) (ob:=r.2) (o:=o) hr
   refine .inl ⟨y,w',d',hrun,?_⟩
   rw [hdst]
   exact hs.put (hn k hdst) hd
theorem c1p {B:Base} {d:Va} {a:Act} {w:World} (h:Sim B d S a w) {o:Oper} {e:Eff} (hev:Lv P S o.dst o.op=some e) (hf: ∀ k∈e.names,Fr k S) (hn: ∀ n,o.dst=some n→n<B.nt):Ran P B o a w (e.on o.dst S):=by
 have hq:=e0l S
 have hev':Lv P S.norm o.dst o.op=some e:=by
  rw [m0a (S:=S) (fun x _=>hq.get x) (fun _ _ _ _ _ k _=>hq.mem k)];exact hev
 have hback:=l0r hq.symm e o.dst
 rcases w0y (h.eqv hq) hev' (fun k hk=>Xw (hf k hk)) hn with ⟨y,w',d',hr,hs⟩|⟨w',d',hr,hd,hs⟩
 ·exact .inl ⟨y,w',d',hr,hs.eqv hback⟩
 ·exact .inr ⟨w',d',hr,hd,hs.eqv hback⟩
end
end Go.Sy
namespace Go.Sy
def Va.via (d:Va) (g:Nat→Nat):Va:=⟨fun k=>d.at_ (g k),fun k=>d.size (g k),d.ro⟩
theorem L.den_via {d:Va} {g:Nat→Nat}: ∀ {l:L} {y:Value},(l.ren g).den d y→l.den (d.via g) y
 | .pl _,_,h=>h
 | .p _ _,_,h=>h
 | .s _ _ _ _,_,h=>h
 | .fn f caps,_,h=>by simpa [L.ren,L.den,Va.via,Function.comp_def] using h
theorem Fv.via {d:Va} {g:Nat→Nat}: ∀ {l:List L} {m:List Value},Fv (L.den d) (l.map (L.ren g)) m→Fv (L.den (d.via g)) l m
 | [],_,h=>by cases h;exact .nil
 |_::_,_,h=>by cases h with|cons h1 h2=>exact .cons (L.den_via h1) (Fv.via h2)
theorem W.den_via {d:Va} {g:Nat→Nat}: ∀ {x:W} {y:Value},(x.ren g).den d y→x.den (d.via g) y
 | .one _,_,h=>L.den_via h
 | .agg _,_,⟨vs,h1,h2⟩=>⟨vs,h1,Fv.via h2⟩
theorem Fv.viaW {d:Va} {g:Nat→Nat}: ∀ {l:List W} {m:List Value},Fv (W.den d) (l.map (W.ren g)) m→Fv (W.den (d.via g)) l m
 | [],_,h=>by cases h;exact .nil
 |_::_,_,h=>by cases h with|cons h1 h2=>exact .cons (W.den_via h1) (Fv.viaW h2)
theorem V.den_via {d:Va} {g:Nat→Nat}: ∀ {x:V} {y:Value},(x.ren g).den d y→x.den (d.via g) y
 | .w _,_,h=>W.den_via h
 | .tup _,_,⟨vs,h1,h2⟩=>⟨vs,h1,Fv.viaW h2⟩
 | .any,_,h=>trivial
def Within (g:Nat→Nat) (m m0:List (Nat×Ob)):Prop:=
 (∀ k o,look m k=some o→look m0 (g k)=some ⟨o.row,o.cells.map (L.ren g)⟩)∧(∀ k k',(look m k).isSome=true→(look m k').isSome=true→g k=g k'→k=k')∧(∀ k,k<px0→g k<px0)∧(∀ k,px0≤k→g k=k)
theorem j0c {g:Nat→Nat}: ∀ {l:List L} {c:List PL},l.map (L.ren g)=c.map L.pl→l=c.map L.pl
 | [],[],_=>rfl
 | [],_::_,h=>by simp at h
 |_::_,[],h=>by simp at h
 |x::l,y::c,h=>by
  simp only [List.map_cons,List.cons.injEq] at h
  obtain ⟨h1,h2⟩:=h
  have:x=.pl y:=by cases x<;>simp [L.ren] at h1 ⊢;exact h1
  rw [this,j0c h2];rfl
theorem Within.lt {g:Nat→Nat} {m m0:List (Nat×Ob)} (h:Within g m m0) {k:Nat} (hk:k<gl0):g k<gl0:=by
 rcases Nat.lt_or_ge k px0 with h1|h1
 ·exact Nat.lt_trans (h.2.2.1 k h1) Tv
 ·rw [h.2.2.2 k h1];exact hk
theorem Within.ge {g:Nat→Nat} {m m0:List (Nat×Ob)} (h:Within g m m0) {k:Nat} (hk:px0≤g k):px0≤k:=by
 rcases Nat.lt_or_ge k px0 with h1|h1
 ·exact absurd (h.2.2.1 k h1) (Nat.not_lt_of_le hk)
 ·exact h1
theorem f0i.tidy {B:Base} {d:Va} {m m0:List (Nat×Ob)} {w:World} {g:Nat→Nat} (h:f0i B d m0 w) (hw:Within g m m0):f0i B (d.via g) m w:=by
 obtain ⟨a,hs⟩:=h
 have hsome: ∀ k,(look m k).isSome=true→(look m0 (g k)).isSome=true:=fun k hk=>by
  obtain ⟨o,ho⟩:=Option.isSome_iff_exists.mp hk
  rw [hw.1 k o ho];rfl
 have hge: ∀ k,gl0≤k→g k=k:=fun k hk=>hw.2.2.2 k (Nat.le_trans (Nat.le_of_lt Tv) hk)
 refine ⟨a,hs.defers,hs.nt,fun n v hv=>(by cases hv),fun k o hk hkl=>?_,fun k k' h1 h2 hl1 hl2 h3=>?_,fun k h1 hl=>⟨(hs.own (g k) (hsome k h1) (hw.lt hl)).1,(hs.own (g k) (hsome k h1) (hw.lt hl)).2.imp id fun h2=>⟨hw.ge h2.1,h2.2⟩⟩,hs.ro,hs.old,hs.os,hs.tape,hs.output,hs.size,hs.block,fun k hk=>?_,fun k o hk hkl=>?_,fun k o p hk hp hkl=>?_,hs.fxn,fun b l hb=>?_⟩
 ·obtain ⟨vals,spare,ty,fr,h1,h2,h3,h4⟩:=hs.mem (g k) _ (hw.1 k o hk) (hw.lt hkl)
  exact ⟨vals,spare,ty,fr,h1,h2,Fv.via h3,h4⟩
 ·exact hw.2.1 k k' h1 h2 (hs.inj _ _ (hsome k h1) (hsome k' h2) (hw.lt hl1) (hw.lt hl2) h3)
 ·show d.at_ (g k)=_
  rw [hge k hk];exact hs.gat k hk
 ·have h1:=hw.1 k o hk
  rw [hge k hkl] at h1
  rcases hs.glob k _ h1 hkl with ⟨l,e⟩|⟨h2,cs,h3,h4⟩
  ·obtain ⟨r,cs⟩:=o
   simp only [Ob.mk.injEq,List.map_eq_nil_iff] at e
   obtain ⟨rfl,rfl⟩:=e
   exact .inl ⟨l,rfl⟩
  refine .inr ⟨?_,cs,j0c h3,h4⟩
  show d.size (g k)=_
  rw [hge k hkl,h2];simp
 ·have he:=hw.2.2.2 k (hs.fxn k p hp)
  have h1:=hw.1 k o hk
  rw [he] at h1
  show (k<750000→d.at_ (g k)=_∧d.size (g k)=_)∧(d.at_ (g k)=_∨_≤d.at_ (g k))
  rw [he];exact hs.fix k _ p h1 hp hkl
 ·have h1:=hw.1 _ _ hb
  rw [hge _ (show gl0≤mp0+b by show 1000000≤2000000+b;omega)] at h1
  exact hs.mp b l h1
end Go.Sy
namespace Go.Sy
def Tidy (R:V→List (Nat×Ob)→Prop) (v:V) (m:List (Nat×Ob)):Prop:=∃ g v' m',v=v'.ren g∧Within g m' m∧R v' m'
theorem Within.empty {m:List (Nat×Ob)}:Within (fun k=>k) [] m:=⟨fun k o h=>(by cases h),fun k k' h=>(by cases h),fun _ h=>h,fun _ _=>rfl⟩
def only (j k:Nat):Nat:=if k<px0 then j else k
end Go.Sy
namespace Go.Sy
abbrev Hand :=List (Nat×Nat)
def Mv :Hand→Nat→Option Nat
 | [],j=>if 1000000≤j then some j else none
 |x::r,j=>if j=x.2 then some x.1 else Mv r j
def nameOut (hd:Hand) (k:Nat):Nat:=match look hd k with
 |some j=>j
 |none=>k
def Yq (hd:Hand):List Nat→Option (List Nat)
 | []=>some []
 |k::r=>match Mv hd k,Yq hd r with
  |some j,some js=>some (j::js)
  |_,_=>none
def Oj (vw:Bool) (S:St) (hd:Hand):L→Option L
 | .pl x=>some (.pl x)
 | .p j path=>(Mv hd j).map fun k=>.p k path
 | .s j path len sz=>if j<1000000 then match Mv hd j with
   |some k=>some (.s k path len sz)
   |none=>if vw=true then f0o S (.s j path len sz) else none
  else none
 | .fn f caps=>(Yq hd caps).map fun ks=>.fn f ks
def Gy (vw:Bool) (S:St) (hd:Hand):List L→Option (List L)
 | []=>some []
 |l::r=>match Oj vw S hd l,Gy vw S hd r with
  |some x,some xs=>some (x::xs)
  |_,_=>none
def h0d (vw:Bool) (S:St) (hd:Hand):V→Option V
 | .w (.one l)=>(Oj vw S hd l).map fun x=>.w (.one x)
 | .w (.agg cs)=>(Gy vw S hd cs).map fun x=>.w (.agg x)
 |_=>none
def Nw (vw:Bool) (S:St) (hd:Hand):List Operand→Option (List V)
 | []=>some []
 |x::r=>match (S.get x).bind (h0d vw S hd),Nw vw S hd r with
  |some v,some vs=>some (v::vs)
  |_,_=>none
def Kj (S:St) (hd:Hand):List (Nat×Ob)→Prop
 | []=>True
 |x::r=>(if x.1<1000000 then (match look hd x.1 with
   |some j=>(match look S.mem j with
    |some o=>Gy false S hd o.cells=some x.2.cells∧o.row=x.2.row
    |none=>False)
   |none=>False) else look S.mem x.1=some x.2)∧Kj S hd r
def Ox :Hand→Bool
 | []=>true
 |x::r=>decide (500000≤x.1)&&decide (x.1<1000000)&&decide (x.2<1000000∧(x.1<750000∨x.2<500000∨750000≤x.2))&& !(r.any fun y=>y.1==x.1)&& !(r.any fun y=>y.2==x.2)&&Ox r
theorem Ew : ∀ {hd:Hand} {k j:Nat},Ox hd=true→look hd k=some j→px0≤k∧k<gl0∧j<gl0
 |x::r,k,j,h,hl=>by
  simp only [Ox,Bool.and_eq_true,decide_eq_true_eq] at h
  simp only [look] at hl
  split at hl
  ·rename_i e;subst e;cases hl;exact ⟨h.1.1.1.1.1,h.1.1.1.1.2,h.1.1.1.2.1⟩
  ·exact Ew h.2 hl
theorem l0x : ∀ {hd:Hand} {k j:Nat},Ox hd=true→look hd k=some j→k<750000∨j<500000∨750000≤j
 |x::r,k,j,h,hl=>by
  simp only [Ox,Bool.and_eq_true,decide_eq_true_eq] at h
  simp only [look] at hl
  split at hl
  ·rename_i e;subst e;cases hl;exact h.1.1.1.2.2
  ·exact l0x h.2 hl
theorem Mx {α:Type}: ∀ {l:List (Nat×α)} {k:Nat} {v:α},look l k=some v→(k,v)∈l
 |x::r,k,v,h=>by
  simp only [look] at h
  split at h
  ·rename_i e;subst e;cases h;simp
  ·exact List.mem_cons_of_mem _ (Mx h)
theorem e0u : ∀ {hd:Hand} {k k' j:Nat},Ox hd=true→look hd k=some j→look hd k'=some j→k=k'
 |x::r,k,k',j,h,h1,h2=>by
  simp only [Ox,Bool.and_eq_true,Bool.not_eq_true',List.any_eq_false,beq_iff_eq] at h
  simp only [look] at h1 h2
  split at h1<;>split at h2
  ·rename_i e1 e2;rw [e1,e2]
  ·cases h1;exact absurd rfl (h.1.2 (k',x.2) (Mx h2))
  ·cases h2;exact absurd rfl (h.1.2 (k,x.2) (Mx h1))
  ·exact e0u h.2 h1 h2
theorem c0n : ∀ {hd:Hand} {j k:Nat},Ox hd=true→Mv hd j=some k→(look hd k=some j∧j<gl0∧k<gl0)∨(gl0≤j∧k=j)
 | [],j,k,_,h=>by
  simp only [Mv] at h
  split at h<;>cases h
  exact .inr ⟨by assumption,rfl⟩
 |x::r,j,k,ho,h=>by
  have ho':=ho
  simp only [Ox,Bool.and_eq_true,decide_eq_true_eq,Bool.not_eq_true',List.any_eq_false,beq_iff_eq] at ho'
  simp only [Mv] at h
  split at h
  ·rename_i e;subst e;cases h;left;exact ⟨by simp [look],ho'.1.1.1.2.1,ho'.1.1.1.1.2⟩
  ·rcases c0n ho'.2 h with ⟨h1,h2,h3⟩|h1
   ·left
    refine ⟨?_,h2,h3⟩
    simp only [look]
    rw [if_neg (fun e=>ho'.1.1.2 _ (Mx h1) e)];exact h1
   ·exact .inr h1
def Va.hand (d:Va) (hd:Hand) (ro:Ro):Va:=⟨fun k=>if 1000000≤k then k-1000000 else d.at_ (nameOut hd k),fun k=>d.size (nameOut hd k),ro⟩
theorem s0f {d:Va} {hd:Hand} {ro:Ro} {j k:Nat} (hg: ∀ k,gl0≤k→d.at_ k=k-gl0) (ho:Ox hd=true) (h:Mv hd j=some k):(d.hand hd ro).at_ k=d.at_ j:=by
 rcases c0n ho h with ⟨h1,h2,h3⟩|⟨h1,rfl⟩
 ·simp only [Va.hand];rw [if_neg (Nat.not_le_of_lt h3)];simp only [nameOut,h1]
 ·simp only [Va.hand];rw [if_pos h1,hg _ h1]
theorem b1y {d:Va} {hd:Hand} {ro:Ro} {j k:Nat} (ho:Ox hd=true) (h:Mv hd j=some k) (hl:j<gl0):(d.hand hd ro).size k=d.size j:=by
 rcases c0n ho h with ⟨h1,h2,h3⟩|⟨h1,rfl⟩
 ·simp only [Va.hand,nameOut,h1]
 ·omega
theorem Sz {d:Va} {ro:Ro} {w:World} {blk:Nat} (hro: ∀ b o y,d.ro b o=some y→ro b o=some y) (hb: ∀ o y,w.cell? ⟨blk,o,none⟩=some y→ro blk o=some y): ∀ {c:List PL} {vals:List Value} {off:Nat},Fv (L.den d) (pls c) vals→Jy w blk off vals→PL.denAt ro blk c off
 | [],_,_,_,_=>by rw [PL.denAt];trivial
 |x::c,vals,off,h,hc=>by
  cases h with
  |cons h1 h2=>
   rename_i y m
   rw [PL.denAt]
   refine ⟨⟨y,hb _ _ (hc 0 y rfl),PL.den_mono hro h1⟩,Sz hro hb h2 (fun j v hv=>?_)⟩
   have:=hc (j+1) v (by simpa using hv)
   rwa [show off+(j+1)=off+1+j from by omega] at this
structure RoOk (S:St) (hd:Hand) (d:Va) (w:World) (vw:Bool) (ro:Ro):Prop where
 mono: ∀ b o y,d.ro b o=some y→ro b o=some y
 view:vw=true→∀ j,(look S.mem j).isSome=true→j<gl0→Mv hd j=none→∀ o y,w.cell? ⟨d.at_ j,o,none⟩=some y→ro (d.at_ j) o=some y
section
variable {B:Base} {d:Va} {S:St} {a:Act} {w:World} {hd:Hand} {vw:Bool} {ro:Ro}
theorem e1r (h:Sim B d S a w) (hr:RoOk S hd d w vw ro) (hv1:vw=true) {j:Nat} {path:Path} {len sz:Nat} {x:L} {y:Value} (hj:j<gl0) (hn:Mv hd j=none) (hv:f0o S (.s j path len sz)=some x) (hdn:(L.s j path len sz).den d y):x.den (d.hand hd ro) y:=by
 simp only [f0o] at hv
 split at hv<;>try (cases hv;done)
 rename_i o hk
 split at hv<;>try (cases hv;done)
 rename_i hc
 obtain ⟨hp,hps⟩:=hc
 cases hu:k0x (rd o.cells path) with
 |none=>simp [hu] at hv
 |some c=>
  simp only [hu,Option.map_some,Option.some.injEq] at hv;subst hv
  obtain ⟨vals,hvd,hcell,hl⟩:=h.readObj hk hp
  have hcl:=Xk o.cells hp
  rw [i0f hu] at hvd hcl
  rw [Yz,hps] at hcl
  obtain ⟨oo,cap,rfl,hlc,hcm,ho,_⟩:=hdn
  show PL.den _ _ _
  rw [PL.den]
  right;left
  refine ⟨d.at_ j,oo,cap,by rw [Jz],by rw [Jz];exact hlc,hcm,fun e=>(by cases e),?_⟩
  refine Ow ?_ hcl
  rcases ho with ho|rfl
  ·have hlen:len=0:=by omega
   rw [hlen,Nat.zero_mul] at hcl
   have:=List.eq_nil_of_length_eq_zero hcl
   subst this;rw [PL.denAt];trivial
  ·exact Sz (fun b o y=>hr.mono b o y) (hr.view hv1 j (by rw [hk];rfl) hj hn) hvd hcell
theorem k0b (h:Sim B d S a w) (hok:Ox hd=true): ∀ {caps ks:List Nat},Yq hd caps=some ks→(ks.map fun k=>Value.pointer (some ⟨(d.hand hd ro).at_ k,0,none⟩))=caps.map fun k=>Value.pointer (some ⟨d.at_ k,0,none⟩)
 | [],ks,hc=>by simp only [Yq] at hc;cases hc;rfl
 |k::r,ks,hc=>by
  simp only [Yq] at hc
  split at hc<;>cases hc
  rename_i j js h1 h2
  rw [List.map_cons,List.map_cons,k0b h hok h2,s0f h.gat hok h1]
theorem e0q (h:Sim B d S a w) (hr:RoOk S hd d w vw ro) (hok:Ox hd=true) {l x:L} {y:Value} (hx:Oj vw S hd l=some x) (hd':l.den d y):x.den (d.hand hd ro) y:=by
 cases l with
 |pl p=>simp only [Oj] at hx;cases hx;exact PL.den_mono hr.mono hd'
 |p j path=>
  obtain ⟨k,hk,rfl⟩:=Option.map_eq_some_iff.mp hx
  simp only [L.den] at hd' ⊢
  rw [s0f h.gat hok hk];exact hd'
 |s j path len sz=>
  simp only [Oj] at hx
  split at hx<;>try (cases hx;done)
  rename_i hj
  split at hx
  ·rename_i k hk
   cases hx
   simp only [L.den] at hd' ⊢
   rw [s0f h.gat hok hk,b1y hok hk hj];exact hd'
  ·rename_i hk
   split at hx<;>try (cases hx;done)
   rename_i hvw
   exact e1r h hr hvw hj hk hx hd'
 |fn f caps=>
  obtain ⟨ks,hk,rfl⟩:=Option.map_eq_some_iff.mp hx
  simp only [L.den] at hd' ⊢
  rw [hd'];congr 1
  exact congrArg List.toArray (k0b h hok hk).symm
theorem d0n (h:Sim B d S a w) (hr:RoOk S hd d w vw ro) (hok:Ox hd=true): ∀ {cs xs:List L} {vs:List Value},Gy vw S hd cs=some xs→Fv (L.den d) cs vs→Fv (L.den (d.hand hd ro)) xs vs
 | [],xs,vs,hv,hd'=>by cases hd';simp only [Gy] at hv;cases hv;exact .nil
 |l::r,xs,vs,hv,hd'=>by
  cases hd' with
  |cons h1 h2=>
   simp only [Gy] at hv
   split at hv<;>cases hv
   rename_i e1 e2
   exact .cons (e0q h hr hok e1 h1) (d0n h hr hok e2 h2)
theorem e1s (h:Sim B d S a w) (hr:RoOk S hd d w vw ro) (hok:Ox hd=true) {v x:V} {y:Value} (hv:h0d vw S hd v=some x) (hd':v.den d y):x.den (d.hand hd ro) y:=by
 unfold h0d at hv
 split at hv<;>try (cases hv;done)
 ·obtain ⟨z,hz,rfl⟩:=Option.map_eq_some_iff.mp hv
  exact e0q h hr hok hz hd'
 ·obtain ⟨z,hz,rfl⟩:=Option.map_eq_some_iff.mp hv
  obtain ⟨vs,rfl,hall⟩:=hd'
  exact ⟨vs,rfl,d0n h hr hok hz hall⟩
theorem d0y (h:Sim B d S a w) (hr:RoOk S hd d w vw ro) (hok:Ox hd=true): ∀ {xs:List Operand} {vs:List V},Nw vw S hd xs=some vs→Fv (V.den (d.hand hd ro)) vs (xs.map a.eval)
 | [],vs,hv=>by simp only [Nw] at hv;cases hv;exact .nil
 |x::r,vs,hv=>by
  simp only [Nw] at hv
  split at hv<;>cases hv
  rename_i v us e1 e2
  obtain ⟨u,hu,hv⟩:=bind_some e1
  exact .cons (e1s h hr hok hv (h.get hu)) (d0y h hr hok e2)
theorem Lx : ∀ {m:List (Nat×Ob)},Kj S hd m→∀ {k:Nat} {o:Ob},look m k=some o→(k<gl0→∃ j u,look hd k=some j∧look S.mem j=some u∧Gy false S hd u.cells=some o.cells∧u.row=o.row)∧(gl0≤k→look S.mem k=some o)
 |x::r,h,k,o,hl=>by
  simp only [look] at hl
  split at hl
  ·rename_i e;subst e;cases hl
   have h1:=h.1
   refine ⟨fun hk=>?_,fun hk=>?_⟩
   ·rw [if_pos hk] at h1
    split at h1<;>try (exact h1.elim)
    rename_i j hj
    split at h1<;>try (exact h1.elim)
    rename_i u hu
    exact ⟨j,u,hj,hu,h1.1,h1.2⟩
   ·rw [if_neg (Nat.not_lt_of_le hk)] at h1;exact h1
  ·exact Lx h.2 hl
theorem r0p :RoOk S hd d w false d.ro:=⟨fun _ _ _ h=>h,fun h=>(by cases h)⟩
theorem j0j (h:Sim B d S a w) (hr:RoOk S hd d w vw ro) (hrw: ∀ b o y,ro b o=some y→w.cell? ⟨b,o,none⟩=some y) (hrn: ∀ k j,look hd k=some j→(look S.mem j).isSome=true→∀ o,ro (d.at_ j) o=none) (hok:Ox hd=true) {m:List (Nat×Ob)} (hm:Kj S hd m):
  f0i ⟨w,r0z (d.hand hd ro) m,0,ro,h1f (d.hand hd ro) m⟩ (d.hand hd ro) m w:=by
 have hat: ∀ {k j:Nat},k<gl0→look hd k=some j→(d.hand hd ro).at_ k=d.at_ j:=fun hk hj=>by
  simp only [Va.hand];rw [if_neg (Nat.not_le_of_lt hk)];simp only [nameOut,hj]
 have hsz: ∀ {k j:Nat},look hd k=some j→(d.hand hd ro).size k=d.size j:=fun hj=>by
  simp only [Va.hand,nameOut,hj]
 have hr0:RoOk S hd d w false ro:=⟨hr.mono,fun h=>(by cases h)⟩
 refine ⟨⟨#[],[]⟩,rfl,rfl,fun n v hv=>(by cases hv),fun k o hk hkl=>?_,fun k k' h1 h2 hl1 hl2 he=>?_,fun k h1 hl=>?_,hrw,fun b o y hy _=>hy,rfl,rfl,rfl,Nat.le_refl _,fun _ _ _=>rfl,fun k hk=>?_,fun k o hk hkl=>?_,fun k o p hk hp hkl=>?_,fun k p hp=>?_,fun b l hb=>h.mp b l ((Lx hm hb).2 (show gl0≤mp0+b by show 1000000≤2000000+b;omega))⟩
 ·obtain ⟨j,u,hj,hu,hc,hrow⟩:=(Lx hm hk).1 hkl
  obtain ⟨vals,spare,ty,fr,g1,g2,g3,g4,g5⟩:=h.mem j u hu (Ew hok hj).2.2
  exact ⟨vals,spare,ty,fr,by rw [hat hkl hj];exact g1,g2,d0n h hr0 hok hc g3,fun e=>g4 (by rw [hrow];exact e),by rw [hsz hj];exact g5⟩
 ·obtain ⟨o1,ho1⟩:=Option.isSome_iff_exists.mp h1
  obtain ⟨o2,ho2⟩:=Option.isSome_iff_exists.mp h2
  obtain ⟨j1,u1,hj1,hu1,_⟩:=(Lx hm ho1).1 hl1
  obtain ⟨j2,u2,hj2,hu2,_⟩:=(Lx hm ho2).1 hl2
  rw [hat hl1 hj1,hat hl2 hj2] at he
  have:=h.inj j1 j2 (by rw [hu1];rfl) (by rw [hu2];rfl) (Ew hok hj1).2.2 (Ew hok hj2).2.2 he
  subst this
  exact e0u hok hj1 hj2
 ·obtain ⟨o1,ho1⟩:=Option.isSome_iff_exists.mp h1
  obtain ⟨j1,u1,hj1,hu1,_⟩:=(Lx hm ho1).1 hl
  refine ⟨fun o=>?_,.inr ⟨(Ew hok hj1).1,k,h1,hl,rfl⟩⟩
  rw [hat hl hj1];exact hrn k j1 hj1 (by rw [hu1];rfl) o
 ·simp only [Va.hand];rw [if_pos hk]
 ·have hS:=(Lx hm hk).2 hkl
  rcases h.glob k o hS hkl with ⟨l,rfl⟩|⟨g1,cs,g2,g3⟩
  ·exact .inl ⟨l,rfl⟩
  have hno:look hd k=none:=by
   cases hl:look hd k with
   |none=>rfl
   |some j=>exact absurd (Ew hok hl).2.1 (Nat.not_lt_of_le hkl)
  exact .inr ⟨by simp only [Va.hand,nameOut,hno];exact g1,cs,g2,PL.denAt_mono hr.mono g3⟩
 ·simp only [h1f] at hp
  split at hp<;>cases hp
  exact ⟨fun _=>⟨rfl,rfl⟩,.inl rfl⟩
 ·simp only [h1f] at hp
  split at hp<;>cases hp
  rename_i hc;exact hc.2.1
end
end Go.Sy
namespace Go.Sy
def inv (nm:Nat→Nat):List (Nat×Ob)→Nat→Option Nat
 | [],_=>none
 |x::r,j=>if x.1<500000∧nm x.1=j then some x.1 else inv nm r j
def Mk (nm:Nat→Nat) (hd:Hand) (k:Nat):Nat:=if k<500000 then nm k else nameOut hd k
def Ob.ren (f:Nat→Nat) (o:Ob):Ob:=⟨o.row,o.cells.map (L.ren f)⟩
def Nj (nm:Nat→Nat) (hd:Hand):List (Nat×Ob)→List (Nat×Ob)→List (Nat×Ob)
 | [],M=>M
 |x::r,M=>if x.1<500000 then (nm x.1,x.2.ren (Mk nm hd))::Nj nm hd r M
  else if x.1<1000000 then Qk (Nj nm hd r M) (Mk nm hd x.1) (x.2.ren (Mk nm hd)) else Nj nm hd r M
def okN (m:List (Nat×Ob)) (k:Nat):Bool:=if k<1000000 then (look m k).isSome else true
def Nq (vw:Bool) (m:List (Nat×Ob)):L→Bool
 | .pl x=>!vw||Pj (.pl x)
 | .p k _=>okN m k
 | .s k _ _ _=>decide (k<1000000)&&okN m k
 | .fn _ caps=>caps.all (okN m)
def c0o (vw:Bool) (m:List (Nat×Ob)):W→Bool
 | .one l=>Nq vw m l
 | .agg cs=>cs.all (Nq vw m)
def Jw (vw:Bool) (m:List (Nat×Ob)):V→Bool
 | .w x=>c0o vw m x
 | .tup xs=>xs.all (c0o vw m)
 | .any=>true
def a0r (vw : Bool) (nm : Nat → Nat) (hd : Hand) (S : St) (m : List (Nat × Ob)) (mr : List (Nat × Ob)) : List (Nat × Ob) → Prop
  | [] => True
  | x :: r => (x.2.cells.all (Nq vw mr) = true ∧ (look r x.1).isSome = false ∧
      (if x.1 < 500000 then fresh (nm x.1) S = true ∧ (look S.mem (nm x.1)).isSome = false ∧ inv nm r (nm x.1) = none
       else if x.1 < 1000000 then (look m x.1).isSome = true else True)) ∧ a0r vw nm hd S m mr r
section
variable {vw:Bool} {nm:Nat→Nat} {hd:Hand} {S:St} {m mr:List (Nat×Ob)}
theorem Kw : ∀ {l:List (Nat×Ob)},a0r vw nm hd S m mr l→∀ {k:Nat} {o:Ob},look l k=some o→o.cells.all (Nq vw mr)=true∧(k<px0→fresh (nm k) S=true∧(look S.mem (nm k)).isSome=false∧inv nm l (nm k)=some k)∧(px0≤k→k<gl0→(look m k).isSome=true)
 |x::r,h,k,o,hl=>by
  obtain ⟨⟨h1,h2,h3⟩,hr⟩:=h
  simp only [look] at hl
  split at hl
  ·rename_i e;subst e;cases hl
   refine ⟨h1,fun hk=>?_,fun hk hk2=>?_⟩
   ·rw [if_pos hk] at h3
    exact ⟨h3.1,h3.2.1,by simp only [inv];rw [if_pos ⟨hk,trivial⟩]⟩
   ·rw [if_neg (Nat.not_lt_of_le hk),if_pos hk2] at h3;exact h3
  ·rename_i hne
   obtain ⟨g1,g2,g3⟩:=Kw hr hl
   refine ⟨g1,fun hk=>?_,g3⟩
   obtain ⟨f1,f2,f3⟩:=g2 hk
   refine ⟨f1,f2,?_⟩
   simp only [inv]
   split
   ·rename_i hc
    rw [if_pos hc.1] at h3
    rw [hc.2,f3] at h3
    exact absurd h3.2.2 (by simp)
   ·exact f3
theorem h0q : ∀ {l:List (Nat×Ob)} {j k:Nat},inv nm l j=some k→k<px0∧nm k=j∧(look l k).isSome=true
 |x::r,j,k,h=>by
  simp only [inv] at h
  split at h
  ·rename_i hc;cases h;exact ⟨hc.1,hc.2,by simp [look]⟩
  ·obtain ⟨h1,h2,h3⟩:=h0q h
   refine ⟨h1,h2,?_⟩
   simp only [look];split
   ·rfl
   ·exact h3
theorem Xq : ∀ {l:List (Nat×Ob)},a0r vw nm hd S m mr l→∀ {j:Nat} {o2:Ob},look (Nj nm hd l S.mem) j=some o2→
  (∃ k o',look l k=some o'∧k<gl0∧Mk nm hd k=j∧o2=o'.ren (Mk nm hd))∨(look S.mem j=some o2∧∀ k,(look l k).isSome=true→k<gl0→Mk nm hd k≠j)
 | [],_,j,o2,h=>.inr ⟨h,fun k hk=>(by cases hk)⟩
 |x::r,hok,j,o2,h=>by
  obtain ⟨⟨h1,h2,h3⟩,hr⟩:=hok
  have up: ∀ k o',look r k=some o'→look (x::r) k=some o':=by
   intro k o' hk
   simp only [look]
   rw [if_neg (fun e=>by subst e;rw [hk] at h2;cases h2)];exact hk
  have step:(¬(x.1<gl0∧Mk nm hd x.1=j))→look (Nj nm hd r S.mem) j=some o2→(∃ k o',look (x::r) k=some o'∧k<gl0∧Mk nm hd k=j∧o2=o'.ren (Mk nm hd))∨(look S.mem j=some o2∧∀ k,(look (x::r) k).isSome=true→k<gl0→Mk nm hd k≠j):=by
   intro hx hb
   rcases Xq hr hb with ⟨k,o',g1,g2,g3,g4⟩|⟨g1,g2⟩
   ·exact .inl ⟨k,o',up _ _ g1,g2,g3,g4⟩
   ·refine .inr ⟨g1,fun k hk hkl he=>?_⟩
    simp only [look] at hk
    split at hk
    ·rename_i e;subst e;exact hx ⟨hkl,he⟩
    ·exact g2 k hk hkl he
  simp only [Nj] at h
  split at h
  ·rename_i hx
   have hout:Mk nm hd x.1=nm x.1:=by simp only [Mk,if_pos hx]
   simp only [look] at h
   split at h
   ·rename_i e;cases h
    exact .inl ⟨x.1,x.2,by simp [look],Nat.lt_trans hx Tv,by rw [hout,e],rfl⟩
   ·rename_i e;exact step (fun hc=>e (by rw [←hc.2,hout])) h
  ·split at h
   ·rename_i hx
    rw [Dj] at h
    split at h
    ·rename_i e
     obtain ⟨u,_,hu⟩:=Option.map_eq_some_iff.mp h
     exact .inl ⟨x.1,x.2,by simp [look],hx,e.symm,hu.symm⟩
    ·rename_i e;exact step (fun hc=>e hc.2.symm) h
   ·rename_i hx;exact step (fun hc=>hx hc.1) h
end
theorem L.den_agree {d d2:Va} {l:L} {y:Value} (hro: ∀ b o y,d.ro b o=some y→d2.ro b o=some y) (h: ∀ k,l.has k=true→d2.at_ k=d.at_ k∧d2.size k=d.size k) (hd:l.den d y):l.den d2 y:=by
 cases l with
 |pl x=>exact PL.den_mono hro hd
 |p k path=>
  have:=h k (by simp [L.has])
  simp only [L.den] at*;rw [this.1];exact hd
 |s k path len sz=>
  have:=h k (by simp [L.has])
  simp only [L.den] at*;rw [this.1,this.2];exact hd
 |fn f caps=>
  simp only [L.den] at*
  rw [hd];congr 1
  apply congrArg
  apply List.map_congr_left
  intro k hk
  rw [(h k (by simp only [L.has,List.any_eq_true];exact ⟨k,hk,by simp⟩)).1]
theorem m0m {d d2:Va} {cs:List L} {vs:List Value} (hro: ∀ b o y,d.ro b o=some y→d2.ro b o=some y) (h: ∀ k,cs.any (L.has k)=true→d2.at_ k=d.at_ k∧d2.size k=d.size k) (hd:Fv (L.den d) cs vs):Fv (L.den d2) cs vs:=
 hd.mono fun x y hx hr=>L.den_agree hro (fun k hk=>h k (List.any_eq_true.2 ⟨x,hx,hk⟩)) hr
theorem W.den_agree {d d2:Va} {x:W} {y:Value} (hro: ∀ b o y,d.ro b o=some y→d2.ro b o=some y) (h: ∀ k,x.has k=true→d2.at_ k=d.at_ k∧d2.size k=d.size k) (hd:x.den d y):x.den d2 y:=by
 cases x with
 |one l=>exact L.den_agree hro h hd
 |agg cs=>obtain ⟨vs,rfl,hv⟩:=hd;exact ⟨vs,rfl,m0m hro h hv⟩
theorem V.den_agree {d d2:Va} {x:V} {y:Value} (hro: ∀ b o y,d.ro b o=some y→d2.ro b o=some y) (h: ∀ k,x.has k=true→d2.at_ k=d.at_ k∧d2.size k=d.size k) (hd:x.den d y):x.den d2 y:=by
 cases x with
 |w x=>exact W.den_agree hro h hd
 |tup xs=>
  obtain ⟨vs,rfl,hv⟩:=hd
  exact ⟨vs,rfl,hv.mono fun x y hx hr=>W.den_agree hro (fun k hk=>h k (List.any_eq_true.2 ⟨x,hx,hk⟩)) hr⟩
 |any=>trivial
section
variable {vw:Bool} {nm:Nat→Nat} {hd:Hand} {m:List (Nat×Ob)} {d' d2:Va}
theorem j0e (hro:vw=false→∀ b o y,d'.ro b o=some y→d2.ro b o=some y) (hk: ∀ k,okN m k=true→d2.at_ (Mk nm hd k)=d'.at_ k∧(k<gl0→d2.size (Mk nm hd k)=d'.size k)) {l:L} {y:Value} (h:Nq vw m l=true) (hd':l.den d' y):(l.ren (Mk nm hd)).den d2 y:=by
 cases l with
 |pl x=>
  simp only [Nq,Bool.or_eq_true,Bool.not_eq_true'] at h
  rcases h with h|h
  ·exact PL.den_mono (hro h) hd'
  ·exact d0i h hd'
 |p k path=>
  simp only [L.ren,L.den] at*
  rw [(hk k h).1];exact hd'
 |s k path len sz=>
  simp only [Nq,Bool.and_eq_true,decide_eq_true_eq] at h
  simp only [L.ren,L.den] at*
  rw [(hk k h.2).1,(hk k h.2).2 h.1];exact hd'
 |fn f caps=>
  simp only [Nq,List.all_eq_true] at h
  simp only [L.ren,L.den] at*
  rw [hd',List.map_map];congr 1
  apply congrArg
  apply List.map_congr_left
  intro k hkc
  simp only [Function.comp_def]
  rw [(hk k (h k hkc)).1]
theorem j0f (hro:vw=false→∀ b o y,d'.ro b o=some y→d2.ro b o=some y) (hk: ∀ k,okN m k=true→d2.at_ (Mk nm hd k)=d'.at_ k∧(k<gl0→d2.size (Mk nm hd k)=d'.size k)) {cs:List L} {vs:List Value} (h:cs.all (Nq vw m)=true) (hd':Fv (L.den d') cs vs):Fv (L.den d2) (cs.map (L.ren (Mk nm hd))) vs:=by
 simp only [List.all_eq_true] at h
 exact Fv.map_left (hd'.mono fun x y hx hr=>j0e hro hk (h x hx) hr)
theorem g0u (hro:vw=false→∀ b o y,d'.ro b o=some y→d2.ro b o=some y) (hk: ∀ k,okN m k=true→d2.at_ (Mk nm hd k)=d'.at_ k∧(k<gl0→d2.size (Mk nm hd k)=d'.size k)) {x:W} {y:Value} (h:c0o vw m x=true) (hd':x.den d' y):(x.ren (Mk nm hd)).den d2 y:=by
 cases x with
 |one l=>exact j0e hro hk h hd'
 |agg cs=>obtain ⟨vs,rfl,hv⟩:=hd';exact ⟨vs,rfl,j0f hro hk h hv⟩
theorem b0l (hro:vw=false→∀ b o y,d'.ro b o=some y→d2.ro b o=some y) (hk: ∀ k,okN m k=true→d2.at_ (Mk nm hd k)=d'.at_ k∧(k<gl0→d2.size (Mk nm hd k)=d'.size k)) {x:V} {y:Value} (h:Jw vw m x=true) (hd':x.den d' y):(x.ren (Mk nm hd)).den d2 y:=by
 cases x with
 |w x=>exact g0u hro hk h hd'
 |tup xs=>
  obtain ⟨vs,rfl,hv⟩:=hd'
  simp only [Jw,List.all_eq_true] at h
  exact ⟨vs,rfl,Fv.map_left (hv.mono fun x y hx hr=>g0u hro hk (h x hx) hr)⟩
 |any=>trivial
end
end Go.Sy
namespace Go.Sy
def k0m :Hand→Nat→Option Nat
 | [],_=>none
 |x::r,j=>if 750000≤x.1∧x.2=j then some x.1 else k0m r j
theorem Oz : ∀ {hd:Hand} {j k:Nat},Ox hd=true→k0m hd j=some k→look hd k=some j∧750000≤k
 |x::r,j,k,ho,h=>by
  have ho':=ho
  simp only [Ox,Bool.and_eq_true,decide_eq_true_eq,Bool.not_eq_true',List.any_eq_false,beq_iff_eq] at ho'
  simp only [k0m] at h
  split at h
  ·rename_i hc;cases h;exact ⟨by simp [look,hc.2],hc.1⟩
  ·obtain ⟨h1,h2⟩:=Oz ho'.2 h
   refine ⟨?_,h2⟩
   simp only [look]
   split
   ·rename_i e
    exact absurd e.symm (fun e2=>ho'.1.1.2 (k,j) (Mx h1) (by first|exact e2.symm|exact e2))
   ·exact h1
theorem p0p : ∀ {hd:Hand} {j k:Nat},k0m hd j=none→look hd k=some j→k<750000
 |x::r,j,k,h,hl=>by
  simp only [k0m] at h
  split at h
  ·cases h
  ·rename_i hc
   simp only [look] at hl
   split at hl
   ·rename_i e;subst e;cases hl
    exact Nat.lt_of_not_le fun h2=>hc ⟨h2,rfl⟩
   ·exact p0p h hl
def m1z (hd:Hand) (S:St):Bool:=hd.all fun x=>decide (x.1<750000)||(!r0f x.2 S.env&&S.mem.all fun y=>hd.any (fun z=>z.2==y.1)|| !y.2.has x.2)
theorem g1e {hd:Hand} {S:St} (h:m1z hd S=true) {k j:Nat} (hl:look hd k=some j) (hk:750000≤k):r0f j S.env=false:=by
 have:=List.all_eq_true.mp h (k,j) (Mx hl)
 simp only [Bool.or_eq_true,decide_eq_true_eq,Bool.and_eq_true,Bool.not_eq_true'] at this
 rcases this with h1|h1
 ·omega
 ·exact h1.1
theorem g1d {hd:Hand} {S:St} (h:m1z hd S=true) {k j:Nat} (hl:look hd k=some j) (hk:750000≤k) {i:Nat} {o:Ob} (ho:look S.mem i=some o) (hn: ∀ x∈hd,x.2≠i):o.has j=false:=by
 have:=List.all_eq_true.mp h (k,j) (Mx hl)
 simp only [Bool.or_eq_true,decide_eq_true_eq,Bool.and_eq_true,Bool.not_eq_true'] at this
 rcases this with h1|h1
 ·omega
 ·have h2:=List.all_eq_true.mp h1.2 (i,o) (Mx ho)
  simp only [Bool.or_eq_true,List.any_eq_true,beq_iff_eq,Bool.not_eq_true'] at h2
  rcases h2 with ⟨x,hx,e⟩|h2
  ·exact absurd e (hn x hx)
  ·exact h2
def Va.back (d d' : Va) (vw : Bool) (nm : Nat → Nat) (hd : Hand) (m' : List (Nat × Ob)) (n : Nat) : Va :=
  ⟨fun j => match inv nm m' j with | some k => d'.at_ k | none => match k0m hd j with | some k => d'.at_ k | none => d.at_ j,
   fun j => match inv nm m' j with | some k => d'.size k | none => match k0m hd j with | some k => d'.size k | none => d.size j,
   fun b o => if vw = true then d.ro b o else if b < n then d.ro b o else d'.ro b o⟩
section
variable {B:Base} {d d':Va} {S:St} {a a2:Act} {w w':World} {hd:Hand} {vw:Bool} {ro:Ro} {nm:Nat→Nat} {m m':List (Nat×Ob)} {nt:Nat}
theorem t0u (h:Sim B d S a w) (hr:vw=false→ro=d.ro) (hok:Ox hd=true) (hmv:m1z hd S=true) (hm:Kj S hd m)
  (hs:Sim ⟨w,r0z (d.hand hd ro) m,nt,ro,h1f (d.hand hd ro) m⟩ d' ⟨[],m'⟩ a2 w') (hall:hd.all (fun x=>(look m' x.1).isSome)=true) (ho:a0r vw nm hd S m m' m'):
  Sim B (d.back d' vw nm hd m' w.heap.size) ⟨S.env,Nj nm hd m' S.mem⟩ a w'∧
  (∀ k,okN m' k=true→(d.back d' vw nm hd m' w.heap.size).at_ (Mk nm hd k)=d'.at_ k∧(k<gl0→(d.back d' vw nm hd m' w.heap.size).size (Mk nm hd k)=d'.size k))∧
  (vw=false→∀ b o y,d'.ro b o=some y→(d.back d' vw nm hd m' w.heap.size).ro b o=some y):=by
 have hat: ∀ {k j:Nat},k<gl0→look hd k=some j→(d.hand hd ro).at_ k=d.at_ j:=fun hk hj=>by
  simp only [Va.hand];rw [if_neg (Nat.not_le_of_lt hk)];simp only [nameOut,hj]
 have hsz: ∀ {k j:Nat},look hd k=some j→(d.hand hd ro).size k=d.size j:=fun hj=>by
  simp only [Va.hand,nameOut,hj]
 have hmj: ∀ {k:Nat},(look m k).isSome=true→k<gl0→∃ j,look hd k=some j∧(look S.mem j).isSome=true∧j<gl0∧px0≤k:=fun {k} hk hkl=>by
  obtain ⟨o,hko⟩:=Option.isSome_iff_exists.mp hk
  obtain ⟨j,u,hj,hu,_⟩:=(Lx hm hko).1 hkl
  exact ⟨j,hj,by rw [hu];rfl,(Ew hok hj).2.2,(Ew hok hj).1⟩
 have hfix: ∀ {k:Nat},(look m k).isSome=true→(look m' k).isSome=true→k<gl0→∃ j,look hd k=some j∧(look S.mem j).isSome=true∧j<gl0∧(k<750000→d'.at_ k=d.at_ j∧d'.size k=d.size j)∧(d'.at_ k=d.at_ j∨w.heap.size≤d'.at_ k):=fun {k} hk hk' hkl=>by
  obtain ⟨j,hj,hjs,hjl,hpx⟩:=hmj hk hkl
  obtain ⟨o',ho'⟩:=Option.isSome_iff_exists.mp hk'
  have:=hs.fix k o' ((d.hand hd ro).at_ k,(d.hand hd ro).size k) ho' (by simp only [h1f];rw [if_pos ⟨hk,hpx,hkl⟩]) hkl
  exact ⟨j,hj,hjs,hjl,fun hl=>⟨by rw [(this.1 hl).1,hat hkl hj],by rw [(this.1 hl).2,hsz hj]⟩,this.2.imp (fun e=>by rw [e,hat hkl hj]) id⟩
 have hpres: ∀ {k j:Nat},look hd k=some j→(look m' k).isSome=true:=fun {k j} hj=>by
  simp only [List.all_eq_true] at hall
  exact hall (k,j) (Mx hj)
 have hmay: ∀ {b:Nat},r0z (d.hand hd ro) m b→∃ k j,(look m k).isSome=true∧k<gl0∧px0≤k∧look hd k=some j∧(look S.mem j).isSome=true∧j<gl0∧d.at_ j=b:=by
  rintro b ⟨k,hk,hkl,rfl⟩
  obtain ⟨j,hj,hjs,hjl,hpx⟩:=hmj hk hkl
  exact ⟨k,j,hk,hkl,hpx,hj,hjs,hjl,(hat hkl hj).symm⟩
 have hnew: ∀ {k:Nat},k<px0→(look m' k).isSome=true→w.heap.size≤d'.at_ k:=fun {k} hk hkm=>by
  rcases (hs.own k hkm (Nat.lt_trans hk Tv)).2 with h1|h1
  ·exact h1
  ·exact absurd hk (Nat.not_lt_of_le h1.1)
 have hinv: ∀ {j k:Nat},inv nm m' j=some k→k<px0∧nm k=j∧(look m' k).isSome=true∧fresh j S=true∧(look S.mem j).isSome=false:=fun {j k} hi=>by
  obtain ⟨h1,h2,h3⟩:=h0q hi
  obtain ⟨o',ho'⟩:=Option.isSome_iff_exists.mp h3
  obtain ⟨g1,g2,_⟩:=(Kw ho ho').2.1 h1
  rw [h2] at g1 g2
  exact ⟨h1,h2,h3,g1,g2⟩
 have hinvM: ∀ {j:Nat},(look S.mem j).isSome=true→inv nm m' j=none:=fun {j} hj=>by
  cases hi:inv nm m' j with
  |none=>rfl
  |some k=>have:=(hinv hi).2.2.2.2;rw [hj] at this;cases this
 have hinvG: ∀ {j:Nat},px0≤j→inv nm m' j=none:=fun {j} hj=>by
  cases hi:inv nm m' j with
  |none=>rfl
  |some k=>exact absurd (e0w (hinv hi).2.2.2.1) (Nat.not_lt_of_le hj)
 have hmvG: ∀ {j:Nat},gl0≤j→k0m hd j=none:=fun {j} hj=>by
  cases hi:k0m hd j with
  |none=>rfl
  |some k=>exact absurd (Ew hok (Oz hok hi).1).2.2 (Nat.not_lt_of_le hj)
 have hmvK: ∀ {k j:Nat},look hd k=some j→k<750000→k0m hd j=none:=fun {k j} hj hk=>by
  cases hi:k0m hd j with
  |none=>rfl
  |some k'=>
   obtain ⟨h1,h2⟩:=Oz hok hi
   have:=e0u hok hj h1
   omega
 have hmvS: ∀ {k j:Nat},look hd k=some j→750000≤k→k0m hd j=some k:=fun {k j} hj hk=>by
  cases hi:k0m hd j with
  |none=>have:=p0p hi hj;omega
  |some k'=>
   obtain ⟨h1,h2⟩:=Oz hok hi
   rw [e0u hok hj h1]
 have hmove: ∀ {k j:Nat},k0m hd j=some k→look hd k=some j∧k<gl0∧px0≤k∧j<gl0∧(look m' k).isSome=true:=fun {k j} hi=>by
  obtain ⟨h1,h2⟩:=Oz hok hi
  obtain ⟨g1,g2,g3⟩:=Ew hok h1
  exact ⟨h1,g2,g1,g3,hpres h1⟩
 have hat2: ∀ {j:Nat},inv nm m' j=none→k0m hd j=none→(d.back d' vw nm hd m' w.heap.size).at_ j=d.at_ j∧(d.back d' vw nm hd m' w.heap.size).size j=d.size j:=fun hi hi2=>by
  simp only [Va.back,hi,hi2,and_self]
 have hatV: ∀ {j k:Nat},inv nm m' j=none→k0m hd j=some k→(d.back d' vw nm hd m' w.heap.size).at_ j=d'.at_ k∧(d.back d' vw nm hd m' w.heap.size).size j=d'.size k:=fun hi hi2=>by
  simp only [Va.back,hi,hi2,and_self]
 have hatN: ∀ {j k:Nat},inv nm m' j=some k→(d.back d' vw nm hd m' w.heap.size).at_ j=d'.at_ k∧(d.back d' vw nm hd m' w.heap.size).size j=d'.size k:=fun hi=>by
  simp only [Va.back,hi,and_self]
 have hroM: ∀ b o y,d.ro b o=some y→(d.back d' vw nm hd m' w.heap.size).ro b o=some y:=fun b o y hy=>by
  simp only [Va.back]
  split
  ·exact hy
  ·rw [if_pos (b0y (h.ro b o y hy))];exact hy
 have hout: ∀ k,okN m' k=true→(d.back d' vw nm hd m' w.heap.size).at_ (Mk nm hd k)=d'.at_ k∧(k<gl0→(d.back d' vw nm hd m' w.heap.size).size (Mk nm hd k)=d'.size k):=fun k hk=>by
  simp only [okN] at hk
  split at hk
  ·rename_i hkl
   obtain ⟨o',ho'⟩:=Option.isSome_iff_exists.mp hk
   rcases Nat.lt_or_ge k px0 with hp|hp
   ·have hi:=((Kw ho ho').2.1 hp).2.2
    simp only [Mk,if_pos hp]
    obtain ⟨g1,g2⟩:=hatN hi
    exact ⟨g1,fun _=>g2⟩
   ·have hkm:=(Kw ho ho').2.2 hp hkl
    obtain ⟨j,hj,hjs,hjl,g1,_⟩:=hfix hkm hk hkl
    simp only [Mk,if_neg (Nat.not_lt_of_le hp),nameOut,hj]
    rcases Nat.lt_or_ge k 750000 with hq|hq
    ·obtain ⟨f1,f2⟩:=hat2 (hinvM hjs) (hmvK hj hq)
     exact ⟨by rw [f1,(g1 hq).1],fun _=>by rw [f2,(g1 hq).2]⟩
    ·obtain ⟨f1,f2⟩:=hatV (hinvM hjs) (hmvS hj hq)
     exact ⟨f1,fun _=>f2⟩
  ·rename_i hkl
   have hkl:gl0≤k:=Nat.le_of_not_lt hkl
   have hno:look hd k=none:=by
    cases hl:look hd k with
    |none=>rfl
    |some j=>exact absurd (Ew hok hl).2.1 (Nat.not_lt_of_le hkl)
   have hp:¬k<500000:=Nat.not_lt_of_le (Nat.le_trans (Nat.le_of_lt Tv) hkl)
   simp only [Mk,if_neg hp,nameOut,hno]
   refine ⟨?_,fun hl=>absurd hl (Nat.not_lt_of_le hkl)⟩
   rw [(hat2 (hinvG (Nat.le_trans (Nat.le_of_lt Tv) hkl)) (hmvG hkl)).1,h.gat k hkl,hs.gat k hkl]
 have hroR:vw=false→∀ b o y,d'.ro b o=some y→(d.back d' vw nm hd m' w.heap.size).ro b o=some y:=fun hv b o y hy=>by
  simp only [Va.back,hv,Bool.false_eq_true,if_false]
  split
  ·rename_i hb
   have:=hs.old b o y hy hb
   rw [←hr hv];exact this
  ·exact hy
 refine ⟨?_,hout,hroR⟩
 have hsame: ∀ {b:Nat},b<w.heap.size→(∀ j,(look S.mem j).isSome=true→j<gl0→(∃ k,(look m k).isSome=true∧k<gl0∧look hd k=some j)→d.at_ j≠b)→w'.heap[b]? =w.heap[b]? :=fun {b} hb hne=>by
  refine hs.block b hb fun hmb=>?_
  obtain ⟨k,j,h1,h2,_,h4,h5,h6,h7⟩:=hmay hmb
  exact hne j h5 h6 ⟨k,h1,h2,h4⟩ h7
 have agree: ∀ {v:V},(∀ j,fresh j S=true→v.has j=false)→(∀ j k,k0m hd j=some k→v.has j=false)→∀ j,v.has j=true→(d.back d' vw nm hd m' w.heap.size).at_ j=d.at_ j∧(d.back d' vw nm hd m' w.heap.size).size j=d.size j:=fun hv hv2 j hj=>by
  refine hat2 ?_ ?_
  ·cases hi:inv nm m' j with
   |none=>rfl
   |some k=>have:=hv j (hinv hi).2.2.2.1;rw [hj] at this;cases this
  ·cases hi:k0m hd j with
   |none=>rfl
   |some k=>have:=hv2 j k hi;rw [hj] at this;cases this
 have hback: ∀ {j:Nat},(∀ k,(look m' k).isSome=true→k<gl0→Mk nm hd k≠j)→∀ x∈hd,x.2≠j:=fun {j} hg x hx e=>by
  have hx1: ∃ j',look hd x.1=some j':=by
   have: ∀ {l:Hand},x∈l→∃ j',look l x.1=some j':=by
    intro l
    induction l with
    |nil=>intro h;cases h
    |cons z r ih=>
     intro h
     simp only [look]
     split
     ·exact ⟨_,rfl⟩
     ·rename_i hne
      rcases List.mem_cons.mp h with rfl|h2
      ·exact absurd rfl hne
      ·exact ih h2
   exact this hx
  obtain ⟨j',hj'⟩:=hx1
  have hjj:j'=j:=by
   have key: ∀ {l:Hand},Ox l=true→x∈l→look l x.1=some j'→j'=x.2:=by
    intro l
    induction l with
    |nil=>intro _ h;cases h
    |cons z r ih=>
     intro ho hin hl
     have ho':=ho
     simp only [Ox,Bool.and_eq_true,decide_eq_true_eq,Bool.not_eq_true',List.any_eq_false,beq_iff_eq] at ho'
     simp only [look] at hl
     rcases List.mem_cons.mp hin with rfl|h2
     ·rw [if_pos rfl] at hl;cases hl;rfl
     ·split at hl
      ·rename_i e2
       exact absurd e2 (fun e3=>ho'.1.1.2 x h2 (by first|exact e3.symm|exact e3))
      ·exact ih ho'.2 h2 hl
   exact (key hok hx hj').trans e
  subst hjj
  have hp:=(Ew hok hj').1
  exact hg x.1 (hpres hj') (Ew hok hj').2.1 (by simp only [Mk,if_neg (Nat.not_lt_of_le hp),nameOut,hj'])
 have hbackM: ∀ {j:Nat},(∀ k,(look m' k).isSome=true→k<gl0→Mk nm hd k≠j)→k0m hd j=none:=fun {j} hg=>by
  cases hi:k0m hd j with
  |none=>rfl
  |some k=>exact absurd rfl (hback hg (k,j) (Mx (hmove hi).1))
 have cls: ∀ {j:Nat},(look (Nj nm hd m' S.mem) j).isSome=true→j<gl0→(∃ k,k<px0∧(look m' k).isSome=true∧inv nm m' j=some k∧w.heap.size≤d'.at_ k)∨((look S.mem j).isSome=true∧inv nm m' j=none∧k0m hd j=none)∨(∃ k,(look S.mem j).isSome=true∧inv nm m' j=none∧k0m hd j=some k∧(d'.at_ k=d.at_ j∨w.heap.size≤d'.at_ k)):=fun {j} hj hjl=>by
  obtain ⟨o2,ho2⟩:=Option.isSome_iff_exists.mp hj
  rcases Xq ho ho2 with ⟨k,o',g1,g2,g3,g4⟩|⟨g1,g2⟩
  ·have hks:(look m' k).isSome=true:=by rw [g1];rfl
   rcases Nat.lt_or_ge k px0 with hp|hp
   ·have hi:=((Kw ho g1).2.1 hp).2.2
    simp only [Mk,if_pos hp] at g3
    rw [g3] at hi
    exact .inl ⟨k,hp,hks,hi,hnew hp hks⟩
   ·have hkm:=(Kw ho g1).2.2 hp g2
    obtain ⟨j2,hj2,hjs,_,_,f2⟩:=hfix hkm hks g2
    simp only [Mk,if_neg (Nat.not_lt_of_le hp),nameOut,hj2] at g3
    subst g3
    rcases Nat.lt_or_ge k 750000 with hq|hq
    ·exact .inr (.inl ⟨hjs,hinvM hjs,hmvK hj2 hq⟩)
    ·exact .inr (.inr ⟨k,hjs,hinvM hjs,hmvS hj2 hq,f2⟩)
  ·have:(look S.mem j).isSome=true:=by rw [g1];rfl
   exact .inr (.inl ⟨this,hinvM this,hbackM g2⟩)
 refine ⟨h.defers,h.nt,fun n v hv=>?_,fun j o2 hj hjl=>?_,fun j1 j2 h1 h2 hl1 hl2 he=>?_,fun j hj hjl=>?_,fun b o y hy=>?_,fun b o y hy hb=>?_,hs.os.trans h.os,hs.tape.trans h.tape,hs.output.trans h.output,Nat.le_trans h.size hs.size,fun b hb hnb=>?_,fun j hj=>?_,fun j o hj hjl=>?_,fun j o p hj hp hjl=>?_,h.fxn,fun b l hb=>?_⟩
 ·obtain ⟨y,hy,hyd⟩:=h.env n v hv
  exact ⟨y,hy,V.den_agree hroM (agree (fun j hf=>Rk (b0s hf).1 hv) (fun j k hi=>Rk (g1e hmv (Oz hok hi).1 (Oz hok hi).2) hv)) hyd⟩
 ·rcases Xq ho hj with ⟨k,o',g1,g2,g3,g4⟩|⟨g1,g2⟩
  ·obtain ⟨vals,spare,ty,fr,f1,f2,f3,f4,f5⟩:=hs.mem k o' g1 g2
   have hk:okN m' k=true:=by simp only [okN];rw [if_pos g2,g1];rfl
   obtain ⟨e1,e2⟩:=hout k hk
   rw [g3] at e1 e2
   subst g4
   exact ⟨vals,spare,ty,fr,by rw [e1];exact f1,f2,j0f hroR hout (Kw ho g1).1 f3,f4,by rw [e2 g2];exact f5⟩
  ·obtain ⟨vals,spare,ty,fr,f1,f2,f3,f4,f5⟩:=h.mem j o2 g1 hjl
   have hjs:(look S.mem j).isSome=true:=by rw [g1];rfl
   obtain ⟨e1,e2⟩:=hat2 (hinvM hjs) (hbackM g2)
   refine ⟨vals,spare,ty,fr,?_,f2,?_,f4,by rw [e2];exact f5⟩
   ·rw [e1,hsame (h.mem_lt hjs hjl)]
    ·exact f1
    ·rintro j' hj' hjl' ⟨k,hk,hkl,hkj⟩ he
     have:=h.inj j' j hj' hjs hjl' hjl he
     subst this
     refine g2 k (hpres hkj) hkl ?_
     have hp:=(Ew hok hkj).1
     simp only [Mk,if_neg (Nat.not_lt_of_le hp),nameOut,hkj]
   ·exact m0m hroM (fun i hi=>agree (v:=.w (.agg o2.cells)) (fun j' hf=>Yx (b0s hf).2 g1) (fun j' k hi=>g1d hmv (Oz hok hi).1 (Oz hok hi).2 g1 (hback g2)) i hi) f3
 ·rcases cls h1 hl1 with ⟨k1,p1,q1,i1,s1⟩|⟨q1,i1,u1⟩|⟨k1,q1,i1,u1,s1⟩<;>rcases cls h2 hl2 with ⟨k2,p2,q2,i2,s2⟩|⟨q2,i2,u2⟩|⟨k2,q2,i2,u2,s2⟩
  ·rw [(hatN i1).1,(hatN i2).1] at he
   have:=hs.inj k1 k2 q1 q2 (Nat.lt_trans p1 Tv) (Nat.lt_trans p2 Tv) he
   subst this
   rw [←(h0q i1).2.1,←(h0q i2).2.1]
  ·rw [(hatN i1).1,(hat2 i2 u2).1] at he
   have:=h.mem_lt q2 hl2
   omega
  ·rw [(hatN i1).1,(hatV i2 u2).1] at he
   have:=hs.inj k1 k2 q1 (hmove u2).2.2.2.2 (Nat.lt_trans p1 Tv) (hmove u2).2.1 he
   have h5:=(hmove u2).2.2.1
   omega
  ·rw [(hat2 i1 u1).1,(hatN i2).1] at he
   have:=h.mem_lt q1 hl1
   omega
  ·rw [(hat2 i1 u1).1,(hat2 i2 u2).1] at he
   exact h.inj j1 j2 q1 q2 hl1 hl2 he
  ·rw [(hat2 i1 u1).1,(hatV i2 u2).1] at he
   rcases s2 with e|e
   ·rw [e] at he
    exact h.inj j1 j2 q1 q2 hl1 hl2 he
   ·have:=h.mem_lt q1 hl1
    omega
  ·rw [(hatV i1 u1).1,(hatN i2).1] at he
   have:=hs.inj k1 k2 (hmove u1).2.2.2.2 q2 (hmove u1).2.1 (Nat.lt_trans p2 Tv) he
   have h5:=(hmove u1).2.2.1
   omega
  ·rw [(hatV i1 u1).1,(hat2 i2 u2).1] at he
   rcases s1 with e|e
   ·rw [e] at he
    exact h.inj j1 j2 q1 q2 hl1 hl2 he
   ·have:=h.mem_lt q2 hl2
    omega
  ·rw [(hatV i1 u1).1,(hatV i2 u2).1] at he
   have:=hs.inj k1 k2 (hmove u1).2.2.2.2 (hmove u2).2.2.2.2 (hmove u1).2.1 (hmove u2).2.1 he
   subst this
   have e1:=(hmove u1).1
   rw [(hmove u2).1] at e1
   exact (Option.some.inj e1).symm
 ·have hnone: ∀ {b:Nat},w.heap.size≤b→∀ o,d.ro b o=none:=fun {b} hb o=>by
   cases hq:d.ro b o with
   |none=>rfl
   |some y=>have:=b0y (h.ro _ _ _ hq);omega
  rcases cls hj hjl with ⟨k,p,q,i,s⟩|⟨q,i,u⟩|⟨k,q,i,u,s⟩
  ·rw [(hatN i).1]
   refine ⟨fun o=>?_,.inl (Nat.le_trans h.size s)⟩
   simp only [Va.back]
   split
   ·exact hnone s o
   ·split
    ·exact hnone s o
    ·exact (hs.own k q (Nat.lt_trans p Tv)).1 o
  ·rw [(hat2 i u).1]
   have hlt:=h.mem_lt q hjl
   obtain ⟨g1,g2⟩:=h.own j q hjl
   refine ⟨fun o=>?_,g2⟩
   simp only [Va.back]
   split<;>first
    |exact g1 o
    |(rw [if_pos hlt];exact g1 o)
  ·rw [(hatV i u).1]
   rcases s with e|e
   ·rw [e]
    have hlt:=h.mem_lt q hjl
    obtain ⟨g1,g2⟩:=h.own j q hjl
    refine ⟨fun o=>?_,g2⟩
    simp only [Va.back]
    split<;>first
     |exact g1 o
     |(rw [if_pos hlt];exact g1 o)
   ·refine ⟨fun o=>?_,.inl (Nat.le_trans h.size e)⟩
    simp only [Va.back]
    split
    ·exact hnone e o
    ·split
     ·exact hnone e o
     ·exact (hs.own k (hmove u).2.2.2.2 (hmove u).2.1).1 o
 ·have key:d.ro b o=some y→w'.cell? ⟨b,o,none⟩=some y:=fun hy=>by
   have hc:=h.ro b o y hy
   have hlt:=b0y hc
   have:=hsame hlt (fun j hj hjl _ he=>by have:=(h.own j hj hjl).1 o;rw [he,hy] at this;cases this)
   simp only [World.cell?] at hc ⊢
   rw [this];exact hc
  simp only [Va.back] at hy
  split at hy
  ·exact key hy
  ·split at hy
   ·exact key hy
   ·exact hs.ro b o y hy
 ·simp only [Va.back] at hy
  split at hy
  ·exact h.old b o y hy hb
  ·rw [if_pos (Nat.lt_of_lt_of_le hb h.size)] at hy;exact h.old b o y hy hb
 ·rw [hsame (Nat.lt_of_lt_of_le hb h.size)]
  ·exact h.block b hb hnb
  ·intro j hj hjl _ he
   rcases (h.own j hj hjl).2 with g|g
   ·rw [he] at g;omega
   ·rw [he] at g;exact hnb g.2
 ·rw [(hat2 (hinvG (Nat.le_trans (Nat.le_of_lt Tv) hj)) (hmvG hj)).1];exact h.gat j hj
 ·have hi:=hinvG (Nat.le_trans (Nat.le_of_lt Tv) hjl)
  rcases Xq ho hj with ⟨k,o',g1,g2,g3,g4⟩|⟨g1,_⟩
  ·exfalso
   rcases Nat.lt_or_ge k px0 with hp|hp
   ·have:=((Kw ho g1).2.1 hp).2.2
    simp only [Mk,if_pos hp] at g3
    rw [g3,hi] at this;cases this
   ·obtain ⟨j2,hj2,_,hl2,_⟩:=hmj ((Kw ho g1).2.2 hp g2) g2
    simp only [Mk,if_neg (Nat.not_lt_of_le hp),nameOut,hj2] at g3
    subst g3;exact absurd hl2 (Nat.not_lt_of_le hjl)
  ·rcases h.glob j o g1 hjl with ⟨l,rfl⟩|⟨e1,cs,e2,e3⟩
   ·exact .inl ⟨l,rfl⟩
   exact .inr ⟨by rw [(hat2 hi (hmvG hjl)).2];exact e1,cs,e2,PL.denAt_mono hroM e3⟩
 ·have hi:=hinvG (h.fxn j p hp)
  rcases cls (by rw [hj];rfl) hjl with ⟨k,_,_,i,_⟩|⟨q,i,u⟩|⟨k,q,i,u,s⟩
  ·rw [hi] at i;cases i
  ·obtain ⟨u2,hu⟩:=Option.isSome_iff_exists.mp q
   rw [(hat2 hi u).1,(hat2 hi u).2];exact h.fix j u2 p hu hp hjl
  ·obtain ⟨u2,hu⟩:=Option.isSome_iff_exists.mp q
   have hf:=h.fix j u2 p hu hp hjl
   have h6:=h.fxn j p hp
   have h7:=l0x hok (hmove u).1
   have h8:=(Oz hok u).2
   refine ⟨fun hl=>?_,?_⟩
   ·unfold px0 at h6;omega
   ·rw [(hatV hi u).1]
    rcases s with e|e
    ·rw [e];exact hf.2
    ·exact .inr (Nat.le_trans h.size e)
 ·have hjl:gl0≤mp0+b:=by show 1000000≤2000000+b;omega
  have hi:=hinvG (Nat.le_trans (Nat.le_of_lt Tv) hjl)
  rcases Xq ho hb with ⟨k,o',g1,g2,g3,g4⟩|⟨g1,_⟩
  ·exfalso
   rcases Nat.lt_or_ge k px0 with hp|hp
   ·have:=((Kw ho g1).2.1 hp).2.2
    simp only [Mk,if_pos hp] at g3
    rw [g3,hi] at this;cases this
   ·obtain ⟨j2,hj2,_,hl2,_⟩:=hmj ((Kw ho g1).2.2 hp g2) g2
    simp only [Mk,if_neg (Nat.not_lt_of_le hp),nameOut,hj2] at g3
    subst g3;exact absurd hl2 (Nat.not_lt_of_le hjl)
  ·have hm2:=h.mp b l g1
   exact hm2.of (hsame hm2.lt fun j hj hjl2 _=>h.map_apart hm2 hj hjl2)
end
open Classical in
theorem m0i {P:Program} {B:Base} {S:St} {K:St→Prop} {dst:Option Tmp} {ty:TypeId} {pos:String} {af:Array Edge} {f:FuncId} {args:List Operand} {ts:Array TypeId} {ds:List (Option Tmp)} {r:List Oper} {vs:List V} {m:List (Nat×Ob)} {R:V→List (Nat×Ob)→Prop}
  (vw:Bool) (hd:Hand) (nm:Nat→Nat) (hgo: ∀ vals w,(callFunc f vals).run P w=.ok (.enter f vals) w) (hargs: ∀ {d:Va} {a:Act} {w:World} {ro:Ro},Sim B d S a w→RoOk S hd d w vw ro→Fv (V.den (d.hand hd ro)) vs (args.map a.eval)) (hok:Ox hd=true) (hmv:m1z hd S=true) (hm:Kj S hd m) (hc:CtM P f vs m R)
  (hK: ∀ v m',R v m'→Jw vw m' v=true∧a0r vw nm hd S m m' m'∧hd.all (fun x=>(look m' x.1).isSome)=true∧(match dst with
   |some n=>n<B.nt∧Bq P B ds r ⟨(n,v.ren (Mk nm hd))::S.env,Nj nm hd m' S.mem⟩ K
   |none=>Bq P B ds r ⟨S.env,Nj nm hd m' S.mem⟩ K)):
  Ey P B ⟨dst,.call ⟨.value (.func f),args.toArray,ts⟩,ty,pos,af,none⟩ S ds r K:=by
 intro d a w h next Q hn
 have hrun:(execOp a.eval ⟨dst,.call ⟨.value (.func f),args.toArray,ts⟩,ty,pos,af,none⟩).run P w=.ok (.enter f (args.map a.eval).toArray) w:=by
  simp [execOp,resolve,Deferred.ofValue,Act.eval,invoke,hgo]
 unfold Oper.wp
 rw [hrun,Oper.upon_enter]
 obtain ⟨ro,hr,hrv,hrw,hrn⟩: ∃ ro:Ro,RoOk S hd d w vw ro∧(vw=false→ro=d.ro)∧(∀ b o y,ro b o=some y→w.cell? ⟨b,o,none⟩=some y)∧(∀ k j,look hd k=some j→(look S.mem j).isSome=true→∀ o,ro (d.at_ j) o=none):=by
  cases vw with
  |false=>exact ⟨d.ro,r0p,fun _=>rfl,h.ro,fun k j hk hj o=>(h.own j hj (Ew hok hk).2.2).1 o⟩
  |true=>
   refine ⟨fun b o=>if (∃ k j,look hd k=some j∧(look S.mem j).isSome=true∧d.at_ j=b) then none else w.cell? ⟨b,o,none⟩,⟨fun b o y hy=>?_,fun _ j hj hjl hn o y hy=>?_⟩,(fun h=>by cases h),fun b o y hy=>?_,fun k j hk hj o=>?_⟩
   ·rw [if_neg]
    ·exact h.ro b o y hy
    ·rintro ⟨k,j,hk,hj,rfl⟩
     have:=(h.own j hj (Ew hok hk).2.2).1 o
     rw [this] at hy;cases hy
   ·rw [if_neg]
    ·exact hy
    ·rintro ⟨k,j',hk,hj',he⟩
     have:=h.inj j' j hj' hj (Ew hok hk).2.2 hjl he
     subst this
     have:Mv hd j'≠none:=by
      have key: ∀ {hd:Hand},look hd k=some j'→Mv hd j'≠none:=by
       intro hd
       induction hd with
       |nil=>intro h;cases h
       |cons x r ih=>
        intro h
        simp only [Mv]
        split
        ·simp
        ·rename_i hne
         simp only [look] at h
         split at h
         ·cases h;exact absurd rfl hne
         ·exact ih h
      exact key hk
     exact this hn
   ·have hy':(if (∃ k j,look hd k=some j∧(look S.mem j).isSome=true∧d.at_ j=b) then none else w.cell? ⟨b,o,none⟩)=some y:=hy
    split at hy'
    ·cases hy'
    ·exact hy'
   ·exact if_pos ⟨k,j,hk,hj,rfl⟩
 have hmem:=j0j h hr hrw hrn hok hm
 have hda:=hargs h hr
 refine (hc w (d.hand hd ro) (args.map a.eval).toArray hmem (by simpa using hda)).mono ?_
 rintro e w' ⟨y,v,d',m',rfl,hR,hvd,a2,hs⟩
 obtain ⟨hlo,hou,hall,hk⟩:=hK v m' hR
 obtain ⟨hsim,hnm,hro⟩:=t0u h hrv hok hmv hm hs hall hou
 have hvd2:=b0l hro hnm hlo hvd
 cases dst with
 |none=>exact hn _ _ _ _ hk hsim
 |some n=>exact hn _ _ _ _ hk.2 (hsim.put hk.1 hvd2)
def g1u (hd:Hand):Bool:=Ox hd&&hd.all fun x=>decide (x.1<750000)
theorem e0t {hd:Hand} (h:g1u hd=true):Ox hd=true∧∀ S,m1z hd S=true:=by
 simp only [g1u,Bool.and_eq_true] at h
 refine ⟨h.1,fun S=>List.all_eq_true.mpr fun x hx=>?_⟩
 have:=List.all_eq_true.mp h.2 x hx
 rw [this];rfl
theorem Sw {P:Program} {B:Base} {S:St} {K:St→Prop} {dst:Option Tmp} {ty:TypeId} {pos:String} {af:Array Edge} {f:FuncId} {args:List Operand} {ts:Array TypeId} {ds:List (Option Tmp)} {r:List Oper} {vs:List V} {m:List (Nat×Ob)} {R:V→List (Nat×Ob)→Prop}
  (vw:Bool) (hd:Hand) (nm:Nat→Nat) (hgo: ∀ vals w,(callFunc f vals).run P w=.ok (.enter f vals) w) (hargs:Nw vw S hd args=some vs) (hok:g1u hd=true) (hm:Kj S hd m) (hc:CtM P f vs m R)
  (hK: ∀ v m',R v m'→Jw vw m' v=true∧a0r vw nm hd S m m' m'∧hd.all (fun x=>(look m' x.1).isSome)=true∧(match dst with
   |some n=>n<B.nt∧Bq P B ds r ⟨(n,v.ren (Mk nm hd))::S.env,Nj nm hd m' S.mem⟩ K
   |none=>Bq P B ds r ⟨S.env,Nj nm hd m' S.mem⟩ K)):
  Ey P B ⟨dst,.call ⟨.value (.func f),args.toArray,ts⟩,ty,pos,af,none⟩ S ds r K:=
 m0i vw hd nm hgo (fun h hr=>d0y h hr (e0t hok).1 hargs) (e0t hok).1 ((e0t hok).2 S) hm hc hK
end Go.Sy
namespace Go.Sy
def h0i (S:St):List L→Option (List PL)
 | []=>some []
 |l::r=>match Oj true S [] l,h0i S r with
  |some (.pl x),some xs=>some (x::xs)
  |_,_=>none
def q0j (S:St) (l:L):Option L:=match Oj true S [] l with
 |some x=>some x
 |none=>match l with
  | .s j path len sz=>if j<1000000 then match look S.mem j with
    |some o=>if pok o.cells.length path∧psz o.cells.length path=len*sz then (h0i S (rd o.cells path)).map fun c=>.pl (.R false sz (chunks sz len c)) else none
    |none=>none
   else none
  |_=>none
def f0c (S:St):List L→Option (List L)
 | []=>some []
 |l::r=>match q0j S l,f0c S r with
  |some x,some xs=>some (x::xs)
  |_,_=>none
def q0h (S:St):V→Option V
 | .w (.one l)=>(q0j S l).map fun x=>.w (.one x)
 | .w (.agg cs)=>(f0c S cs).map fun x=>.w (.agg x)
 |_=>none
def Uk (S:St):List Operand→Option (List V)
 | []=>some []
 |x::r=>match (S.get x).bind (q0h S),Uk S r with
  |some v,some vs=>some (v::vs)
  |_,_=>none
section
variable {B:Base} {d:Va} {S:St} {a:Act} {w:World} {ro:Ro}
theorem v0m (h:Sim B d S a w) (hr:RoOk S [] d w true ro): ∀ {cs:List L} {c:List PL} {vs:List Value},h0i S cs=some c→Fv (L.den d) cs vs→Fv (L.den (d.hand [] ro)) (pls c) vs
 | [],c,vs,hv,hd=>by cases hd;simp only [h0i] at hv;cases hv;exact .nil
 |l::r,c,vs,hv,hd=>by
  cases hd with
  |cons h1 h2=>
   simp only [h0i] at hv
   split at hv<;>cases hv
   rename_i x xs e1 e2
   exact .cons (e0q h hr rfl e1 h1) (v0m h hr e2 h2)
theorem h0b : ∀ {cs:List L} {c:List PL},h0i S cs=some c→c.length=cs.length
 | [],c,hv=>by simp only [h0i] at hv;cases hv;rfl
 |l::r,c,hv=>by
  simp only [h0i] at hv
  split at hv<;>cases hv
  rename_i x xs e1 e2
  simp only [List.length_cons,h0b e2]
theorem v0l (h:Sim B d S a w) (hr:RoOk S [] d w true ro) {l x:L} {y:Value} (hx:q0j S l=some x) (hd:l.den d y):x.den (d.hand [] ro) y:=by
 unfold q0j at hx
 split at hx
 ·rename_i z hz;cases hx;exact e0q h hr rfl hz hd
 ·split at hx<;>try (cases hx;done)
  rename_i j path len sz _
  split at hx<;>try (cases hx;done)
  rename_i hj
  split at hx<;>try (cases hx;done)
  rename_i o hk
  split at hx<;>try (cases hx;done)
  rename_i hc
  obtain ⟨hp,hps⟩:=hc
  obtain ⟨c,hu,rfl⟩:=Option.map_eq_some_iff.mp hx
  obtain ⟨vals,hvd,hcell,hl⟩:=h.readObj hk hp
  have hcl:=Xk o.cells hp
  rw [hps,←h0b hu] at hcl
  have hvd2:=v0m h hr hu hvd
  have hn:Mv [] j=none:=by simp only [Mv];rw [if_neg (Nat.not_le_of_lt hj)]
  obtain ⟨oo,cap,rfl,hlc,hcm,ho,_⟩:=hd
  show PL.den _ _ _
  rw [PL.den]
  right;left
  refine ⟨d.at_ j,oo,cap,by rw [Jz],by rw [Jz];exact hlc,hcm,fun e=>(by cases e),?_⟩
  refine Ow ?_ hcl
  rcases ho with ho|rfl
  ·have hlen:len=0:=by omega
   rw [hlen,Nat.zero_mul] at hcl
   have:=List.eq_nil_of_length_eq_zero hcl
   subst this;rw [PL.denAt];trivial
  ·exact Sz (d:=d.hand [] ro) (fun b o y hy=>hy) (hr.view rfl j (by rw [hk];rfl) hj hn) hvd2 hcell
theorem q0i (h:Sim B d S a w) (hr:RoOk S [] d w true ro): ∀ {cs xs:List L} {vs:List Value},f0c S cs=some xs→Fv (L.den d) cs vs→Fv (L.den (d.hand [] ro)) xs vs
 | [],xs,vs,hv,hd=>by cases hd;simp only [f0c] at hv;cases hv;exact .nil
 |l::r,xs,vs,hv,hd=>by
  cases hd with
  |cons h1 h2=>
   simp only [f0c] at hv
   split at hv<;>cases hv
   rename_i e1 e2
   exact .cons (v0l h hr e1 h1) (q0i h hr e2 h2)
theorem j1g (h:Sim B d S a w) (hr:RoOk S [] d w true ro) {v x:V} {y:Value} (hv:q0h S v=some x) (hd:v.den d y):x.den (d.hand [] ro) y:=by
 unfold q0h at hv
 split at hv<;>try (cases hv;done)
 ·obtain ⟨z,hz,rfl⟩:=Option.map_eq_some_iff.mp hv
  exact v0l h hr hz hd
 ·obtain ⟨z,hz,rfl⟩:=Option.map_eq_some_iff.mp hv
  obtain ⟨vs,rfl,hall⟩:=hd
  exact ⟨vs,rfl,q0i h hr hz hall⟩
theorem m0e (h:Sim B d S a w) (hr:RoOk S [] d w true ro): ∀ {xs:List Operand} {vs:List V},Uk S xs=some vs→Fv (V.den (d.hand [] ro)) vs (xs.map a.eval)
 | [],vs,hv=>by simp only [Uk] at hv;cases hv;exact .nil
 |x::r,vs,hv=>by
  simp only [Uk] at hv
  split at hv<;>cases hv
  rename_i v us e1 e2
  obtain ⟨u,hu,hv⟩:=bind_some e1
  exact .cons (j1g h hr hv (h.get hu)) (m0e h hr e2)
end
theorem d1j {P:Program} {B:Base} {S:St} {K:St→Prop} {dst:Option Tmp} {ty:TypeId} {pos:String} {af:Array Edge} {f:FuncId} {args:List Operand} {ts:Array TypeId} {ds:List (Option Tmp)} {r:List Oper} {vs:List V} {m:List (Nat×Ob)} {R:V→List (Nat×Ob)→Prop}
  (nm:Nat→Nat) (hgo: ∀ vals w,(callFunc f vals).run P w=.ok (.enter f vals) w) (hargs:Uk S args=some vs) (hm:Kj S [] m) (hc:CtM P f vs m R)
  (hK: ∀ v m',R v m'→Jw true m' v=true∧a0r true nm [] S m m' m'∧(match dst with
   |some n=>n<B.nt∧Bq P B ds r ⟨(n,v.ren (Mk nm []))::S.env,Nj nm [] m' S.mem⟩ K
   |none=>Bq P B ds r ⟨S.env,Nj nm [] m' S.mem⟩ K)):
  Ey P B ⟨dst,.call ⟨.value (.func f),args.toArray,ts⟩,ty,pos,af,none⟩ S ds r K:=
 m0i true [] nm hgo (fun h hr=>m0e h hr hargs) rfl rfl hm hc fun v m' hR=>⟨(hK v m' hR).1,(hK v m' hR).2.1,rfl,(hK v m' hR).2.2⟩
end Go.Sy
namespace Go.Sy
def k0p (k:Nat) (c:List PL):L→L
 | .pl x=>.pl x
 | .p j path=>if j=k then .pl (.q c path) else .p j path
 | .s j path len sz=>if j=k then if pok c.length path∧psz c.length path=len*sz then .pl (.R false sz (chunks sz len (rd c path))) else .pl .u else .s j path len sz
 | .fn f caps=>if caps.any (fun j=>j==k)=true then .pl .u else .fn f caps
def l1s (k:Nat) (c:List PL):W→W
 | .one l=>.one (k0p k c l)
 | .agg cs=>.agg (cs.map (k0p k c))
def a1b (k:Nat) (c:List PL):V→V
 | .w x=>.w (l1s k c x)
 | .tup xs=>.tup (xs.map (l1s k c))
 | .any=>.any
def f1f (k:Nat) (c:List PL):List (Nat×V)→List (Nat×V)
 | []=>[]
 |x::r=>(x.1,a1b k c x.2)::f1f k c r
def o0q (k:Nat) (c:List PL):List (Nat×Ob)→List (Nat×Ob)
 | []=>[]
 |x::r=>if x.1=k then o0q k c r else (x.1,if x.1<1000000 then ⟨x.2.row,x.2.cells.map (k0p k c)⟩ else x.2)::o0q k c r
def St.laid (k:Nat) (c:List PL) (S:St):St:=⟨f1f k c S.env,o0q k c S.mem⟩
theorem l0u {k:Nat} {c:List PL}: ∀ {l:List (Nat×V)} {n:Nat},look (f1f k c l) n=(look l n).map (a1b k c)
 | [],n=>rfl
 |x::r,n=>by
  simp only [f1f,look]
  split
  ·rfl
  ·exact l0u
theorem g0c {k:Nat} {c:List PL}: ∀ {l:List (Nat×Ob)} {n:Nat},look (o0q k c l) n=if n=k then none else (look l n).map fun o=>if n<1000000 then ⟨o.row,o.cells.map (k0p k c)⟩ else o
 | [],n=>by simp [o0q,look]
 |x::r,n=>by
  simp only [o0q]
  split
  ·rename_i e
   rw [g0c]
   simp only [look]
   by_cases hn:n=k
   ·rw [if_pos hn,if_pos hn]
   ·rw [if_neg hn,if_neg hn,if_neg (fun h=>hn (h.trans e))]
  ·rename_i e
   simp only [look]
   by_cases hx:n=x.1
   ·subst hx;rw [if_pos rfl,if_neg e,if_pos rfl];rfl
   ·rw [if_neg hx,if_neg hx,g0c]
def Va.seals (d:Va) (k:Nat) (w:World):Va:=⟨d.at_,d.size,fun b o=>if b=d.at_ k then w.cell? ⟨b,o,none⟩ else d.ro b o⟩
section
variable {B:Base} {d:Va} {S:St} {a:Act} {w:World} {k:Nat} {o:Ob} {c:List PL}
theorem o0n (h:Sim B d S a w) (hk:look S.mem k=some o) (hkl:k<gl0): ∀ b o y,d.ro b o=some y→(d.seals k w).ro b o=some y:=fun b o' y hy=>by
 simp only [Va.seals]
 split
 ·rename_i e;rw [e,(h.own k (by rw [hk];rfl) hkl).1] at hy;cases hy
 ·exact hy
theorem o0r (h:Sim B d S a w) (hk:look S.mem k=some o) (hc:o.cells=pls c) (hkl:k<gl0) {l:L} {y:Value} (hd:l.den d y):(k0p k c l).den (d.seals k w) y:=by
 have hro:=o0n h hk hkl
 have hb: ∀ o' y,w.cell? ⟨d.at_ k,o',none⟩=some y→(d.seals k w).ro (d.at_ k) o'=some y:=fun o' y hy=>by simp only [Va.seals,if_true];exact hy
 have hl:o.cells.length=c.length:=by rw [hc,Yz]
 cases l with
 |pl x=>exact PL.den_mono hro hd
 |p j path=>
  simp only [k0p]
  split
  ·rename_i e;subst e
   simp only [L.den] at hd
   rw [L.den,PL.den]
   obtain ⟨vals,hv,hcell,_⟩:=h.readObj (path:=[]) hk trivial
   simp only [rd,hc,Qy] at hv hcell
   exact ⟨d.at_ j,0,by rw [hd];simp,Sz hro hb hv hcell⟩
  ·exact hd
 |s j path len sz=>
  simp only [k0p]
  split
  ·rename_i e;subst e
   split
   ·rename_i hp
    obtain ⟨hp,hps⟩:=hp
    obtain ⟨vals,hv,hcell,_⟩:=h.readObj (path:=path) hk (by rw [hl];exact hp)
    have hcl:=Xk c hp
    have e2:rd o.cells path=pls (rd c path):=by rw [hc];unfold pls;rw [u0o]
    rw [e2] at hv
    obtain ⟨oo,cap,rfl,hlc,hcm,ho,_⟩:=hd
    rw [L.den,PL.den]
    right;left
    rw [hps] at hcl
    refine ⟨d.at_ j,oo,cap,by rw [Jz],by rw [Jz];exact hlc,hcm,fun e=>(by cases e),?_⟩
    refine Ow ?_ hcl
    rcases ho with ho|rfl
    ·have hlen:len=0:=by omega
     rw [hlen,Nat.zero_mul] at hcl
     have:=List.eq_nil_of_length_eq_zero hcl
     rw [this];rw [PL.denAt];trivial
    ·exact Sz hro hb hv hcell
   ·have hs:=L.den_scalar hd
    rw [L.den,PL.den];exact hs
  ·exact hd
 |fn f caps=>
  simp only [k0p]
  split
  ·have hs:=L.den_scalar hd
   rw [L.den,PL.den];exact hs
  ·exact hd
theorem o0s (h:Sim B d S a w) (hk:look S.mem k=some o) (hc:o.cells=pls c) (hkl:k<gl0) {cs:List L} {vs:List Value} (hd:Fv (L.den d) cs vs):Fv (L.den (d.seals k w)) (cs.map (k0p k c)) vs:=
 Fv.map_left (hd.mono fun x y _ hr=>o0r h hk hc hkl hr)
theorem o0o (h:Sim B d S a w) (hk:look S.mem k=some o) (hc:o.cells=pls c) (hkl:k<gl0) {x:W} {y:Value} (hd:x.den d y):(l1s k c x).den (d.seals k w) y:=by
 cases x with
 |one l=>exact o0r h hk hc hkl hd
 |agg cs=>obtain ⟨vs,rfl,hv⟩:=hd;exact ⟨vs,rfl,o0s h hk hc hkl hv⟩
theorem o0p (h:Sim B d S a w) (hk:look S.mem k=some o) (hc:o.cells=pls c) (hkl:k<gl0) {x:V} {y:Value} (hd:x.den d y):(a1b k c x).den (d.seals k w) y:=by
 cases x with
 |w x=>exact o0o h hk hc hkl hd
 |tup xs=>obtain ⟨vs,rfl,hv⟩:=hd;exact ⟨vs,rfl,Fv.map_left (hv.mono fun x y _ hr=>o0o h hk hc hkl hr)⟩
 |any=>trivial
theorem Sim.sealed (h:Sim B d S a w) (hk:look S.mem k=some o) (hc:o.cells=pls c) (hkp:k<px0):Sim B (d.seals k w) (S.laid k c) a w:=by
 have hkl:k<gl0:=Nat.lt_trans hkp Tv
 have hmem: ∀ {j:Nat} {p:Ob},look (S.laid k c).mem j=some p→j≠k∧∃ q,look S.mem j=some q∧p=if j<1000000 then ⟨q.row,q.cells.map (k0p k c)⟩ else q:=fun {j p} hj=>by
  simp only [St.laid,g0c] at hj
  split at hj
  ·cases hj
  ·rename_i hne
   obtain ⟨q,hq,rfl⟩:=Option.map_eq_some_iff.mp hj
   exact ⟨hne,q,hq,rfl⟩
 have hsome: ∀ {j:Nat},(look (S.laid k c).mem j).isSome=true→(look S.mem j).isSome=true∧j≠k:=fun {j} hj=>by
  obtain ⟨p,hp⟩:=Option.isSome_iff_exists.mp hj
  obtain ⟨h1,q,h2,_⟩:=hmem hp
  exact ⟨by rw [h2];rfl,h1⟩
 refine ⟨h.defers,h.nt,fun n v hv=>?_,fun j p hj hjl=>?_,fun j1 j2 h1 h2 hl1 hl2 he=>h.inj j1 j2 (hsome h1).1 (hsome h2).1 hl1 hl2 he,fun j hj hjl=>?_,fun b o' y hy=>?_,fun b o' y hy hb=>?_,h.os,h.tape,h.output,h.size,h.block,h.gat,fun j p hj hjl=>?_,fun j p q hj hq hjl=>?_,h.fxn,fun b l hb=>?_⟩
 ·simp only [St.laid,l0u] at hv
  obtain ⟨u,hu,rfl⟩:=Option.map_eq_some_iff.mp hv
  obtain ⟨y,hy,hd⟩:=h.env n u hu
  exact ⟨y,hy,o0p h hk hc hkl hd⟩
 ·obtain ⟨_,q,hq,rfl⟩:=hmem hj
  rw [if_pos hjl]
  obtain ⟨vals,spare,ty,fr,g1,g2,g3,g4,g5⟩:=h.mem j q hq hjl
  exact ⟨vals,spare,ty,fr,g1,g2,o0s h hk hc hkl g3,g4,g5⟩
 ·obtain ⟨h1,h2⟩:=hsome hj
  obtain ⟨g1,g2⟩:=h.own j h1 hjl
  refine ⟨fun o'=>?_,g2⟩
  simp only [Va.seals]
  rw [if_neg (fun e=>h2 (h.inj j k h1 (by rw [hk];rfl) hjl hkl e))];exact g1 o'
 ·simp only [Va.seals] at hy
  split at hy
  ·exact hy
  ·exact h.ro b o' y hy
 ·simp only [Va.seals] at hy
  split at hy
  ·rename_i e
   rcases (h.own k (by rw [hk];rfl) hkl).2 with g|g
   ·omega
   ·exact absurd g.1 (Nat.not_le_of_lt hkp)
  ·exact h.old b o' y hy hb
 ·obtain ⟨_,q,hq,rfl⟩:=hmem hj
  rw [if_neg (Nat.not_lt_of_le hjl)]
  rcases h.glob j q hq hjl with ⟨l,rfl⟩|⟨e1,cs,e2,e3⟩
  ·exact .inl ⟨l,rfl⟩
  exact .inr ⟨e1,cs,e2,PL.denAt_mono (o0n h hk hkl) e3⟩
 ·obtain ⟨_,u,hu,_⟩:=hmem hj
  exact h.fix j u q hu hq hjl
 ·obtain ⟨_,q,hq,e⟩:=hmem hb
  rw [if_neg (show ¬mp0+b<1000000 by show ¬2000000+b<1000000;omega)] at e
  subst e
  exact h.mp b l hq
end
theorem a1x (d:Va):r0z d []=fun _=>False:=by funext b;simp [r0z,look]
theorem h1e (d:Va):h1f d []=fun _=>none:=by funext b;simp [h1f,look]
theorem Ct.hands {P:Program} {f:FuncId} {args:List V} {R:V→List (Nat×Ob)→Prop} (h:Ct P f args R):CtM P f args [] R:=by
 intro w d vals ⟨a,hs⟩ ha
 rw [a1x,h1e]
 exact h w d vals hs.ro hs.gat ha
theorem CtM.k {P:Program} {f:FuncId} {fn:Func} {c:Code} {args:List V} {m:List (Nat×Ob)} {R:V→List (Nat×Ob)→Prop} {nt:Nat} {rs:List ResultVar} (hf:P.funcs[f]? =some fn) (hb:fn.body=some c) (hnt:fn.ntmps=nt) (hrs:fn.results.toList=rs) (hn:args.length≤nt)
  (h: ∀ (w0:World) (ro:Ro) (may:Nat→Prop) (fx:Nat→Option (Nat×Nat)),HT P ⟨w0,may,nt,ro,fx⟩ c ⟨g0n 0 args,m⟩ (o1s P rs R)):CtM P f args m R:=by
 subst hnt;subst hrs
 refine CtM.of hf hb hn fun w0 ro may fx=>?_
 exact (h w0 ro may fx).mono fun e S hq=>by cases e<;>exact hq
end Go.Sy
namespace Go.Sy
theorem r0d {d:Va}: ∀ ks:List Nat,Fv (V.den d) (ks.map fun k=>.w (.one (.p k []))) (ks.map fun k=>Value.pointer (some ⟨d.at_ k,0,none⟩))
 | []=>.nil
 |k::ks=>.cons (by simp [V.den,W.den,L.den,Qy]) (r0d ks)
open Classical in
theorem j1s {P:Program} {B:Base} {S:St} {K:St→Prop} {dst:Option Tmp} {ty:TypeId} {pos:String} {af:Array Edge} {f:FuncId} {args:List Operand} {ts:Array TypeId} {ds:List (Option Tmp)} {r:List Oper} {vs:List V} {m:List (Nat×Ob)} {R:V→List (Nat×Ob)→Prop}
  (vw:Bool) (hd:Hand) (nm:Nat→Nat) {t:Tmp} {caps ks:List Nat} (hfn:S.get (.tmp t)=some (.w (.one (.fn f caps)))) (hcaps:Yq hd caps=some ks) (hgo: ∀ vals w,(callFunc f vals).run P w=.ok (.enter f vals) w) (hargs:Nw vw S hd args=some vs) (hok:Ox hd=true) (hmv:m1z hd S=true) (hm:Kj S hd m) (hc:CtM P f (vs++ks.map fun k=>.w (.one (.p k []))) m R)
  (hK: ∀ v m',R v m'→Jw vw m' v=true∧a0r vw nm hd S m m' m'∧hd.all (fun x=>(look m' x.1).isSome)=true∧(match dst with
   |some n=>n<B.nt∧Bq P B ds r ⟨(n,v.ren (Mk nm hd))::S.env,Nj nm hd m' S.mem⟩ K
   |none=>Bq P B ds r ⟨S.env,Nj nm hd m' S.mem⟩ K)):
  Ey P B ⟨dst,.call ⟨.value (.tmp t),args.toArray,ts⟩,ty,pos,af,none⟩ S ds r K:=by
 intro d a w h next Q hn
 have hrun:(execOp a.eval ⟨dst,.call ⟨.value (.tmp t),args.toArray,ts⟩,ty,pos,af,none⟩).run P w=.ok (.enter f (args.map a.eval++caps.map fun k=>Value.pointer (some ⟨d.at_ k,0,none⟩)).toArray) w:=by
  have hv:=h.get hfn
  have hv':a.eval (.tmp t)=.func (.func f) #[] (caps.map fun k=>Value.pointer (some ⟨d.at_ k,0,none⟩)).toArray:=hv
  simp [execOp,resolve,Deferred.ofValue,hv',invoke,hgo]
 unfold Oper.wp
 rw [hrun,Oper.upon_enter]
 obtain ⟨ro,hr,hrv,hrw,hrn⟩: ∃ ro:Ro,RoOk S hd d w vw ro∧(vw=false→ro=d.ro)∧(∀ b o y,ro b o=some y→w.cell? ⟨b,o,none⟩=some y)∧(∀ k j,look hd k=some j→(look S.mem j).isSome=true→∀ o,ro (d.at_ j) o=none):=by
  cases vw with
  |false=>exact ⟨d.ro,r0p,fun _=>rfl,h.ro,fun k j hk hj o=>(h.own j hj (Ew hok hk).2.2).1 o⟩
  |true=>
   refine ⟨fun b o=>if (∃ k j,look hd k=some j∧(look S.mem j).isSome=true∧d.at_ j=b) then none else w.cell? ⟨b,o,none⟩,⟨fun b o y hy=>?_,fun _ j hj hjl hn o y hy=>?_⟩,(fun h=>by cases h),fun b o y hy=>?_,fun k j hk hj o=>?_⟩
   ·rw [if_neg]
    ·exact h.ro b o y hy
    ·rintro ⟨k,j,hk,hj,rfl⟩
     have:=(h.own j hj (Ew hok hk).2.2).1 o
     rw [this] at hy;cases hy
   ·rw [if_neg]
    ·exact hy
    ·rintro ⟨k,j',hk,hj',he⟩
     have:=h.inj j' j hj' hj (Ew hok hk).2.2 hjl he
     subst this
     have:Mv hd j'≠none:=by
      have key: ∀ {hd:Hand},look hd k=some j'→Mv hd j'≠none:=by
       intro hd
       induction hd with
       |nil=>intro h;cases h
       |cons x r ih=>
        intro h
        simp only [Mv]
        split
        ·simp
        ·rename_i hne
         simp only [look] at h
         split at h
         ·cases h;exact absurd rfl hne
         ·exact ih h
      exact key hk
     exact this hn
   ·have hy':(if (∃ k j,look hd k=some j∧(look S.mem j).isSome=true∧d.at_ j=b) then none else w.cell? ⟨b,o,none⟩)=some y:=hy
    split at hy'
    ·cases hy'
    ·exact hy'
   ·exact if_pos ⟨k,j,hk,hj,rfl⟩
 have hmem:=j0j h hr hrw hrn hok hm
 have hda:=d0y h hr hok hargs
 have hcp:=k0b (ro:=ro) h hok hcaps
 have hda2:Fv (V.den (d.hand hd ro)) (vs++ks.map fun k=>.w (.one (.p k []))) (args.map a.eval++caps.map fun k=>Value.pointer (some ⟨d.at_ k,0,none⟩)):=by
  refine hda.append ?_
  rw [←hcp]
  exact r0d ks
 refine (hc w (d.hand hd ro) (args.map a.eval++caps.map fun k=>Value.pointer (some ⟨d.at_ k,0,none⟩)).toArray hmem hda2).mono ?_
 rintro e w' ⟨y,v,d',m',rfl,hR,hvd,a2,hs⟩
 obtain ⟨hlo,hou,hall,hk⟩:=hK v m' hR
 obtain ⟨hsim,hnm,hro⟩:=t0u h hrv hok hmv hm hs hall hou
 have hvd2:=b0l hro hnm hlo hvd
 cases dst with
 |none=>exact hn _ _ _ _ hk hsim
 |some n=>exact hn _ _ _ _ hk.2 (hsim.put hk.1 hvd2)
theorem Jq {P:Program} {B:Base} {S:St} {K:St→Prop} {dst:Option Tmp} {ty:TypeId} {pos:String} {af:Array Edge} {f:FuncId} {args:List Operand} {ts:Array TypeId} {ds:List (Option Tmp)} {r:List Oper} {vs:List V} {m:List (Nat×Ob)} {R:V→List (Nat×Ob)→Prop}
  (vw:Bool) (hd:Hand) (nm:Nat→Nat) {t:Tmp} {caps ks:List Nat} (hfn:S.get (.tmp t)=some (.w (.one (.fn f caps)))) (hcaps:Yq hd caps=some ks) (hgo: ∀ vals w,(callFunc f vals).run P w=.ok (.enter f vals) w) (hargs:Nw vw S hd args=some vs) (hok:g1u hd=true) (hm:Kj S hd m) (hc:CtM P f (vs++ks.map fun k=>.w (.one (.p k []))) m R)
  (hK: ∀ v m',R v m'→Jw vw m' v=true∧a0r vw nm hd S m m' m'∧hd.all (fun x=>(look m' x.1).isSome)=true∧(match dst with
   |some n=>n<B.nt∧Bq P B ds r ⟨(n,v.ren (Mk nm hd))::S.env,Nj nm hd m' S.mem⟩ K
   |none=>Bq P B ds r ⟨S.env,Nj nm hd m' S.mem⟩ K)):
  Ey P B ⟨dst,.call ⟨.value (.tmp t),args.toArray,ts⟩,ty,pos,af,none⟩ S ds r K:=
 j1s vw hd nm hfn hcaps hgo hargs (e0t hok).1 ((e0t hok).2 S) hm hc hK
end Go.Sy
namespace Go.Sy
theorem r0v {hd:Hand} {nm:Nat→Nat} {j k:Nat} (hok:Ox hd=true) (h:Mv hd j=some k):Mk nm hd k=j:=by
 rcases c0n hok h with ⟨h1,h2,h3⟩|⟨h1,rfl⟩
 ·have hp:=(Ew hok h1).1
  simp only [Mk,if_neg (Nat.not_lt_of_le hp),nameOut,h1]
 ·have hno:look hd k=none:=by
   cases hl:look hd k with
   |none=>rfl
   |some j'=>exact absurd (Ew hok hl).2.1 (Nat.not_lt_of_le h1)
  have hp:¬k<500000:=Nat.not_lt_of_le (Nat.le_trans (Nat.le_of_lt Tv) h1)
  simp only [Mk,if_neg hp,nameOut,hno]
theorem k0c {hd:Hand} {nm:Nat→Nat} (hok:Ox hd=true): ∀ {caps ks:List Nat},Yq hd caps=some ks→ks.map (Mk nm hd)=caps
 | [],ks,h=>by simp only [Yq] at h;cases h;rfl
 |c::r,ks,h=>by
  simp only [Yq] at h
  split at h<;>cases h
  rename_i j js h1 h2
  rw [List.map_cons,k0c hok h2,r0v hok h1]
theorem s0b {S:St} {hd:Hand} {nm:Nat→Nat} (hok:Ox hd=true) {l x:L} (h:Oj false S hd l=some x):x.ren (Mk nm hd)=l:=by
 cases l with
 |pl p=>simp only [Oj] at h;cases h;rfl
 |p j path=>
  obtain ⟨k,hk,rfl⟩:=Option.map_eq_some_iff.mp h
  simp only [L.ren,r0v hok hk]
 |s j path len sz=>
  simp only [Oj] at h
  split at h<;>try (cases h;done)
  split at h
  ·rename_i k hk
   cases h
   simp only [L.ren,r0v hok hk]
  ·rw [if_neg (by decide)] at h;cases h
 |fn f caps=>
  obtain ⟨ks,hk,rfl⟩:=Option.map_eq_some_iff.mp h
  simp only [L.ren,k0c hok hk]
theorem e0p {S:St} {hd:Hand} {nm:Nat→Nat} (hok:Ox hd=true): ∀ {cs xs:List L},Gy false S hd cs=some xs→xs.map (L.ren (Mk nm hd))=cs
 | [],xs,h=>by simp only [Gy] at h;cases h;rfl
 |c::r,xs,h=>by
  simp only [Gy] at h
  split at h<;>cases h
  rename_i y ys h1 h2
  rw [List.map_cons,s0b hok h1,e0p hok h2]
theorem q0q {nm:Nat→Nat} {hd:Hand} {j:Nat}: ∀ {m M:List (Nat×Ob)},(look M j).isSome=true→(look (Nj nm hd m M) j).isSome=true
 | [],M,h=>h
 |x::r,M,h=>by
  have ih:=q0q (nm:=nm) (hd:=hd) (m:=r) h
  simp only [Nj]
  split
  ·simp only [look];split
   ·rfl
   ·exact ih
  ·split
   ·rw [Dj];split
    ·rename_i e;subst e
     obtain ⟨o,ho⟩:=Option.isSome_iff_exists.mp ih
     rw [ho];rfl
    ·exact ih
   ·exact ih
theorem f0g {S:St} {hd:Hand} {nm:Nat→Nat} {vw:Bool} {m mr:List (Nat×Ob)} (hok:Ox hd=true) (hm:Kj S hd m) (ho:a0r vw nm hd S m mr m) (hp:m.all (fun x=>decide (500000≤x.1))=true) (j:Nat):look (Nj nm hd m S.mem) j=look S.mem j:=by
 cases hl:look (Nj nm hd m S.mem) j with
 |none=>
  cases hs:look S.mem j with
  |none=>rfl
  |some o=>
   have:=q0q (nm:=nm) (hd:=hd) (m:=m) (M:=S.mem) (j:=j) (by rw [hs];rfl)
   rw [hl] at this;cases this
 |some o2=>
  rcases Xq ho hl with ⟨k,o',h1,h2,h3,h4⟩|⟨h1,_⟩
  ·obtain ⟨j',u,g1,g2,g3,g4⟩:=(Lx hm h1).1 h2
   have hk:500000≤k:=by
    have:=List.all_eq_true.mp hp (k,o') (Mx h1)
    simpa using this
   have hj:Mk nm hd k=j':=by simp only [Mk,if_neg (Nat.not_lt_of_le hk),nameOut,g1]
   rw [hj] at h3;subst h3
   rw [g2,h4]
   congr 1
   have hb:=e0p (nm:=nm) hok g3
   obtain ⟨row,cells⟩:=u
   obtain ⟨row',cells'⟩:=o'
   simp only [Ob.ren] at hb g4 ⊢
   rw [hb];simp only [g4]
  ·exact h1.symm
theorem g0w {S S':St} {hd:Hand} (l:L):Oj false S' hd l=Oj false S hd l:=by
 cases l with
 |s j path len sz=>
  simp only [Oj]
  split
  ·split
   ·rfl
   ·rw [if_neg (by decide),if_neg (by decide)]
  ·rfl
 |_=>rfl
theorem Wx {S S':St} {hd:Hand}: ∀ cs:List L,Gy false S' hd cs=Gy false S hd cs
 | []=>rfl
 |c::r=>by simp only [Gy];rw [g0w (S:=S) (S':=S'),Wx r]
theorem r0h {S S':St} {hd:Hand} (v:V):h0d false S' hd v=h0d false S hd v:=by
 cases v with
 |w x=>
  cases x with
  |one l=>simp only [h0d];rw [g0w (S:=S)]
  |agg cs=>simp only [h0d];rw [Wx (S:=S)]
 |tup xs=>rfl
 |any=>rfl
theorem a0z {S S':St} {hd:Hand}: ∀ {l:List Operand},(∀ x∈l,S'.get x=S.get x)→Nw false S' hd l=Nw false S hd l
 | [],_=>rfl
 |x::r,hg=>by
  simp only [Nw]
  rw [hg x (by simp),a0z (S:=S) (l:=r) fun y hy=>hg y (by simp [hy])]
  cases S.get x with
  |none=>rfl
  |some v=>simp only [Option.bind_some];rw [r0h (S:=S)]
theorem b0p {S S':St} {hd:Hand}: ∀ {m:List (Nat×Ob)},(∀ x∈m,x.1<1000000)→(∀ k j,look hd k=some j→look S'.mem j=look S.mem j)→Kj S hd m→Kj S' hd m
 | [],_,_,_=>trivial
 |x::r,hl,hj,h=>by
  obtain ⟨h1,h2⟩:=h
  refine ⟨?_,b0p (fun y hy=>hl y (by simp [hy])) hj h2⟩
  rw [if_pos (hl x (by simp))] at h1 ⊢
  cases hk:look hd x.1 with
  |none=>rw [hk] at h1;exact h1
  |some j=>
   rw [hk] at h1
   simp only at h1 ⊢
   rw [hj _ _ hk]
   cases ho:look S.mem j with
   |none=>rw [ho] at h1;exact h1
   |some o=>
    rw [ho] at h1
    simp only at h1 ⊢
    rw [Wx (S:=S)];exact h1
end Go.Sy
namespace Go.Sy
def Jk (M:List (Nat×Ob)):Bool:=M.all fun x=>x.2.cells.all Pj&&decide (x.1<500000)
def Qz (nm:Nat→Nat) (M:List (Nat×Ob)):List (Nat×Ob):=M.map fun x=>(nm x.1,x.2)
def m0p (S:St):List Nat→Option (List V)
 | []=>some []
 |k::r=>match look S.mem k,m0p S r with
  |some o,some vs=>if k<1000000 then (k0x o.cells).map fun c=>.w (.one (.pl (.q c [])))::vs else none
  |_,_=>none
theorem u0b {B:Base} {d:Va} {S:St} {a:Act} {w:World} (h:Sim B d S a w): ∀ {ks:List Nat} {vs:List V},m0p S ks=some vs→Fv (V.den (d.all w)) vs (ks.map fun k=>Value.pointer (some ⟨d.at_ k,0,none⟩))
 | [],vs,hv=>by simp only [m0p] at hv;cases hv;exact .nil
 |k::r,vs,hv=>by
  simp only [m0p] at hv
  split at hv<;>try (cases hv;done)
  rename_i o vs' hk hr
  split at hv<;>try (cases hv;done)
  cases hu:k0x o.cells with
  |none=>simp [hu] at hv
  |some c=>
   simp only [hu,Option.map_some,Option.some.injEq] at hv;subst hv
   refine .cons ?_ (u0b h hr)
   show PL.den _ _ _
   rw [PL.den]
   obtain ⟨vals,hvd,hcell,hl⟩:=h.readObj (path:=[]) hk trivial
   simp only [rd,Qy] at hvd hcell
   rw [i0f hu] at hvd
   exact ⟨d.at_ k,0,by simp [Qy],d0s h.ro hvd hcell⟩
theorem f0p {S S':St}: ∀ {ks:List Nat},(∀ k∈ks,look S'.mem k=look S.mem k)→m0p S' ks=m0p S ks
 | [],_=>rfl
 |k::r,h=>by simp only [m0p,h k (by simp),f0p (ks:=r) fun j hj=>h j (by simp [hj])]
theorem s0p {P:Program} {B:Base} {S:St} {K:St→Prop} {dst:Option Tmp} {ty:TypeId} {pos:String} {af:Array Edge} {f:FuncId} {args:List Operand} {ts:Array TypeId} {ds:List (Option Tmp)} {r:List Oper} {vs cs:List V} {R:V→List (Nat×Ob)→Prop} {t:Tmp} {caps:List Nat} {g:Option (Nat×Bool)}
  (nm:Nat→Nat) (hfn:S.get (.tmp t)=some (.w (.one (.fn f caps)))) (hcs:m0p S caps=some cs) (hgo: ∀ vals w,(callFunc f vals).run P w=.ok (.enter f vals) w) (hargs:Nk S args=some vs) (hc:Ct P f (vs++cs) R)
  (hK: ∀ v m,R v m→b0e m v=true∧Vx nm S.env m S.mem=true∧(match dst with
   |some n=>n<B.nt∧Bq P B ds r ⟨(n,v.ren nm)::S.env,adopt nm m S.mem⟩ K
   |none=>Bq P B ds r ⟨S.env,adopt nm m S.mem⟩ K)):
  Ey P B ⟨dst,.call ⟨.value (.tmp t),args.toArray,ts⟩,ty,pos,af,g⟩ S ds r K:=by
 intro d a w h next Q hn
 have hrun:(execOp a.eval ⟨dst,.call ⟨.value (.tmp t),args.toArray,ts⟩,ty,pos,af,g⟩).run P w=.ok (.enter f (args.map a.eval++caps.map fun k=>Value.pointer (some ⟨d.at_ k,0,none⟩)).toArray) w:=by
  have hv':a.eval (.tmp t)=.func (.func f) #[] (caps.map fun k=>Value.pointer (some ⟨d.at_ k,0,none⟩)).toArray:=h.get hfn
  simp [execOp,resolve,Deferred.ofValue,hv',invoke,hgo]
 unfold Oper.wp
 rw [hrun,Oper.upon_enter]
 have hda:=(d0x h hargs).append (u0b h hcs)
 refine (hc w (d.all w) (args.map a.eval++caps.map fun k=>Value.pointer (some ⟨d.at_ k,0,none⟩)).toArray (fun b o y hy=>hy) h.gat hda).mono ?_
 rintro e w' ⟨y,v,d',m',rfl,hR,hvd,a2,hmem⟩
 obtain ⟨hok,had,hk⟩:=hK v m' hR
 have hst:=h.stay (w':=w') (fun b hb=>hmem.block b hb (fun x=>x)) hmem.size hmem.os hmem.tape hmem.output
 obtain ⟨d2,hs2,hk2,_,hro2⟩:=o0a (e:=S.env) (m0:=S.mem) (f:=nm) (w:=w) hmem rfl (fun b hb=>hb) h.size hmem.size m' (fun k o hk=>hk) d hst (fun b o y hy=>b0y (h.ro b o y hy)) (fun j hj hl=>h.mem_lt hj hl) had
 have hvd2:=l0m (f:=nm) hk2 hok hvd
 cases dst with
 |none=>exact hn _ _ _ _ hk hs2
 |some n=>exact hn _ _ _ _ hk.2 (hs2.put hk.1 hvd2)
def Now (P:Program) (f:FuncId) (vs:List V) (X:V):Prop:=
 (∀ k,X.has k=false)∧∀ (w:World) (d:Va) (vals:Array Value),Fv (V.den d) vs vals.toList→∃ y,(callFunc f vals).run P w=.ok (.value y) w∧∀ d',X.den d' y
theorem a1g {P:Program} {B:Base} {d:Va} {S:St} {a:Act} {w:World} {dst:Option Tmp} {ty:TypeId} {pos:String} {af:Array Edge} {f:FuncId} {args:List Operand} {ts:Array TypeId} {vs:List V} {X:V} {g:Option (Nat×Bool)} (h:Sim B d S a w) (hargs:Nk S args=some vs) (hc:Now P f vs X):
  ∃ y,(execOp a.eval ⟨dst,.call ⟨.value (.func f),args.toArray,ts⟩,ty,pos,af,g⟩).run P w=.ok (.value y) w∧∀ d',X.den d' y:=by
 obtain ⟨y,hr,hd⟩:=hc.2 w (d.all w) (args.map a.eval).toArray (by simpa using d0x h hargs)
 exact ⟨y,by simp [execOp,resolve,Deferred.ofValue,Act.eval,invoke,hr],hd⟩
theorem j1r {P:Program} {B:Base} {S:St} {K:St→Prop} {dst:Option Tmp} {ty:TypeId} {pos:String} {af:Array Edge} {f:FuncId} {args:List Operand} {ts:Array TypeId} {ds:List (Option Tmp)} {r:List Oper} {vs:List V} {X:V} (hargs:Nk S args=some vs) (hc:Now P f vs X)
  (hK:match dst with
   |some n=>n<B.nt∧Bq P B ds r ⟨(n,X)::S.env,S.mem⟩ K
   |none=>Bq P B ds r S K):
  Ey P B ⟨dst,.call ⟨.value (.func f),args.toArray,ts⟩,ty,pos,af,none⟩ S ds r K:=by
 intro d a w h next Q hn
 obtain ⟨y,hrun,hd⟩:=a1g (dst:=dst) (ty:=ty) (pos:=pos) (af:=af) (ts:=ts) (g:=none) h hargs hc
 unfold Oper.wp
 rw [hrun]
 cases dst with
 |none=>exact hn _ _ _ _ hK h
 |some n=>exact hn _ _ _ _ hK.2 (h.put hK.1 (hd d))
theorem a0a {vw:Bool} {S S':St} {l:L} (hm: ∀ k,l.has k=true→look S'.mem k=look S.mem k):Oj vw S' [] l=Oj vw S [] l:=by
 cases l with
 |pl x=>rfl
 |p j path=>rfl
 |s j path len sz=>simp only [Oj];rw [f0n hm]
 |fn f caps=>rfl
theorem e0o {vw:Bool} {S S':St}: ∀ {cs:List L} (hm: ∀ k,cs.any (L.has k)=true→look S'.mem k=look S.mem k),Gy vw S' [] cs=Gy vw S [] cs
 | [],_=>rfl
 |l::r,hm=>by
  simp only [Gy]
  rw [a0a fun k hk=>hm k (by simp [hk]),e0o (cs:=r) fun k hk=>hm k (by simp only [List.any_cons,hk,Bool.or_true])]
theorem v0u {vw:Bool} {S S':St} {v:V} (hm: ∀ k,v.has k=true→look S'.mem k=look S.mem k):h0d vw S' [] v=h0d vw S [] v:=by
 cases v with
 |w x=>
  cases x with
  |one l=>simp only [h0d];rw [a0a hm]
  |agg cs=>simp only [h0d];rw [e0o hm]
 |tup xs=>rfl
 |any=>rfl
theorem d0h {vw:Bool} {S S':St}: ∀ {l:List Operand} (hg: ∀ x∈l,S'.get x=S.get x) (hm: ∀ x∈l,∀ v,S.get x=some v→∀ k,v.has k=true→look S'.mem k=look S.mem k),Nw vw S' [] l=Nw vw S [] l
 | [],_,_=>rfl
 |x::r,hg,hm=>by
  simp only [Nw]
  rw [hg x (by simp),d0h (l:=r) (fun y hy=>hg y (by simp [hy])) (fun y hy=>hm y (by simp [hy]))]
  cases h:S.get x with
  |none=>rfl
  |some v=>simp only [Option.bind_some];rw [v0u (hm x (by simp) v h)]
def p1v :L→Bool
 | .pl .u=>false
 | .pl _=>true
 |_=>false
def s1s (o:Ob):Bool:=o.cells.all p1v
theorem c1j {k:Nat} {l:L} (h:p1v l=true):Rx k l=l:=by
 cases l<;>first|rfl|(simp [p1v] at h)
theorem s0j {k:Nat} {l:L} (h:p1v (Rx k l)=true):Rx k l=l:=by
 unfold Rx at h ⊢
 split
 ·rename_i hc;rw [if_pos hc] at h;cases h
 ·rfl
theorem q0b {k:Nat}: ∀ {cs:List L},cs.all p1v=true→cs.map (Rx k)=cs
 | [],_=>rfl
 |l::r,h=>by
  simp only [List.all_cons,Bool.and_eq_true] at h
  rw [List.map_cons,c1j h.1,q0b h.2]
theorem j0n {k:Nat}: ∀ {cs:List L},(cs.map (Rx k)).all p1v=true→cs.map (Rx k)=cs
 | [],_=>rfl
 |l::r,h=>by
  simp only [List.map_cons,List.all_cons,Bool.and_eq_true] at h
  rw [List.map_cons,s0j h.1,j0n h.2]
def Glob (S S':St):Prop:=∀ k o,1000000≤k→s1s o=true→look S.mem k=some o→look S'.mem k=some o
theorem Uv {S S':St} (hl:Glob S S'): ∀ {G:List (Nat×Ob)},G.all (fun x=>s1s x.2)=true→Kj S [] G→Kj S' [] G
 | [],_,_=>trivial
 |x::r,hf,h=>by
  simp only [List.all_cons,Bool.and_eq_true] at hf
  simp only [Kj,look] at h ⊢
  by_cases hx:x.1<1000000
  ·rw [if_pos hx] at h;exact h.1.elim
  ·rw [if_neg hx] at h ⊢;exact ⟨hl x.1 x.2 (Nat.le_of_not_lt hx) hf.1 h.1,Uv hl hf.2 h.2⟩
theorem m0g {S S':St}: ∀ {cs:List L} (hm: ∀ k,cs.any (L.has k)=true→look S'.mem k=look S.mem k),h0i S' cs=h0i S cs
 | [],_=>rfl
 |l::r,hm=>by
  simp only [h0i]
  rw [a0a fun k hk=>hm k (by simp [hk]),m0g (cs:=r) fun k hk=>hm k (by simp only [List.any_cons,hk,Bool.or_true])]
theorem r1b {k:Nat}: ∀ {path:Path} {cs:List L},(rd cs path).any (L.has k)=true→cs.any (L.has k)=true:=by
 intro path cs h
 by_cases hc:cs.any (L.has k)=true
 ·exact hc
 ·exact absurd h (by rw [r0a (by simpa using hc)];simp)
theorem m0f {S S':St} {l:L} (hm: ∀ k,l.has k=true→look S'.mem k=look S.mem k) (hi: ∀ k,l.has k=true→∀ o,look S.mem k=some o→∀ j,o.has j=true→look S'.mem j=look S.mem j):q0j S' l=q0j S l:=by
 unfold q0j
 rw [a0a hm]
 split
 ·rfl
 ·split<;>try rfl
  rename_i j path len sz _
  have hj:(L.s j path len sz).has j=true:=by simp [L.has]
  rw [hm j hj]
  cases ho:look S.mem j with
  |none=>rfl
  |some o=>simp only;rw [m0g fun k hk=>hi j hj o ho k (r1b hk)]
theorem j0v {S S':St}: ∀ {cs:List L} (hm: ∀ k,cs.any (L.has k)=true→look S'.mem k=look S.mem k) (hi: ∀ k,cs.any (L.has k)=true→∀ o,look S.mem k=some o→∀ j,o.has j=true→look S'.mem j=look S.mem j),f0c S' cs=f0c S cs
 | [],_,_=>rfl
 |l::r,hm,hi=>by
  simp only [f0c]
  rw [m0f (fun k hk=>hm k (by simp [hk])) (fun k hk=>hi k (by simp [hk])),j0v (cs:=r) (fun k hk=>hm k (by simp only [List.any_cons,hk,Bool.or_true])) (fun k hk=>hi k (by simp only [List.any_cons,hk,Bool.or_true]))]
theorem x0c {S S':St} {v:V} (hm: ∀ k,v.has k=true→look S'.mem k=look S.mem k) (hi: ∀ k,v.has k=true→∀ o,look S.mem k=some o→∀ j,o.has j=true→look S'.mem j=look S.mem j):q0h S' v=q0h S v:=by
 cases v with
 |w x=>
  cases x with
  |one l=>simp only [q0h];rw [m0f hm hi]
  |agg cs=>simp only [q0h];rw [j0v hm hi]
 |tup xs=>rfl
 |any=>rfl
theorem b0v {S S':St}: ∀ {l:List Operand} (hg: ∀ x∈l,S'.get x=S.get x) (hm: ∀ x∈l,∀ v,S.get x=some v→∀ k,v.has k=true→look S'.mem k=look S.mem k) (hi: ∀ x∈l,∀ v,S.get x=some v→∀ k,v.has k=true→∀ o,look S.mem k=some o→∀ j,o.has j=true→look S'.mem j=look S.mem j),Uk S' l=Uk S l
 | [],_,_,_=>rfl
 |x::r,hg,hm,hi=>by
  simp only [Uk]
  rw [hg x (by simp),b0v (l:=r) (fun y hy=>hg y (by simp [hy])) (fun y hy=>hm y (by simp [hy])) (fun y hy=>hi y (by simp [hy]))]
  cases h:S.get x with
  |none=>rfl
  |some v=>simp only [Option.bind_some];rw [x0c (hm x (by simp) v h) (hi x (by simp) v h)]
inductive Ev (P:Program) (S:St) (o:Oper) (dp:Bool):Eff→Prop
 |det {e:Eff}:Lv P S o.dst o.op=some e→Ev P S o dp e
 |call {f:FuncId} {args:List Operand} {ts:Array TypeId} {vs:List V} {X:V} {M:List (Nat×Ob)} {nm:Nat→Nat}:
   o.op=.call ⟨.value (.func f),args.toArray,ts⟩→(∀ vals w,(callFunc f vals).run P w=.ok (.enter f vals) w)→Nk S args=some vs→
   Ct P f vs (fun v m=>v=X∧m=M)→b0e M X=true→Jk M=true→((Qz nm M).map (·.1)).Nodup→(M.map (·.1)).Nodup→Ev P S o dp (.new (X.ren nm) (Qz nm M))
 |fncall {f:FuncId} {args:List Operand} {ts:Array TypeId} {vs cs:List V} {X:V} {M:List (Nat×Ob)} {nm:Nat→Nat} {t:Tmp} {caps:List Nat}:
   o.op=.call ⟨.value (.tmp t),args.toArray,ts⟩→(∀ vals w,(callFunc f vals).run P w=.ok (.enter f vals) w)→S.get (.tmp t)=some (.w (.one (.fn f caps)))→m0p S caps=some cs→Nk S args=some vs→
   Ct P f (vs++cs) (fun v m=>v=X∧m=M)→b0e M X=true→Jk M=true→((Qz nm M).map (·.1)).Nodup→(M.map (·.1)).Nodup→Ev P S o dp (.new (X.ren nm) (Qz nm M))
 |now {f:FuncId} {args:List Operand} {ts:Array TypeId} {vs:List V} {X:V}:
   o.op=.call ⟨.value (.func f),args.toArray,ts⟩→Nk S args=some vs→Now P f vs X→Ev P S o dp (.val X)
 |gcall {vw:Bool} {f:FuncId} {args:List Operand} {ts:Array TypeId} {vs:List V} {X:V} {M G:List (Nat×Ob)} {nm:Nat→Nat}:
   o.op=.call ⟨.value (.func f),args.toArray,ts⟩→(∀ vals w,(callFunc f vals).run P w=.ok (.enter f vals) w)→Nw vw S [] args=some vs→Kj S [] G→G.all (fun x=>s1s x.2)=true→
   CtM P f vs G (fun v m=>v=X∧m=M)→Jw vw M X=true→Jk M=true→((Qz nm M).map (·.1)).Nodup→(M.map (·.1)).Nodup→Ev P S o dp (.new (X.ren (Mk nm [])) (Qz nm M))
 |dcall {f:FuncId} {args:List Operand} {ts:Array TypeId} {vs:List V} {X:V} {M G:List (Nat×Ob)} {nm:Nat→Nat}:
   dp=true→o.op=.call ⟨.value (.func f),args.toArray,ts⟩→(∀ vals w,(callFunc f vals).run P w=.ok (.enter f vals) w)→Uk S args=some vs→Kj S [] G→G.all (fun x=>s1s x.2)=true→
   CtM P f vs G (fun v m=>v=X∧m=M)→Jw true M X=true→Jk M=true→((Qz nm M).map (·.1)).Nodup→(M.map (·.1)).Nodup→Ev P S o dp (.new (X.ren (Mk nm [])) (Qz nm M))
 |acall {f:FuncId} {args:List Operand} {ts:Array TypeId} {vs:List V} {X:V} {m:List (Nat×Ob)} {hd:Hand}:
   o.op=.call ⟨.value (.func f),args.toArray,ts⟩→(∀ vals w,(callFunc f vals).run P w=.ok (.enter f vals) w)→Nw false S hd args=some vs→g1u hd=true→Kj S hd m→
   (∀ k j,look hd k=some j→∃ x∈args,∃ v,S.get x=some v∧v.has j=true)→m.all (fun x=>decide (500000≤x.1)&&decide (x.1<1000000))=true→
   CtM P f vs m (fun v m'=>v=X∧m'=m)→Jw false m X=true→X.ren (Mk (fun k=>k) hd)=X→(∀ k,X.has k=false)→(∀ S',a0r false (fun k=>k) hd S' m m m)→hd.all (fun x=>(look m x.1).isSome)=true→Ev P S o dp (.val X)
 |hcall {f:FuncId} {args:List Operand} {ts:Array TypeId} {vs:List V} {X:V} {m:List (Nat×Ob)} {hd:Hand} {t:Tmp} {caps ks:List Nat}:
   dp=true→o.op=.call ⟨.value (.tmp t),args.toArray,ts⟩→(∀ vals w,(callFunc f vals).run P w=.ok (.enter f vals) w)→S.get (.tmp t)=some (.w (.one (.fn f caps)))→Yq hd caps=some ks→Nw false S hd args=some vs→g1u hd=true→Kj S hd m→
   (∀ k j,look hd k=some j→j∈caps∨∃ c∈caps,∃ ob,look S.mem c=some ob∧ob.has j=true)→m.all (fun x=>decide (500000≤x.1)&&decide (x.1<1000000))=true→
   CtM P f (vs++ks.map fun k=>.w (.one (.p k []))) m (fun v m'=>v=X∧m'=m)→Jw false m X=true→X.ren (Mk (fun k=>k) hd)=X→(∀ k,X.has k=false)→(∀ S',a0r false (fun k=>k) hd S' m m m)→hd.all (fun x=>(look m x.1).isSome)=true→Ev P S o dp (.val X)
def New (k:Nat) (S:St):Prop:=Fr k S∧look S.mem k=none
theorem a0l (nm:Nat→Nat): ∀ (M m:List (Nat×Ob)),adopt nm M m=Qz nm M++m
 | [],m=>rfl
 |x::r,m=>by simp only [adopt,a0l nm r m,Qz,List.map_cons,List.cons_append]
theorem h0u {k:Nat} {S:St} (h:fresh k S=true):r0f k S.env=false∧p0v k S.mem=false:=b0s h
theorem g0o {nm:Nat→Nat} {e:List (Nat×V)} {m:List (Nat×Ob)}: ∀ {M:List (Nat×Ob)},Jk M=true→((Qz nm M).map (·.1)).Nodup→(M.map (·.1)).Nodup→(∀ k∈(Qz nm M).map (·.1),r0f k e=false∧p0v k m=false∧look m k=none∧k<500000)→Vx nm e M m=true
 | [],_,_,_,_=>rfl
 |x::r,hs,hn,hk,hf=>by
  simp only [Jk,List.all_cons,Bool.and_eq_true] at hs
  simp only [Qz,List.map_cons,List.nodup_cons] at hn
  simp only [List.map_cons,List.nodup_cons] at hk
  have h1:=hf (nm x.1) (by simp [Qz])
  have h2:p0v (nm x.1) (adopt nm r m)=false:=by
   rw [a0l]
   have: ∀ l:List (Nat×Ob),Jk l=true→p0v (nm x.1) (Qz nm l++m)=false:=by
    intro l
    induction l with
    |nil=>intro _;exact h1.2.1
    |cons y l ih=>
     intro hl
     simp only [Jk,List.all_cons,Bool.and_eq_true] at hl
     simp only [Qz,List.map_cons,List.cons_append,p0v,Ob.has,Wj hl.1.1,Bool.false_or]
     exact ih hl.2
   exact this r hs.2
  have h3:look (adopt nm r m) (nm x.1)=none:=by
   have h5:look (Qz nm r) (nm x.1)=none:=Kv hn.1
   rw [a0l,Ez,h5,h1.2.2.1];rfl
  have h4:look r x.1=none:=Kv hk.1
  simp only [Vx,hs.1.1,hs.1.2,fresh,h1.1,h2,h3,h4,h1.2.2.2,Bool.or_self,Bool.not_false,Option.isSome_none,Bool.and_self,Bool.true_and,decide_true]
  exact g0o hs.2 hn.2 hk.2 fun k hk=>hf k (by simp only [Qz,List.map_cons,List.mem_cons];exact .inr hk)
section
variable {P:Program} {S S':St} {o:Oper} {dp:Bool} {e:Eff}
theorem Ev.same (h:Ev P S o dp e) (hg: ∀ x∈o.op.operands,S'.get x=S.get x) (hm:Zq o.op=true→∀ x∈o.op.operands,∀ v,S.get x=some v→∀ k,v.has k=true→look S'.mem k=look S.mem k) (hl:Glob S S') (hi:dp=true→Zq o.op=true→∀ x∈o.op.operands,∀ v,S.get x=some v→∀ k,v.has k=true→∀ o,look S.mem k=some o→∀ j,o.has j=true→look S'.mem j=look S.mem j):Ev P S' o dp e:=by
 cases h with
 |det h=>exact .det (by rw [m0a hg hm];exact h)
 |call ho hgo hv hc hr hs hn hk=>
  rename_i args _ _ _ _ _
  have hin: ∀ x∈args,x∈o.op.operands:=fun x hx=>by rw [ho];simp [Op.operands,Call.operands,hx]
  refine .call ho hgo ?_ hc hr hs hn hk
  rw [Qj (S:=S) (fun x hx=>hg x (hin x hx)) (fun x hx=>hm (by rw [ho];rfl) x (hin x hx))];exact hv
 |fncall ho hgo hfn hcs hv hc hr hs hn hk=>
  rename_i args _ _ _ _ _ _ t caps
  have hin: ∀ x∈args,x∈o.op.operands:=fun x hx=>by rw [ho];simp [Op.operands,Call.operands,hx]
  have hit:Operand.tmp t∈o.op.operands:=by rw [ho];simp [Op.operands,Call.operands]
  refine .fncall ho hgo (by rw [hg _ hit];exact hfn) ?_ ?_ hc hr hs hn hk
  ·rw [f0p (S:=S) fun k hk=>hm (by rw [ho];rfl) _ hit _ hfn k (by simp [V.has,W.has,L.has];exact hk)];exact hcs
  ·rw [Qj (S:=S) (fun x hx=>hg x (hin x hx)) (fun x hx=>hm (by rw [ho];rfl) x (hin x hx))];exact hv
 |now ho hv hc=>
  rename_i f args _ _ _
  have hin: ∀ x∈args,x∈o.op.operands:=fun x hx=>by rw [ho];simp [Op.operands,Call.operands,hx]
  refine .now ho ?_ hc
  rw [Qj (S:=S) (fun x hx=>hg x (hin x hx)) (fun x hx=>hm (by rw [ho];rfl) x (hin x hx))];exact hv
 |gcall ho hgo hv hG hGf hc hr hs hn hk=>
  rename_i args _ _ _ _ _ _
  have hin: ∀ x∈args,x∈o.op.operands:=fun x hx=>by rw [ho];simp [Op.operands,Call.operands,hx]
  refine .gcall ho hgo ?_ (Uv hl hGf hG) hGf hc hr hs hn hk
  rw [d0h (S:=S) (fun x hx=>hg x (hin x hx)) (fun x hx=>hm (by rw [ho];rfl) x (hin x hx))];exact hv
 |dcall hdp ho hgo hv hG hGf hc hr hs hn hk=>
  rename_i args _ _ _ _ _ _
  have hin: ∀ x∈args,x∈o.op.operands:=fun x hx=>by rw [ho];simp [Op.operands,Call.operands,hx]
  refine .dcall hdp ho hgo ?_ (Uv hl hGf hG) hGf hc hr hs hn hk
  rw [b0v (S:=S) (fun x hx=>hg x (hin x hx)) (fun x hx=>hm (by rw [ho];rfl) x (hin x hx)) (fun x hx=>hi hdp (by rw [ho];rfl) x (hin x hx))];exact hv
 |acall ho hgo hv hok hmm hh hml hc hr hrn hx hou hall=>
  rename_i f args ts vs X m hd
  have hin: ∀ x∈args,x∈o.op.operands:=fun x hx=>by rw [ho];simp [Op.operands,Call.operands,hx]
  have hmo:Zq o.op=true:=by rw [ho];rfl
  have hj: ∀ k j,look hd k=some j→look S'.mem j=look S.mem j:=fun k j hk=>by
   obtain ⟨x,hx,v,h1,h2⟩:=hh k j hk
   exact hm hmo x (hin x hx) v h1 j h2
  refine .acall ho hgo (by rw [a0z (S:=S) fun x hx=>hg x (hin x hx)];exact hv) hok (b0p (fun x hx=>?_) hj hmm) (fun k j hk=>?_) hml hc hr hrn hx hou hall
  ·have:=List.all_eq_true.mp hml x hx
   simp only [Bool.and_eq_true,decide_eq_true_eq] at this
   exact this.2
  ·obtain ⟨x,hx,v,h1,h2⟩:=hh k j hk
   exact ⟨x,hx,v,by rw [hg x (hin x hx)];exact h1,h2⟩
 |hcall hdp ho hgo hfn hcp hv hok hmm hh hml hc hr hrn hx hou hall=>
  rename_i f args ts vs X m hd t caps ks
  have hin: ∀ x∈args,x∈o.op.operands:=fun x hx=>by rw [ho];simp [Op.operands,Call.operands,hx]
  have hit:Operand.tmp t∈o.op.operands:=by rw [ho];simp [Op.operands,Call.operands]
  have hmo:Zq o.op=true:=by rw [ho];rfl
  have hcj: ∀ c∈caps,look S'.mem c=look S.mem c:=fun c hc=>hm hmo _ hit _ hfn c (by simp [V.has,W.has,L.has];exact hc)
  have hj: ∀ k j,look hd k=some j→look S'.mem j=look S.mem j:=fun k j hk=>by
   rcases hh k j hk with h1|⟨c,hc,ob,h1,h2⟩
   ·exact hcj j h1
   ·exact hi hdp hmo _ hit _ hfn c (by simp [V.has,W.has,L.has];exact hc) ob h1 j h2
  refine .hcall hdp ho hgo (by rw [hg _ hit];exact hfn) hcp (by rw [a0z (S:=S) fun x hx=>hg x (hin x hx)];exact hv) hok (b0p (fun x hx=>?_) hj hmm) (fun k j hk=>?_) hml hc hr hrn hx hou hall
  ·have:=List.all_eq_true.mp hml x hx
   simp only [Bool.and_eq_true,decide_eq_true_eq] at this
   exact this.2
  ·rcases hh k j hk with h1|⟨c,hc,ob,h1,h2⟩
   ·exact .inl h1
   ·exact .inr ⟨c,hc,ob,by rw [hcj c hc];exact h1,h2⟩
def i0l :Op→Bool
 | .store .. =>true
 |_=>false
theorem Ev.sameS {v:V} {k:Nat} {ob:Ob} (h:Ev P S o dp e) (hs:i0l o.op=true) (hg: ∀ x∈o.op.operands,S'.get x=S.get x) (he:e=.sto v k ob) (hk:look S'.mem k=look S.mem k):Ev P S' o dp e:=by
 subst he
 cases h with
 |det h=>
  refine .det ?_
  cases hop:o.op<;>(rw [hop] at hs;try (cases hs;done))
  rename_i t x y
  rw [hop] at h hg
  simp only [Lv] at h ⊢
  rw [hg x (by simp [Op.operands]),hg y (by simp [Op.operands])]
  split at h<;>try (cases h;done)
  rename_i u z hu hz hd
  unfold e0a at h ⊢
  split at h<;>try (cases h;done)
  split at h<;>try (cases h;done)
  rename_i hl
  split at h<;>try (cases h;done)
  rename_i hc
  cases h
  rw [hk,hl]
  simp only
  rw [if_pos hc]
theorem Ev.mut_op (h:Ev P S o dp e) (hm:e.mut=true):(match o.op with| .store .. =>true| .call ⟨.builtin .append,_,_⟩=>true| .call ⟨.builtin .copy,_,_⟩=>true|_=>false)=true:=by
 cases h with
 |call=>cases hm
 |fncall=>cases hm
 |gcall=>cases hm
 |dcall=>cases hm
 |hcall=>cases hm
 |acall=>cases hm
 |now=>cases hm
 |det h=>
  unfold Lv at h
  split at h
  ·rename_i h0;first|rw [h0]|rfl
  ·rename_i h0;first|rw [h0]|rfl
  ·rename_i h0;first|rw [h0]|rfl
  ·split at h
   ·cases h;cases hm
   ·split at h<;>try (cases h;done)
    obtain ⟨r,_,rfl⟩:=Option.map_eq_some_iff.mp h
    cases hm
theorem p0a {M:List (Nat×Ob)} {nm:Nat→Nat} {k:Nat} (hk:k∉(Qz nm M).map (·.1)): ∀ {l:L},p1o M l=true→(l.ren nm).has k=false:=by
 have key: ∀ j,(look M j).isSome=true→nm j∈(Qz nm M).map (·.1):=by
  intro j hj
  induction M with
  |nil=>cases hj
  |cons x r ih=>
   simp only [look] at hj
   simp only [Qz,List.map_cons,List.mem_cons]
   split at hj
   ·rename_i e;exact .inl (by rw [e])
   ·right
    have hk':k∉(Qz nm r).map (·.1):=fun h=>hk (by simp only [Qz,List.map_cons,List.mem_cons];exact .inr h)
    exact ih hk' hj
 intro l h
 cases l with
 |pl x=>rfl
 |p j path=>simp only [L.ren,L.has,beq_eq_false_iff_ne];exact fun e=>hk (by rw [e];exact key j h)
 |s j path len sz=>simp only [L.ren,L.has,beq_eq_false_iff_ne];exact fun e=>hk (by rw [e];exact key j h)
 |fn f caps=>
  cases caps with
  |nil=>rfl
  |cons c cs=>cases h
theorem l0j {M:List (Nat×Ob)} {nm:Nat→Nat} {k:Nat} (hk:k∉(Qz nm M).map (·.1)) {x:W} (h:i0s M x=true):(x.ren nm).has k=false:=by
 cases x with
 |one l=>exact p0a hk h
 |agg cs=>
  simp only [i0s,List.all_eq_true] at h
  simp only [W.ren,W.has,List.any_eq_false,List.mem_map]
  rintro l ⟨l',hl,rfl⟩
  rw [p0a hk (h _ hl)];simp
theorem l0l {M:List (Nat×Ob)} {nm:Nat→Nat} {k:Nat} (hk:k∉(Qz nm M).map (·.1)) {x:V} (h:b0e M x=true):(x.ren nm).has k=false:=by
 cases x with
 |w x=>exact l0j hk h
 |tup xs=>
  simp only [b0e,List.all_eq_true] at h
  simp only [V.ren,V.has,List.any_eq_false,List.mem_map]
  rintro l ⟨l',hl,rfl⟩
  rw [l0j hk (h _ hl)];simp
 |any=>rfl
theorem j0d {vw:Bool} {M:List (Nat×Ob)} {nm:Nat→Nat} {k:Nat} (hs:Jk M=true) (hk:k∉(Qz nm M).map (·.1)) (hl:k<500000): ∀ {l:L},Nq vw M l=true→(l.ren (Mk nm [])).has k=false:=by
 have key: ∀ j,okN M j=true→Mk nm [] j≠k:=by
  intro j hj he
  simp only [okN] at hj
  split at hj
  ·have hin: ∃ o,(j,o)∈M:=by obtain ⟨o,ho⟩:=Option.isSome_iff_exists.mp hj;exact ⟨o,Mx ho⟩
   obtain ⟨o,ho⟩:=hin
   simp only [Jk,List.all_eq_true,Bool.and_eq_true,decide_eq_true_eq] at hs
   have h5:=(hs _ ho).2
   simp only [Mk,if_pos h5] at he
   exact hk (by simp only [Qz,List.map_map,List.mem_map,Function.comp];exact ⟨_,ho,he⟩)
  ·simp only [Mk,nameOut,look] at he
   split at he
   ·omega
   ·omega
 intro l h
 cases l with
 |pl x=>rfl
 |p j path=>simp only [L.ren,L.has,beq_eq_false_iff_ne];exact fun e=>key j h e.symm
 |s j path len sz=>simp only [Nq,Bool.and_eq_true] at h;simp only [L.ren,L.has,beq_eq_false_iff_ne];exact fun e=>key j h.2 e.symm
 |fn f caps=>
  simp only [Nq,List.all_eq_true] at h
  simp only [L.ren,L.has,List.any_eq_false,List.mem_map]
  rintro j' ⟨j,hj,rfl⟩
  simp only [beq_iff_eq]
  exact fun e=>key j (h j hj) e.symm
theorem g0v {vw:Bool} {M:List (Nat×Ob)} {nm:Nat→Nat} {k:Nat} (hs:Jk M=true) (hk:k∉(Qz nm M).map (·.1)) (hl:k<500000) {x:V} (h:Jw vw M x=true):(x.ren (Mk nm [])).has k=false:=by
 have hw: ∀ x:W,c0o vw M x=true→(x.ren (Mk nm [])).has k=false:=by
  intro x h
  cases x with
  |one l=>exact j0d hs hk hl h
  |agg cs=>
   simp only [c0o,List.all_eq_true] at h
   simp only [W.ren,W.has,List.any_eq_false,List.mem_map]
   rintro l ⟨l',hl',rfl⟩
   rw [j0d hs hk hl (h _ hl')];simp
 cases x with
 |w x=>exact hw x h
 |tup xs=>
  simp only [Jw,List.all_eq_true] at h
  simp only [V.ren,V.has,List.any_eq_false,List.mem_map]
  rintro l ⟨l',hl',rfl⟩
  rw [hw _ (h _ hl')];simp
 |any=>rfl
theorem l0b {f:Nat→Nat}: ∀ {cs:List L},cs.all Pj=true→cs.map (L.ren f)=cs
 | [],_=>rfl
 |l::r,h=>by
  simp only [List.all_cons,Bool.and_eq_true] at h
  rw [List.map_cons,l0b h.2]
  cases l<;>first|rfl|(simp [Pj] at h)
theorem f0h {nm:Nat→Nat} {m:List (Nat×Ob)}: ∀ {M:List (Nat×Ob)},Jk M=true→Nj nm [] M m=Qz nm M++m
 | [],_=>rfl
 |x::r,h=>by
  simp only [Jk,List.all_cons,Bool.and_eq_true,decide_eq_true_eq] at h
  simp only [Nj,if_pos h.1.2,Qz,List.map_cons,List.cons_append]
  rw [f0h h.2]
  congr 2
  simp only [Ob.ren];rw [l0b h.1.1]
theorem k0o {vw:Bool} {m:List (Nat×Ob)} {cs:List L} (h:cs.all Pj=true):cs.all (Nq vw m)=true:=by
 simp only [List.all_eq_true] at h ⊢
 intro l hl
 have:=h l hl
 cases l<;>simp_all [Pj,Nq]
theorem v0b {nm:Nat→Nat} {j:Nat}: ∀ {M:List (Nat×Ob)},j∉(Qz nm M).map (·.1)→inv nm M j=none
 | [],_=>rfl
 |x::r,h=>by
  simp only [Qz,List.map_cons,List.mem_cons,not_or] at h
  simp only [inv]
  rw [if_neg (fun e=>h.1 e.2.symm)]
  exact v0b h.2
theorem n0d {vw:Bool} {nm:Nat→Nat} {S:St} {m mr:List (Nat×Ob)}: ∀ {M:List (Nat×Ob)},Jk M=true→((Qz nm M).map (·.1)).Nodup→(M.map (·.1)).Nodup→(∀ k∈(Qz nm M).map (·.1),fresh k S=true∧look S.mem k=none)→a0r vw nm [] S m mr M
 | [],_,_,_,_=>trivial
 |x::r,hs,hn,hk,hf=>by
  simp only [Jk,List.all_cons,Bool.and_eq_true,decide_eq_true_eq] at hs
  have hn':=hn
  simp only [Qz,List.map_cons,List.nodup_cons] at hn
  simp only [List.map_cons,List.nodup_cons] at hk
  have h1:=hf (nm x.1) (by simp [Qz])
  refine ⟨⟨k0o hs.1.1,by rw [Kv hk.1];rfl,?_⟩,n0d hs.2 hn.2 hk.2 fun k hk=>hf k (by simp only [Qz,List.map_cons,List.mem_cons];exact .inr hk)⟩
  rw [if_pos hs.1.2]
  exact ⟨h1.1,by rw [h1.2];rfl,v0b hn.1⟩
theorem c1o {S:St} {dst:Option Tmp} {op:Op} {v:V} {j:Nat} {ob:Ob} (h:Lv P S dst op=some (.sto v j ob)):j<1000000:=by
 unfold Lv at h
 split at h
 ·split at h<;>try (cases h;done)
  unfold e0a at h
  split at h<;>try (cases h;done)
  split at h<;>try (cases h;done)
  split at h<;>try (cases h;done)
  rename_i hc
  cases h
  exact hc.1
 ·split at h<;>try (cases h;done)
  split at h<;>try (cases h;done)
  unfold c0e at h
  repeat' (split at h<;>try (cases h;done))
 ·split at h<;>try (cases h;done)
  split at h<;>try (cases h;done)
  obtain ⟨r,hr,he⟩:=Option.map_eq_some_iff.mp h
  unfold copyV at hr
  split at hr<;>try (cases hr;done)
  split at hr<;>try (cases hr;done)
  split at hr<;>try (cases hr;done)
  split at hr<;>try (cases hr;done)
  rename_i hc
  cases hr
  cases he
  exact hc.1
 ·split at h
  ·cases h
  ·split at h<;>try (cases h;done)
   obtain ⟨r,_,he⟩:=Option.map_eq_some_iff.mp h
   cases he
theorem c1q {S:St} {dst:Option Tmp} {op:Op} {v:V} {j:Nat} {ob:Ob} (h:Lv P S dst op=some (.app v j ob)):j<1000000:=by
 unfold Lv at h
 split at h
 ·split at h<;>try (cases h;done)
  unfold e0a at h
  repeat' (split at h<;>try (cases h;done))
 ·split at h<;>try (cases h;done)
  split at h<;>try (cases h;done)
  unfold c0e at h
  split at h<;>try (cases h;done)
  split at h<;>try (cases h;done)
  split at h<;>try (cases h;done)
  split at h
  ·split at h<;>try (cases h;done)
   split at h<;>try (cases h;done)
   rename_i hc
   cases h
   exact hc.1.elim (fun h=>Nat.lt_trans h (by decide)) (fun h=>h.2)
  ·repeat' (split at h<;>try (cases h;done))
  ·cases h
 ·split at h<;>try (cases h;done)
  split at h<;>try (cases h;done)
  obtain ⟨r,hr,he⟩:=Option.map_eq_some_iff.mp h
  cases he
 ·split at h
  ·cases h
  ·split at h<;>try (cases h;done)
   obtain ⟨r,_,he⟩:=Option.map_eq_some_iff.mp h
   cases he
theorem Ev.low {k:Nat} {ob:Ob} (h:Ev P S o dp e) (hn: ∀ j∈e.names,New j S) (hk:1000000≤k) (hf:s1s ob=true) (dst:Option Tmp):look (e.on dst S).mem k=some ob↔look S.mem k=some ob:=by
 have hnew: ∀ v ms,e=.new v ms→look (e.on dst S).mem k=look S.mem k:=by
  intro v ms he
  subst he
  have h0:look ms k=none:=Kv fun hin=>by have h9:k<500000:=(hn k hin).1.2.2;omega
  show look (ms++S.mem) k=_
  rw [Ez,h0];rfl
 have hset: ∀ v j ob,e=.sto v j ob→j<1000000→look (e.on dst S).mem k=look S.mem k:=by
  intro v j ob he hj
  subst he
  show look (Qk S.mem j ob) k=_
  rw [Dj,if_neg (by omega)]
 cases h with
 |call=>rw [hnew _ _ rfl]
 |fncall=>rw [hnew _ _ rfl]
 |gcall=>rw [hnew _ _ rfl]
 |dcall=>rw [hnew _ _ rfl]
 |hcall=>exact Iff.rfl
 |acall=>exact Iff.rfl
 |now=>exact Iff.rfl
 |det h=>
  cases e with
  |val v=>exact Iff.rfl
  |new v ms=>rw [hnew _ _ rfl]
  |sto v j ob=>
   rw [hset _ _ _ rfl (c1o h)]
  |app v j o2=>
   have hj:j<1000000:=c1q h
   have hkj:k≠j:=by omega
   show look ((j,o2)::Yy j S.mem) k=_↔_
   simp only [look,if_neg hkj]
   rw [Hy,if_neg hkj]
   constructor
   ·intro h
    obtain ⟨o0,h0,rfl⟩:=Option.map_eq_some_iff.mp h
    rw [h0]
    have:=j0n (cs:=o0.cells) hf
    rw [this]
   ·intro h
    rw [h,Option.map_some,q0b hf]
theorem Ev.fr {k:Nat} (h:Ev P S o dp e) (hf:Fr k S) (hk:k∉e.names):e.free k=true:=by
 cases h with
 |det h=>exact i1u hf h hk
 |call ho hgo hv hc hr hs hn hkk=>
  simp only [Eff.names] at hk
  simp only [Eff.free,l0l hk hr,Bool.not_false,Bool.true_and,List.all_eq_true,Qz,List.mem_map]
  rintro m ⟨x,hx,rfl⟩
  simp only [Jk,List.all_eq_true,Bool.and_eq_true] at hs
  simp only [Ob.has,Bool.not_eq_true']
  exact Wj (by simpa [List.all_eq_true] using (hs x hx).1) k
 |fncall ho hgo hfn hcs hv hc hr hs hn hkk=>
  simp only [Eff.names] at hk
  simp only [Eff.free,l0l hk hr,Bool.not_false,Bool.true_and,List.all_eq_true,Qz,List.mem_map]
  rintro m ⟨x,hx,rfl⟩
  simp only [Jk,List.all_eq_true,Bool.and_eq_true] at hs
  simp only [Ob.has,Bool.not_eq_true']
  exact Wj (by simpa [List.all_eq_true] using (hs x hx).1) k
 |gcall ho hgo hv hG hGf hc hr hs hn hkk=>
  simp only [Eff.names] at hk
  simp only [Eff.free,g0v hs hk hf.2.2 hr,Bool.not_false,Bool.true_and,List.all_eq_true,Qz,List.mem_map]
  rintro m ⟨x,hx,rfl⟩
  simp only [Jk,List.all_eq_true,Bool.and_eq_true] at hs
  simp only [Ob.has,Bool.not_eq_true']
  exact Wj (by simpa [List.all_eq_true] using (hs x hx).1) k
 |dcall hdp ho hgo hv hG hGf hc hr hs hn hkk=>
  simp only [Eff.names] at hk
  simp only [Eff.free,g0v hs hk hf.2.2 hr,Bool.not_false,Bool.true_and,List.all_eq_true,Qz,List.mem_map]
  rintro m ⟨x,hx,rfl⟩
  simp only [Jk,List.all_eq_true,Bool.and_eq_true] at hs
  simp only [Ob.has,Bool.not_eq_true']
  exact Wj (by simpa [List.all_eq_true] using (hs x hx).1) k
 |now ho hv hc=>simp only [Eff.free,hc.1,Bool.not_false]
 |hcall hdp ho hgo hfn hcp hv hok hmm hh hml hc hr hrn hx hou hall=>simp only [Eff.free,hx,Bool.not_false]
 |acall ho hgo hv hok hmm hh hml hc hr hrn hx hou hall=>simp only [Eff.free,hx,Bool.not_false]
theorem Ev.run {B:Base} {d:Va} {a:Act} {w:World} (hs:Sim B d S a w) (h:Ev P S o dp e) (hf: ∀ k∈e.names,New k S) (hn: ∀ n,o.dst=some n→n<B.nt) (next:Act→World→Prop) (Q:Exit→Act→World→Prop)
  (hk: ∀ d' a' w',Sim B d' (e.on o.dst S) a' w'→next a' w'):o.wp P a w next Q:=by
 cases h with
 |det h=>
  rcases c1p hs h (fun k hk=>(hf k hk).1) hn with ⟨y,w',d',hr,hs'⟩|⟨w',d',hr,hdst,hs'⟩
  ·unfold Oper.wp;rw [hr];exact hk _ _ _ hs'
  ·unfold Oper.wp;rw [hr,Oper.upon_skip,hdst];rw [hdst] at hs' hk;exact hk d' a w' hs'
 |call ho hgo hv hc hr hst hnd hkd=>
  rename_i f args ts vs X M nm
  have hq:=e0l S
  have hv':Nk S.norm args=some vs:=by
   rw [Qj (S:=S) (fun x _=>hq.get x) (fun _ _ _ _ k _=>hq.mem k)];exact hv
  obtain ⟨dst,op,ty,pos,af,g⟩:=o
  simp only at ho;subst ho
  have hcall:=Cz (B:=B) (S:=S.norm) (K:=fun S'=>S'=(Eff.new (X.ren nm) (Qz nm M)).on dst S.norm) (dst:=dst) (ty:=ty) (pos:=pos) (af:=af) (ts:=ts) (ds:=[]) (r:=[]) nm hgo hv' hc (by
   rintro v m ⟨rfl,rfl⟩
   refine ⟨hr,g0o hst hnd hkd fun k hk=>?_,?_⟩
   ·have hnew:=hf k hk
    have:=h0u (Xw hnew.1)
    exact ⟨this.1,this.2,by rw [hq.mem];exact hnew.2,hnew.1.2.2⟩
   ·cases dst with
    |none=>simp only [Yv,a0l];rfl
    |some n=>exact ⟨hn n rfl,by simp only [Yv,a0l];rfl⟩)
  have:=hcall d a w (hs.eqv hq) next Q (fun S' d' a' w' hS' hs'=>by
   have hS'':S'=(Eff.new (X.ren nm) (Qz nm M)).on dst S.norm:=hS'
   subst hS''
   exact hk d' a' w' (hs'.eqv (l0r hq.symm _ _)))
  exact this
 |fncall ho hgo hfn hcs hv hc hr hst hnd hkd=>
  rename_i f args ts vs cs X M nm t caps
  have hq:=e0l S
  have hv':Nk S.norm args=some vs:=by
   rw [Qj (S:=S) (fun x _=>hq.get x) (fun _ _ _ _ k _=>hq.mem k)];exact hv
  obtain ⟨dst,op,ty,pos,af,g⟩:=o
  simp only at ho;subst ho
  have hcall:=s0p (B:=B) (S:=S.norm) (K:=fun S'=>S'=(Eff.new (X.ren nm) (Qz nm M)).on dst S.norm) (dst:=dst) (ty:=ty) (pos:=pos) (af:=af) (ts:=ts) (ds:=[]) (r:=[]) (g:=g) nm (by rw [hq.get];exact hfn) (by rw [f0p (S:=S) fun k _=>hq.mem k];exact hcs) hgo hv' hc (by
   rintro v m ⟨rfl,rfl⟩
   refine ⟨hr,g0o hst hnd hkd fun k hk=>?_,?_⟩
   ·have hnew:=hf k hk
    have:=h0u (Xw hnew.1)
    exact ⟨this.1,this.2,by rw [hq.mem];exact hnew.2,hnew.1.2.2⟩
   ·cases dst with
    |none=>simp only [Yv,a0l];rfl
    |some n=>exact ⟨hn n rfl,by simp only [Yv,a0l];rfl⟩)
  have:=hcall d a w (hs.eqv hq) next Q (fun S' d' a' w' hS' hs'=>by
   have hS'':S'=(Eff.new (X.ren nm) (Qz nm M)).on dst S.norm:=hS'
   subst hS''
   exact hk d' a' w' (hs'.eqv (l0r hq.symm _ _)))
  exact this
 |gcall ho hgo hv hG hGf hc hr hst hnd hkd=>
  rename_i vw f args ts vs X M G nm
  have hq:=e0l S
  have hv':Nw vw S.norm [] args=some vs:=by
   rw [d0h (S:=S) (fun x _=>hq.get x) (fun _ _ _ _ k _=>hq.mem k)];exact hv
  obtain ⟨dst,op,ty,pos,af,g⟩:=o
  simp only at ho;subst ho
  have hcall:=Sw (B:=B) (S:=S.norm) (K:=fun S'=>S'=(Eff.new (X.ren (Mk nm [])) (Qz nm M)).on dst S.norm) (dst:=dst) (ty:=ty) (pos:=pos) (af:=af) (ts:=ts) (ds:=[]) (r:=[]) vw [] nm hgo hv' rfl (Uv (fun k o _ _ hk=>by rw [hq.mem];exact hk) hGf hG) hc (by
   rintro v m ⟨rfl,rfl⟩
   refine ⟨hr,n0d hst hnd hkd fun k hk=>?_,rfl,?_⟩
   ·have hnew:=hf k hk
    exact ⟨Xw hnew.1,by rw [hq.mem];exact hnew.2⟩
   ·cases dst with
    |none=>simp only [Yv,f0h hst];rfl
    |some n=>exact ⟨hn n rfl,by simp only [Yv,f0h hst];rfl⟩)
  have:=hcall d a w (hs.eqv hq) next Q (fun S' d' a' w' hS' hs'=>by
   have hS'':S'=(Eff.new (X.ren (Mk nm [])) (Qz nm M)).on dst S.norm:=hS'
   subst hS''
   exact hk d' a' w' (hs'.eqv (l0r hq.symm _ _)))
  exact this
 |dcall hdp ho hgo hv hG hGf hc hr hst hnd hkd=>
  rename_i f args ts vs X M G nm
  have hq:=e0l S
  have hv':Uk S.norm args=some vs:=by
   rw [b0v (S:=S) (fun x _=>hq.get x) (fun _ _ _ _ k _=>hq.mem k) (fun _ _ _ _ _ _ _ _ j _=>hq.mem j)];exact hv
  obtain ⟨dst,op,ty,pos,af,g⟩:=o
  simp only at ho;subst ho
  have hcall:=d1j (B:=B) (S:=S.norm) (K:=fun S'=>S'=(Eff.new (X.ren (Mk nm [])) (Qz nm M)).on dst S.norm) (dst:=dst) (ty:=ty) (pos:=pos) (af:=af) (ts:=ts) (ds:=[]) (r:=[]) nm hgo hv' (Uv (fun k o _ _ hk=>by rw [hq.mem];exact hk) hGf hG) hc (by
   rintro v m ⟨rfl,rfl⟩
   refine ⟨hr,n0d hst hnd hkd fun k hk=>?_,?_⟩
   ·have hnew:=hf k hk
    exact ⟨Xw hnew.1,by rw [hq.mem];exact hnew.2⟩
   ·cases dst with
    |none=>simp only [Yv,f0h hst];rfl
    |some n=>exact ⟨hn n rfl,by simp only [Yv,f0h hst];rfl⟩)
  have:=hcall d a w (hs.eqv hq) next Q (fun S' d' a' w' hS' hs'=>by
   have hS'':S'=(Eff.new (X.ren (Mk nm [])) (Qz nm M)).on dst S.norm:=hS'
   subst hS''
   exact hk d' a' w' (hs'.eqv (l0r hq.symm _ _)))
  exact this
 |hcall hdp ho hgo hfn hcp hv hok hmm hh hml hc hr hrn hx hou hall=>
  rename_i f args ts vs X m hd t caps ks
  obtain ⟨dst,op,ty,pos,af,g⟩:=o
  simp only at ho;subst ho
  have hp:m.all (fun x=>decide (500000≤x.1))=true:=by
   rw [List.all_eq_true] at hml ⊢
   intro x hx
   have:=hml x hx
   simp only [Bool.and_eq_true] at this
   exact this.1
  have hcall:=Jq (B:=B) (S:=S) (K:=fun S'=>Eqv S' ((Eff.val X).on dst S)) (dst:=dst) (ty:=ty) (pos:=pos) (af:=af) (ts:=ts) (ds:=[]) (r:=[]) false hd (fun k=>k) hfn hcp hgo hv hok hmm hc (by
   rintro v m' ⟨rfl,rfl⟩
   refine ⟨hr,hou S,hall,?_⟩
   cases dst with
   |none=>simp only [Yv];exact ⟨fun _=>rfl,fun j=>(f0g (e0t hok).1 hmm (hou S) hp j).symm⟩
   |some n=>exact ⟨hn n rfl,by simp only [Yv,hrn];exact ⟨fun _=>rfl,fun j=>(f0g (e0t hok).1 hmm (hou S) hp j).symm⟩⟩)
  have:=hcall d a w hs next Q (fun S' d' a' w' hS' hs'=>hk d' a' w' (hs'.eqv hS'))
  exact this
 |acall ho hgo hv hok hmm hh hml hc hr hrn hx hou hall=>
  rename_i f args ts vs X m hd
  obtain ⟨dst,op,ty,pos,af,g⟩:=o
  simp only at ho;subst ho
  have hp:m.all (fun x=>decide (500000≤x.1))=true:=by
   rw [List.all_eq_true] at hml ⊢
   intro x hx
   have:=hml x hx
   simp only [Bool.and_eq_true] at this
   exact this.1
  have hcall:=Sw (B:=B) (S:=S) (K:=fun S'=>Eqv S' ((Eff.val X).on dst S)) (dst:=dst) (ty:=ty) (pos:=pos) (af:=af) (ts:=ts) (ds:=[]) (r:=[]) false hd (fun k=>k) hgo hv hok hmm hc (by
   rintro v m' ⟨rfl,rfl⟩
   refine ⟨hr,hou S,hall,?_⟩
   cases dst with
   |none=>simp only [Yv];exact ⟨fun _=>rfl,fun j=>(f0g (e0t hok).1 hmm (hou S) hp j).symm⟩
   |some n=>exact ⟨hn n rfl,by simp only [Yv,hrn];exact ⟨fun _=>rfl,fun j=>(f0g (e0t hok).1 hmm (hou S) hp j).symm⟩⟩)
  have:=hcall d a w hs next Q (fun S' d' a' w' hS' hs'=>hk d' a' w' (hs'.eqv hS'))
  exact this
 |now ho hv hc=>
  rename_i f args ts vs X
  obtain ⟨dst,op,ty,pos,af,g⟩:=o
  simp only at ho;subst ho
  obtain ⟨y,hrun,hd⟩:=a1g (dst:=dst) (ty:=ty) (pos:=pos) (af:=af) (ts:=ts) (g:=g) hs hv hc
  unfold Oper.wp
  rw [hrun]
  refine hk d _ _ ?_
  cases dst with
  |none=>exact hs
  |some n=>exact hs.put (hn n rfl) (hd d)
end
end Go.Sy
namespace Go.Sy
def t1m :L→Bool
 | .pl .u=>false
 |_=>true
def r1t :W→Bool
 | .one l=>t1m l
 | .agg cs=>cs.all t1m
def p1q :V→Bool
 | .w x=>r1t x
 | .tup xs=>xs.all r1t
 | .any=>true
theorem e0r {k:Nat} {l:L} (h:l.has k=false):Rx k l=l:=by simp [Rx,h]
theorem p0o {k:Nat} {l:L} (h:t1m (Rx k l)=true):Rx k l=l:=by
 unfold Rx at h ⊢
 split
 ·rename_i hc;rw [if_pos hc] at h;cases h
 ·rfl
theorem map_id' {α:Type} {f:α→α}: ∀ {l:List α},(∀ x∈l,f x=x)→l.map f=l
 | [],_=>rfl
 |x::r,h=>by rw [List.map_cons,h x (by simp),map_id' fun y hy=>h y (by simp [hy])]
theorem p0n {k:Nat} {x:W} (h:r1t (x.kill k)=true):x.kill k=x:=by
 cases x with
 |one l=>simp only [W.kill];rw [p0o h]
 |agg cs=>
  simp only [W.kill,r1t,List.all_eq_true,List.mem_map] at h
  simp only [W.kill];rw [map_id' fun l hl=>p0o (h _ ⟨l,hl,rfl⟩)]
theorem a1v {k:Nat} {x:V} (h:p1q (x.kill k)=true):x.kill k=x:=by
 cases x with
 |w x=>simp only [V.kill];rw [p0n h]
 |tup xs=>
  simp only [V.kill,p1q,List.all_eq_true,List.mem_map] at h
  simp only [V.kill];rw [map_id' fun l hl=>p0n (h _ ⟨l,hl,rfl⟩)]
 |any=>rfl
theorem W.kill_id {k:Nat} {x:W} (h:x.has k=false):x.kill k=x:=by
 cases x with
 |one l=>simp only [W.kill];rw [e0r h]
 |agg cs=>
  simp only [W.has,List.any_eq_false] at h
  simp only [W.kill];rw [map_id' fun l hl=>e0r (by simpa using h l hl)]
theorem V.kill_id {k:Nat} {x:V} (h:x.has k=false):x.kill k=x:=by
 cases x with
 |w x=>simp only [V.kill];rw [W.kill_id h]
 |tup xs=>
  simp only [V.has,List.any_eq_false] at h
  simp only [V.kill];rw [map_id' fun l hl=>W.kill_id (by simpa using h l hl)]
 |any=>rfl
structure It where
 o:Oper
 e:Eff
 skip:Bool
 dp:Bool
 rv:List V
 ns:List Nat
def gslot (ds:List (Option Tmp)) (o:Oper):List Operand:=
 match o.guard with
 |some g=>match ds[g.1]? with
  |some (some t)=>[.tmp t]
  |_=>[]
 |none=>[]
def It.reads (ds:List (Option Tmp)) (x:It):List Operand:=gslot ds x.o++(if x.skip=true then [] else x.o.op.operands.toList)
def tmpsOf (l:List Operand):List Nat:=l.filterMap fun x=>match x with
 | .tmp t=>some t
 |_=>none
def It.on (x:It) (S:St):St:=x.e.on x.o.dst S
structure Go1 (P:Program) (ds:List (Option Tmp)) (S:St) (x:It):Prop where
 rv:(x.reads ds).filterMap S.get=x.rv
 guard:match x.o.guard with
  |none=>x.skip=false
  |some g=>∃ c,Uq S ds g.1 g.2=some c∧x.skip=(c !=g.2)
 ev:if x.skip=true then x.e=.val (.tup []) else Ev P S x.o x.dp x.e
 ns: ∀ v j o,x.e=.app v j o→∀ k ob,look S.mem k=some ob→k≠j→ob.has j=true→k∈x.ns
theorem y0g {l:List Operand} {n:Nat} (h:Operand.tmp n∈l):n∈tmpsOf l:=by
 simp only [tmpsOf,List.mem_filterMap]
 exact ⟨_,h,rfl⟩
structure Agree (ds:List (Option Tmp)) (S S':St) (x:It):Prop where
 get: ∀ y∈x.reads ds,S'.get y=S.get y
 mem:Zq x.o.op=true→(∀ v∈x.rv,∀ k,v.has k=true→look S'.mem k=look S.mem k)∨(i0l x.o.op=true∧∃ v k o,x.e=.sto v k o∧look S'.mem k=look S.mem k)
 ns: ∀ v j o,x.e=.app v j o→∀ k ob,look S'.mem k=some ob→k≠j→ob.has j=true→k∈x.ns
 glob:Glob S S'
 inner:x.dp=true→Zq x.o.op=true→∀ v∈x.rv,∀ k,v.has k=true→∀ o,look S.mem k=some o→∀ j,o.has j=true→look S'.mem j=look S.mem j
theorem s0g {S S':St} {ds:List (Option Tmp)} {o:Oper} {g:Nat×Bool} (hg:o.guard=some g) (h: ∀ y∈gslot ds o,S'.get y=S.get y):Uq S' ds g.1 g.2=Uq S ds g.1 g.2:=by
 unfold gslot at h
 rw [hg] at h
 simp only at h
 unfold Uq
 split
 ·rename_i t ht
  rw [ht] at h
  have:=h (.tmp t) (by simp)
  simp only [St.get] at this
  rw [this]
 ·rfl
theorem u0m {S:St} {l:List Operand} {rv:List V} (h:l.filterMap S.get=rv) {y:Operand} {v:V} (hy:y∈l) (hv:S.get y=some v):v∈rv:=by
 rw [←h];exact List.mem_filterMap.2 ⟨y,hy,hv⟩
theorem l1x {S:St} {l:List Operand} {rv:List V} (h:l.filterMap S.get=rv) {v:V} (hv:v∈rv): ∃ z∈l,S.get z=some v:=by
 rw [←h] at hv;exact List.mem_filterMap.1 hv
theorem d0e {S S':St}: ∀ {l:List Operand},(∀ y∈l,S'.get y=S.get y)→l.filterMap S'.get=l.filterMap S.get
 | [],_=>rfl
 |x::r,h=>by
  rw [List.filterMap_cons,List.filterMap_cons,h x (by simp),d0e (l:=r) fun y hy=>h y (by simp [hy])]
theorem mem_reads {ds:List (Option Tmp)} {x:It} (hs:x.skip=false) {y:Operand} (h:y∈x.o.op.operands):y∈x.reads ds:=by
 unfold It.reads
 rw [hs]
 simp only [Bool.false_eq_true,if_false,List.mem_append]
 exact .inr (by simpa using h)
theorem Go1.same {P:Program} {ds:List (Option Tmp)} {S S':St} {x:It} (h:Go1 P ds S x) (ha:Agree ds S S' x):Go1 P ds S' x:=by
 refine ⟨?_,?_,?_,ha.ns⟩
 ·rw [←h.rv]
  exact d0e ha.get
 ·have hg:=h.guard
  cases hgd:x.o.guard with
  |none=>rw [hgd] at hg;exact hg
  |some g=>
   rw [hgd] at hg
   simp only at hg ⊢
   obtain ⟨c,hc,hs⟩:=hg
   exact ⟨c,by rw [s0g hgd fun y hy=>ha.get y (by unfold It.reads;simp [hy])];exact hc,hs⟩
 ·have he:=h.ev
  cases hs:x.skip with
  |true=>rw [hs] at he;simpa using he
  |false=>
   rw [hs] at he
   simp only [Bool.false_eq_true,if_false] at he ⊢
   by_cases hmo:Zq x.o.op=true
   ·rcases ha.mem hmo with hmm|⟨hst,v,k,o,hee,hkk⟩
    ·refine he.same (fun y hy=>ha.get y (mem_reads hs hy)) (fun hm y hy v hv k hk=>?_) ha.glob (fun hd hm y hy v hv=>ha.inner hd hm v (u0m h.rv (mem_reads hs hy) hv))
     exact hmm v (u0m h.rv (mem_reads hs hy) hv) k hk
    ·exact he.sameS hst (fun y hy=>ha.get y (mem_reads hs hy)) hee hkk
   ·exact he.same (fun y hy=>ha.get y (mem_reads hs hy)) (fun hm=>absurd hm hmo) ha.glob (fun _ hm=>absurd hm hmo)
def x0x (k:Nat):Eff→Prop
 | .sto _ k2 _=>¬k2=k
 |_=>False
def Tx :Eff→Eff→Prop
 | .sto _ k _,.sto _ k2 _=>¬k=k2
 |_,_=>False
theorem q0y {a:Eff} {v:V} {j:Nat} {o:Ob}:¬Tx a (.app v j o):=by
 cases a<;>exact id
theorem t0v {a b:Eff} (h:Tx a b):Tx b a:=by
 unfold Tx at h ⊢
 cases a<;>cases b<;>simp only at h ⊢
 exact fun e=>h e.symm
theorem n1g {a b:Eff} (h:a.mut=false∨b.mut=false∨Tx a b):b.mut=false∨a.mut=false∨Tx b a:=by
 rcases h with h|h|h
 ·exact .inr (.inl h)
 ·exact .inl h
 ·exact .inr (.inr (t0v h))
def touch (m z:It):Prop:=
 match m.e with
 | .sto _ k _=>z.dp=false∧(Zq z.o.op=true→(∀ v∈z.rv,v.has k=false)∨(i0l z.o.op=true∧x0x k z.e))
 | .app _ j _=>z.dp=false∧(∀ v∈z.rv,v.has j=false∧p1q v=true)∧z.e.free j=true∧(Zq z.o.op=true→∀ v∈z.rv,∀ k∈m.ns,v.has k=false)
 |_=>True
structure Ind (ds:List (Option Tmp)) (x y:It):Prop where
 d1: ∀ n,x.o.dst=some n→n∉tmpsOf (y.reads ds)
 d2: ∀ n,y.o.dst=some n→n∉tmpsOf (x.reads ds)
 d3: ∀ n,x.o.dst=some n→y.o.dst≠some n
 mu:x.e.mut=false∨y.e.mut=false∨Tx x.e y.e
 t1:touch x y
 t2:touch y x
section
variable {P:Program} {ds:List (Option Tmp)} {S S':St} {x y:It}
theorem Go1.fr (h:Go1 P ds S x) {k:Nat} (hf:Fr k S) (hk:k∉x.e.names):x.e.free k=true:=by
 have he:=h.ev
 cases hs:x.skip with
 |true=>rw [hs] at he;simp only [if_true] at he;rw [he];rfl
 |false=>rw [hs] at he;simp only [Bool.false_eq_true,if_false] at he;exact he.fr hf hk
theorem Go1.glob (h:Go1 P ds S x) (hn: ∀ k∈x.e.names,New k S):Glob S (x.on S)∧Glob (x.on S) S:=by
 have he:=h.ev
 cases hs:x.skip with
 |true=>
  rw [hs] at he;simp only [if_true] at he
  have:(x.on S).mem=S.mem:=by unfold It.on;rw [he];rfl
  exact ⟨fun k o _ _ hk=>by rw [this];exact hk,fun k o _ _ hk=>by rw [this] at hk;exact hk⟩
 |false=>
  rw [hs] at he;simp only [Bool.false_eq_true,if_false] at he
  exact ⟨fun k o hk hf ho=>(he.low hn hk hf x.o.dst).2 ho,fun k o hk hf ho=>(he.low hn hk hf x.o.dst).1 ho⟩
theorem g0e {n:Nat} (h:x.o.dst≠some n):(x.on S).get (.tmp n)=match x.e with
  | .app _ j _=>(look S.env n).map (V.kill j)
  |_=>look S.env n:=by
 unfold It.on
 cases x.e with
 |val v=>exact Xj h
 |new v ms=>exact Xj h
 |app v j o=>simp only [St.get,Eff.on];rw [Xj h,Uz]
 |sto v k o=>exact Xj h
theorem y0a (hx:Go1 P ds S x) (hy:Go1 P ds (x.on S) y) (hn: ∀ k∈x.e.names,New k S) (hd: ∀ n,x.o.dst=some n→n∉tmpsOf (y.reads ds)) (ht:touch x y) (hm:x.e.mut=false∨y.e.mut=false∨Tx x.e y.e):Agree ds (x.on S) S y:=by
 have hget: ∀ z∈y.reads ds,S.get z=(x.on S).get z:=by
  intro z hz
  cases z with
  |const c=>rfl
  |func f=>rfl
  | «global» g=>rfl
  |tmp n=>
   have hne:x.o.dst≠some n:=fun e=>hd n e (y0g hz)
   have h1:=g0e (S:=S) hne
   rw [h1]
   unfold touch at ht
   cases he:x.e with
   |app v j o=>
    rw [he] at ht h1
    simp only at ht h1 ⊢
    show look S.env n=_
    cases hu':look S.env n with
    |none=>rfl
    |some u'=>
     have hu:=u0m hy.rv hz (v:=u'.kill j) (by rw [h1,hu'];rfl)
     rw [Option.map_some,a1v (ht.2.1 _ hu).2]
   |val v=>rfl
   |new v ms=>rfl
   |sto v k o=>rfl
 refine ⟨hget,fun hmo=>?_,fun v j o hye k ob hk hkj hob=>?_,(hx.glob hn).2,fun hdp hmo v hv k hk o ho j hj=>?_⟩
 ·rcases (show ((∃ u k0 o,x.e=.sto u k0 o)∨∀ u k0 o,x.e≠.sto u k0 o) from by cases x.e<;>first|exact .inl ⟨_,_,_,rfl⟩|exact .inr (fun _ _ _ h=>by cases h)) with ⟨u,k0,o,he⟩|hns
  ·unfold touch at ht
   rw [he] at ht
   simp only at ht
   rcases ht.2 hmo with h3|⟨h3,h4⟩
   ·left
    intro v hv k hk
    have hkj:k≠k0:=by intro e2;subst e2;rw [h3 v hv] at hk;cases hk
    unfold It.on
    rw [he]
    simp only [Eff.on]
    rw [Dj,if_neg hkj]
   ·right
    refine ⟨h3,?_⟩
    unfold x0x at h4
    cases hye:y.e<;>rw [hye] at h4<;>try (exact absurd h4 id)
    refine ⟨_,_,_,rfl,?_⟩
    unfold It.on
    rw [he]
    simp only [Eff.on]
    rw [Dj,if_neg h4]
  left
  intro v hv k hk
  obtain ⟨z,hz,e⟩:=l1x hy.rv hv
  rw [←hget z hz] at e
  unfold touch at ht
  unfold It.on
  cases he:x.e with
  |val u=>rfl
  |new u ms=>
   have h0:look ms k=none:=Kv fun hin=>by
    have:=(hn k (by rw [he];exact hin)).1
    rw [Qw this e] at hk;cases hk
   simp only [Eff.on]
   rw [Ez,h0];rfl
  |app u j o=>
   rw [he] at ht
   simp only at ht
   have hkj:k≠j:=by intro e2;subst e2;rw [(ht.2.1 v hv).1] at hk;cases hk
   simp only [Eff.on,look,if_neg hkj]
   rw [Hy,if_neg hkj]
   cases ho:look S.mem k with
   |none=>rfl
   |some ob=>
    have h2:ob.has j=false:=by
     cases hob:ob.has j with
     |false=>rfl
     |true=>
      have:=hx.ns u j o he k ob ho hkj hob
      rw [ht.2.2.2 hmo v hv k this] at hk;cases hk
    simp only [Option.map_some]
    rw [map_id' fun l hl=>e0r (by simp only [Ob.has,List.any_eq_false] at h2;simpa using h2 l hl)]
  |sto u k0 o=>exact absurd he (hns u k0 o)
 ·refine hy.ns v j o hye k ob ?_ hkj hob
  have hxm:x.e.mut=false:=by
   rcases hm with h|h|h
   ·exact h
   ·rw [hye] at h;cases h
   ·rw [hye] at h;exact absurd h q0y
  unfold It.on
  cases he:x.e with
  |val u=>exact hk
  |new u ms=>
   have h0:look ms k=none:=Kv fun hin=>by
    have:=(hn k (by rw [he];exact hin)).2
    rw [hk] at this;cases this
   simp only [Eff.on]
   rw [Ez,h0];exact hk
  |app u j o=>rw [he] at hxm;cases hxm
  |sto u k0 o=>rw [he] at hxm;cases hxm
 ·obtain ⟨z,hz,e⟩:=l1x hy.rv hv
  rw [←hget z hz] at e
  unfold touch at ht
  unfold It.on at ho ⊢
  cases he:x.e with
  |val u=>rfl
  |new u ms=>
   rw [he] at ho
   simp only [Eff.on] at ho ⊢
   have h0:look ms k=none:=Kv fun hin=>by
    have:=(hn k (by rw [he];exact hin)).1
    rw [Qw this e] at hk;cases hk
   rw [Ez,h0,Option.none_or] at ho
   have h1:look ms j=none:=Kv fun hin=>by
    have:=(hn j (by rw [he];exact hin)).1.2.1 k o ho
    rw [this] at hj;cases hj
   rw [Ez,h1];rfl
  |app u j2 o2=>rw [he] at ht;rw [ht.1] at hdp;cases hdp
  |sto u k0 o2=>rw [he] at ht;rw [ht.1] at hdp;cases hdp
theorem k1a (hx:Go1 P ds S x) (hy:Go1 P ds S y) (hn: ∀ k∈x.e.names,New k S) (hd: ∀ n,x.o.dst=some n→n∉tmpsOf (y.reads ds)) (ht:touch x y) (hm:x.e.mut=false∨y.e.mut=false∨Tx x.e y.e) (hfree: ∀ v j o,y.e=.app v j o→x.e.free j=true):Agree ds S (x.on S) y:=by
 have hv': ∀ v∈y.rv,∃ z∈y.reads ds,S.get z=some v:=fun v hv=>l1x hy.rv hv
 refine ⟨fun z hz=>?_,fun hmo=>?_,fun v j o hye k ob hk hkj hob=>?_,(hx.glob hn).1,fun hdp hmo v hv k hk o ho j hj=>?_⟩
 ·cases z with
  |const c=>rfl
  |func f=>rfl
  | «global» g=>rfl
  |tmp n=>
   have hne:x.o.dst≠some n:=fun e=>hd n e (y0g hz)
   rw [g0e (S:=S) hne]
   unfold touch at ht
   cases he:x.e with
   |app v j o=>
    rw [he] at ht
    simp only at ht ⊢
    show _=look S.env n
    cases hu':look S.env n with
    |none=>rfl
    |some u=>
     have hu:=u0m hy.rv hz (v:=u) hu'
     rw [Option.map_some,V.kill_id (ht.2.1 u hu).1]
   |val v=>rfl
   |new v ms=>rfl
   |sto v k o=>rfl
 ·rcases (show ((∃ u k0 o,x.e=.sto u k0 o)∨∀ u k0 o,x.e≠.sto u k0 o) from by cases x.e<;>first|exact .inl ⟨_,_,_,rfl⟩|exact .inr (fun _ _ _ h=>by cases h)) with ⟨u,k0,o,he⟩|hns
  ·unfold touch at ht
   rw [he] at ht
   simp only at ht
   rcases ht.2 hmo with h3|⟨h3,h4⟩
   ·left
    intro v hv k hk
    have hkj:k≠k0:=by intro e2;subst e2;rw [h3 v hv] at hk;cases hk
    unfold It.on
    rw [he]
    simp only [Eff.on]
    rw [Dj,if_neg hkj]
   ·right
    refine ⟨h3,?_⟩
    unfold x0x at h4
    cases hye:y.e<;>rw [hye] at h4<;>try (exact absurd h4 id)
    refine ⟨_,_,_,rfl,?_⟩
    unfold It.on
    rw [he]
    simp only [Eff.on]
    rw [Dj,if_neg h4]
  left
  intro v hv k hk
  obtain ⟨z,hz,e⟩:=hv' v hv
  unfold touch at ht
  unfold It.on
  cases he:x.e with
  |val u=>rfl
  |new u ms=>
   have h0:look ms k=none:=Kv fun hin=>by
    have:=(hn k (by rw [he];exact hin)).1
    rw [Qw this e] at hk;cases hk
   simp only [Eff.on]
   rw [Ez,h0];rfl
  |app u j o=>
   rw [he] at ht
   simp only at ht
   have hkj:k≠j:=by intro e2;subst e2;rw [(ht.2.1 v hv).1] at hk;cases hk
   simp only [Eff.on,look,if_neg hkj]
   rw [Hy,if_neg hkj]
   cases ho:look S.mem k with
   |none=>rfl
   |some ob=>
    have h2:ob.has j=false:=by
     cases hob:ob.has j with
     |false=>rfl
     |true=>
      have:=hx.ns u j o he k ob ho hkj hob
      rw [ht.2.2.2 hmo v hv k this] at hk;cases hk
    simp only [Option.map_some]
    rw [map_id' fun l hl=>e0r (by simp only [Ob.has,List.any_eq_false] at h2;simpa using h2 l hl)]
  |sto u k0 o=>exact absurd he (hns u k0 o)
 ·have hxm:x.e.mut=false:=by
   rcases hm with h|h|h
   ·exact h
   ·rw [hye] at h;cases h
   ·rw [hye] at h;exact absurd h q0y
  have hfr:=hfree v j o hye
  unfold It.on at hk
  cases he:x.e with
  |val u=>rw [he] at hk;exact hy.ns v j o hye k ob hk hkj hob
  |new u ms=>
   rw [he] at hk hfr
   simp only [Eff.on] at hk
   rw [Ez] at hk
   cases hl:look ms k with
   |none=>rw [hl] at hk;exact hy.ns v j o hye k ob hk hkj hob
   |some ob'=>
    rw [hl] at hk
    simp only [Option.some_or,Option.some.injEq] at hk
    subst hk
    simp only [Eff.free,Bool.and_eq_true,List.all_eq_true] at hfr
    have hin:(k,ob')∈ms:=by
     clear hfr hob he
     induction ms with
     |nil=>cases hl
     |cons m r ih=>
      simp only [look] at hl
      split at hl
      ·rename_i e;cases hl;subst e;simp
      ·exact List.mem_cons_of_mem _ (ih hl)
    have:=hfr.2 _ hin
    simp only [hob] at this;cases this
  |app u j o=>rw [he] at hxm;cases hxm
  |sto u k0 o=>rw [he] at hxm;cases hxm
 ·obtain ⟨z,hz,e⟩:=hv' v hv
  unfold touch at ht
  unfold It.on
  cases he:x.e with
  |val u=>rfl
  |new u ms=>
   simp only [Eff.on]
   have h1:look ms j=none:=Kv fun hin=>by
    have:=(hn j (by rw [he];exact hin)).1.2.1 k o ho
    rw [this] at hj;cases hj
   rw [Ez,h1];rfl
  |app u j2 o2=>rw [he] at ht;rw [ht.1] at hdp;cases hdp
  |sto u k0 o2=>rw [he] at ht;rw [ht.1] at hdp;cases hdp
theorem Kk {n:Nat}:look (x.on S).env n=if x.o.dst=some n then (match x.e with| .val v=>some v| .new v _=>some v| .app v _ _=>some v| .sto v _ _=>some v) else (match x.e with
  | .app _ j _=>(look S.env n).map (V.kill j)
  |_=>look S.env n):=by
 by_cases h:x.o.dst=some n
 ·rw [if_pos h]
  unfold It.on
  rw [h]
  cases x.e<;>exact Wy
 ·rw [if_neg h]
  have:=g0e (S:=S) h
  simp only [St.get] at this
  exact this
theorem m1v (hd: ∀ n,x.o.dst=some n→y.o.dst≠some n) (hm:x.e.mut=false∨y.e.mut=false∨Tx x.e y.e) (h1: ∀ k∈x.e.names,y.e.free k=true∧k∉y.e.names) (h2: ∀ k∈y.e.names,x.e.free k=true∧k∉x.e.names) (t1: ∀ v j o,x.e=.app v j o→y.e.free j=true) (t2: ∀ v j o,y.e=.app v j o→x.e.free j=true):Eqv (x.on (y.on S)) (y.on (x.on S)):=by
 have key: ∀ {x y:It} (hd: ∀ n,x.o.dst=some n→y.o.dst≠some n) (hm:y.e.mut=false) (h1: ∀ k∈x.e.names,y.e.free k=true∧k∉y.e.names) (h2: ∀ k∈y.e.names,x.e.free k=true∧k∉x.e.names) (t1: ∀ v j o,x.e=.app v j o→y.e.free j=true),Eqv (x.on (y.on S)) (y.on (x.on S)):=by
  intro x y hd hm h1 h2 t1
  constructor
  ·intro n
   rw [Kk,Kk,Kk,Kk]
   by_cases hx:x.o.dst=some n
   ·have hy:=hd n hx
    simp only [if_neg hy,if_pos hx]
    cases he:y.e<;>first|rfl|(rw [he] at hm;cases hm)
   ·by_cases hy:y.o.dst=some n
    ·simp only [if_pos hy,if_neg hx]
     cases he:x.e with
     |app v j o=>
      have:=t1 v j o he
      cases hye:y.e with
      |val u=>rw [hye] at this;simp only [Eff.free,Bool.not_eq_true'] at this;simp only [Option.map_some];rw [V.kill_id this]
      |new u ms=>rw [hye] at this;simp only [Eff.free,Bool.and_eq_true,Bool.not_eq_true'] at this;simp only [Option.map_some];rw [V.kill_id this.1]
      |app=>rw [hye] at hm;cases hm
      |sto=>rw [hye] at hm;cases hm
     |val v=>rfl
     |new v ms=>rfl
     |sto v k o=>rfl
    ·simp only [if_neg hx,if_neg hy]
     cases hye:y.e<;>first|rfl|(rw [hye] at hm;cases hm)
  ·intro k
   unfold It.on
   cases hye:y.e with
   |val u=>
    cases x.e<;>rfl
   |new u ms=>
    rw [hye] at h1 h2 t1
    have hms: ∀ j,j∉ms.map (·.1)→look ms j=none:=fun j hj=>Kv hj
    cases he:x.e with
    |val v=>rfl
    |new v ns=>
     rw [he] at h1 h2
     simp only [Eff.on]
     rw [Ez,Ez,Ez,Ez]
     by_cases hk:k∈ns.map (·.1)
     ·rw [hms k (h1 k hk).2,Option.none_or,Option.none_or]
     ·rw [Kv (l:=ns) hk,Option.none_or,Option.none_or]
    |app v j o=>
     rw [he] at h1 h2
     have hfr:=t1 v j o he
     simp only [Eff.free,Bool.and_eq_true,List.all_eq_true] at hfr
     have hj:look ms j=none:=hms j fun hin=>by
      have:=(h2 j hin).1
      simp [Eff.free] at this
     simp only [Eff.on]
     rw [Ez]
     simp only [look]
     by_cases hkj:k=j
     ·subst hkj
      rw [if_pos rfl,if_pos rfl,hj];rfl
     ·rw [if_neg hkj,if_neg hkj,Hy,if_neg hkj,Hy,if_neg hkj,Ez]
      cases hl:look ms k with
      |none=>rfl
      |some ob=>
       have hin:(k,ob)∈ms:=by
        clear hfr h1 h2 t1 hms hj hye
        induction ms with
        |nil=>cases hl
        |cons m r ih=>
         simp only [look] at hl
         split at hl
         ·rename_i e;cases hl;subst e;simp
         ·exact List.mem_cons_of_mem _ (ih hl)
       have h3:=hfr.2 _ hin
       simp only [Bool.not_eq_true',Ob.has,List.any_eq_false] at h3
       simp only [Option.some_or,Option.map_some]
       rw [map_id' fun l hl=>e0r (by simpa using h3 l hl)]
    |sto v k0 o=>
     rw [he] at h1 h2
     have hj:look ms k0=none:=hms k0 fun hin=>by
      have:=(h2 k0 hin).1
      simp [Eff.free] at this
     simp only [Eff.on]
     rw [Ez,Dj,Dj]
     by_cases hkj:k=k0
     ·subst hkj
      rw [if_pos rfl,if_pos rfl,Ez,hj];rfl
     ·rw [if_neg hkj,if_neg hkj,Ez]
   |app=>rw [hye] at hm;cases hm
   |sto=>rw [hye] at hm;cases hm
 rcases hm with h|h|h
 ·exact (key (x:=y) (y:=x) (fun n e1 e2=>hd n e2 e1) h h2 h1 t2).symm
 ·exact key hd h h1 h2 t1
 ·unfold Tx at h
  cases hx:x.e<;>rw [hx] at h<;>try (exact absurd h id)
  rename_i v1 k1 o1
  cases hy:y.e<;>rw [hy] at h<;>try (exact absurd h id)
  rename_i v2 k2 o2
  have h:¬k1=k2:=h
  constructor
  ·intro n
   rw [Kk,Kk,Kk,Kk,hx,hy]
   by_cases h3:x.o.dst=some n
   ·simp only [if_neg (hd n h3),if_pos h3]
   ·by_cases h4:y.o.dst=some n
    ·simp only [if_pos h4,if_neg h3]
    ·simp only [if_neg h3,if_neg h4]
  ·intro k
   unfold It.on
   rw [hx,hy]
   simp only [Eff.on]
   have h':¬k2=k1:=fun e=>h e.symm
   simp only [Dj]
   by_cases h3:k=k1
   ·subst h3
    simp [h]
   ·by_cases h4:k=k2
    ·subst h4
     simp [h3]
    ·simp [h3,h4]
theorem swap (hx:Go1 P ds S x) (hy:Go1 P ds (x.on S) y) (hi:Ind ds x y) (hnx: ∀ k∈x.e.names,New k S) (hny: ∀ k∈y.e.names,New k S) (hxy: ∀ k∈x.e.names,k∉y.e.names):
  Go1 P ds S y∧Go1 P ds (y.on S) x∧Eqv (x.on (y.on S)) (y.on (x.on S)):=by
 have hyS:Go1 P ds S y:=hy.same (y0a hx hy hnx hi.d1 hi.t1 hi.mu)
 have hf1: ∀ v j o,x.e=.app v j o→y.e.free j=true:=fun v j o e=>by
  have:=hi.t1;unfold touch at this;rw [e] at this;exact this.2.2.1
 have hf2: ∀ v j o,y.e=.app v j o→x.e.free j=true:=fun v j o e=>by
  have:=hi.t2;unfold touch at this;rw [e] at this;exact this.2.2.1
 have hyx: ∀ k∈y.e.names,k∉x.e.names:=fun k h1 h2=>hxy k h2 h1
 refine ⟨hyS,hx.same (k1a hyS hx hny hi.d2 hi.t2 (n1g hi.mu) hf1),m1v hi.d3 hi.mu (fun k hk=>⟨hyS.fr (hnx k hk).1 (hxy k hk),hxy k hk⟩) (fun k hk=>⟨hx.fr (hny k hk).1 (hyx k hk),hyx k hk⟩) hf1 hf2⟩
end
end Go.Sy
namespace Go.Sy
def OKs (P:Program) (ds:List (Option Tmp)):List It→St→Prop
 | [],_=>True
 |x::r,S=>Go1 P ds S x∧OKs P ds r (x.on S)
def fin :List It→St→St
 | [],S=>S
 |x::r,S=>fin r (x.on S)
def f0j (l:List It) (S:St):Prop:=∀ x∈l,∀ k∈x.e.names,New k S
section
variable {P:Program} {ds:List (Option Tmp)} {S S':St}
theorem Go1.eqv {x:It} (h:Go1 P ds S x) (he:Eqv S S'):Go1 P ds S' x:=
 h.same ⟨fun y _=>he.get y,fun _=>.inl fun _ _ k _=>he.mem k,fun v j o hx k ob hk=>h.ns v j o hx k ob (by rw [←he.mem];exact hk),fun k o _ _ hk=>by rw [he.mem];exact hk,fun _ _ _ _ _ _ _ _ j _=>he.mem j⟩
theorem OKs.eqv : ∀ {l:List It} {S S':St},OKs P ds l S→Eqv S S'→OKs P ds l S'∧Eqv (fin l S) (fin l S')
 | [],_,_,_,he=>⟨trivial,he⟩
 |x::r,S,S',h,he=>by
  have h2:=OKs.eqv (l:=r) h.2 (l0r he x.e x.o.dst)
  exact ⟨⟨h.1.eqv he,h2.1⟩,h2.2⟩
theorem d0c {k j:Nat} {v:V} (h:v.has k=false):(v.kill j).has k=false:=by
 have hl: ∀ l:L,l.has k=false→(Rx j l).has k=false:=by
  intro l h
  unfold Rx
  split
  ·rfl
  ·exact h
 have hw: ∀ x:W,x.has k=false→(x.kill j).has k=false:=by
  intro x h
  cases x with
  |one l=>exact hl l h
  |agg cs=>
   simp only [W.has,List.any_eq_false] at h
   simp only [W.kill,W.has,List.any_eq_false,List.mem_map]
   rintro l ⟨l',hl',rfl⟩
   simpa using hl l' (by simpa using h l' hl')
 cases v with
 |w x=>exact hw x h
 |tup xs=>
  simp only [V.has,List.any_eq_false] at h
  simp only [V.kill,V.has,List.any_eq_false,List.mem_map]
  rintro l ⟨l',hl',rfl⟩
  simpa using hw l' (by simpa using h l' hl')
 |any=>rfl
theorem New.on {k:Nat} {x:It} (h:New k S) (hf:x.e.free k=true) (hk:k∉x.e.names):New k (x.on S):=by
 have henv: ∀ n v,look (x.on S).env n=some v→v.has k=false:=by
  intro n v hv
  rw [Kk] at hv
  split at hv
  ·cases he:x.e with
   |val u=>rw [he] at hv hf;cases hv;simpa [Eff.free] using hf
   |new u ms=>rw [he] at hv hf;cases hv;simp only [Eff.free,Bool.and_eq_true,Bool.not_eq_true'] at hf;exact hf.1
   |app u j o=>rw [he] at hv hf;cases hv;simp only [Eff.free,Bool.and_eq_true,Bool.not_eq_true'] at hf;exact hf.1.1
   |sto u j o=>rw [he] at hv hf;cases hv;simp only [Eff.free,Bool.and_eq_true,Bool.not_eq_true'] at hf;exact hf.1.1
  ·cases he:x.e with
   |app u j o=>
    rw [he] at hv
    obtain ⟨u',hu',rfl⟩:=Option.map_eq_some_iff.mp hv
    exact d0c (h.1.1 _ _ hu')
   |val u=>rw [he] at hv;exact h.1.1 _ _ hv
   |new u ms=>rw [he] at hv;exact h.1.1 _ _ hv
   |sto u j o=>rw [he] at hv;exact h.1.1 _ _ hv
 unfold It.on at*
 cases he:x.e with
 |val u=>rw [he] at henv;exact ⟨⟨henv,h.1.2⟩,h.2⟩
 |new u ms=>
  rw [he] at henv hf hk
  simp only [Eff.free,Bool.and_eq_true,List.all_eq_true] at hf
  have h0:look ms k=none:=Kv hk
  refine ⟨⟨henv,fun n o ho=>?_,h.1.2.2⟩,?_⟩
  ·simp only [Eff.on] at ho
   rw [Ez] at ho
   cases hl:look ms n with
   |none=>rw [hl] at ho;exact h.1.2.1 _ _ ho
   |some ob=>
    rw [hl] at ho
    simp only [Option.some_or,Option.some.injEq] at ho
    subst ho
    have hin:(n,ob)∈ms:=by
     clear hf henv he hk h0
     induction ms with
     |nil=>cases hl
     |cons m r ih=>
      simp only [look] at hl
      split at hl
      ·rename_i e;cases hl;subst e;simp
      ·exact List.mem_cons_of_mem _ (ih hl)
    simpa using hf.2 _ hin
  ·simp only [Eff.on];rw [Ez,h0];exact h.2
 |app u j o=>
  rw [he] at henv hf
  simp only [Eff.free,Bool.and_eq_true,Bool.not_eq_true',bne_iff_ne] at hf
  refine ⟨⟨henv,fun n ob ho=>?_,h.1.2.2⟩,?_⟩
  ·simp only [Eff.on,look] at ho
   split at ho
   ·cases ho;exact hf.1.2
   ·rw [Hy] at ho
    split at ho
    ·cases ho
    ·obtain ⟨ob',ho',rfl⟩:=Option.map_eq_some_iff.mp ho
     have:=h.1.2.1 _ _ ho'
     have hv:=d0c (k:=k) (j:=j) (v:=.w (.agg ob'.cells)) this
     exact hv
  ·simp only [Eff.on,look]
   rw [if_neg hf.2,Hy,if_neg hf.2,h.2];rfl
 |sto u j o=>
  rw [he] at henv hf
  simp only [Eff.free,Bool.and_eq_true,Bool.not_eq_true',bne_iff_ne] at hf
  refine ⟨⟨henv,fun n ob ho=>?_,h.1.2.2⟩,?_⟩
  ·simp only [Eff.on] at ho
   rw [Dj] at ho
   split at ho
   ·obtain ⟨ob',ho',rfl⟩:=Option.map_eq_some_iff.mp ho
    exact hf.1.2
   ·exact h.1.2.1 _ _ ho
  ·simp only [Eff.on];rw [Dj,if_neg hf.2];exact h.2
def Mw :List It→Prop
 | []=>True
 |x::r=>(∀ y∈r,∀ k∈x.e.names,k∉y.e.names)∧x.e.names.Nodup∧Mw r
theorem f0j.on {x:It} {r:List It} (h:f0j r S) (hx:Go1 P ds S x) (hd: ∀ y∈r,∀ k∈y.e.names,k∉x.e.names):f0j r (x.on S):=
 fun y hy k hk=>(h y hy k hk).on (hx.fr (h y hy k hk).1 (hd y hy k hk)) (hd y hy k hk)
theorem bubble : ∀ {ys:List It} {i:It} {r:List It} {S:St},OKs P ds (ys++i::r) S→f0j (ys++i::r) S→Mw (ys++i::r)→(∀ y∈ys,Ind ds y i)→
  Go1 P ds S i∧OKs P ds (ys++r) (i.on S)∧Eqv (fin (ys++i::r) S) (fin (ys++r) (i.on S))
 | [],i,r,S,h,_,_,_=>⟨h.1,h.2,Eqv.rfl' _⟩
 |y::ys,i,r,S,h,hn,hd,hi=>by
  have hny: ∀ k∈y.e.names,New k S:=fun k hk=>hn y (by simp) k hk
  have hnr:f0j (ys++i::r) S:=fun x hx=>hn x (by simp only [List.cons_append,List.mem_cons];exact .inr hx)
  have hap: ∀ x∈ys++i::r,∀ k∈x.e.names,k∉y.e.names:=fun x hx k hk hk2=>hd.1 x hx k hk2 hk
  obtain ⟨h1,h2,h3⟩:=bubble (ys:=ys) h.2 (hnr.on h.1 hap) hd.2.2 (fun z hz=>hi z (by simp [hz]))
  obtain ⟨g1,g2,g3⟩:=swap h.1 h1 (hi y (by simp)) hny (fun k hk=>hn i (by simp) k hk) (fun k hk hk2=>hap i (by simp) k hk2 hk)
  obtain ⟨h4,h5⟩:=h2.eqv g3.symm
  refine ⟨g1,⟨g2,?_⟩,?_⟩
  ·exact h4
  ·exact h3.trans h5
end
end Go.Sy
namespace Go.Sy
theorem c0p {α:Type} {l:Array α} {i j:Nat} {v d:α} (hi:i<l.size):(l.setIfInBounds i v).getD j d=if j=i then v else l.getD j d:=by
 simp only [Array.getD_eq_getD_getElem?,Array.getElem?_setIfInBounds]
 by_cases h:j=i
 ·subst h;simp [hi]
 ·rw [if_neg h,if_neg (fun e=>h e.symm)]
section
variable {P:Program} {B:Base} {ops:Array Oper} {ds:List (Option Tmp)} {bef:Nat→Nat→Prop}
structure Rest (P:Program) (B:Base) (ops:Array Oper) (ds:List (Option Tmp)) (bef:Nat→Nat→Prop) (listed:Array Bool) (R:List (Nat×It)) (S:St):Prop where
 size:listed.size=ops.size
 at_: ∀ p∈R,ops[p.1]? =some p.2.o
 open_: ∀ i,(i∈R.map (·.1)↔i<ops.size∧listed.getD i true=false)
 ord:R.Pairwise fun p q=>p.1<q.1∧(bef q.1 p.1∨Ind ds p.2 q.2)
 ok:OKs P ds (R.map (·.2)) S
 new:f0j (R.map (·.2)) S
 apart:Mw (R.map (·.2))
 dst: ∀ p∈R,∀ n,p.2.o.dst=some n→n<B.nt
 closed: ∀ i o,ops[i]? =some o→listed.getD i true=true→i<ops.size→∀ e∈o.after,Region.binds .any e=true→listed.getD e.on false=true
theorem Mw.drop : ∀ {ys:List It} {i:It} {r:List It},Mw (ys++i::r)→Mw (ys++r)
 | [],_,_,h=>h.2.2
 |y::ys,i,r,h=>⟨fun z hz k hk=>h.1 z (List.mem_append.mpr ((List.mem_append.mp hz).imp id (List.mem_cons_of_mem _))) k hk,h.2.1,Mw.drop h.2.2⟩
theorem k0i : ∀ {ys:List It} {i:It} {r:List It},Mw (ys++i::r)→∀ y∈ys++r,∀ k∈y.e.names,k∉i.e.names
 | [],i,r,h,y,hy,k,hk=>fun hki=>h.1 y hy k hki hk
 |z::ys,i,r,h,y,hy,k,hk=>by
  rcases List.mem_cons.mp hy with rfl|hy
  ·exact fun hki=>h.1 i (by simp) k hk hki
  ·exact k0i h.2.2 y hy k hk
theorem any_ok {K:St→Prop} {Q:Exit→Act→World→Prop} (hds:ds=ops.toList.map (·.dst)) (hback: ∀ i o,ops[i]? =some o→∀ e∈o.after,Region.binds .any e=true→e.on<i)
  (hbef: ∀ i o,ops[i]? =some o→∀ x,bef i x→∃ e∈o.after,Region.binds .any e=true∧(e.on=x∨bef e.on x))
  (hK: ∀ S d a w,K S→Sim B d S a w→Q .normal a w):
  ∀ (fuel:Nat) (listed:Array Bool) (R:List (Nat×It)) (S:St) d a w,R.length≤fuel→Rest P B ops ds bef listed R S→(∀ S',Eqv (fin (R.map (·.2)) S) S'→K S')→Sim B d S a w→wpAny P .any ops Q fuel listed a w:=by
 have hclosed: ∀ (listed:Array Bool),listed.size=ops.size→(∀ i o,ops[i]? =some o→listed.getD i true=true→i<ops.size→∀ e∈o.after,Region.binds .any e=true→listed.getD e.on false=true)→
   ∀ n i o,i≤n→ops[i]? =some o→(∀ e∈o.after,Region.binds .any e=true→listed.getD e.on false=true)→∀ x,bef i x→listed.getD x false=true:=by
  intro listed hsz hcl n
  induction n with
  |zero=>
   intro i o hi ho hp x hx
   obtain ⟨e,he,hb,h⟩:=hbef i o ho x hx
   have:=hback i o ho e he hb;omega
  |succ n ih=>
   intro i o hi ho hp x hx
   obtain ⟨e,he,hb,h⟩:=hbef i o ho x hx
   have hlt:=hback i o ho e he hb
   have hl:=hp e he hb
   rcases h with rfl|h
   ·exact hl
   ·have hes:e.on<ops.size:=by
     have:=(Array.getElem?_eq_some_iff.mp ho).1;omega
    obtain ⟨o',ho'⟩: ∃ o',ops[e.on]? =some o':=⟨_,Array.getElem?_eq_getElem hes⟩
    refine ih e.on o' (by omega) ho' (hcl e.on o' ho' ?_ hes) x h
    rw [Array.getD_eq_getD_getElem?] at hl ⊢
    have:e.on<listed.size:=by omega
    rw [Array.getElem?_eq_getElem this] at hl ⊢;simpa using hl
 have ready_mem: ∀ (listed:Array Bool) (i:Nat),i∈Region.ready .any ops listed↔i<ops.size∧listed.getD i true=false∧∀ o,ops[i]? =some o→∀ e∈o.after,Region.binds .any e=true→listed.getD e.on false=true:=by
  intro listed i
  unfold Region.ready
  simp only [List.mem_filter,List.mem_range,Bool.and_eq_true,Bool.not_eq_true']
  constructor
  ·rintro ⟨h1,h2,h3⟩
   refine ⟨h1,h2,fun o ho e he hb=>?_⟩
   rw [ho] at h3
   simp only [Option.map_some,Option.getD_some,Array.all_eq_true'] at h3
   have:=h3 e he
   simpa [hb] using this
  ·rintro ⟨h1,h2,h3⟩
   refine ⟨h1,h2,?_⟩
   have ho:=Array.getElem?_eq_getElem h1
   rw [ho]
   simp only [Option.map_some,Option.getD_some,Array.all_eq_true']
   intro e he
   cases hb:Region.binds .any e with
   |false=>rfl
   |true=>simpa using h3 _ ho e he hb
 intro fuel
 induction fuel with
 |zero=>
  intro listed R S d a w hlen hR hfin hs
  have:R=[]:=List.eq_nil_of_length_eq_zero (by omega)
  subst this
  refine ⟨?_,hK _ _ _ _ (hfin S (Eqv.rfl' _)) hs⟩
  refine List.eq_nil_iff_forall_not_mem.mpr fun i hi=>?_
  obtain ⟨h1,h2,_⟩:=(ready_mem listed i).mp hi
  have:=(hR.open_ i).mpr ⟨h1,h2⟩
  cases this
 |succ fuel ih=>
  intro listed R S d a w hlen hR hfin hs
  refine ⟨fun hnil=>?_,fun i hi=>?_⟩
  ·cases R with
   |nil=>exact hK _ _ _ _ (hfin S (Eqv.rfl' _)) hs
   |cons p r=>
    exfalso
    obtain ⟨h1,h2⟩:=(hR.open_ p.1).mp (by simp)
    have:p.1∈Region.ready .any ops listed:=by
     refine (ready_mem listed p.1).mpr ⟨h1,h2,fun o ho e he hb=>?_⟩
     have hlt:=hback p.1 o ho e he hb
     cases hl:listed.getD e.on false with
     |true=>rfl
     |false=>
      exfalso
      have hes:e.on<listed.size:=by rw [hR.size];omega
      have:listed.getD e.on true=false:=by
       rw [Array.getD_eq_getD_getElem?,Array.getElem?_eq_getElem hes] at hl ⊢;simpa using hl
      have hin:=(hR.open_ e.on).mpr ⟨by omega,this⟩
      simp only [List.map_cons,List.mem_cons,List.mem_map] at hin
      have hord:=List.pairwise_cons.mp hR.ord
      rcases hin with hin|⟨q,hq,hin⟩
      ·omega
      ·have:=(hord.1 q hq).1;omega
    rw [hnil] at this;cases this
  ·obtain ⟨h1,h2,h3⟩:=(ready_mem listed i).mp hi
   have hin:=(hR.open_ i).mpr ⟨h1,h2⟩
   obtain ⟨⟨i',x⟩,hx,e⟩:=List.mem_map.mp hin
   simp only at e;subst e
   obtain ⟨ys,r,rfl⟩:=List.append_of_mem hx
   have hox:ops[i']? =some x.o:=hR.at_ _ hx
   have hord:=List.pairwise_append.mp hR.ord
   have hordi:=List.pairwise_cons.mp hord.2.1
   have hind: ∀ y∈ys.map (·.2),Ind ds y x:=by
    intro y hy
    obtain ⟨⟨j,y'⟩,hj,rfl⟩:=List.mem_map.mp hy
    have hp:=hord.2.2 _ hj (i',x) (by simp)
    rcases hp.2 with hb|hb
    ·exfalso
     have hl:=hclosed listed hR.size hR.closed i' i' x.o (Nat.le_refl _) hox (h3 x.o hox) j hb
     have hopen:=(hR.open_ j).mp (by simp only [List.map_append,List.mem_append,List.mem_map];exact .inl ⟨_,hj,rfl⟩)
     have hes:j<listed.size:=by rw [hR.size];exact hopen.1
     have h5:=hopen.2
     rw [Array.getD_eq_getD_getElem?,Array.getElem?_eq_getElem hes] at hl h5
     simp only [Option.getD_some] at hl h5
     rw [hl] at h5;cases h5
    ·exact hb
   have hok:=hR.ok
   have hnew:=hR.new
   have hap:=hR.apart
   simp only [List.map_append,List.map_cons] at hok hnew hap
   obtain ⟨g1,g2,g3⟩:=bubble hok hnew hap hind
   have hnx: ∀ k∈x.e.names,New k S:=fun k hk=>hnew x (by simp) k hk
   have hdst: ∀ n,x.o.dst=some n→n<B.nt:=hR.dst _ hx
   have hR':Rest P B ops ds bef (listed.setIfInBounds i' true) (ys++r) (x.on S):=by
    have hi2:i'<listed.size:=by rw [hR.size];exact h1
    have hlt: ∀ p∈ys,p.1<i':=fun p hp=>(hord.2.2 p hp (i',x) (by simp)).1
    have hgt: ∀ p∈r,i'<p.1:=fun p hp=>(hordi.1 p hp).1
    refine ⟨by rw [Array.size_setIfInBounds];exact hR.size,fun p hp=>hR.at_ p ?_,fun j=>?_,?_,?_,?_,?_,fun p hp=>hR.dst p ?_,?_⟩
    ·simp only [List.mem_append,List.mem_cons] at hp ⊢;rcases hp with hp|hp;exact .inl hp;exact .inr (.inr hp)
    ·have hj:=hR.open_ j
     rw [c0p hi2]
     simp only [List.map_append,List.map_cons,List.mem_append,List.mem_cons,List.mem_map] at hj ⊢
     by_cases hji:j=i'
     ·subst hji
      rw [if_pos rfl]
      constructor
      ·rintro (⟨p,hp,e⟩|⟨p,hp,e⟩)
       ·have:=hlt p hp;omega
       ·have:=hgt p hp;omega
      ·rintro ⟨_,h⟩;cases h
     ·rw [if_neg hji,←hj]
      constructor
      ·rintro (h|h)
       ·exact .inl h
       ·exact .inr (.inr h)
      ·rintro (h|h|h)
       ·exact .inl h
       ·exact absurd h hji
       ·exact .inr h
    ·exact List.pairwise_append.mpr ⟨hord.1,hordi.2,fun p hp q hq=>hord.2.2 p hp q (by simp [hq])⟩
    ·rw [List.map_append];exact g2
    ·rw [List.map_append]
     have hmid:=k0i hap
     refine f0j.on (P:=P) (ds:=ds) (x:=x) (r:=ys.map (·.2)++r.map (·.2)) (S:=S) (fun y hy k hk=>hnew y ?_ k hk) g1 hmid
     simp only [List.mem_append,List.mem_cons] at hy ⊢;rcases hy with hy|hy;exact .inl hy;exact .inr (.inr hy)
    ·rw [List.map_append];exact hap.drop
    ·simp only [List.mem_append,List.mem_cons] at hp ⊢;rcases hp with hp|hp;exact .inl hp;exact .inr (.inr hp)
    ·intro j o ho hl hjs e he hb
     rw [c0p hi2] at hl ⊢
     by_cases hei:e.on=i'
     ·rw [if_pos hei]
     ·rw [if_neg hei]
      by_cases hji:j=i'
      ·subst hji
       rw [hox] at ho;cases ho
       exact h3 _ hox e he hb
      ·rw [if_neg hji] at hl
       exact hR.closed j o ho hl hjs e he hb
   have hlen':(ys++r).length≤fuel:=by simp at hlen ⊢;omega
   have hgo: ∀ d' a' w',Sim B d' (x.on S) a' w'→wpAny P .any ops Q fuel (listed.setIfInBounds i' true) a' w':=by
    intro d' a' w' hs'
    refine ih _ (ys++r) (x.on S) d' a' w' hlen' hR' (fun S' he=>hfin S' ?_) hs'
    simp only [List.map_append,List.map_cons]
    rw [List.map_append] at he
    exact g3.trans he
   have hev:=g1.ev
   have hg:=g1.guard
   have run:x.skip=false→x.o.wp P a w (wpAny P .any ops Q fuel (listed.setIfInBounds i' true)) Q:=by
    intro hsk
    rw [hsk] at hev
    simp only [Bool.false_eq_true,if_false] at hev
    exact hev.run hs hnx hdst _ _ hgo
   have skp:x.skip=true→wpAny P .any ops Q fuel (listed.setIfInBounds i' true) (a.put x.o.dst undef) w:=by
    intro hsk
    rw [hsk] at hev
    simp only [if_true] at hev
    refine hgo d _ _ ?_
    unfold It.on
    rw [hev]
    exact Sim.putE hs (v:=.tup []) (b0b d) hdst
   simp only [wpOp,hox]
   cases hgd:x.o.guard with
   |none=>
    rw [hgd] at hg
    rw [if_pos (by simp [Region.wanted,hgd])]
    exact .inl (run hg)
   |some g=>
    rw [hgd] at hg
    simp only at hg
    obtain ⟨c,hc,hsk⟩:=hg
    have hw:=a0x hs hds hgd hc
    rw [hw]
    by_cases hcg:c=g.2
    ·rw [if_pos (by simp [hcg])]
     exact .inl (run (by rw [hsk,hcg];simp))
    ·rw [if_neg (by simp [hcg])]
     exact skp (by rw [hsk];simpa using hcg)
end
end Go.Sy
namespace Go.Sy
structure Da where
 e:Eff
 rv:List V
 ns:List Nat
def k1j (e:Eff) (m:List (Nat×Ob)):List Nat:=match e with
 | .app _ j _=>(m.filter fun x=>x.1 !=j&&x.2.has j).map (·.1)
 |_=>[]
def nodupB :List Nat→Bool
 | []=>true
 |x::r=>!r.contains x&&nodupB r
def g1c (names N ns:List Nat):Bool:=ns.all (fun k=>names.contains k&& !N.contains k)&&nodupB ns
def h0h (nt:Nat):Option Tmp→Prop
 |some n=>n<nt
 |none=>True
def j1i (keep:Bool) (ds:List (Option Tmp)) (S:St) (o:Oper) (e:Eff):List Da:=
 bif keep then [⟨e,(gslot ds o++o.op.operands.toList).filterMap S.get,k1j e S.mem⟩] else []
section
variable (P:Program) (nt:Nat) (names:List Nat) (ds:List (Option Tmp)) (keep:Bool)
def onE (o:Oper) (N:List Nat) (D:List Da) (S:St) (k:List Nat→List Da→St→Prop):Option Eff→Prop
 |some e=>g1c names N e.names=true∧h0h nt o.dst∧k (e.names++N) (D++j1i keep ds S o e) (e.on o.dst S)
 |none=>False
def onC (o:Oper) (N:List Nat) (D:List Da) (S:St) (k:List Nat→List Da→St→Prop):Prop:=
 ∃ e,Ev P S o (!keep) e∧g1c names N e.names=true∧h0h nt o.dst∧k (e.names++N) (D++j1i keep ds S o e) (e.on o.dst S)
def onO (o:Oper) (N:List Nat) (D:List Da) (S:St) (k:List Nat→List Da→St→Prop):Prop:=
 if a0o o.op=true then onC P nt names ds keep o N D S k else onE nt names ds keep o N D S k (Lv P S o.dst o.op)
def onG (o:Oper) (g:Nat×Bool) (N:List Nat) (D:List Da) (S:St) (k:List Nat→List Da→St→Prop):Option Bool→Prop
 |some c=>(c=g.2→onO P nt names ds keep o N D S k)∧(c=(!g.2)→h0h nt o.dst∧k N (D++bif keep then [⟨.val (.tup []),(gslot ds o).filterMap S.get,[]⟩] else []) ((Eff.val (.tup [])).on o.dst S))
 |none=>False
def Tk :List Oper→List Nat→List Da→St→(St→List Da→Prop)→Prop
 | [],_,D,S,K=>K S D
 |o::r,N,D,S,K=>match o.guard with
  |none=>onO P nt names ds keep o N D S fun N' D' S'=>Tk r N' D' S' K
  |some g=>onG P nt names ds keep o g N D S (fun N' D' S'=>Tk r N' D' S' K) (Uq S ds g.1 g.2)
end
def j0a :Op→Bool
 | .store .. =>true
 | .call ⟨.builtin .append,_,_⟩=>true
 | .call ⟨.builtin .copy,_,_⟩=>true
 |_=>false
theorem b1c {α:Type}: ∀ {l:List (Nat×α)} {k:Nat} {o:α},look l k=some o→(k,o)∈l
 | [],_,_,h=>by cases h
 |x::r,k,o,h=>by
  simp only [look] at h
  split at h
  ·rename_i e;cases h;subst e;simp
  ·exact List.mem_cons_of_mem _ (b1c h)
theorem e0m : ∀ {l:List Nat},nodupB l=true→l.Nodup
 | [],_=>List.nodup_nil
 |x::r,h=>by
  simp only [nodupB,Bool.and_eq_true,Bool.not_eq_true'] at h
  exact List.nodup_cons.mpr ⟨by simpa using h.1,e0m h.2⟩
def It.da (x:It):Da:=⟨x.e,x.rv,x.ns⟩
section
variable {P:Program} {nt:Nat} {names:List Nat} {ds:List (Option Tmp)} {keep:Bool}
structure Items (P:Program) (nt:Nat) (names:List Nat) (ds:List (Option Tmp)) (keep:Bool) (l:List Oper) (N:List Nat) (S:St) (its:List It):Prop where
 ops:its.map (·.o)=l
 ok:OKs P ds its S
 dst: ∀ x∈its,∀ n,x.o.dst=some n→n<nt
 nm: ∀ x∈its,∀ k∈x.e.names,k∈names∧k∉N
 apart:Mw its
 mu: ∀ x∈its,x.e.mut=true→j0a x.o.op=true
 dp: ∀ x∈its,x.dp= !keep
theorem Items.cons {o:Oper} {r:List Oper} {N:List Nat} {S:St} {x:It} {its:List It} (hx:Go1 P ds S x) (ho:x.o=o) (hd:h0h nt o.dst) (hn:g1c names N x.e.names=true) (hm:x.e.mut=true→j0a x.o.op=true) (hdp:x.dp= !keep)
  (h:Items P nt names ds keep r (x.e.names++N) (x.on S) its):Items P nt names ds keep (o::r) N S (x::its):=by
 simp only [g1c,Bool.and_eq_true,List.all_eq_true,Bool.not_eq_true'] at hn
 refine ⟨by rw [List.map_cons,ho,h.ops],⟨hx,h.ok⟩,?_,?_,⟨?_,e0m hn.2,h.apart⟩,?_,fun y hy=>by rcases List.mem_cons.mp hy with rfl|hy;exact hdp;exact h.dp y hy⟩
 ·intro y hy n hn'
  rcases List.mem_cons.mp hy with rfl|hy
  ·rw [ho] at hn';rw [hn'] at hd;exact hd
  ·exact h.dst y hy n hn'
 ·intro y hy k hk
  rcases List.mem_cons.mp hy with rfl|hy
  ·have:=hn.1 k hk;simpa using this
  ·have:=h.nm y hy k hk
   exact ⟨this.1,fun h2=>this.2 (by simp [h2])⟩
 ·intro y hy k hk hk2
  exact (h.nm y hy k hk2).2 (by simp [hk])
 ·intro y hy
  rcases List.mem_cons.mp hy with rfl|hy
  ·exact hm
  ·exact h.mu y hy
theorem c0j : ∀ {l:List Oper} {N:List Nat} {D:List Da} {S:St} {K:St→List Da→Prop},Tk P nt names ds keep l N D S K→
  ∃ its,Items P nt names ds keep l N S its∧K (fin its S) (D++bif keep then its.map It.da else [])
 | [],N,D,S,K,h=>⟨[],⟨rfl,trivial,fun x hx=>(by cases hx),fun x hx=>(by cases hx),trivial,fun x hx=>(by cases hx),fun x hx=>(by cases hx)⟩,by simp only [Tk] at h;cases keep<;>simpa [fin] using h⟩
 |o::r,N,D,S,K,h=>by
  unfold Tk at h
  have base:(o.guard=none∨∃ g,o.guard=some g∧Uq S ds g.1 g.2=some g.2)→onO P nt names ds keep o N D S (fun N' D' S'=>Tk P nt names ds keep r N' D' S' K)→
    ∃ its,Items P nt names ds keep (o::r) N S its∧K (fin its S) (D++bif keep then its.map It.da else []):=by
   intro hg h
   have fin1: ∀ e,Ev P S o (!keep) e→g1c names N e.names=true→h0h nt o.dst→Tk P nt names ds keep r (e.names++N) (D++j1i keep ds S o e) (e.on o.dst S) K→
     ∃ its,Items P nt names ds keep (o::r) N S its∧K (fin its S) (D++bif keep then its.map It.da else []):=by
    intro e he hn hd hr
    obtain ⟨its,hi,hK⟩:=c0j hr
    have hgo:Go1 P ds S ⟨o,e,false,!keep,(gslot ds o++o.op.operands.toList).filterMap S.get,k1j e S.mem⟩:=by
     refine ⟨by simp [It.reads],?_,by simpa using he,?_⟩
     ·rcases hg with hg|⟨g,hg,hgv⟩
      ·simp only [hg]
      ·simp only [hg];exact ⟨g.2,hgv,by simp⟩
     ·intro v j ob hx k ob' hk hkj hob
      simp only at hx;subst hx
      simp only [k1j,List.mem_map,List.mem_filter]
      exact ⟨(k,ob'),⟨b1c hk,by simp [hkj,hob]⟩,rfl⟩
    refine ⟨⟨o,e,false,!keep,(gslot ds o++o.op.operands.toList).filterMap S.get,k1j e S.mem⟩::its,Items.cons hgo rfl hd hn (fun hmu=>?_) rfl hi,?_⟩
    ·have:=he.mut_op hmu
     unfold j0a
     exact this
    ·cases keep<;>simpa [fin,It.on,j1i,It.da] using hK
   unfold onO at h
   split at h
   ·obtain ⟨e,he,hn,hd,hr⟩:=h
    exact fin1 e he hn hd hr
   ·cases hev:Lv P S o.dst o.op with
    |none=>rw [hev] at h;exact h.elim
    |some e=>rw [hev] at h;exact fin1 e (.det hev) h.1 h.2.1 h.2.2
  cases hg:o.guard with
  |none=>rw [hg] at h;exact base (.inl hg) h
  |some g=>
   rw [hg] at h
   simp only at h
   cases hgv:Uq S ds g.1 g.2 with
   |none=>rw [hgv] at h;exact h.elim
   |some c=>
    rw [hgv] at h
    by_cases hc:c=g.2
    ·exact base (.inr ⟨g,hg,by rw [hgv,hc]⟩) (h.1 hc)
    ·have hc':c= !g.2:=by cases c<;>cases hg2:g.2<;>simp_all
     obtain ⟨hd,hr⟩:=h.2 hc'
     obtain ⟨its,hi,hK⟩:=c0j hr
     have hgo:Go1 P ds S ⟨o,.val (.tup []),true,!keep,(gslot ds o).filterMap S.get,[]⟩:=by
      refine ⟨by simp [It.reads],?_,by simp,fun v j ob hx=>(by cases hx)⟩
      simp only [hg];exact ⟨c,hgv,by simpa using hc⟩
     refine ⟨⟨o,.val (.tup []),true,!keep,(gslot ds o).filterMap S.get,[]⟩::its,Items.cons hgo rfl hd rfl (fun hmu=>by cases hmu) rfl hi,?_⟩
     cases keep<;>simpa [fin,It.on,It.da] using hK
end
def p1w (ds:List (Option Tmp)) (x y:Oper):Bool:=
 (match x.dst with
  |some n=>!(tmpsOf (gslot ds y++y.op.operands.toList)).contains n&&y.dst !=some n
  |none=>true)&&
 (match y.dst with
  |some n=>!(tmpsOf (gslot ds x++x.op.operands.toList)).contains n
  |none=>true)
def j0r (ds:List (Option Tmp)) (c:List Nat) (need:List (Nat×Nat)) (l:List Oper):Bool:=
 (List.range l.length).all fun j=>match l[j]? with
  |none=>true
  |some o=>o.after.toList.all (fun e=>!Region.binds .any e||decide (e.on<j))&&
   (List.range j).all fun i=>
    (!(c.getD j 0).testBit i||o.after.toList.any (fun e=>Region.binds .any e&&(e.on==i||(decide (i<e.on)&&(c.getD e.on 0).testBit i))))&&
    ((c.getD j 0).testBit i||match l[i]? with
     |some x=>p1w ds x o&&((!j0a x.op&& !j0a o.op)||need.contains (i,j))
     |none=>true)
def c0w (m:Bool×Bool) (a b:Da):Prop:=
 match a.e with
 | .sto _ k _=>m.1=true→b.rv.all (fun v=>!v.has k)=true∨(m.2=true∧x0x k b.e)
 | .app _ j _=>b.rv.all (fun v=>!v.has j&&p1q v)=true∧b.e.free j=true∧(m.1=true→b.rv.all (fun v=>a.ns.all fun k=>!v.has k)=true)
 |_=>True
def m1j (mx my:Bool×Bool) (a b:Da):Prop:=(a.e.mut=false∨b.e.mut=false∨Tx a.e b.e)∧c0w my a b∧c0w mx b a
def atD (mx my:Option (Bool×Bool)) (a b:Option Da):Prop:=
 match mx,my,a,b with
 |some mx,some my,some a,some b=>m1j mx my a b
 |_,_,_,_=>False
def s0n (l:List Oper) (D:List Da):List (Nat×Nat)→Prop
 | []=>True
 |p::r=>atD (l[p.1]?.map fun o=>(Zq o.op,i0l o.op)) (l[p.2]?.map fun o=>(Zq o.op,i0l o.op)) D[p.1]? D[p.2]? ∧s0n l D r
theorem n0v {l:List Oper} {D:List Da}: ∀ {need:List (Nat×Nat)},s0n l D need→∀ p∈need,atD (l[p.1]?.map fun o=>(Zq o.op,i0l o.op)) (l[p.2]?.map fun o=>(Zq o.op,i0l o.op)) D[p.1]? D[p.2]?
 | [],_,p,hp=>by cases hp
 |q::r,h,p,hp=>by
  rcases List.mem_cons.mp hp with rfl|hp
  ·exact h.1
  ·exact n0v h.2 p hp
theorem touch_of {m z:It} (h:c0w (Zq z.o.op,i0l z.o.op) m.da z.da) (hz:z.dp=false):touch m z:=by
 unfold touch
 unfold c0w It.da at h
 cases he:m.e with
 |val v=>trivial
 |new v ms=>trivial
 |sto v k o=>
  rw [he] at h
  simp only [List.all_eq_true,Bool.not_eq_true'] at h ⊢
  exact ⟨hz,h⟩
 |app v j o=>
  rw [he] at h
  simp only [List.all_eq_true,Bool.not_eq_true',Bool.and_eq_true] at h ⊢
  exact ⟨hz,h⟩
theorem d0z {m z:It} (h:m.e.mut=false):touch m z:=by
 unfold touch
 cases he:m.e<;>first|trivial|(rw [he] at h;cases h)
theorem j1b {P:Program} {B:Base} {l:List Oper} {S:St} {Q:St→Prop} {Q':Exit→Act→World→Prop} (names c:List Nat) (need:List (Nat×Nat)) (hst:j0r (c0v l) c need l=true)
  (hn:names.all (fun k=>fresh k S&&(look S.mem k).isNone)=true) (hq: ∀ S' d' a' w',Q S'→Sim B d' S' a' w'→Q' .normal a' w')
  (h: ∀ K:St→List Da→Prop,(∀ S' D,s0n l D need→Q S'→K S' D)→Tk P B.nt names (c0v l) (!need.isEmpty) l [] [] S K) {d:Va} {a:Act} {w:World} (hs:Sim B d S a w):
  wpAny P .any l.toArray Q' l.toArray.size (Array.replicate l.toArray.size false) a {w with drawn:=w.drawn+1}:=by
 obtain ⟨its,hi,hchk,hQ⟩:=c0j (h (fun S' D=>s0n l D need∧Q S') (fun _ _ h1 h2=>⟨h1,h2⟩))
 have hs2:Sim B d S a {w with drawn:=w.drawn+1}:=hs.drew rfl rfl rfl rfl
 have hget: ∀ i o,l.toArray[i]? =some o→l[i]? =some o:=fun i o h=>by rw [List.getElem?_toArray] at h;exact h
 simp only [j0r,List.all_eq_true,List.mem_range] at hst
 have hst': ∀ j o,l[j]? =some o→(∀ e∈o.after,Region.binds .any e=true→e.on<j)∧∀ i,i<j→
   ((c.getD j 0).testBit i=true→∃ e∈o.after,Region.binds .any e=true∧(e.on=i∨(i<e.on∧(c.getD e.on 0).testBit i=true)))∧
   ((c.getD j 0).testBit i=true∨∀ x,l[i]? =some x→p1w (c0v l) x o=true∧((j0a x.op=false∧j0a o.op=false)∨(i,j)∈need)):=by
  intro j o ho
  have hj:=(List.getElem?_eq_some_iff.mp ho).1
  have:=hst j hj
  rw [ho] at this
  simp only [Bool.and_eq_true,List.all_eq_true,List.mem_range,Bool.or_eq_true,Bool.not_eq_true',decide_eq_true_eq,List.any_eq_true,beq_iff_eq] at this
  refine ⟨fun e he hb=>?_,fun i hi=>?_⟩
  ·rcases this.1 e (by simpa using he) with h1|h1
   ·rw [hb] at h1;cases h1
   ·exact h1
  ·obtain ⟨h1,h2⟩:=this.2 i hi
   refine ⟨fun ht=>?_,?_⟩
   ·rcases h1 with h1|⟨e,he,hb,h1⟩
    ·rw [ht] at h1;cases h1
    ·exact ⟨e,by simpa using he,hb,h1⟩
   ·rcases h2 with h2|h2
    ·exact .inl h2
    ·right
     intro x hx
     rw [hx] at h2
     simp only [Bool.and_eq_true,Bool.or_eq_true,Bool.not_eq_true',List.contains_iff_mem] at h2
     exact h2
 let R:List (Nat×It):=its.zipIdx.map fun p=>(p.2,p.1)
 have hlen:its.length=l.length:=by rw [←hi.ops,List.length_map]
 have hRmap:R.map (·.2)=its:=by
  simp only [R,List.map_map]
  exact List.zipIdx_map_fst 0 its
 have hRmem: ∀ p∈R,its[p.1]? =some p.2:=by
  intro p hp
  obtain ⟨⟨x,i⟩,hq,rfl⟩:=List.mem_map.mp hp
  have:=List.mem_zipIdx_iff_getElem?.mp hq
  simpa using this
 have hitl: ∀ (i:Nat) (x:It),its[i]? =some x→l[i]? =some x.o:=by
  intro i x hx
  rw [←hi.ops,List.getElem?_map,hx];rfl
 refine any_ok (P:=P) (B:=B) (ops:=l.toArray) (ds:=c0v l) (bef:=fun j i=>i<j∧(c.getD j 0).testBit i=true) (K:=fun S'=>Eqv S' (fin its S)) (by rw [g0h])
  (fun i o ho=>(hst' i o (hget i o ho)).1) ?_ ?_ l.toArray.size (Array.replicate l.toArray.size false) R S d a _ ?_ ?_ ?_ hs2
 ·intro i o ho x ⟨hx1,hx2⟩
  obtain ⟨e,he,hb,h1⟩:=((hst' i o (hget i o ho)).2 x hx1).1 hx2
  exact ⟨e,he,hb,h1⟩
 ·intro S' d' a' w' hK hs'
  exact hq _ d' _ _ hQ (hs'.eqv hK)
 ·simp only [R,List.length_map,List.length_zipIdx,List.size_toArray];omega
 ·refine ⟨by simp,fun p hp=>(by rw [List.getElem?_toArray];exact hitl _ _ (hRmem p hp):l.toArray[p.1]? =some p.2.o),fun i=>?_,?_,by rw [hRmap];exact hi.ok,?_,by rw [hRmap];exact hi.apart,fun p hp=>hi.dst p.2 (by rw [←hRmap];exact List.mem_map_of_mem hp),?_⟩
  ·simp only [List.size_toArray,Array.getD_eq_getD_getElem?,Array.getElem?_replicate]
   constructor
   ·intro h1
    obtain ⟨p,hp,rfl⟩:=List.mem_map.mp h1
    have:=(List.getElem?_eq_some_iff.mp (hRmem p hp)).1
    rw [hlen] at this
    exact ⟨this,by rw [if_pos this];rfl⟩
   ·rintro ⟨h1,_⟩
    have h2:i<its.length:=by omega
    refine List.mem_map.mpr ⟨(i,its[i]),?_,rfl⟩
    refine List.mem_map.mpr ⟨(its[i],i),?_,rfl⟩
    exact List.mem_zipIdx_iff_getElem?.mpr (by simp [h2])
  ·have hp1:its.zipIdx.Pairwise fun p q=>p.2<q.2:=by
    rw [List.pairwise_iff_getElem]
    intro i j hi' hj' hij
    simp only [List.getElem_zipIdx];omega
   have hp2:R.Pairwise fun p q=>p.1<q.1:=List.pairwise_map.mpr hp1
   refine hp2.imp_of_mem ?_
   intro p q hp hq hlt
   refine ⟨hlt,?_⟩
   have hpi:=hRmem p hp
   have hqi:=hRmem q hq
   rcases ((hst' q.1 q.2.o (hitl _ _ hqi)).2 p.1 hlt).2 with h1|h1
   ·exact .inl ⟨hlt,h1⟩
   ·right
    obtain ⟨h2,h3⟩:=h1 _ (hitl _ _ hpi)
    have hpm:p.2∈its:=List.mem_of_getElem? hpi
    have hqm:q.2∈its:=List.mem_of_getElem? hqi
    simp only [p1w,Bool.and_eq_true] at h2
    have sub: ∀ x:It,∀ n,n∈tmpsOf (x.reads (c0v l))→n∈tmpsOf (gslot (c0v l) x.o++x.o.op.operands.toList):=by
     intro x n hn
     unfold It.reads at hn
     simp only [tmpsOf,List.filterMap_append,List.mem_append] at hn ⊢
     rcases hn with hn|hn
     ·exact .inl hn
     ·right
      split at hn
      ·cases hn
      ·exact hn
    have hmu:(p.2.e.mut=false∨q.2.e.mut=false∨Tx p.2.e q.2.e)∧touch p.2 q.2∧touch q.2 p.2:=by
     rcases h3 with ⟨h4,h5⟩|h4
     ·have e1:p.2.e.mut=false:=by
       cases hc:p.2.e.mut with
       |false=>rfl
       |true=>have:=hi.mu _ hpm hc;rw [h4] at this;cases this
      have e2:q.2.e.mut=false:=by
       cases hc:q.2.e.mut with
       |false=>rfl
       |true=>have:=hi.mu _ hqm hc;rw [h5] at this;cases this
      exact ⟨.inl e1,d0z e1,d0z e2⟩
     ·have:=n0v hchk _ h4
      have hk:(!need.isEmpty)=true:=by
       cases need with
       |nil=>cases h4
       |cons=>rfl
      rw [hk] at this
      simp only [cond_true,List.nil_append,List.getElem?_map,hpi,hqi,hitl _ _ hpi,hitl _ _ hqi,Option.map_some,atD,m1j] at this
      have hd1:=hi.dp _ hpm
      have hd2:=hi.dp _ hqm
      rw [hk] at hd1 hd2
      exact ⟨this.1,touch_of this.2.1 hd2,touch_of this.2.2 hd1⟩
    refine ⟨fun n hn' hin=>?_,fun n hn' hin=>?_,fun n hn'=>?_,hmu.1,hmu.2.1,hmu.2.2⟩
    ·have:=h2.1
     rw [hn'] at this
     simp only [Bool.and_eq_true,Bool.not_eq_true'] at this
     have hc:=sub _ _ hin
     rw [←List.contains_iff_mem] at hc
     rw [this.1] at hc;cases hc
    ·have:=h2.2
     rw [hn'] at this
     simp only [Bool.not_eq_true'] at this
     have hc:=sub _ _ hin
     rw [←List.contains_iff_mem] at hc
     rw [this] at hc;cases hc
    ·have:=h2.1
     rw [hn'] at this
     simp only [Bool.and_eq_true,bne_iff_ne] at this
     exact this.2
  ·rw [hRmap]
   intro x hx k hk
   have:=(hi.nm x hx k hk).1
   simp only [List.all_eq_true,Bool.and_eq_true] at hn
   have h1:=hn k this
   have h2:=h0u h1.1
   exact ⟨⟨fun n v hv=>Rk h2.1 hv,fun n o ho=>Yx h2.2 ho,e0w h1.1⟩,by simpa using h1.2⟩
  ·intro i o ho hl hsz
   simp only [List.size_toArray] at hsz
   simp only [List.size_toArray,Array.getD_eq_getD_getElem?,Array.getElem?_replicate,if_pos hsz] at hl
   cases hl
 ·intro S' he
  rw [hRmap] at he
  exact he.symm
theorem HT.draw {P:Program} {B:Base} {id:Nat} {l:List Oper} {S:St} {Q:Exit→St→Prop} (names c:List Nat) (need:List (Nat×Nat)) (hm:P.follows .mixedOrders=true) (hst:j0r (c0v l) c need l=true)
  (hn:names.all (fun k=>fresh k S&&(look S.mem k).isNone)=true)
  (h: ∀ K:St→List Da→Prop,(∀ S' D,s0n l D need→Q .normal S'→K S' D)→Tk P B.nt names (c0v l) (!need.isEmpty) l [] [] S K):HT P B (.region id l.toArray true) S Q:=fun d a w hs=>
 wp_region_any hm (j1b names c need hst hn (fun S' d' a' w' hk hs'=>⟨S',d',hk,hs'⟩) h hs)
end Go.Sy
namespace Go.Sy
section
variable {P:Program} {nt:Nat} {names:List Nat} {ds:List (Option Tmp)} {keep:Bool} {N:List Nat} {D:List Da} {S:St} {K:St→List Da→Prop} {k:List Nat→List Da→St→Prop} {r:List Oper} {o:Oper} {dst:Option Tmp} {ty:TypeId} {pos:String} {af:Array Edge}
def p1g (P:Program) (nt:Nat) (names:List Nat) (ds:List (Option Tmp)) (keep:Bool) (r:List Oper) (K:St→List Da→Prop):List Nat→List Da→St→Prop:=fun N D S=>Tk P nt names ds keep r N D S K
theorem m1g :p1g P nt names ds keep r K N D S=Tk P nt names ds keep r N D S K:=rfl
theorem r1a :Tk P nt names ds keep [] N D S K=K S D:=rfl
theorem u1h (op:Op):Tk P nt names ds keep (⟨dst,op,ty,pos,af,none⟩::r) N D S K=onO P nt names ds keep ⟨dst,op,ty,pos,af,none⟩ N D S (p1g P nt names ds keep r K):=rfl
theorem f1n (op:Op) (g:Nat×Bool):Tk P nt names ds keep (⟨dst,op,ty,pos,af,some g⟩::r) N D S K=onG P nt names ds keep ⟨dst,op,ty,pos,af,some g⟩ g N D S (p1g P nt names ds keep r K) (Uq S ds g.1 g.2):=rfl
theorem a1l (c:Bool) (g:Nat×Bool):onG P nt names ds keep o g N D S k (some c)=((c=g.2→onO P nt names ds keep o N D S k)∧(c=(!g.2)→h0h nt o.dst∧k N (D++bif keep then [⟨.val (.tup []),(gslot ds o).filterMap S.get,[]⟩] else []) ((Eff.val (.tup [])).on o.dst S))):=rfl
theorem q1y (e:Eff):onE nt names ds keep o N D S k (some e)=(g1c names N e.names=true∧h0h nt o.dst∧k (e.names++N) (D++j1i keep ds S o e) (e.on o.dst S)):=rfl
theorem e0f {g:Option (Nat×Bool)} (op:Op) (h:a0o op=false):onO P nt names ds keep ⟨dst,op,ty,pos,af,g⟩ N D S k=onE nt names ds keep ⟨dst,op,ty,pos,af,g⟩ N D S k (Lv P S dst op):=by
 unfold onO;rw [h];rfl
theorem m1f {g:Option (Nat×Bool)} (f:Operand) (args:Array Operand) (ts:Array TypeId):onO P nt names ds keep ⟨dst,.call ⟨.value f,args,ts⟩,ty,pos,af,g⟩ N D S k=onC P nt names ds keep ⟨dst,.call ⟨.value f,args,ts⟩,ty,pos,af,g⟩ N D S k:=rfl
theorem m1a {g:Option (Nat×Bool)} (x:Operand):onO P nt names ds keep ⟨dst,.move x,ty,pos,af,g⟩ N D S k=onE nt names ds keep ⟨dst,.move x,ty,pos,af,g⟩ N D S k (Lv P S dst (.move x)):=e0f _ rfl
theorem a1j {g:Option (Nat×Bool)} (x:Operand):onO P nt names ds keep ⟨dst,.assign x,ty,pos,af,g⟩ N D S k=onE nt names ds keep ⟨dst,.assign x,ty,pos,af,g⟩ N D S k (Lv P S dst (.assign x)):=e0f _ rfl
theorem l1z {g:Option (Nat×Bool)} (c x y:Operand):onO P nt names ds keep ⟨dst,.pick c x y,ty,pos,af,g⟩ N D S k=onE nt names ds keep ⟨dst,.pick c x y,ty,pos,af,g⟩ N D S k (Lv P S dst (.pick c x y)):=e0f _ rfl
theorem m1b {g:Option (Nat×Bool)} (t:TypeId) (x:Operand):onO P nt names ds keep ⟨dst,.load t x,ty,pos,af,g⟩ N D S k=onE nt names ds keep ⟨dst,.load t x,ty,pos,af,g⟩ N D S k (Lv P S dst (.load t x)):=e0f _ rfl
theorem f1l {g:Option (Nat×Bool)} (op:BinOp) (t t2:TypeId) (x y:Operand):onO P nt names ds keep ⟨dst,.binOp op t x y t2,ty,pos,af,g⟩ N D S k=onE nt names ds keep ⟨dst,.binOp op t x y t2,ty,pos,af,g⟩ N D S k (Lv P S dst (.binOp op t x y t2)):=e0f _ rfl
theorem l1y {g:Option (Nat×Bool)} (op:UnOp) (t:TypeId) (x:Operand):onO P nt names ds keep ⟨dst,.unOp op t x,ty,pos,af,g⟩ N D S k=onE nt names ds keep ⟨dst,.unOp op t x,ty,pos,af,g⟩ N D S k (Lv P S dst (.unOp op t x)):=e0f _ rfl
theorem o0z {g:Option (Nat×Bool)} (t:TypeId) (x:Operand) (f:Nat):onO P nt names ds keep ⟨dst,.fieldAddr t x f,ty,pos,af,g⟩ N D S k=onE nt names ds keep ⟨dst,.fieldAddr t x f,ty,pos,af,g⟩ N D S k (Lv P S dst (.fieldAddr t x f)):=e0f _ rfl
theorem o0y {g:Option (Nat×Bool)} (t:TypeId) (x i:Operand):onO P nt names ds keep ⟨dst,.indexAddr t x i,ty,pos,af,g⟩ N D S k=onE nt names ds keep ⟨dst,.indexAddr t x i,ty,pos,af,g⟩ N D S k (Lv P S dst (.indexAddr t x i)):=e0f _ rfl
theorem w0h {g:Option (Nat×Bool)} (b:Builtin) (a:Array Operand) (t:Array TypeId):onO P nt names ds keep ⟨dst,.call ⟨.builtin b,a,t⟩,ty,pos,af,g⟩ N D S k=onE nt names ds keep ⟨dst,.call ⟨.builtin b,a,t⟩,ty,pos,af,g⟩ N D S k (Lv P S dst (.call ⟨.builtin b,a,t⟩)):=e0f _ rfl
theorem j1h (e:Eff):j1i false ds S o e=[]:=rfl
theorem p1f (e:Eff):j1i true ds S o e=[⟨e,(gslot ds o++o.op.operands.toList).filterMap S.get,k1j e S.mem⟩]:=rfl
theorem w0z (n:Nat):h0h nt (some n)=(n<nt):=rfl
theorem x0b :h0h nt none=True:=rfl
theorem r1j (n:Nat) (v:V) (e:List (Nat×V)) (m:List (Nat×Ob)):(Eff.val v).on (some n) ⟨e,m⟩=⟨(n,v)::e,m⟩:=rfl
theorem m1s (v:V) (S:St):(Eff.val v).on none S=S:=rfl
theorem r1l (n:Nat) (v:V) (ms:List (Nat×Ob)) (e:List (Nat×V)) (m:List (Nat×Ob)):(Eff.new v ms).on (some n) ⟨e,m⟩=⟨(n,v)::e,ms++m⟩:=rfl
theorem m1u (v:V) (ms:List (Nat×Ob)) (e:List (Nat×V)) (m:List (Nat×Ob)):(Eff.new v ms).on none ⟨e,m⟩=⟨e,ms++m⟩:=rfl
theorem r1m (n j:Nat) (v:V) (o:Ob) (e:List (Nat×V)) (m:List (Nat×Ob)):(Eff.app v j o).on (some n) ⟨e,m⟩=⟨(n,v)::b0m j e,(j,o)::Yy j m⟩:=rfl
theorem r1k (n j:Nat) (v:V) (o:Ob) (e:List (Nat×V)) (m:List (Nat×Ob)):(Eff.sto v j o).on (some n) ⟨e,m⟩=⟨(n,v)::e,Qk m j o⟩:=rfl
theorem m1t (j:Nat) (v:V) (o:Ob) (e:List (Nat×V)) (m:List (Nat×Ob)):(Eff.sto v j o).on none ⟨e,m⟩=⟨e,Qk m j o⟩:=rfl
theorem r1u (v:V):(Eff.val v).names=[]:=rfl
theorem r1x (v:V) (ms:List (Nat×Ob)):(Eff.new v ms).names=ms.map (·.1):=rfl
theorem r1y (v:V) (j:Nat) (o:Ob):(Eff.app v j o).names=[]:=rfl
theorem r1v (v:V) (j:Nat) (o:Ob):(Eff.sto v j o).names=[]:=rfl
theorem r1w (N:List Nat):g1c names N []=true:=rfl
def eV :Option V→Option Eff
 |some v=>some (.val v)
 |none=>none
def eA (k:Nat):Option (V×Ob)→Option Eff
 |some r=>some (.new r.1 [(k,r.2)])
 |none=>none
def eC (k:Nat) (x:Option V) (y:Option (V×Ob)):Option Eff:=
 match x with
 |some v=>some (.val v)
 |none=>eA k y
theorem o1x (v:V):eV (some v)=some (.val v):=rfl
theorem p1a (k:Nat) (v:V) (o:Ob):eA k (some (v,o))=some (.new v [(k,o)]):=rfl
theorem o1y (k:Nat) (v:V) (y:Option (V×Ob)):eC k (some v) y=some (.val v):=rfl
theorem o1z (k:Nat) (y:Option (V×Ob)):eC k none y=eA k y:=rfl
def e2 (x y:Option V) (f:V→V→Option Eff):Option Eff:=
 match x,y with
 |some u,some v=>f u v
 |_,_=>none
theorem p1b (u v:V) (f:V→V→Option Eff):e2 (some u) (some v) f=f u v:=rfl
theorem a0f {op:Op} (h: ∀ k,Ij P k S op=none) (h1:Lv P S dst op=match Fw P S op with
  |some v=>some (.val v)
  |none=>match dst with
   |some k=>(Ij P k S op).map fun r=>.new r.1 [(k,r.2)]
   |none=>none):Lv P S dst op=eV (Fw P S op):=by
 rw [h1]
 cases Fw P S op with
 |some v=>rfl
 |none=>cases dst with
  |none=>rfl
  |some k=>simp only [h,Option.map_none,eV]
theorem o1v (x:Operand):Lv P S dst (.move x)=eV (S.get x):=a0f (fun _=>rfl) rfl
theorem c1x (x:Operand):Lv P S dst (.assign x)=eV (S.get x):=a0f (fun _=>rfl) rfl
theorem o1u (c x y:Operand):Lv P S dst (.pick c x y)=eV (b3 (S.get c) (S.get x) (S.get y)):=by
 rw [a0f (fun _=>rfl) rfl];congr 1
theorem o1w (t:TypeId) (x:Operand):Lv P S dst (.load t x)=eV ((S.get x).bind (h0f P S t)):=a0f (fun _=>rfl) rfl
theorem i1z (op:BinOp) (t t2:TypeId) (x y:Operand):Lv P S dst (.binOp op t x y t2)=eV (b2 (S.get x) (S.get y) (Mj P op t)):=by
 rw [a0f (fun _=>rfl) rfl];congr 1
theorem o1t (op:UnOp) (t:TypeId) (x:Operand):Lv P S dst (.unOp op t x)=eV ((S.get x).bind (unV op)):=a0f (fun _=>rfl) rfl
theorem q0f (t:TypeId) (x:Operand) (f:Nat):Lv P S dst (.fieldAddr t x f)=eV ((S.get x).bind (g0y P t f)):=a0f (fun _=>rfl) rfl
theorem q0e (t:TypeId) (x i:Operand):Lv P S dst (.indexAddr t x i)=eV (b2 (S.get x) (S.get i) (Pz P t)):=by
 rw [a0f (fun _=>rfl) rfl];congr 1
theorem s1y (x:Operand) (t:TypeId):Lv P S dst (.call ⟨.builtin .len,#[x],#[t]⟩)=eV ((S.get x).bind (w0s P t)):=a0f (fun _=>rfl) rfl
theorem Cx {f:FuncId} {args:List Operand} {ts:Array TypeId} {vs:List V} {g:Option (Nat×Bool)} (nm:Nat→Nat) (X:V) (M:List (Nat×Ob)) (hgo: ∀ vals w,(callFunc f vals).run P w=.ok (.enter f vals) w) (hargs:Nk S args=some vs) (hc:Ct P f vs (fun v m=>v=X∧m=M))
  (hr:b0e M X=true∧Jk M=true∧nodupB (M.map fun x=>nm x.1)=true∧nodupB (M.map fun x=>x.1)=true)
  (hk:g1c names N (M.map fun x=>nm x.1)=true∧h0h nt dst∧k ((M.map fun x=>nm x.1)++N) (D++j1i keep ds S ⟨dst,.call ⟨.value (.func f),args.toArray,ts⟩,ty,pos,af,g⟩ (.new (X.ren nm) (Qz nm M))) ((Eff.new (X.ren nm) (Qz nm M)).on dst S)):
  onC P nt names ds keep ⟨dst,.call ⟨.value (.func f),args.toArray,ts⟩,ty,pos,af,g⟩ N D S k:=by
 have e:(Eff.new (X.ren nm) (Qz nm M)).names=M.map fun x=>nm x.1:=by simp [Eff.names,Qz,Function.comp_def]
 refine ⟨.new (X.ren nm) (Qz nm M),.call rfl hgo hargs hc hr.1 hr.2.1 ?_ (e0m hr.2.2.2),?_⟩
 ·have:=e0m hr.2.2.1
  rw [show (Qz nm M).map (·.1)=M.map fun x=>nm x.1 from by simp [Qz,Function.comp_def]];exact this
 ·rw [e];exact hk
theorem q0l {f:FuncId} {args:List Operand} {ts:Array TypeId} {vs:List V} {X:V} {g:Option (Nat×Bool)} (hargs:Nk S args=some vs) (hc:Now P f vs X)
  (hk:h0h nt dst∧k N (D++j1i keep ds S ⟨dst,.call ⟨.value (.func f),args.toArray,ts⟩,ty,pos,af,g⟩ (.val X)) ((Eff.val X).on dst S)):
  onC P nt names ds keep ⟨dst,.call ⟨.value (.func f),args.toArray,ts⟩,ty,pos,af,g⟩ N D S k:=
 ⟨.val X,.now rfl hargs hc,rfl,hk.1,hk.2⟩
end
theorem k1t {P:Program} {B:Base} {id:Nat} {l:List Oper} {S:St} {Q:Exit→St→Prop} (names c:List Nat) (need:List (Nat×Nat)) (hm:P.follows .mixedOrders=true) (hst:j0r (c0v l) c need l=true)
  (hn:names.all (fun k=>fresh k S&&(look S.mem k).isNone)=true)
  (h: ∀ K:St→List Da→Prop,(∀ S' D,s0n l D need→Q .normal S'→K S' D)→Tk P B.nt names (c0v l) (!need.isEmpty) l [] [] S K):HT P B (.region id l.toArray true) S Q:=HT.draw names c need hm hst hn h
attribute [go_sem] m1g r1a u1h f1n a1l q1y m1f m1a a1j l1z m1b f1l l1y o0z o0y w0h j1h p1f w0z x0b r1j m1s r1l m1u r1m r1k m1t r1u r1x r1y r1v r1w o1x p1a o1y o1z p1b o1v c1x o1u o1w i1z o1t q0f q0e s1y
attribute [go_sem] g1c nodupB Qz Jk e0a c0e j1m copyV List.map_cons List.map_nil List.all_cons List.all_nil List.contains_cons List.contains_nil List.nil_append List.cons_append List.append_nil Bool.and_self Bool.and_true Bool.true_and List.isEmpty_nil List.isEmpty_cons Option.isNone_none Option.isNone_some
end Go.Sy
namespace Go.Sy
def leX {α:Type} (ks:List Nat) (e:List (Nat×α)):List (Nat×α)→Prop
 | []=>True
 |x::r=>(if ks.contains x.1=true then True else look e x.1=some x.2)∧leX (x.1::ks) e r
theorem a0b {α:Type} {e:List (Nat×α)}: ∀ {l:List (Nat×α)} {ks:List Nat},leX ks e l→∀ {n:Nat} {v:α},n∉ks→look l n=some v→look e n=some v
 | [],_,_,_,_,_,h=>by cases h
 |x::r,ks,h,n,v,hn,hl=>by
  simp only [look] at hl
  split at hl
  ·rename_i en;cases hl;subst en
   have:=h.1
   rw [if_neg (by simpa using hn)] at this;exact this
  ·rename_i en
   exact a0b h.2 (by simp only [List.mem_cons,not_or];exact ⟨en,hn⟩) hl
theorem Le.ofX {B:Base} {S S':St} (he:leX [] S.env S'.env) (hm:leX [] S.mem S'.mem):Le B S S':=by
 intro d a w h
 have hsome: ∀ j,(look S'.mem j).isSome=true→(look S.mem j).isSome=true:=by
  intro j hj
  cases ho:look S'.mem j with
  |none=>simp [ho] at hj
  |some o=>rw [a0b hm (by simp) ho];rfl
 exact ⟨d,h.defers,h.nt,fun n v hv=>h.env n v (a0b he (by simp) hv),fun k o hk=>h.mem k o (a0b hm (by simp) hk),fun k k' h1 h2=>h.inj k k' (hsome _ h1) (hsome _ h2),fun k hk=>h.own k (hsome _ hk),h.ro,h.old,h.os,h.tape,h.output,h.size,h.block,h.gat,fun k o hk=>h.glob k o (a0b hm (by simp) hk),fun k o p hk=>h.fix k o p (a0b hm (by simp) hk),h.fxn,fun b l hb=>h.mp b l (a0b hm (by simp) hb)⟩
section
variable {P:Program} {B:Base} {S:St} {Q:Exit→St→Prop}
theorem Iy {x:Code} {ι:Type} (e:ι→List (Nat×V)) (m:ι→List (Nat×Ob)) (μ:ι→Nat) (i₀:ι) (h0:leX [] S.env (e i₀++S.env)) (h1:leX [] S.mem (m i₀++S.mem))
  (round: ∀ i,∀ (N:St→Prop) (M:Exit→St→Prop),(∀ j S',μ j<μ i→leX [] S'.env (e j++S.env)→leX [] S'.mem (m j++S.mem)→N S')→(∀ e S',Q e S'→M e S')→HT P B x ⟨e i++S.env,m i++S.mem⟩ (i0h N M)):HT P B (.loop x) S Q:=by
 refine HT.loop (fun i=>⟨e i++S.env,m i++S.mem⟩) μ i₀ (Le.ofX h0 h1) fun i=>?_
 exact round i _ Q (fun j S' hj he hm=>⟨j,hj,Le.ofX he hm⟩) (fun _ _ h=>h)
def rnd (P:Program) (B:Base) (x:Code) (Q:Exit→St→Prop):Nat→St→Prop
 |0,_=>False
 |n+1,S=>HT P B x S (i0h (rnd P B x Q n) Q)
theorem k1e {x:Code}: ∀ {n:Nat} {S:St} {d:Va} {a:Act} {w:World},rnd P B x Q n S→Sim B d S a w→Code.rounds P x (fun e a' w'=>∃ S' d',Q e S'∧Sim B d' S' a' w') n a w
 |0,_,_,_,_,h,_=>h.elim
 |n+1,S,d,a,w,h,hs=>by
  rw [rounds_succ]
  refine Code.wp_mono ?_ (h d a w hs)
  rintro e a' w' ⟨S',d',hq,hs'⟩
  cases e<;>first|exact k1e hq hs'|exact ⟨S',d',hq,hs'⟩
theorem f1k {x:Code} (n:Nat) (h:rnd P B x Q n S):HT P B (.loop x) S Q:=fun d a w hs=>wp_loop_rounds n (k1e h hs)
theorem u1f {x:Code} {n:Nat} (h: ∀ (N:St→Prop) (M:Exit→St→Prop),(∀ S',rnd P B x Q n S'→N S')→(∀ e S',Q e S'→M e S')→HT P B x S (i0h N M)):rnd P B x Q (n+1) S:=h _ Q (fun _ h=>h) (fun _ _ h=>h)
end
def fgt {α:Type} (ks:List Nat):List (Nat×α)→List (Nat×α)
 | []=>[]
 |x::r=>if ks.contains x.1=true then fgt ks r else x::fgt ks r
theorem Tq {α:Type} {ks:List Nat}: ∀ {l:List (Nat×α)} {n:Nat} {v:α},look (fgt ks l) n=some v→look l n=some v
 | [],_,_,h=>by cases h
 |x::r,n,v,h=>by
  have key: ∀ {l:List (Nat×α)} {n:Nat} {v:α},look (fgt ks l) n=some v→ks.contains n=false:=by
   intro l
   induction l with
   |nil=>intro n v h;cases h
   |cons y l ih=>
    intro n v h
    simp only [fgt] at h
    split at h
    ·exact ih h
    ·rename_i hc
     simp only [look] at h
     split at h
     ·rename_i e;subst e;simpa using hc
     ·exact ih h
  simp only [fgt] at h
  simp only [look]
  split at h
  ·rename_i hc
   have:=key h
   rw [if_neg (fun e=>by subst e;rw [hc] at this;cases this)]
   exact Tq h
  ·simp only [look] at h
   by_cases e:n=x.1
   ·rw [if_pos e] at h ⊢;exact h
   ·rw [if_neg e] at h ⊢;exact Tq h
def St.forget (ks:List Nat) (S:St):St:=⟨fgt ks S.env,fgt ks S.mem⟩
theorem Le.forget {B:Base} (ks:List Nat) (S:St):Le B S (S.forget ks):=by
 intro d a w h
 have hsome: ∀ j,(look (fgt ks S.mem) j).isSome=true→(look S.mem j).isSome=true:=by
  intro j hj
  cases ho:look (fgt ks S.mem) j with
  |none=>simp [ho] at hj
  |some o=>rw [Tq ho];rfl
 exact ⟨d,h.defers,h.nt,fun n v hv=>h.env n v (Tq hv),fun k o hk=>h.mem k o (Tq hk),fun k k' h1 h2=>h.inj k k' (hsome _ h1) (hsome _ h2),fun k hk=>h.own k (hsome _ hk),h.ro,h.old,h.os,h.tape,h.output,h.size,h.block,h.gat,fun k o hk=>h.glob k o (Tq hk),fun k o p hk=>h.fix k o p (Tq hk),h.fxn,fun b l hb=>h.mp b l (Tq hb)⟩
theorem w0i {P:Program} {B:Base} {Q:Exit→St→Prop} {S:St} {x:Code} (ks:List Nat): ∀ {n:Nat},rnd P B x Q n (S.forget ks)→rnd P B x Q n S
 |0,h=>h
 |_+1,h=>HT.le (Le.forget ks S) h
theorem w64 {n:Int} (h: -9223372036854775808≤n∧n≤9223372036854775807):Go.RowKit.wrap64 n=n:=by unfold Go.RowKit.wrap64;omega
def j1t (bs:List UInt8):List (List PL):=bs.map fun b=>[PL.u8 b]
theorem x0i :Vz []=some []:=rfl
theorem s0q (x:UInt8) (r:List L):Vz (.pl (.u8 x)::r)=(Vz r).map (x:: ·):=by simp only [Vz]
theorem a1y :maxLen=9223372036854775807:=rfl
theorem f1m {α:Type} (n:Nat) (z:List α):(List.replicate (n+1) z).flatten=z++(List.replicate n z).flatten:=by simp [List.replicate_succ]
theorem a1k {α:Type} (z:List α):(List.replicate 0 z).flatten=[]:=rfl
theorem l0o (a b:List PL):pls (a++b)=pls a++pls b:=by simp [pls]
theorem u0p (a:PL) (b:List PL):pls (a::b)=.pl a::pls b:=rfl
theorem a1o :pls []=[]:=rfl
def r0x {α:Type}:Option α→List α→List α
 |some v,l=>v::l
 |none,l=>l
theorem p0h {α:Type} (v:α) (l:List α):r0x (some v) l=v::l:=rfl
theorem p0i {α:Type} (l:List α):r0x none l=l:=rfl
theorem o1d (S:St) (x:Operand) (r:List Operand):(x::r).filterMap S.get=r0x (S.get x) (r.filterMap S.get):=by
 rw [List.filterMap_cons];cases S.get x<;>rfl
theorem s1r (S:St):([]:List Operand).filterMap S.get=[]:=rfl
theorem n1a (v:V):(Eff.val v).mut=false:=rfl
theorem n1e (v:V) (m:List (Nat×Ob)):(Eff.new v m).mut=false:=rfl
theorem n1f (v:V) (j:Nat) (o:Ob):(Eff.app v j o).mut=true:=rfl
theorem n1d (v:V) (j:Nat) (o:Ob):(Eff.sto v j o).mut=true:=rfl
theorem r1o (v:V) (m:List (Nat×Ob)):k1j (.val v) m=[]:=rfl
theorem r1q (v:V) (x m:List (Nat×Ob)):k1j (.new v x) m=[]:=rfl
theorem r1p (v:V) (j:Nat) (o:Ob) (m:List (Nat×Ob)):k1j (.sto v j o) m=[]:=rfl
theorem q1d (m:Bool×Bool) (v:V) (rv:List V) (ns:List Nat) (b:Da):c0w m ⟨.val v,rv,ns⟩ b=True:=rfl
theorem q1f (m:Bool×Bool) (v:V) (x:List (Nat×Ob)) (rv:List V) (ns:List Nat) (b:Da):c0w m ⟨.new v x,rv,ns⟩ b=True:=rfl
theorem q1e (m:Bool×Bool) (v:V) (k:Nat) (o:Ob) (rv:List V) (ns:List Nat) (b:Da):c0w m ⟨.sto v k o,rv,ns⟩ b=(m.1=true→b.rv.all (fun v=>!v.has k)=true∨(m.2=true∧x0x k b.e)):=rfl
theorem q1g (m:Bool×Bool) (v:V) (j:Nat) (o:Ob) (rv:List V) (ns:List Nat) (b:Da):c0w m ⟨.app v j o,rv,ns⟩ b=(b.rv.all (fun v=>!v.has j&&p1q v)=true∧b.e.free j=true∧(m.1=true→b.rv.all (fun v=>ns.all fun k=>!v.has k)=true)):=rfl
theorem p1h (l:List Oper) (D:List Da):s0n l D []=True:=rfl
theorem j1q (l:List Oper) (D:List Da) (p:Nat×Nat) (r:List (Nat×Nat)):s0n l D (p::r)=(atD (l[p.1]?.map fun o=>(Zq o.op,i0l o.op)) (l[p.2]?.map fun o=>(Zq o.op,i0l o.op)) D[p.1]? D[p.2]? ∧s0n l D r):=rfl
theorem j1y (x y:Bool×Bool) (a b:Da):atD (some x) (some y) (some a) (some b)=((a.e.mut=false∨b.e.mut=false∨Tx a.e b.e)∧c0w y a b∧c0w x b a):=rfl
theorem look_nil {α:Type} (n:Nat):look ([]:List (Nat×α)) n=none:=rfl
theorem x0j :k0f []=[]:=rfl
theorem e1u {α:Type} {a:List α} {n:Nat} (h:a.length≤n):a.take n=a:=List.take_of_length_le h
theorem j1a {α:Type} {a:List α} {n:Nat} (h:a.length≤n):a.drop n=[]:=List.drop_of_length_le h
theorem q0o :j1t []=[]:=rfl
theorem s1w (x y:UInt8):eqL (.pl (.u8 x)) (.pl (.u8 y))=decide (x=y):=rfl
theorem o1q (x y:UInt32):eqL (.pl (.u32 x)) (.pl (.u32 y))=decide (x=y):=rfl
theorem o1p (x y:UInt64):eqL (.pl (.u64 x)) (.pl (.u64 y))=decide (x=y):=rfl
theorem u1u (x y:Int):eqL (.pl (.i x)) (.pl (.i y))=decide (x=y):=rfl
theorem u1v (x y:Bool):eqL (.pl (.b x)) (.pl (.b y))=decide (x=y):=rfl
theorem o1r (x y:List UInt8):eqL (.pl (.str x)) (.pl (.str y))=decide (x=y):=rfl
theorem i1y (x y:L) (xs ys:List L):eqC (x::xs) (y::ys)=(eqL x y&&eqC xs ys):=rfl
theorem g1t (x:UInt8):c0u (.pl (.u8 x))=some (.int .u8):=rfl
theorem b1p (x:UInt32):c0u (.pl (.u32 x))=some (.int .u32):=rfl
theorem b1o (x:UInt64):c0u (.pl (.u64 x))=some (.int .u64):=rfl
theorem n1w (x:Int):c0u (.pl (.i x))=some (.int .i64):=rfl
theorem n1x (x:Bool):c0u (.pl (.b x))=some .b:=rfl
theorem b1q (x:List UInt8):c0u (.pl (.str x))=some .s:=rfl
attribute [go_sem] l0o u0p a1o false_and and_false true_or or_true false_or or_false Int.cast_ofNat_Int Int.reduceEq Int.reduceNe Int.natCast_zero f1m a1k List.size_toArray Nat.mul_one Nat.one_mul x0i s0q a1y decide_true decide_false w64 Option.bind_none Option.map_none List.all_append look_nil x0j e1u j1a q0o s1w o1q o1p u1u u1v o1r i1y g1t b1p b1o n1w n1x b1q
theorem c1k (place:Nat→Option (Nat×Nat)) (cells:List L):Vw place cells []=some cells:=by cases cells<;>rfl
theorem w0v (place:Nat→Option (Nat×Nat)) (cells:List L) (i:Nat) (v:W) (rest:List (Nat×V)):Vw place cells ((i,.w v)::rest)=(match place i with
  |some pl=>if v.cells.length=pl.2∧pl.1+pl.2≤cells.length then Vw place (upd cells pl.1 pl.2 v.cells) rest else none
  |none=>none):=by
 cases h:place i with
 |none=>simp only [Vw,h]
 |some pl=>simp only [Vw,h]
attribute [go_sem] c1k w0v upd wr h0c Qx placesOf g0q a0j e1o Ij e0c Nv V.num PL.num Pz j0i p0g g0a c0r t1n d0l d0d Fw y0c Nk o0c f0o a0y k0x b0m Yy V.kill W.kill Rx Qk toKind f1j b0e i0s p1o Pj Vx List.any_append Option.isSome_some Option.isSome_none List.map_append List.map_replicate List.length_append List.length_replicate Nat.sub_self Nat.reduceSub Nat.add_zero Nat.reduceBneDiff Nat.reduceMul Int.reduceLT Int.reduceLE Int.reduceToNat UInt8.reduceOfNat UInt32.reduceOfNat UInt64.reduceOfNat Int.toNat_zero Int.reduceNeg Nat.reduceDiv Int.reduceAdd Int.reduceSub Int.reduceMul Int.toNat_natCast
end Go.Sy
namespace Go.Sy
open Go.RowKit Go.WideShapes Go.ChangeShapes Go.ChangeAt
theorem f0i.below {w w':World} {d:Va} {m:List (Nat×Ob)} {ro:Ro} (h:f0i ⟨w,fun _=>False,0,ro,fun _=>none⟩ d m w'):Below w.heap.size w w':=by
 obtain ⟨a,hs⟩:=h
 exact ⟨hs.os,hs.tape,hs.output,hs.size,fun k hk=>hs.block k hk (fun h=>h.elim)⟩
theorem Ct.calls {P:Program} {f:FuncId} {args:List V} {R:V→List (Nat×Ob)→Prop} {b:Bool} (hc:Ct P f args R) (hR: ∀ v m,R v m→v=.w (.one (.pl (.b b)))) (w:World) (d:Va) (vals:Array Value)
  (hro: ∀ b o y,d.ro b o=some y→w.cell? ⟨b,o,none⟩=some y) (hg: ∀ k,gl0≤k→d.at_ k=k-gl0) (ha:Fv (V.den d) args vals.toList):Calls P f vals w fun e w'=>e=.returned (.bool b)∧Below w.heap.size w w':=by
 refine (hc w d vals hro hg ha).mono fun e w' ⟨y,v,d',m',he,hr,hd,hm⟩=>?_
 rw [hR v m' hr] at hd
 exact ⟨by rw [he];exact congrArg _ hd,hm.below⟩
section
variable {H:Type} {enc:TypeId×Value→H} {P:Program}
theorem f0f (hl:laidOutB P=true) {W W':World} (hb:Below W.heap.size W W') {sp:Nat→Bool}: ∀ (ts:List TypeId) (vs:List Value) (ds:List (DataW H)) (ps:List MemPlace),
  (ts.all fun t=>P.readableRec t&&decide (t<P.types.size))=true→DataW.TrodAll enc P W 0 (fun _=>true) true ts vs ds ps→(∀ x∈ps,x.block<W.heap.size)→(∀ x∈ps,sp x.block=true)→DataW.TrodAll enc P W' 0 sp true ts vs ds ps
 | [],[],[],ps,_,h,_,_=>h
 |t::ts,v::vs,d::ds,ps,hr,h,hlt,hsp=>by
  obtain ⟨p,q,h1,h2,rfl⟩:=h
  simp only [List.all_cons,Bool.and_eq_true,decide_eq_true_eq] at hr
  refine ⟨p,q,WideElems.Trod_stays hl hr.1.1 hr.1.2 h1 (fun x hx=>hb.same (hlt x (by simp [hx]))) (fun x hx=>hsp x (by simp [hx])),?_,rfl⟩
  exact f0f hl hb ts vs ds q hr.2 h2 (fun x hx=>hlt x (by simp [hx])) (fun x hx=>hsp x (by simp [hx]))
 | [],_::_,_,_,_,h,_,_=>h.elim
 | [],[],_::_,_,_,h,_,_=>h.elim
 |_::_,[],_,_,_,h,_,_=>h.elim
 |_::_,_::_,[],_,_,h,_,_=>h.elim
theorem g1n {f:Func} {s:ChangeSpec} {apart fresh handsOn again:Bool} {t:TypeId} {W W':World} {args:Array Value} {ds gs:List (DataW H)} {before:List MemPlace}
  (hW:DataW.Whole enc P f.params.toList s.vars apart W args.toList ds gs before) (hl:laidOutB P=true) (hr:(f.params.toList.all fun t=>P.readableRec t&&decide (t<P.types.size))=true)
  (hv:s.vars=[]) (hrt:f.resultTypes= #[t]) (ht:P.underlying t=some .bool) (hs:s.fn H ds={results:=[.lit (.bool true)],args:=ds}) (hb:Below W.heap.size W W'):
  s.post enc P f apart fresh handsOn again W args (.bool true) W':=by
 have hW0:=hW
 obtain ⟨p,q,hA,hV,hpq,hz,hn⟩:=hW
 rw [hv] at hV
 obtain ⟨hg,hq⟩:=trodVars_none hV
 subst hg;subst hq;subst hpq
 have hlt: ∀ x∈p++[],x.block<W.heap.size:=fun x hx=>hW0.lt x hx
 simp only [List.append_nil] at hlt hW0
 have e:s.fn H (ds++[])={results:=[.lit (.bool true)],args:=ds}:=by rw [List.append_nil];exact hs
 have hargs: ∀ sp:Nat→Bool,(∀ x∈p,sp x.block=true)→DataW.TrodAll enc P W' 0 sp true f.params.toList args.toList (s.fn H (ds++[])).args p:=fun sp h=>by
  rw [e];exact f0f hl hb _ _ _ _ hr hA hlt h
 have hres: ∀ (b:Nat) (sp:Nat→Bool) (hd:Bool),DataW.TrodAll enc P W' b sp hd f.resultTypes.toList ((Value.bool true).resultList f.resultTypes.size) (s.fn H (ds++[])).results []:=fun b sp hd=>by
  rw [e,hrt];exact trodAll_mk1 (shut_bool ht true)
 have hvars: ∀ sp:Nat→Bool,DataW.TrodVars enc P W' sp s.vars (s.fn H (ds++[])).vars []:=fun sp=>by rw [e,hv];rfl
 have hold: ∀ x∈p,(fun b=>decide (b<W.heap.size)) x.block=true:=fun x hx=>by simpa using hlt x hx
 refine ⟨ds,[],p,[],p,[],hW0,hres _ _ _,hargs _ hold,hvars _,World.keptBut_mono (fun x hx=>⟨hx,?_⟩) (hb.frame (· ∈p)),fun _=>?_⟩
 ·exact Or.inr (by simpa using hx)
 ·refine ⟨ok_one hrt rfl (okWide_bool_mk ht true),_,_,([]++p)++[],⟨[]++p,[],trodAll_append (hargs _ (fun _ _=>rfl)) (hres _ _ _),hvars _,rfl,?_,?_⟩,?_⟩
  ·intro b off hp
   have hin:MemPlace.cell b off∈p:=by simpa using hp
   rw [hb.frozen (hlt _ hin)]
   exact hz b off (by simpa using hin)
  ·intro ha
   have:=hn ha
   simpa using this
  ·intro x hx _
   simpa using hx
end
end Go.Sy
namespace Go.Sy
open Go.RowKit Go.WideShapes Go.ChangeShapes Go.ChangeAt
def Sh (P:Program):Nat→TypeId→List PL→Prop
 |0,_,_=>False
 |n+1,t,cs=>match P.underlying t with
  |some .bool=>∃ b,cs=[.b b]
  |some (.int .i64)=>∃ k:Int,cs=[.i k]∧ -9223372036854775808≤k∧k≤9223372036854775807
  |some (.int .u8)=>∃ x,cs=[.u8 x]
  |some (.int .u32)=>∃ x,cs=[.u32 x]
  |some (.int .u64)=>∃ x,cs=[.u64 x]
  |some .string=>∃ s,cs=[.str s]∧s.length≤maxLen
  |some (.slice e)=>∃ rows,cs=[.R false (P.cellsOf e) rows]∧(∀ r∈rows,Sh P n e r∧r.length=P.cellsOf e)∧rows.length≤maxLen
  |some (.struct fs)=>∃ ps:List (List PL),cs=ps.flatten∧Fv (fun (f:Field) p=>Sh P n f.type p∧p.length=P.cellsOf f.type) fs.toList ps
  |some (.array m e)=>∃ ps:List (List PL),cs=ps.flatten∧ps.length=m∧∀ p∈ps,Sh P n e p∧p.length=P.cellsOf e
  |_=>False
def Va.reads (w:World):Va:=⟨fun k=>k-gl0,fun _=>0,fun b o=>w.cell? ⟨b,o,none⟩⟩
def c0x (P:Program):List Field→Nat→Nat→Bool
 | [],off,n=>off==n
 |f::fs,off,n=>f.offset==off&&c0x P fs (off+P.cellsOf f.type) n
section
variable {H:Type} {enc:TypeId×Value→H} {P:Program} {w:World} {base:Nat} {spare:Nat→Bool} {held:Bool}
theorem trod_array {m:Nat} {t e:TypeId} {fuel:Nat} {cs:List Value} {x:DataW H×List MemPlace} (ht:P.underlying t=some (.array m e)) (h:DataW.trod enc P w base spare held fuel t cs=some x):
  ∃ n,fuel=n+1∧cs.length=P.cellsOf t∧∀ i,i<m→∃ y,DataW.trod enc P w base spare held n e ((cs.drop (i*P.cellsOf e)).take (P.cellsOf e))=some y:=by
 cases fuel with
 |zero=>simp [DataW.trod] at h
 |succ n=>
  unfold DataW.trod at h
  rw [ht] at h
  simp only at h
  split at h<;>try (simp at h;done)
  rename_i hl
  refine ⟨n,rfl,hl,fun i hi=>?_⟩
  obtain ⟨xs,hx,_⟩:=Option.map_eq_some_iff.mp h
  have: ∀ (l:List Nat) (ys:List (DataW H×List MemPlace)),l.mapM (fun i=>DataW.trod enc P w base spare held n e ((cs.drop (i*P.cellsOf e)).take (P.cellsOf e)))=some ys→∀ i∈l,∃ y,DataW.trod enc P w base spare held n e ((cs.drop (i*P.cellsOf e)).take (P.cellsOf e))=some y:=by
   intro l
   induction l with
   |nil=>intro _ _ i hi;cases hi
   |cons a r ih=>
    intro ys hy i hi
    rw [List.mapM_cons] at hy
    cases ha:DataW.trod enc P w base spare held n e ((cs.drop (a*P.cellsOf e)).take (P.cellsOf e)) with
    |none=>rw [ha] at hy;simp at hy
    |some y=>
     rw [ha] at hy
     rcases List.mem_cons.mp hi with rfl|hi
     ·exact ⟨y,ha⟩
     ·cases hr:r.mapM (fun i=>DataW.trod enc P w base spare held n e ((cs.drop (i*P.cellsOf e)).take (P.cellsOf e))) with
      |none=>rw [hr] at hy;simp at hy
      |some zs=>exact ih zs hr i hi
  exact this _ _ hx i (by simpa using hi)
theorem v0k {ro:Ro} {blk:Nat}: ∀ {c:List PL} {vals:List Value} {off:Nat},Fv (PL.den ro) c vals→(∀ j v,vals[j]? =some v→ro blk (off+j)=some v)→PL.denAt ro blk c off
 | [],_,_,_,_=>by rw [PL.denAt];trivial
 |x::c,vals,off,h,hc=>by
  cases h with
  |cons h1 h2=>
   rename_i y m
   rw [PL.denAt]
   refine ⟨⟨y,by simpa using hc 0 y rfl,h1⟩,v0k h2 fun j v hv=>?_⟩
   have:=hc (j+1) v (by simpa using hv)
   rwa [show off+(j+1)=off+1+j from by omega] at this
theorem m0d {ro:Ro} {blk sz:Nat}: ∀ {rows:List (List PL)} {off:Nat},(∀ r∈rows,r.length=sz)→(∀ i r,rows[i]? =some r→PL.denAt ro blk r (off+i*sz))→PL.denRows ro blk sz rows off
 | [],_,_,_=>by rw [PL.denRows];trivial
 |r::rs,off,hl,h=>by
  rw [PL.denRows]
  refine ⟨hl r (by simp),by simpa using h 0 r rfl,m0d (fun r hr=>hl r (by simp [hr])) fun i r' hr=>?_⟩
  have:=h (i+1) r' (by simpa using hr)
  rwa [show off+(i+1)*sz=off+sz+i*sz from by rw [Nat.add_mul];omega] at this
theorem c0f {ro:Ro}: ∀ {ps:List (List PL)} {vs:List (List Value)},Fv (fun p v=>Fv (PL.den ro) p v) ps vs→Fv (PL.den ro) ps.flatten vs.flatten
 |_,_,.nil=>.nil
 |_,_,.cons h1 h2=>by simpa using h1.append (c0f h2)
theorem a0g {α β:Type} {p:α→β→Prop}: ∀ (l:List α),(∀ x∈l,∃ y,p x y)→∃ ys:List β,Fv p l ys
 | [],_=>⟨[],.nil⟩
 |x::r,h=>by
  obtain ⟨y,hy⟩:=h x (by simp)
  obtain ⟨ys,hys⟩:=a0g r fun z hz=>h z (by simp [hz])
  exact ⟨y::ys,.cons hy hys⟩
theorem Fv.flip {α β:Type} {R:α→β→Prop}: ∀ {l:List α} {m:List β},Fv R l m→Fv (fun b a=>R a b) m l
 |_,_,.nil=>.nil
 |_,_,.cons h1 h2=>.cons h1 h2.flip
theorem f0d {α:Type} (sz:Nat): ∀ (m:Nat) (cs:List α),cs.length=m*sz→((List.range m).map fun i=>(cs.drop (i*sz)).take sz).flatten=cs
 |0,cs,h=>by simp at h;simp [h]
 |m+1,cs,h=>by
  rw [List.range_succ_eq_map,List.map_cons,List.flatten_cons,List.map_map]
  have h2:(cs.drop sz).length=m*sz:=by rw [List.length_drop,h,Nat.add_mul];omega
  have ih:=f0d sz m (cs.drop sz) h2
  have e:(List.range m).map ((fun i=>(cs.drop (i*sz)).take sz)∘Nat.succ)=(List.range m).map fun i=>((cs.drop sz).drop (i*sz)).take sz:=by
   refine List.map_congr_left fun i _=>?_
   simp only [Function.comp_def,List.drop_drop]
   congr 2
   rw [Nat.succ_mul];omega
  rw [e,ih];simp
theorem k0y {n:Nat} (cs:List Value) (hl:cs.length=n): ∀ (fs:List Field) (off:Nat),c0x P fs off n=true→(fs.map fun f=>(cs.drop f.offset).take (P.cellsOf f.type)).flatten=cs.drop off
 | [],off,h=>by
  simp only [c0x,beq_iff_eq] at h
  subst h;subst hl;simp
 |f::fs,off,h=>by
  simp only [c0x,Bool.and_eq_true,beq_iff_eq] at h
  obtain ⟨h1,h2⟩:=h
  rw [List.map_cons,List.flatten_cons,k0y cs hl fs _ h2,h1,←List.drop_drop,List.take_append_drop]
theorem take_len {α:Type} {cs:List α} {a b:Nat} (h:a+b≤cs.length):((cs.drop a).take b).length=b:=by simp;omega
theorem y0h {n:Nat}: ∀ (fs:List Field) (off:Nat),c0x P fs off n=true→∀ f∈fs,f.offset+P.cellsOf f.type≤n
 | [],_,_,f,hf=>by cases hf
 |g::fs,off,h,f,hf=>by
  simp only [c0x,Bool.and_eq_true,beq_iff_eq] at h
  have hge: ∀ (fs:List Field) (off:Nat),c0x P fs off n=true→off≤n:=by
   intro fs
   induction fs with
   |nil=>intro off h;simp only [c0x,beq_iff_eq] at h;omega
   |cons g fs ih=>intro off h;simp only [c0x,Bool.and_eq_true,beq_iff_eq] at h;have:=ih _ h.2;omega
  rcases List.mem_cons.mp hf with rfl|hf
  ·have:=hge _ _ h.2;omega
  ·exact y0h fs _ h.2 f hf
theorem Fv.map_r {α β γ:Type} {R:α→γ→Prop} {f:β→γ}: ∀ {l:List α} {m:List β},Fv (fun a b=>R a (f b)) l m→Fv R l (m.map f)
 |_,_,.nil=>.nil
 |_,_,.cons h1 h2=>.cons h1 h2.map_r
end
section
variable {P:Program}
theorem z0x {n:Nat} {t:TypeId} {cs:List PL} (h:Sh P n t cs) (ht:P.underlying t=some (.int .i64)): ∃ k:Int,cs=[.i k]∧ -9223372036854775808≤k∧k≤9223372036854775807:=by
 cases n with
 |zero=>exact h.elim
 |succ n=>unfold Sh at h;rw [ht] at h;exact h
theorem f1e {n:Nat} {t e:TypeId} {cs:List PL} (h:Sh P n t cs) (ht:P.underlying t=some (.slice e)): ∃ (rows:List (List PL)) (m:Nat),cs=[.R false (P.cellsOf e) rows]∧(∀ r∈rows,Sh P m e r)∧rows.length≤maxLen:=by
 cases n with
 |zero=>exact h.elim
 |succ n=>unfold Sh at h;rw [ht] at h;obtain ⟨rows,h1,h2,h3⟩:=h;exact ⟨rows,n,h1,fun r hr=>(h2 r hr).1,h3⟩
theorem d1a {d:Va}: ∀ {xs:List PL} {vs:List Value},Fv (PL.den d.ro) xs vs→Fv (L.den d) (pls xs) vs
 |_,_,.nil=>.nil
 |_,_,.cons h1 h2=>.cons h1 (d1a h2)
end
section
variable {H:Type} {enc:TypeId×Value→H} {P:Program} {w:World} {base:Nat} {spare:Nat→Bool} {held:Bool}
end
end Go.Sy
namespace Go.Sy
def St.dropE (ks:List Nat) (S:St):St:=⟨fgt ks S.env,S.mem⟩
theorem Gw {P:Program} {B:Base} {Q:Exit→St→Prop} {S:St} {x:Code} (ks:List Nat) (h:HT P B x (S.dropE ks) Q):HT P B x S Q:=by
 refine HT.le (fun d a w hs=>⟨d,?_⟩) h
 exact ⟨hs.defers,hs.nt,fun n v hv=>hs.env n v (Tq hv),hs.mem,hs.inj,hs.own,hs.ro,hs.old,hs.os,hs.tape,hs.output,hs.size,hs.block,hs.gat,hs.glob,hs.fix,hs.fxn,hs.mp⟩
theorem Gq (ks:List Nat) (e:List (Nat×V)) (m:List (Nat×Ob)):St.dropE ks ⟨e,m⟩=⟨fgt ks e,m⟩:=rfl
theorem Iq {α:Type} (ks:List Nat):fgt ks ([]:List (Nat×α))=[]:=rfl
theorem Gv {α:Type} (ks:List Nat) (n:Nat) (v:α) (r:List (Nat×α)):fgt ks ((n,v)::r)=if ks.contains n=true then fgt ks r else (n,v)::fgt ks r:=rfl
attribute [go_sem] p0h p0i o1d s1r n1a n1e n1f n1d r1o r1q r1p q1d q1f q1e q1g x0x Tx i0l p1h j1q j1y Zq gslot Eff.free p1q r1t t1m Op.operands Call.operands Nat.reduceBneDiff bne_self_eq_false Option.toArray List.append_toArray List.toList_toArray Array.append_empty Array.empty_append
end Go.Sy
namespace Go.Sy
end Go.Sy
namespace Go.Sy
def Told (R:V→List (Nat×Ob)→Prop) (v:V) (m:List (Nat×Ob)):Prop:=
 ∃ v' m',(∀ (B:Base) d y w,B.nt=0→v.den d y→f0i B d m w→∃ d',v'.den d' y∧f0i B d' m' w)∧R v' m'
theorem CtM.told {P:Program} {f:FuncId} {args:List V} {ms:List (Nat×Ob)} {R:V→List (Nat×Ob)→Prop} (h:CtM P f args ms (Told R)):CtM P f args ms R:=by
 intro w d vals hm hargs
 refine (h w d vals hm hargs).mono fun e w' ⟨y,v,d',m',h1,⟨v2,m2,h2,h3⟩,h4,h5⟩=>?_
 obtain ⟨d2,h6,h7⟩:=h2 _ d' y w' rfl h4 h5
 exact ⟨y,v2,d2,m2,h1,h3,h6,h7⟩
theorem Ct.told {P:Program} {f:FuncId} {args:List V} {R:V→List (Nat×Ob)→Prop} (h:Ct P f args (Told R)):Ct P f args R:=by
 intro w d vals hro hg hargs
 refine (h w d vals hro hg hargs).mono fun e w' ⟨y,v,d',m',h1,⟨v2,m2,h2,h3⟩,h4,h5⟩=>?_
 obtain ⟨d2,h6,h7⟩:=h2 _ d' y w' rfl h4 h5
 exact ⟨y,v2,d2,m2,h1,h3,h6,h7⟩
section
variable {R:V→List (Nat×Ob)→Prop} {v v':V} {m m':List (Nat×Ob)}
theorem o0e (hw: ∀ d y,v.den d y→v'.den d y) (h:Told R v' m):Told R v m:=by
 obtain ⟨v2,m2,h1,h2⟩:=h
 exact ⟨v2,m2,fun B d y w hb hv hm=>h1 B d y w hb (hw d y hv) hm,h2⟩
theorem y0e (k:Nat) {b:Rw} (c:List PL) (hk:look m k=some ⟨b,pls c⟩) (hl:k<500000) (h:Told R (a1b k c v) (o0q k c m)):Told R v m:=by
 obtain ⟨v2,m2,h1,h2⟩:=h
 refine ⟨v2,m2,fun B d y w hb hv hm=>?_,h2⟩
 obtain ⟨a,hs⟩:=hm
 exact h1 B _ y w hb (o0p hs hk rfl (Nat.lt_trans hl Tv) hv) ⟨a,hs.sealed hk rfl hl⟩
theorem i0g (h:Tidy R v m):Told R v m:=by
 obtain ⟨g,v2,m2,h1,h2,h3⟩:=h
 subst h1
 exact ⟨v2,m2,fun B d y w hb hv hm=>⟨d.via g,V.den_via hv,hm.tidy h2⟩,h3⟩
end
def a1p :W→Bool
 | .one (.pl _)=>true
 | .one _=>false
 | .agg cs=>cs.all fun l=>match l with
  | .pl _=>true
  |_=>false
def l0p :V→Bool
 | .w x=>a1p x
 | .tup xs=>xs.all a1p
 | .any=>true
theorem p0f {g:Nat→Nat}: ∀ {v:V},l0p v=true→v.ren g=v:=by
 have hl: ∀ cs:List L,(cs.all fun l=>match l with| .pl _=>true|_=>false)=true→cs.map (L.ren g)=cs:=by
  intro cs h
  induction cs with
  |nil=>rfl
  |cons x r ih=>
   simp only [List.all_cons,Bool.and_eq_true] at h
   rw [List.map_cons,ih h.2]
   cases x<;>first|rfl|(cases h.1)
 have hw: ∀ x:W,a1p x=true→x.ren g=x:=by
  intro x h
  cases x with
  |one l=>cases l<;>first|rfl|(cases h)
  |agg cs=>simp only [W.ren];rw [hl cs h]
 intro v h
 cases v with
 |w x=>simp only [V.ren];rw [hw x h]
 |tup xs=>
  simp only [V.ren]
  congr 1
  simp only [l0p,List.all_eq_true] at h
  induction xs with
  |nil=>rfl
  |cons x r ih=>rw [List.map_cons,hw x (h x (by simp)),ih fun y hy=>h y (by simp [hy])]
 |any=>rfl
theorem told_plain {R:V→List (Nat×Ob)→Prop} {v:V} {m:List (Nat×Ob)} (hp:l0p v=true) (h:R v []):Told R v m:=
 i0g ⟨fun k=>k,v,[],(p0f hp).symm,.empty,h⟩
end Go.Sy
namespace Go.Sy
end Go.Sy
namespace Go.Sy
theorem m1e (g:Nat→Nat) (c:List PL):(pls c).map (L.ren g)=pls c:=by simp [pls,L.ren,Function.comp_def]
theorem L.ren_id (l:L):l.ren (fun k=>k)=l:=by cases l<;>simp [L.ren]
theorem k0w {m m2:List (Nat×Ob)} (h: ∀ k o,look m2 k=some o→look m k=some o):Within (fun k=>k) m2 m:=
 ⟨fun k o hk=>by rw [h k o hk];congr 1;cases o;simp only [Ob.mk.injEq,true_and];exact (List.map_id'' L.ren_id _).symm,fun _ _ _ _ h=>h,fun _ h=>h,fun _ _=>rfl⟩
theorem Uy {R:V→List (Nat×Ob)→Prop} {v:V} {m m2:List (Nat×Ob)} (hp:l0p v=true) (hm: ∀ k o,look m2 k=some o→look m k=some o) (h:R v m2):Told R v m:=
 i0g ⟨fun k=>k,v,m2,(p0f hp).symm,k0w hm,h⟩
theorem a0c {m:List (Nat×Ob)} {j:Nat} {o0:Ob} (h:look m j=some o0): ∀ k o,look [(j,o0)] k=some o→look m k=some o:=by
 intro k o hk
 simp only [look] at hk
 split at hk
 ·rename_i e;cases hk;rw [e];exact h
 ·cases hk
section
variable {P:Program} {B:Base} {ds:List (Option Tmp)} {r:List Oper} {S:St} {K:St→Prop}
theorem u1n (j:Nat) (o:Oper):Fx (some true) j true P B ds o r S K=Bq P B ds (⟨o.dst,o.op,o.type,o.pos,o.after,none⟩::r) (m0w S ds j true) K:=by rw [Yw];simp
theorem u1q (j:Nat) (o:Oper):Fx (some false) j false P B ds o r S K=Bq P B ds (⟨o.dst,o.op,o.type,o.pos,o.after,none⟩::r) (m0w S ds j false) K:=by rw [Yw];simp
theorem u1o (j:Nat) (o:Oper):Fx (some true) j false P B ds o r S K=Wv ((m0w S ds j true).put B.nt o.dst (.tup [])) P B ds r K:=by rw [Yw];simp
theorem u1p (j:Nat) (o:Oper):Fx (some false) j true P B ds o r S K=Wv ((m0w S ds j false).put B.nt o.dst (.tup [])) P B ds r K:=by rw [Yw];simp
end
section
variable {P:Program} {nt:Nat} {names:List Nat} {ds:List (Option Tmp)} {keep:Bool} {o:Oper} {N:List Nat} {D:List Da} {S:St} {k:List Nat→List Da→St→Prop}
theorem u1w (j:Nat):onG P nt names ds keep o (j,true) N D S k (some true)=onO P nt names ds keep o N D S k:=by rw [a1l];simp
theorem u1x (j:Nat):onG P nt names ds keep o (j,true) N D S k (some false)=(h0h nt o.dst∧k N (D++bif keep then [⟨.val (.tup []),(gslot ds o).filterMap S.get,[]⟩] else []) ((Eff.val (.tup [])).on o.dst S)):=by rw [a1l];simp
end
attribute [go_sem high] u1n u1q u1o u1p u1w u1x
attribute [go_sem] g0k
end Go.Sy
namespace Go.Sy
section
variable {k j:Nat} {c:List PL}
end
end Go.Sy
namespace Go.Sy
section
variable {H:Type} {enc:TypeId×Value→H} {P:Program} {w w2:World} {base:Nat} {spare:Nat→Bool} {held:Bool}
end
end Go.Sy
namespace Go.Sy
section
variable {P:Program}
end
end Go.Sy
namespace Go.Sy
section
variable {H:Type} {enc:TypeId×Value→H} {P:Program}
end
end Go.Sy
namespace Go.Sy
section
variable {P:Program} {B:Base} {S:St} {Q:Exit→St→Prop}
theorem Ck {c:Code} (h: ∀ Z:Exit→St→Prop,(∀ e S',Q e S'→Z e S')→HT P B c S Z):HT P B c S Q:=h Q fun _ _ h=>h
theorem Dw {id:Nat} {l:List Oper} {y:Code} (h: ∀ K:St→Prop,(∀ S',HT P B y S' Q→K S')→Bq P B (c0v l) l S K):HT P B (.seq (.region id l.toArray false) y) S Q:=
 Bj fun N M hN hM=>Aq fun K hK=>h K fun S' hy=>hK S' (hN S' hy)
theorem a0m {id:Nat} {l:List Oper} {y:Code} (names c:List Nat) (need:List (Nat×Nat)) (hm:P.follows .mixedOrders=true) (hst:j0r (c0v l) c need l=true)
  (hn:names.all (fun k=>fresh k S&&(look S.mem k).isNone)=true)
  (h: ∀ K:St→List Da→Prop,(∀ S' D,s0n l D need→HT P B y S' Q→K S' D)→Tk P B.nt names (c0v l) (!need.isEmpty) l [] [] S K):HT P B (.seq (.region id l.toArray true) y) S Q:=
 Bj fun N M hN hM=>k1t names c need hm hst hn fun K hK=>h K fun S' D hd hy=>hK S' D hd (hN S' hy)
theorem Aj {c:Operand} {x y:Code} (hc:S.get c=some (.w (.one (.pl (.b true))))) (h:HT P B x S Q):HT P B (.cond c x y) S Q:=k1v hc (fun _=>h) (fun e=>by cases e)
theorem Av {c:Operand} {x y:Code} (hc:S.get c=some (.w (.one (.pl (.b false))))) (h:HT P B y S Q):HT P B (.cond c x y) S Q:=k1v hc (fun e=>by cases e) (fun _=>h)
end
end Go.Sy
namespace Go.Sy
section
variable {P:Program}
end
end Go.Sy
namespace Go.Sy
section
variable {P:Program} {B:Base} {Q:Exit→St→Prop} {S:St} {x y:Code}
end
attribute [go_sem] Uk q0h q0j f0c h0i Nw h0d Oj Gy Mv Yq Kj Jw c0o Nq okN a0r inv Nj Mk nameOut Ob.ren V.ren W.ren L.ren Qk
end Go.Sy
namespace Go.Sy
def CH (vw:Bool) (hd:Hand) (P:Program) (f:FuncId) (args:List V) (m:List (Nat×Ob)) (R:V→List (Nat×Ob)→Prop):Prop:=CtM P f args m R
def CF (caps:List Nat) (vw:Bool) (hd:Hand):Prop:=True
theorem Ct.cv {P:Program} {f:FuncId} {args:List V} {T:V→Prop} (h:Ct P f args fun v _=>T v):Ct P f args fun v m=>T v∧m=[]:=h.plain fun _ _ h=>h
theorem CtM.ch {P:Program} {f:FuncId} {args:List V} {m:List (Nat×Ob)} {R:V→List (Nat×Ob)→Prop} (hd:Hand) (h:CtM P f args m R) (vw:Bool:=false):CH vw hd P f args m R:=h
theorem CF.mk (caps:List Nat) (hd:Hand) (vw:Bool:=false):CF caps vw hd:=trivial
section
variable {P:Program} {B:Base} {S:St} {K:St→Prop} {dst:Option Tmp} {ty:TypeId} {pos:String} {af:Array Edge} {f:FuncId} {args:List Operand} {ts:Array TypeId} {ds:List (Option Tmp)} {r:List Oper} {vs:List V} {m:List (Nat×Ob)} {R:V→List (Nat×Ob)→Prop}
theorem a0q (hgo: ∀ vals w,(callFunc f vals).run P w=.ok (.enter f vals) w) (hargs:Nk S args=some vs) (hc:Ct P f vs R) (hK: ∀ v m,R v m→b0e m v=true∧Vx (fun k=>k) S.env m S.mem=true∧(match dst with
   |some n=>n<B.nt∧Bq P B ds r ⟨(n,v.ren (fun k=>k))::S.env,adopt (fun k=>k) m S.mem⟩ K
   |none=>Bq P B ds r ⟨S.env,adopt (fun k=>k) m S.mem⟩ K)):
  Ey P B ⟨dst,.call ⟨.value (.func f),args.toArray,ts⟩,ty,pos,af,none⟩ S ds r K:=Cz (fun k=>k) hgo hargs hc hK
theorem k0d {vw:Bool} {hd:Hand} (hgo: ∀ vals w,(callFunc f vals).run P w=.ok (.enter f vals) w) (hargs:Nw vw S hd args=some vs) (hok:g1u hd=true) (hm:Kj S hd m) (hc:CH vw hd P f vs m R)
  (hK: ∀ v m',R v m'→Jw vw m' v=true∧a0r vw (fun k=>k) hd S m m' m'∧hd.all (fun x=>(look m' x.1).isSome)=true∧(match dst with
   |some n=>n<B.nt∧Bq P B ds r ⟨(n,v.ren (Mk (fun k=>k) hd))::S.env,Nj (fun k=>k) hd m' S.mem⟩ K
   |none=>Bq P B ds r ⟨S.env,Nj (fun k=>k) hd m' S.mem⟩ K)):
  Ey P B ⟨dst,.call ⟨.value (.func f),args.toArray,ts⟩,ty,pos,af,none⟩ S ds r K:=Sw vw hd (fun k=>k) hgo hargs hok hm hc hK
theorem k0e {vw:Bool} {hd:Hand} {t:Tmp} {caps ks:List Nat} (hfn:S.get (.tmp t)=some (.w (.one (.fn f caps)))) (hcaps:Yq hd caps=some ks) (hgo: ∀ vals w,(callFunc f vals).run P w=.ok (.enter f vals) w) (hargs:Nw vw S hd args=some vs) (hok:g1u hd=true) (hm:Kj S hd m) (hx:CF caps vw hd) (hc:CtM P f (vs++ks.map fun k=>.w (.one (.p k []))) m R)
  (hK: ∀ v m',R v m'→Jw vw m' v=true∧a0r vw (fun k=>k) hd S m m' m'∧hd.all (fun x=>(look m' x.1).isSome)=true∧(match dst with
   |some n=>n<B.nt∧Bq P B ds r ⟨(n,v.ren (Mk (fun k=>k) hd))::S.env,Nj (fun k=>k) hd m' S.mem⟩ K
   |none=>Bq P B ds r ⟨S.env,Nj (fun k=>k) hd m' S.mem⟩ K)):
  Ey P B ⟨dst,.call ⟨.value (.tmp t),args.toArray,ts⟩,ty,pos,af,none⟩ S ds r K:=Jq vw hd (fun k=>k) hfn hcaps hgo hargs hok hm hc hK
end
section
variable {P:Program} {B:Base} {c:Code} {S:St} {Q:Exit→St→Prop}
theorem HT.w (h : HT P B c S Q := by
    repeat (first
      | refine zhK _ ?_
      | (refine zhN _ ?_; clear zhN zhM)
      | (refine zhM _ _ ?_; clear zhN zhM)
      | (refine zbn _ ?_; clear zbn zbx zbr zbi)
      | (refine zbx _ ?_; clear zbn zbx zbr zbi)
      | (refine zbr _ ?_; clear zbn zbx zbr zbi)
      | (refine zbi _ _ ?_ ?_; focus (decide); clear zbn zbx zbr zbi)
      | (refine zhZ _ _ ?_; (try simp only [go_sem, F0]); (all_goals (first | rfl | exact ⟨rfl, rfl⟩ | exact told_plain rfl ⟨rfl, rfl⟩ | exact Uy rfl (a0c (by simp [look, F0])) ⟨rfl, rfl⟩ | exact zE | exact zE _ | (rw [zE]; done) | (simp [F0]; done) | exact zE _ (by first | rfl | (simp [look, F0]; done)))))
      | (refine zL _ ?_ ?_; all_goals (simp only [go_sem, leX, List.cons_append, List.nil_append, F0]; try simp))
      | (refine Dw fun zK zhK => ?_; (try simp only [go_sem, F0]); (repeat' (first | apply And.intro | intro _)))
      | (refine Aq fun zK zhK => ?_; (try simp only [go_sem, F0]); (repeat' (first | apply And.intro | intro _)))
      | ((first | (refine a0q (fun _ _ => rfl) ?_ cv0 ?_; focus (first | rfl | (simp only [go_sem, F0] <;> rfl))) | (refine a0q (fun _ _ => rfl) ?_ cv1 ?_; focus (first | rfl | (simp only [go_sem, F0] <;> rfl))) | (refine a0q (fun _ _ => rfl) ?_ cv2 ?_; focus (first | rfl | (simp only [go_sem, F0] <;> rfl))) | (refine a0q (fun _ _ => rfl) ?_ cv3 ?_; focus (first | rfl | (simp only [go_sem, F0] <;> rfl))) | (refine a0q (fun _ _ => rfl) ?_ cv4 ?_; focus (first | rfl | (simp only [go_sem, F0] <;> rfl))) | (refine a0q (fun _ _ => rfl) ?_ cv5 ?_; focus (first | rfl | (simp only [go_sem, F0] <;> rfl))) | (refine a0q (fun _ _ => rfl) ?_ cv6 ?_; focus (first | rfl | (simp only [go_sem, F0] <;> rfl))) | (refine a0q (fun _ _ => rfl) ?_ cv7 ?_; focus (first | rfl | (simp only [go_sem, F0] <;> rfl))) | (refine a0q (fun _ _ => rfl) ?_ cv8 ?_; focus (first | rfl | (simp only [go_sem, F0] <;> rfl))) | (refine a0q (fun _ _ => rfl) ?_ cv9 ?_; focus (first | rfl | (simp only [go_sem, F0] <;> rfl))))
         rintro v m ⟨hR, hm⟩; subst hR; subst hm
         refine And.intro ?_ (And.intro ?_ ?_); iterate 2 (focus (first | rfl | simp only [go_sem, F0]))
         (try simp only [go_sem, F0]); (repeat' (first | apply And.intro | intro _)))
      | ((first | (refine k0d (fun _ _ => rfl) ?_ ?_ ?_ ch0 ?_; iterate 3 (focus (first | rfl | (simp only [go_sem, F0] <;> first | done | rfl | simp)))) | (refine k0d (fun _ _ => rfl) ?_ ?_ ?_ ch1 ?_; iterate 3 (focus (first | rfl | (simp only [go_sem, F0] <;> first | done | rfl | simp)))) | (refine k0d (fun _ _ => rfl) ?_ ?_ ?_ ch2 ?_; iterate 3 (focus (first | rfl | (simp only [go_sem, F0] <;> first | done | rfl | simp)))) | (refine k0d (fun _ _ => rfl) ?_ ?_ ?_ ch3 ?_; iterate 3 (focus (first | rfl | (simp only [go_sem, F0] <;> first | done | rfl | simp)))) | (refine k0d (fun _ _ => rfl) ?_ ?_ ?_ ch4 ?_; iterate 3 (focus (first | rfl | (simp only [go_sem, F0] <;> first | done | rfl | simp)))) | (refine k0d (fun _ _ => rfl) ?_ ?_ ?_ ch5 ?_; iterate 3 (focus (first | rfl | (simp only [go_sem, F0] <;> first | done | rfl | simp)))) | (refine k0d (fun _ _ => rfl) ?_ ?_ ?_ ch6 ?_; iterate 3 (focus (first | rfl | (simp only [go_sem, F0] <;> first | done | rfl | simp)))) | (refine k0e ?_ ?_ (fun _ _ => rfl) ?_ ?_ ?_ cg0 cf0 ?_; iterate 5 (focus (first | rfl | (simp only [go_sem, F0] <;> first | done | rfl | simp)))) | (refine k0e ?_ ?_ (fun _ _ => rfl) ?_ ?_ ?_ cg1 cf1 ?_; iterate 5 (focus (first | rfl | (simp only [go_sem, F0] <;> first | done | rfl | simp)))) | (refine k0e ?_ ?_ (fun _ _ => rfl) ?_ ?_ ?_ cg2 cf2 ?_; iterate 5 (focus (first | rfl | (simp only [go_sem, F0] <;> first | done | rfl | simp)))) | (refine k0e ?_ ?_ (fun _ _ => rfl) ?_ ?_ ?_ cg3 cf3 ?_; iterate 5 (focus (first | rfl | (simp only [go_sem, F0] <;> first | done | rfl | simp)))) | (refine k0e ?_ ?_ (fun _ _ => rfl) ?_ ?_ ?_ cg4 cf4 ?_; iterate 5 (focus (first | rfl | (simp only [go_sem, F0] <;> first | done | rfl | simp)))) | (refine k0e ?_ ?_ (fun _ _ => rfl) ?_ ?_ ?_ cg5 cf5 ?_; iterate 5 (focus (first | rfl | (simp only [go_sem, F0] <;> first | done | rfl | simp)))))
         rintro v m ⟨hR, hm⟩; subst hR; subst hm
         refine And.intro ?_ (And.intro ?_ (And.intro ?_ ?_)); iterate 3 (focus (first | rfl | (simp only [go_sem, F0]; done) | (simp [go_sem, look, F0]; done)))
         (try simp only [go_sem, F0]); (repeat' (first | apply And.intro | intro _)))
      | refine Bj fun zN zM zhN zhM => ?_
      | refine Bw fun zB zbn zbx zbr zbi => ?_
      | refine Bv ?_
      | refine Cq ?_
      | refine Iw ?_
      | (refine Av ?_ ?_; focus (first | rfl | (simp [go_sem, F0]; done)))
      | (refine Aj ?_ ?_; focus (first | rfl | (simp [go_sem, F0]; done))))) : HT P B c S Q := h
end
theorem Ct.w {P:Program} {f:FuncId} {fn:Func} {c:Code} {args:List V} {R:V→List (Nat×Ob)→Prop} {nt:Nat} {rs:Array ResultVar} (hf:P.funcs[f]? =some fn) (hb:fn.body=some c) (hnt:fn.ntmps=nt) (hrs:fn.results=rs)
  (h: ∀ (w0:World) (ro:Ro),HT P ⟨w0,fun _=>False,nt,ro,fun _=>none⟩ c ⟨g0n 0 args,[]⟩ (o1s P rs.toList R):=by intro w0 ro;refine Ck fun zZ zhZ=>?_;exact HT.w) (hn:args.length≤nt:=by simp):Ct P f args R:=
 Ct.k hf hb hnt (congrArg Array.toList hrs) hn h
end Go.Sy
