/- The layer that reckons a function out: what it says of states, operations, regions, loops, calls. CONDITIONS: those that each theorem names. -/
import Derived.WalkKit
import Derived.ProofKit
import Derived.ChangeKeysEq
import Derived.Lib.FrozenHead
import Derived.Deep.AppendSrc
import Derived.MapKept
set_option linter.unusedVariables false
set_option linter.unusedSimpArgs false
namespace Go.Sy
theorem yA {a b:Prop} (x:a) (y:b):a∧b:=⟨x,y⟩
theorem yB:type_of% @List.cons_append:=@List.cons_append
theorem yC:type_of% @List.nil_append:=@List.nil_append
theorem yD:type_of% @Bool.and_eq_true:=@Bool.and_eq_true
theorem yE:type_of% @Bool.false_eq_true:=@Bool.false_eq_true
theorem yF:type_of% @Int.toNat_one:=@Int.toNat_one
theorem yG:type_of% @List.length_append:=@List.length_append
theorem yH:type_of% @List.length_take:=@List.length_take
theorem yI:type_of% @List.contains_cons:=@List.contains_cons
theorem yJ:type_of% @List.all_eq_true:=@List.all_eq_true
theorem yK:type_of% @List.contains_nil:=@List.contains_nil
theorem yL:type_of% @List.map_cons:=@List.map_cons
theorem yM:type_of% @Option.map_eq_some_iff:=@Option.map_eq_some_iff
theorem yN:type_of% @Nat.mod_eq_of_lt:=@Nat.mod_eq_of_lt
theorem yO:type_of% @List.getElem?_eq_getElem:=@List.getElem?_eq_getElem
theorem yP:type_of% @Nat.sub_lt_sub_left:=@Nat.sub_lt_sub_left
theorem yQ:type_of% @Nat.lt_succ_self:=@Nat.lt_succ_self
theorem yR:type_of% @Option.map_some:=@Option.map_some
theorem yS:type_of% @Bool.or_false:=@Bool.or_false
theorem yT:type_of% @Bool.false_or:=@Bool.false_or
theorem yU:type_of% @List.length_drop:=@List.length_drop
theorem yV:type_of% @Bool.or_true:=@Bool.or_true
theorem yX:type_of% @Bool.not_eq_true':=@Bool.not_eq_true'
theorem yY:type_of% @Bool.true_or:=@Bool.true_or
theorem yZ:type_of% @Nat.lt_or_ge:=@Nat.lt_or_ge
theorem xA:type_of% @Nat.zero_le:=@Nat.zero_le
theorem xB:type_of% @Int.mul_zero:=@Int.mul_zero
theorem xC:type_of% @List.any_eq_false:=@List.any_eq_false
theorem xD:type_of% @List.length_cons:=@List.length_cons
theorem xE:type_of% @List.take_of_length_le:=@List.take_of_length_le
theorem xG:type_of% @List.mem_map:=@List.mem_map
theorem xH:type_of% @List.eq_nil_of_length_eq_zero:=@List.eq_nil_of_length_eq_zero
theorem xI:type_of% @Nat.and_two_pow_sub_one_eq_mod:=@Nat.and_two_pow_sub_one_eq_mod
theorem xJ:type_of% @Nat.sub_zero:=@Nat.sub_zero
theorem xK:type_of% @List.mem_cons:=@List.mem_cons
theorem xL:type_of% @Nat.le_refl:=@Nat.le_refl
theorem xM:type_of% @List.drop_eq_getElem_cons:=@List.drop_eq_getElem_cons
theorem xO:type_of% @List.length_map:=@List.length_map
theorem xP:type_of% @Option.isSome_iff_exists:=@Option.isSome_iff_exists
theorem xQ:type_of% @List.map_append:=@List.map_append
theorem xR:type_of% @Nat.le_trans:=@Nat.le_trans
theorem xS:type_of% @UInt64.toNat_inj:=@UInt64.toNat_inj
theorem xU:type_of% @Nat.mul_mul_mul_comm:=@Nat.mul_mul_mul_comm
theorem xV:type_of% @Nat.zero_add:=@Nat.zero_add
theorem xW:type_of% @List.length_nil:=@List.length_nil
theorem xX:type_of% @Nat.not_lt_of_le:=@Nat.not_lt_of_le
theorem xY:type_of% @List.drop_of_length_le:=@List.drop_of_length_le
theorem xZ:type_of% @Array.getD_eq_getD_getElem?:=@Array.getD_eq_getD_getElem?
theorem wC:type_of% @Nat.lt_succ_iff_lt_or_eq:=@Nat.lt_succ_iff_lt_or_eq
theorem wD:type_of% @UInt64.toNat_ofNat':=@UInt64.toNat_ofNat'
theorem wE:type_of% @List.take_succ_cons:=@List.take_succ_cons
theorem wF:type_of% @List.mem_of_getElem?:=@List.mem_of_getElem?
theorem wG:type_of% @Bool.false_and:=@Bool.false_and
theorem wH:type_of% @List.take_zero:=@List.take_zero
theorem wI:type_of% @List.take_succ_eq_append_getElem:=@List.take_succ_eq_append_getElem
theorem wJ:type_of% @Bool.and_false:=@Bool.and_false
theorem wK:type_of% @List.take_length:=@List.take_length
theorem wL:type_of% @List.getElem?_eq_some_iff:=@List.getElem?_eq_some_iff
theorem wM:type_of% @List.append_assoc:=@List.append_assoc
theorem wN:type_of% @Nat.add_mul:=@Nat.add_mul
theorem wO:type_of% @List.drop_drop:=@List.drop_drop
theorem wP:type_of% @Nat.mod_lt:=@Nat.mod_lt
theorem wQ:type_of% @Nat.le_of_lt:=@Nat.le_of_lt
theorem wR:type_of% @List.all_cons:=@List.all_cons
theorem wS:type_of% @List.take_append_drop:=@List.take_append_drop
theorem wT:type_of% @List.replicate_succ:=@List.replicate_succ
theorem wU:type_of% @Array.length_toList:=@Array.length_toList
theorem wV:type_of% @List.flatten_cons:=@List.flatten_cons
theorem wW:type_of% @Array.getElem?_eq_getElem:=@Array.getElem?_eq_getElem
theorem wX:type_of% @List.mem_append:=@List.mem_append
theorem wY:type_of% @List.append_nil:=@List.append_nil
theorem wZ:type_of% @Nat.lt_trans:=@Nat.lt_trans
theorem vB:type_of% @Nat.add_zero:=@Nat.add_zero
theorem vC:type_of% @Bool.not_false:=@Bool.not_false
theorem vD:type_of% @Nat.min_eq_left:=@Nat.min_eq_left
theorem vE:type_of% @UInt64.lt_iff_toNat_lt:=@UInt64.lt_iff_toNat_lt
theorem vF:type_of% @Nat.mul_comm:=@Nat.mul_comm
theorem vG:type_of% @Array.toList_inj:=@Array.toList_inj
theorem vH:type_of% @List.getElem?_map:=@List.getElem?_map
theorem vI:type_of% @List.length_replicate:=@List.length_replicate
theorem vJ:type_of% @UInt8.toNat_inj:=@UInt8.toNat_inj
theorem vK:type_of% @Nat.pow_succ:=@Nat.pow_succ
theorem vL:type_of% @Nat.add_comm:=@Nat.add_comm
theorem vM:type_of% @UInt8.toNat_ofNat':=@UInt8.toNat_ofNat'
theorem vN:type_of% @Nat.mul_assoc:=@Nat.mul_assoc
theorem vO:type_of% @List.map_nil:=@List.map_nil
theorem vP:type_of% @List.getElem?_append_right:=@List.getElem?_append_right
theorem vR:type_of% @List.drop_zero:=@List.drop_zero
theorem vS:type_of% @Nat.mul_le_mul_left:=@Nat.mul_le_mul_left
theorem vT:type_of% @List.getElem?_toArray:=@List.getElem?_toArray
theorem vU:type_of% @UInt64.toNat_mod:=@UInt64.toNat_mod
theorem vV:type_of% @UInt64.toNat_div:=@UInt64.toNat_div
theorem vW:type_of% @Nat.zero_mul:=@Nat.zero_mul
theorem vX:type_of% @List.any_cons:=@List.any_cons
theorem vY:type_of% @Nat.mul_le_mul_right:=@Nat.mul_le_mul_right
theorem vZ:type_of% @Nat.mul_add:=@Nat.mul_add
theorem uD:type_of% @Bool.or_eq_true:=@Bool.or_eq_true
theorem uE:type_of% @Bool.true_and:=@Bool.true_and
theorem uF:type_of% @Nat.mul_right_comm:=@Nat.mul_right_comm
theorem uG:type_of% @List.getElem?_drop:=@List.getElem?_drop
theorem uH:type_of% @Int.tdiv_eq_ediv_of_nonneg:=@Int.tdiv_eq_ediv_of_nonneg
theorem uI:type_of% @List.mem_iff_getElem?:=@List.mem_iff_getElem?
theorem uJ:type_of% @List.set_eq_take_append_cons_drop:=@List.set_eq_take_append_cons_drop
theorem uK:type_of% @List.pairwise_iff_getElem:=@List.pairwise_iff_getElem
theorem uL:type_of% @Nat.pow_le_pow_right:=@Nat.pow_le_pow_right
abbrev Path :=List (Nat×Nat)
def Xj :Path→Nat
 | []=>0
 |x::p=>x.1+Xj p
def win {α:Type} (c:List α) (o n:Nat):List α:=(c.drop o).take n
def rd {α:Type} (c:List α):Path→List α
 | []=>c
 |x::p=>win (rd c p) x.1 x.2
def upd {α:Type} (c:List α) (o n:Nat) (d:List α):List α:=c.take o++d++c.drop (o+n)
def wr {α:Type} (c:List α):Path→List α→List α
 | [],d=>d
 |x::p,d=>wr c p (upd (rd c p) x.1 x.2 d)
def psz (N:Nat):Path→Nat
 | []=>N
 |x::_=>x.2
def pok (N:Nat):Path→Prop
 | []=>True
 |x::p=>pok N p∧x.1+x.2≤psz N p
theorem Yq {α:Type} (c:List α) (o n:Nat) (h:o+n≤c.length):(win c o n).length=n:=by
 simp [win];omega
theorem b2t {α:Type} (c:List α) (o n o' n':Nat) (h:o'+n'≤n):win (win c o n) o' n'=win c (o+o') n':=by
 unfold win
 rw [List.drop_take,List.take_take,wO,vD (by omega)]
theorem j0c {N:Nat}: ∀ {p:Path},pok N p→Xj p+psz N p≤N
 | [],_=>by simp [Xj,psz]
 |x::p,h=>by
   have:=j0c h.1
   have:=h.2
   simp [Xj,psz];omega
theorem i1n {α:Type} (c:List α): ∀ {p:Path},pok c.length p→rd c p=win c (Xj p) (psz c.length p)
 | [],_=>by simp [rd,Xj,psz,win]
 |x::p,h=>by
   rw [rd,i1n c h.1,b2t _ _ _ _ _ h.2]
   simp [Xj,psz,vL]
theorem c0r {α:Type} (c:List α) {p:Path} (h:pok c.length p):(rd c p).length=psz c.length p:=by
 rw [i1n c h];exact Yq _ _ _ (j0c h)
theorem b2w {α:Type} (c d:List α) (o n o' n':Nat) (h:o+n≤c.length) (h':o'+n'≤n):
 upd c o n (upd (win c o n) o' n' d)=upd c (o+o') n' d:=by
 unfold upd win
 have e1:c.take o++((c.drop o).take n).take o'=c.take (o+o'):=by
  rw [List.take_take,vD (by omega),List.take_add]
 have e2:((c.drop o).take n).drop (o'+n')++c.drop (o+n)=c.drop (o+o'+n'):=by
  rw [List.drop_take,wO]
  have:c.drop (o+n)=(c.drop (o+(o'+n'))).drop (n-(o'+n')):=by rw [wO];congr 1;omega
  rw [this,wS];congr 1;omega
 rw [←e1,←e2]
 simp [wM]
theorem t1u {α:Type} (c d:List α): ∀ {p:Path},pok c.length p→d.length=psz c.length p→wr c p d=upd c (Xj p) (psz c.length p) d
 | [],_,h=>by simp [wr,upd,Xj,psz]
 |x::p,h,hd=>by
   have hp:=j0c h.1
   have h2:=h.2
   have hx:d.length=x.2:=by simpa [psz] using hd
   have hl:(upd (rd c p) x.1 x.2 d).length=psz c.length p:=by
    have:=c0r c h.1
    simp [upd,this,hx];omega
   rw [wr,t1u c _ h.1 hl,i1n c h.1,b2w _ _ _ _ _ _ hp h2]
   simp [Xj,psz,vL]
inductive PL where
 |u8 (x:UInt8)
 |u32 (x:UInt32)
 |u64 (x:UInt64)
 |i (n:Int)
 |b (x:Bool)
 |str (s:List UInt8)
 |val (x:Value)
 |R (ex:Bool) (sz:Nat) (rows:List (List PL))
 |q (cells:List PL) (path:Path)
 |u
inductive L where
 |pl (x:PL)
 |p (k:Nat) (path:Path)
 |s (k:Nat) (path:Path) (len sz:Nat)
 |fn (f:Nat) (caps:List Nat)
inductive W where
 |one (l:L)
 |agg (cs:List L)
inductive V where
 |w (x:W)
 |tup (xs:List W)
 |any
def Scalar (y:Value):Prop:=(∀ cs,y≠.agg cs)∧∀ vs,y≠.tuple vs
abbrev Ro :=Nat→Nat→Option Value
mutual
def PL.den (ro:Ro):PL→Value→Prop
 | .u8 x,y=>y=.int .u8 x.toNat
 | .u32 x,y=>y=.int .u32 x.toNat
 | .u64 x,y=>y=.int .u64 x.toNat
 | .i n,y=>y=.int .i64 n
 | .b x,y=>y=.bool x
 | .str s,y=>y=.string ⟨s.toArray⟩∧s.length≤maxLen
 | .val x,y=>y=x∧Scalar x
 | .R ex sz rows,y=>(y=.slice none 0 0∧rows=[])∨
    (∃ blk off cap,y=.slice (some ⟨blk,off,none⟩) rows.length cap∧rows.length≤cap∧cap≤maxLen∧(ex=true→cap=rows.length)∧PL.denRows ro blk sz rows off)∨
    ∃ a cap,y=.slice (some a) 0 cap∧rows=[]∧cap≤maxLen∧(ex=true→cap=0)
 | .q cells path,y=>∃ blk off,y=.pointer (some ⟨blk,off+Xj path,none⟩)∧PL.denAt ro blk cells off
 | .u,y=>Scalar y
def PL.denAt (ro:Ro) (blk:Nat):List PL→Nat→Prop
 | [],_=>True
 |c::cs,off=>(∃ y,ro blk off=some y∧PL.den ro c y)∧PL.denAt ro blk cs (off+1)
def PL.denRows (ro:Ro) (blk sz:Nat):List (List PL)→Nat→Prop
 | [],_=>True
 |r::rs,off=>r.length=sz∧PL.denAt ro blk r off∧PL.denRows ro blk sz rs (off+sz)
end
structure Va where
 at_:Nat→Nat
 size:Nat→Nat
 ro:Ro
def L.den (d:Va):L→Value→Prop
 | .pl x,y=>x.den d.ro y
 | .p k path,y=>y=.pointer (some ⟨d.at_ k,Xj path,none⟩)
 | .s k path len sz,y=>∃ o cap,y=.slice (some ⟨d.at_ k,o,none⟩) len cap∧len≤cap∧cap≤maxLen∧(cap=0∨o=Xj path)∧o+cap*sz≤d.size k
 | .fn f caps,y=>y=.func (.func f) #[] (caps.map fun k=>Value.pointer (some ⟨d.at_ k,0,none⟩)).toArray
inductive Fv {α β:Type} (R:α→β→Prop):List α→List β→Prop
 |nil:Fv R [] []
 |cons {a:α} {b:β} {l:List α} {m:List β}:R a b→Fv R l m→Fv R (a::l) (b::m)
def W.den (d:Va):W→Value→Prop
 | .one l,y=>l.den d y
 | .agg cs,y=>∃ vs:Array Value,y=.agg vs∧Fv (L.den d) cs vs.toList
def V.den (d:Va):V→Value→Prop
 | .w x,y=>x.den d y
 | .tup xs,y=>∃ vs:Array Value,y=.tuple vs∧Fv (W.den d) xs vs.toList
 | .any,_=>True
end Go.Sy
namespace Go.Sy
def look {α:Type}:List (Nat×α)→Nat→Option α
 | [],_=>none
 |x::r,n=>if n=x.1 then some x.2 else look r n
inductive Rw where
 |b (x:Bool)
 |m (l:List (List UInt8×Int))
 deriving DecidableEq
instance : Coe Bool Rw:=⟨.b⟩
structure Ob where
 row:Rw
 cells:List L
structure St where
 env:List (Nat×V)
 mem:List (Nat×Ob)
structure Base where
 w0:World
 may:Nat→Prop
 nt:Nat
 ro:Ro
 fx:Nat→Option (Nat×Nat)
abbrev gl0 :Nat:=1000000
abbrev px0 :Nat:=500000
abbrev mp0 :Nat:=2000000
def Xw :Nat→List (List UInt8×Int)→List MapEntry
 |_,[]=>[]
 |i,x::r=>⟨.string ⟨x.1.toArray⟩,.int .i64 x.2,i⟩::Xw (i+1) r
def MapAt (w:World) (b:Nat) (l:List (List UInt8×Int)):Prop:=w.heap[b]? =some (.map (Xw 0 l).toArray l.length)
theorem MapAt.lt {w:World} {b:Nat} {l:List (List UInt8×Int)} (h:MapAt w b l):b<w.heap.size:=(Array.getElem?_eq_some_iff.1 h).1
theorem MapAt.of {w w':World} {b:Nat} {l:List (List UInt8×Int)} (h:MapAt w b l) (e:w'.heap[b]? =w.heap[b]?):MapAt w' b l:=e.trans h
structure Sim (B:Base) (d:Va) (S:St) (a:Act) (w:World):Prop where
 defers:a.defers=[]
 nt:a.tmps.size=B.nt
 env: ∀ n v,look S.env n=some v→∃ y,a.tmps[n]? =some y∧V.den d v y
 mem: ∀ k o,look S.mem k=some o→k<gl0→∃ (vals spare:List Value) (ty:TypeId) (fr:Nat×Nat),w.heap[d.at_ k]? =some (.cells (vals++spare).toArray ty fr)∧(fr=(0,0)∨(vals++spare).length≤fr.1)∧Fv (L.den d) o.cells vals∧(o.row=false→spare=[])∧(vals++spare).length=d.size k
 inj: ∀ k k',(look S.mem k).isSome=true→(look S.mem k').isSome=true→k<gl0→k'<gl0→d.at_ k=d.at_ k'→k=k'
 own: ∀ k,(look S.mem k).isSome=true→k<gl0→(∀ o,d.ro (d.at_ k) o=none)∧(B.w0.heap.size≤d.at_ k∨(px0≤k∧B.may (d.at_ k)))
 ro: ∀ b o y,d.ro b o=some y→w.cell? ⟨b,o,none⟩=some y
 old: ∀ b o y,d.ro b o=some y→b<B.w0.heap.size→B.ro b o=some y
 os:w.os=B.w0.os
 tape:w.tape=B.w0.tape
 output:w.output=B.w0.output
 size:B.w0.heap.size≤w.heap.size
 block: ∀ b,b<B.w0.heap.size→¬B.may b→w.heap[b]? =B.w0.heap[b]?
 gat: ∀ k,gl0≤k→d.at_ k=k-gl0
 glob: ∀ k o,look S.mem k=some o→gl0≤k→(∃ l,o=⟨.m l,[]⟩)∨(d.size k=o.cells.length∧∃ cs:List PL,o.cells=cs.map L.pl∧PL.denAt d.ro (k-gl0) cs 0)
 fix: ∀ k o p,look S.mem k=some o→B.fx k=some p→k<gl0→(k<750000→d.at_ k=p.1∧d.size k=p.2)∧(d.at_ k=p.1∨B.w0.heap.size≤d.at_ k)
 fxn: ∀ k p,B.fx k=some p→px0≤k
 mp: ∀ b l,look S.mem (mp0+b)=some ⟨.m l,[]⟩→MapAt w b l
theorem Fv.length {α β:Type} {R:α→β→Prop} {l:List α} {m:List β} (h:Fv R l m):l.length=m.length:=by
 induction h with
 |nil=>rfl
 |cons _ _ ih=>simp [ih]
theorem Fv.get {α β:Type} {R:α→β→Prop} {l:List α} {m:List β} (h:Fv R l m): ∀ {i:Nat} {x:α},l[i]? =some x→∃ y,m[i]? =some y∧R x y:=by
 induction h with
 |nil=>intro i x hx;simp at hx
 |cons hr _ ih=>
   intro i x hx
   cases i with
   |zero=>simp at hx;subst hx;exact ⟨_,rfl,hr⟩
   |succ i=>simpa using ih (by simpa using hx)
theorem Fv.drop {α β:Type} {R:α→β→Prop} {l:List α} {m:List β} (h:Fv R l m): ∀ n,Fv R (l.drop n) (m.drop n):=by
 induction h with
 |nil=>intro n;simpa using Fv.nil
 |cons hr hs ih=>
   intro n
   cases n with
   |zero=>exact .cons hr hs
   |succ n=>simpa using ih n
theorem Fv.take {α β:Type} {R:α→β→Prop} {l:List α} {m:List β} (h:Fv R l m): ∀ n,Fv R (l.take n) (m.take n):=by
 induction h with
 |nil=>intro n;simpa using Fv.nil
 |cons hr hs ih=>
   intro n
   cases n with
   |zero=>exact .nil
   |succ n=>simpa using .cons hr (ih n)
theorem Fv.append {α β:Type} {R:α→β→Prop} {l l':List α} {m m':List β} (h:Fv R l m) (h':Fv R l' m'):Fv R (l++l') (m++m'):=by
 induction h with
 |nil=>exact h'
 |cons hr _ ih=>exact .cons hr ih
theorem Fv.win {α β:Type} {R:α→β→Prop} {l:List α} {m:List β} (h:Fv R l m) (o n:Nat):Fv R (win l o n) (win m o n):=(h.drop o).take n
theorem Fv.upd {α β:Type} {R:α→β→Prop} {l d:List α} {m e:List β} (h:Fv R l m) (h':Fv R d e) (o n:Nat):Fv R (upd l o n d) (upd m o n e):=
 ((h.take o).append h').append (h.drop (o+n))
theorem Fv.mono {α β:Type} {R R':α→β→Prop} {l:List α} {m:List β} (h:Fv R l m) (hr: ∀ x y,x∈l→R x y→R' x y):Fv R' l m:=by
 induction h with
 |nil=>exact .nil
 |cons h1 _ ih=>exact .cons (hr _ _ (by simp) h1) (ih fun x y hx=>hr x y (by simp [hx]))
theorem L.den_scalar {d:Va} {l:L} {y:Value} (h:l.den d y):Scalar y:=by
 cases l with
 |pl x=>
   cases x with
   |str s=>simp only [L.den,PL.den] at h;rw [h.1];exact ⟨fun _=>nofun,fun _=>nofun⟩
   |val x=>simp only [L.den,PL.den] at h;rw [h.1];exact h.2
   |R ex sz rows=>
     simp only [L.den,PL.den] at h
     rcases h with ⟨h,_⟩|⟨_,_,_,h,_⟩|⟨_,_,h,_⟩<;>(rw [h];exact ⟨fun _=>nofun,fun _=>nofun⟩)
   |q c p=>simp only [L.den,PL.den] at h;obtain ⟨_,_,h,_⟩:=h;rw [h];exact ⟨fun _=>nofun,fun _=>nofun⟩
   |u=>simpa only [L.den,PL.den] using h
   |_=>simp only [L.den,PL.den] at h;rw [h];exact ⟨fun _=>nofun,fun _=>nofun⟩
 |p k path=>simp only [L.den] at h;rw [h];exact ⟨fun _=>nofun,fun _=>nofun⟩
 |s k path len sz=>simp only [L.den] at h;obtain ⟨_,_,h,_⟩:=h;rw [h];exact ⟨fun _=>nofun,fun _=>nofun⟩
 |fn f caps=>simp only [L.den] at h;rw [h];exact ⟨fun _=>nofun,fun _=>nofun⟩
theorem Scalar.cells {y:Value} (h:Scalar y):y.cells= #[y]:=by
 cases y<;>first|rfl|exact absurd rfl (h.1 _)
def W.cells :W→List L
 | .one l=>[l]
 | .agg cs=>cs
theorem W.den_cells {d:Va} {x:W} {y:Value} (h:x.den d y):Fv (L.den d) x.cells y.cells.toList:=by
 cases x with
 |one l=>
   have:=(L.den_scalar h).cells
   rw [this]
   exact .cons h .nil
 |agg cs=>
   obtain ⟨vs,rfl,h⟩:=h
   exact h
def i0q :Value→Option L
 | .int k n=>match k with
   | .u8=>if 0≤n∧n<256 then some (.pl (.u8 (UInt8.ofNat n.toNat))) else none
   | .u32=>if 0≤n∧n<4294967296 then some (.pl (.u32 (UInt32.ofNat n.toNat))) else none
   | .u64=>if 0≤n∧n<18446744073709551616 then some (.pl (.u64 (UInt64.ofNat n.toNat))) else none
   | .i64=>some (.pl (.i n))
   |_=>none
 | .bool x=>some (.pl (.b x))
 | .string s=>if s.size≤65536 then some (.pl (.str s.data.toList)) else none
 | .slice a n c=>if a=none∧n=0∧c=0 then some (.pl (.R true 1 [])) else none
 | .func f a b=>match f with
   | .func f=>if a.isEmpty&&b.isEmpty then some (.fn f []) else none
   |_=>none
 | .nilFunc=>some (.pl (.val .nilFunc))
 | .pointer a=>if a=none then some (.pl (.val (.pointer none))) else none
 | .map a=>if a=none then some (.pl (.val (.map none))) else none
 |_=>none
theorem x0o :65536≤maxLen:=by decide
theorem g1r {d : Va} {c : Value} {x : L} (h : i0q c = some x) : x.den d c := by
  cases c with
  | int k n =>
    simp only [i0q] at h
    cases k <;> simp only at h <;> first
      | (cases h; done)
      | (cases h; rfl)
      | (split at h <;> first
          | (cases h; done)
          | (cases h; simp only [L.den, PL.den]; congr 1
             first | (simp [vM]; omega) | (simp [UInt32.toNat_ofNat']; omega) | (simp [wD]; omega)))
  | bool b => simp only [i0q, Option.some.injEq] at h; subst h; simp only [L.den, PL.den]
  | string s =>
    simp only [i0q] at h
    split at h
    · simp only [Option.some.injEq] at h; subst h
      rw [L.den, PL.den]
      refine ⟨by simp, ?_⟩
      have : s.data.toList.length = s.size := wU
      rw [this]; exact xR (by assumption) x0o
    · cases h
  | slice a n c =>
    simp only [i0q] at h
    split at h
    · rename_i hc; obtain ⟨rfl, rfl, rfl⟩ := hc
      simp only [Option.some.injEq] at h; subst h
      rw [L.den, PL.den]; left; exact ⟨rfl, rfl⟩
    · cases h
  | func f a b =>
    simp only [i0q] at h
    cases f <;> simp only at h <;> try (cases h; done)
    split at h
    · rename_i hc
      simp only [yD, Array.isEmpty_iff] at hc
      obtain ⟨rfl, rfl⟩ := hc
      simp only [Option.some.injEq] at h; subst h
      simp [L.den]
    · cases h
  | nilFunc => simp only [i0q, Option.some.injEq] at h; subst h; simp only [L.den, PL.den]; first | exact ⟨rfl, fun _ => nofun, fun _ => nofun⟩ | exact ⟨trivial, fun _ => nofun, fun _ => nofun⟩
  | pointer a =>
    simp only [i0q] at h
    split at h
    · rename_i hc; subst hc
      simp only [Option.some.injEq] at h; subst h
      simp only [L.den, PL.den]; first | exact ⟨rfl, fun _ => nofun, fun _ => nofun⟩ | exact ⟨trivial, fun _ => nofun, fun _ => nofun⟩
    · cases h
  | map a =>
    simp only [i0q] at h
    split at h
    · rename_i hc; subst hc
      simp only [Option.some.injEq] at h; subst h
      simp only [L.den, PL.den]; first | exact ⟨rfl, fun _ => nofun, fun _ => nofun⟩ | exact ⟨trivial, fun _ => nofun, fun _ => nofun⟩
    · cases h
  | _ => simp [i0q] at h
def Tz :List Value→Option (List L)
 | []=>some []
 |c::cs=>match i0q c,Tz cs with
   |some x,some xs=>some (x::xs)
   |_,_=>none
theorem b0j {d:Va}: ∀ {cs:List Value} {xs:List L},Tz cs=some xs→Fv (L.den d) xs cs
 | [],xs,h=>by simp only [Tz,Option.some.injEq] at h;subst h;exact .nil
 |c::cs,xs,h=>by
   simp only [Tz] at h
   cases h1:i0q c with
   |none=>simp [h1] at h
   |some x=>
     cases h2:Tz cs with
     |none=>simp [h1,h2] at h
     |some ys=>simp only [h1,h2,Option.some.injEq] at h;subst h;exact .cons (g1r h1) (b0j h2)
def lit :Value→Option W
 | .agg cs=>(Tz cs.toList).map .agg
 |c=>(i0q c).map .one
theorem f2n {d:Va} {c:Value} {x:W} (h:lit c=some x):x.den d c:=by
 unfold lit at h
 split at h
 ·rename_i cs
  cases h2:Tz cs.toList with
  |none=>simp [h2] at h
  |some ys=>simp only [h2,yR,Option.some.injEq] at h;subst h;exact ⟨cs,rfl,b0j h2⟩
 cases h2:i0q c with
 |none=>simp [h2] at h
 |some ys=>simp only [h2,yR,Option.some.injEq] at h;subst h;exact g1r h2
def St.get (S:St):Operand→Option V
 | .tmp t=>look S.env t
 | .const c=>(lit c).map .w
 | .func f=>some (.w (.one (.fn f [])))
 | .global g=>some (.w (.one (.p (gl0+g) [])))
theorem Sim.get {B:Base} {d:Va} {S:St} {a:Act} {w:World} (h:Sim B d S a w) {x:Operand} {v:V} (hv:S.get x=some v):v.den d (a.eval x):=by
 cases x with
 |tmp t=>
   obtain ⟨y,hy,hd⟩:=h.env t v hv
   have:a.eval (.tmp t)=y:=by simp [Act.eval,xZ,hy]
   rw [this];exact hd
 |const c=>
   simp only [St.get] at hv
   cases hl:lit c with
   |none=>simp [hl] at hv
   |some x=>simp only [hl,yR,Option.some.injEq] at hv;subst hv;exact f2n hl
 |func f=>
   simp only [St.get,Option.some.injEq] at hv;subst hv
   show W.den d (.one (.fn f [])) _
   simp [W.den,L.den,Act.eval]
 |global g=>
   simp only [St.get,Option.some.injEq] at hv;subst hv
   show Act.eval a (.global g)=_
   simp only [Act.eval,Xj]
   rw [h.gat _ (Nat.le_add_right _ _)]
   simp
end Go.Sy
namespace Go.Sy
open Go.RowKit (wrap64)
def r2y (x:UInt8) (c:Nat):UInt8:=UInt8.ofNat (x.toNat*2 ^ c)
def Rx (x:UInt32) (c:Nat):UInt32:=UInt32.ofNat (x.toNat*2 ^ c)
def Dy (x:UInt64) (c:Nat):UInt64:=UInt64.ofNat (x.toNat*2 ^ c)
def t1p (x:UInt8) (c:Nat):UInt8:=UInt8.ofNat (x.toNat/2 ^ c)
def a0u (x:UInt32) (c:Nat):UInt32:=UInt32.ofNat (x.toNat/2 ^ c)
def Iw (x:UInt64) (c:Nat):UInt64:=UInt64.ofNat (x.toNat/2 ^ c)
def s2k (x:Int) (c:Nat):Int:=wrap64 (x*2 ^ (min c 64))
def r0x (x:Int) (c:Nat):Int:=x.fdiv (2 ^ (min c 64))
def j2c (x y:Int):Int:=wrap64 ((BitVec.ofInt 64 x&&&BitVec.ofInt 64 y).toNat)
def ior (x y:Int):Int:=wrap64 ((BitVec.ofInt 64 x|||BitVec.ofInt 64 y).toNat)
def p2p (x y:Int):Int:=wrap64 ((BitVec.ofInt 64 x^^^BitVec.ofInt 64 y).toNat)
def q1e (x y:Int):Int:=wrap64 ((BitVec.ofInt 64 x&&&~~~ BitVec.ofInt 64 y).toNat)
def PL.num :PL→Option Int
 | .u8 x=>some x.toNat
 | .u32 x=>some x.toNat
 | .u64 x=>some x.toNat
 | .i n=>some n
 |_=>none
def PL.kind :PL→IntKind
 | .u8 _=>.u8
 | .u32 _=>.u32
 | .u64 _=>.u64
 |_=>.i64
theorem PL.num_den {ro:Ro} {x:PL} {n:Int} {y:Value} (h:x.num=some n) (hd:x.den ro y):y=.int x.kind n:=by
 cases x<;>simp only [PL.num,Option.some.injEq] at h<;>first
  |(cases h;done)
  |(subst h;rw [PL.den] at hd;rw [hd];rfl)
def a0i (op:BinOp) (x:PL) (c:Int):Option PL:=
 if 0≤c then
  match op,x with
  | .shl,.u8 x=>some (.u8 (r2y x c.toNat))
  | .shl,.u32 x=>some (.u32 (Rx x c.toNat))
  | .shl,.u64 x=>some (.u64 (Dy x c.toNat))
  | .shl,.i x=>some (.i (s2k x c.toNat))
  | .shr,.u8 x=>some (.u8 (t1p x c.toNat))
  | .shr,.u32 x=>some (.u32 (a0u x c.toNat))
  | .shr,.u64 x=>some (.u64 (Iw x c.toNat))
  | .shr,.i x=>some (.i (r0x x c.toNat))
  |_,_=>none
 else none
theorem wrap_u8 (n:Int):IntKind.u8.wrap n=n%256:=by simp [IntKind.wrap,IntKind.bits,IntKind.signed]
theorem wrap_u32 (n:Int):IntKind.u32.wrap n=n%4294967296:=by simp [IntKind.wrap,IntKind.bits,IntKind.signed]
theorem wrap_u64 (n:Int):IntKind.u64.wrap n=n%18446744073709551616:=by simp [IntKind.wrap,IntKind.bits,IntKind.signed]
theorem y1l (x m:Nat):(x:Int).fdiv (m:Int)=((x/m:Nat):Int):=by
 rw [Int.fdiv_eq_ediv_of_nonneg _ (by omega)];rfl
theorem v1r (n:Nat):(2:Int) ^ n=((2 ^ n:Nat):Int):=by simp
theorem i0d (x b n:Nat):(x*2 ^ (min n b))%2 ^ b=(x*2 ^ n)%2 ^ b:=by
 by_cases h:n≤b
 ·rw [vD h]
 rw [Nat.min_eq_right (by omega)]
 obtain ⟨k,rfl⟩:=Nat.exists_eq_add_of_le (Nat.le_of_not_le h)
 rw [Nat.pow_add,←vN,uF,Nat.mul_mod_left,Nat.mul_mod_left]
theorem i0l (x b n:Nat) (hx:x<2 ^ b):x/2 ^ (min n b)=x/2 ^ n:=by
 by_cases h:n≤b
 ·rw [vD h]
 rw [Nat.min_eq_right (by omega),Nat.div_eq_of_lt hx,Nat.div_eq_of_lt]
 exact Nat.lt_of_lt_of_le hx (uL (by omega) (by omega))
theorem div_lt (x m b:Nat) (hx:x<b):x/m<b:=Nat.lt_of_le_of_lt (Nat.div_le_self _ _) hx
def PL.mk :PL→Value
 | .u8 x=>.int .u8 x.toNat
 | .u32 x=>.int .u32 x.toNat
 | .u64 x=>.int .u64 x.toNat
 | .i n=>.int .i64 n
 | .b x=>.bool x
 | .str s=>.string ⟨s.toArray⟩
 |_=>.nilIface
theorem n1f {P:Program} {op:BinOp} {x z:PL} {c:Int} {yk:IntKind} (h:a0i op x c=some z) (ro:Ro) (w:World):
 ∃ n,x.num=some n∧(Op.shift op x.kind n yk c).run P w=.ok z.mk w∧z.den ro z.mk:=by
 unfold a0i at h
 split at h
 case isFalse=>cases h
 rename_i hc
 have hc':¬c<0:=by omega
 split at h<;>cases h<;>refine ⟨_,rfl,?_,by rw [PL.den];rfl⟩
 all_goals simp only [Op.shift,PL.kind,hc',if_false,PL.mk,Sem.run_pure]
 all_goals simp only [IntKind.bits,v1r,←Int.natCast_mul,wrap_u8,wrap_u32,wrap_u64,y1l,r2y,Rx,Dy,t1p,a0u,Iw,s2k,r0x,IntWalk.i64_left,
  vM,UInt32.toNat_ofNat',wD]
 ·rename_i x;congr 2;have:=i0d x.toNat 8 c.toNat;omega
 ·rename_i x;congr 2;have:=i0d x.toNat 32 c.toNat;omega
 ·rename_i x;congr 2;have:=i0d x.toNat 64 c.toNat;omega
 ·rename_i x;congr 2;have h:=x.toNat_lt;have h2:=div_lt x.toNat (2 ^ c.toNat) _ h;rw [i0l x.toNat 8 c.toNat h,yN h2]
 ·rename_i x;congr 2;have h:=x.toNat_lt;have h2:=div_lt x.toNat (2 ^ c.toNat) _ h;rw [i0l x.toNat 32 c.toNat h,yN h2]
 rename_i x;congr 2;have h:=x.toNat_lt;have h2:=div_lt x.toNat (2 ^ c.toNat) _ h;rw [i0l x.toNat 64 c.toNat h,yN h2]
def h0n (op:BinOp) (x y:PL):Option PL:=
 match op,x,y with
 | .add,.u8 x,.u8 y=>some (.u8 (x+y))
 | .add,.u32 x,.u32 y=>some (.u32 (x+y))
 | .add,.u64 x,.u64 y=>some (.u64 (x+y))
 | .add,.i x,.i y=>some (.i (wrap64 (x+y)))
 | .sub,.u8 x,.u8 y=>some (.u8 (x-y))
 | .sub,.u32 x,.u32 y=>some (.u32 (x-y))
 | .sub,.u64 x,.u64 y=>some (.u64 (x-y))
 | .sub,.i x,.i y=>some (.i (wrap64 (x-y)))
 | .mul,.u8 x,.u8 y=>some (.u8 (x*y))
 | .mul,.u32 x,.u32 y=>some (.u32 (x*y))
 | .mul,.u64 x,.u64 y=>some (.u64 (x*y))
 | .mul,.i x,.i y=>some (.i (wrap64 (x*y)))
 | .quo,.u8 x,.u8 y=>if y=0 then none else some (.u8 (x/y))
 | .quo,.u32 x,.u32 y=>if y=0 then none else some (.u32 (x/y))
 | .quo,.u64 x,.u64 y=>if y=0 then none else some (.u64 (x/y))
 | .quo,.i x,.i y=>if y=0 then none else some (.i (wrap64 (x.tdiv y)))
 | .rem,.u8 x,.u8 y=>if y=0 then none else some (.u8 (x%y))
 | .rem,.u32 x,.u32 y=>if y=0 then none else some (.u32 (x%y))
 | .rem,.u64 x,.u64 y=>if y=0 then none else some (.u64 (x%y))
 | .rem,.i x,.i y=>if y=0 then none else some (.i (x.tmod y))
 | .and,.u8 x,.u8 y=>some (.u8 (x&&&y))
 | .and,.u32 x,.u32 y=>some (.u32 (x&&&y))
 | .and,.u64 x,.u64 y=>some (.u64 (x&&&y))
 | .and,.i x,.i y=>some (.i (j2c x y))
 | .or,.u8 x,.u8 y=>some (.u8 (x|||y))
 | .or,.u32 x,.u32 y=>some (.u32 (x|||y))
 | .or,.u64 x,.u64 y=>some (.u64 (x|||y))
 | .or,.i x,.i y=>some (.i (ior x y))
 | .xor,.u8 x,.u8 y=>some (.u8 (x^^^y))
 | .xor,.u32 x,.u32 y=>some (.u32 (x^^^y))
 | .xor,.u64 x,.u64 y=>some (.u64 (x^^^y))
 | .xor,.i x,.i y=>some (.i (p2p x y))
 | .andNot,.u8 x,.u8 y=>some (.u8 (x&&&~~~y))
 | .andNot,.u32 x,.u32 y=>some (.u32 (x&&&~~~y))
 | .andNot,.u64 x,.u64 y=>some (.u64 (x&&&~~~y))
 | .andNot,.i x,.i y=>some (.i (q1e x y))
 | .eql,.u8 x,.u8 y=>some (.b (decide (x=y)))
 | .eql,.u32 x,.u32 y=>some (.b (decide (x=y)))
 | .eql,.u64 x,.u64 y=>some (.b (decide (x=y)))
 | .eql,.i x,.i y=>some (.b (decide (x=y)))
 | .neq,.u8 x,.u8 y=>some (.b (!decide (x=y)))
 | .neq,.u32 x,.u32 y=>some (.b (!decide (x=y)))
 | .neq,.u64 x,.u64 y=>some (.b (!decide (x=y)))
 | .neq,.i x,.i y=>some (.b (!decide (x=y)))
 | .lss,.u8 x,.u8 y=>some (.b (decide (x<y)))
 | .lss,.u32 x,.u32 y=>some (.b (decide (x<y)))
 | .lss,.u64 x,.u64 y=>some (.b (decide (x<y)))
 | .lss,.i x,.i y=>some (.b (decide (x<y)))
 | .leq,.u8 x,.u8 y=>some (.b (decide (x≤y)))
 | .leq,.u32 x,.u32 y=>some (.b (decide (x≤y)))
 | .leq,.u64 x,.u64 y=>some (.b (decide (x≤y)))
 | .leq,.i x,.i y=>some (.b (decide (x≤y)))
 | .gtr,.u8 x,.u8 y=>some (.b (decide (y<x)))
 | .gtr,.u32 x,.u32 y=>some (.b (decide (y<x)))
 | .gtr,.u64 x,.u64 y=>some (.b (decide (y<x)))
 | .gtr,.i x,.i y=>some (.b (decide (y<x)))
 | .geq,.u8 x,.u8 y=>some (.b (decide (y≤x)))
 | .geq,.u32 x,.u32 y=>some (.b (decide (y≤x)))
 | .geq,.u64 x,.u64 y=>some (.b (decide (y≤x)))
 | .geq,.i x,.i y=>some (.b (decide (y≤x)))
 |_,_,_=>none
theorem bv8 (x:UInt8):BitVec.ofInt 8 (x.toNat:Int)=x.toBitVec:=by rw [BitVec.ofInt_natCast];exact BitVec.ofNat_toNat _ _
theorem s2n (x:UInt32):BitVec.ofInt 32 (x.toNat:Int)=x.toBitVec:=by rw [BitVec.ofInt_natCast];exact BitVec.ofNat_toNat _ _
theorem s2m (x:UInt64):BitVec.ofInt 64 (x.toNat:Int)=x.toBitVec:=by rw [BitVec.ofInt_natCast];exact BitVec.ofNat_toNat _ _
theorem p2v {y:UInt8} (h:¬y=0):¬(y.toNat:Int)=0:=fun e=>h (UInt8.toNat_inj.1 (by simpa using e))
theorem j2x {y:UInt32} (h:¬y=0):¬(y.toNat:Int)=0:=fun e=>h (UInt32.toNat_inj.1 (by simpa using e))
theorem j2w {y:UInt64} (h:¬y=0):¬(y.toNat:Int)=0:=fun e=>h (UInt64.toNat_inj.1 (by simpa using e))
theorem p2y (x y:UInt8):((x.toNat:Int)-(y.toNat:Int))%256=((x-y).toNat:Int):=by
 have h1:=x.toNat_lt;have h2:=y.toNat_lt
 rw [UInt8.toNat_sub];omega
theorem q2g (x y:UInt8):((x.toNat:Int).tdiv (y.toNat:Int))%256=((x/y).toNat:Int):=by
 have h1:=x.toNat_lt
 have h2:=div_lt x.toNat y.toNat _ h1
 rw [UInt8.toNat_div,uH (by omega),←Int.natCast_ediv]
 generalize x.toNat/y.toNat=z at*;omega
theorem q2d (x y:UInt8):((x.toNat:Int).tmod (y.toNat:Int))=((x%y).toNat:Int):=by
 rw [UInt8.toNat_mod,Int.tmod_eq_emod_of_nonneg (by omega),←Int.natCast_emod]
theorem r2n (x:BitVec 8):((x.toNat:Nat):Int)%256=(((UInt8.ofBitVec x).toNat:Nat):Int):=by
 have h:=x.isLt
 show ((x.toNat:Nat):Int)%256=((x.toNat:Nat):Int);omega
theorem k2k (x y:UInt32):((x.toNat:Int)-(y.toNat:Int))%4294967296=((x-y).toNat:Int):=by
 have h1:=x.toNat_lt;have h2:=y.toNat_lt
 rw [UInt32.toNat_sub];omega
theorem l2n (x y:UInt32):((x.toNat:Int).tdiv (y.toNat:Int))%4294967296=((x/y).toNat:Int):=by
 have h1:=x.toNat_lt
 have h2:=div_lt x.toNat y.toNat _ h1
 rw [UInt32.toNat_div,uH (by omega),←Int.natCast_ediv]
 generalize x.toNat/y.toNat=z at*;omega
theorem l2i (x y:UInt32):((x.toNat:Int).tmod (y.toNat:Int))=((x%y).toNat:Int):=by
 rw [UInt32.toNat_mod,Int.tmod_eq_emod_of_nonneg (by omega),←Int.natCast_emod]
theorem b2n (x:BitVec 32):((x.toNat:Nat):Int)%4294967296=(((UInt32.ofBitVec x).toNat:Nat):Int):=by
 have h:=x.isLt
 show ((x.toNat:Nat):Int)%4294967296=((x.toNat:Nat):Int);omega
theorem a2e (x y:UInt64):((x.toNat:Int)-(y.toNat:Int))%18446744073709551616=((x-y).toNat:Int):=by
 have h1:=x.toNat_lt;have h2:=y.toNat_lt
 rw [UInt64.toNat_sub];omega
theorem l2m (x y:UInt64):((x.toNat:Int).tdiv (y.toNat:Int))%18446744073709551616=((x/y).toNat:Int):=by
 have h1:=x.toNat_lt
 have h2:=div_lt x.toNat y.toNat _ h1
 rw [vV,uH (by omega),←Int.natCast_ediv]
 generalize x.toNat/y.toNat=z at*;omega
theorem l2h (x y:UInt64):((x.toNat:Int).tmod (y.toNat:Int))=((x%y).toNat:Int):=by
 rw [vU,Int.tmod_eq_emod_of_nonneg (by omega),←Int.natCast_emod]
theorem b2m (x:BitVec 64):((x.toNat:Nat):Int)%18446744073709551616=(((UInt64.ofBitVec x).toNat:Nat):Int):=by
 have h:=x.isLt
 show ((x.toNat:Nat):Int)%18446744073709551616=((x.toNat:Nat):Int);omega
theorem s1z {P:Program} {op:BinOp} {x y z:PL} (h:h0n op x y=some z) (ro:Ro) (w:World) (t:TypeId):
 (binOp op t x.mk y.mk).run P w=.ok z.mk w∧z.den ro z.mk∧(∃ n,x.num=some n)∧(∃ n,y.num=some n)∧x.kind=y.kind:=by
 unfold h0n at h
 split at h<;>first
  |(cases h;done)
  |(cases h;refine ⟨?_,by rw [PL.den];rfl,⟨_,rfl⟩,⟨_,rfl⟩,rfl⟩)
  |(split at h<;>first
     |(cases h;done)
     |(rename_i hz;cases h;refine ⟨?_,by rw [PL.den];rfl,⟨_,rfl⟩,⟨_,rfl⟩,rfl⟩))
 all_goals simp only [binOp,PL.mk,Op.intArith,Op.intDiv,Op.intBits,Op.intCmp,Sem.run_pure,ne_eq,not_true,if_false,IntKind.bits,IntWalk.i64_left,wrap_u8,wrap_u32,wrap_u64,bv8,s2n,s2m]
 all_goals try rw [if_neg (p2v ‹_›)]
 all_goals try rw [if_neg (j2x ‹_›)]
 all_goals try rw [if_neg (j2w ‹_›)]
 all_goals try rw [if_neg ‹_›]
 all_goals try simp only [Sem.run_pure,p2y,k2k,a2e,q2g,l2n,l2m,q2d,l2i,l2h,r2n,b2n,b2m]
 all_goals first
  |rfl
  |(congr 2;simp [UInt8.toNat_add,UInt32.toNat_add,UInt64.toNat_add];done)
  |(congr 2;simp [UInt8.toNat_add,UInt32.toNat_add,UInt64.toNat_add,UInt8.toNat_mul,UInt32.toNat_mul,UInt64.toNat_mul,UInt8.toNat_sub,UInt32.toNat_sub,UInt64.toNat_sub];omega)
  |(congr 2;rw [Bool.eq_iff_iff];simp [vJ,UInt32.toNat_inj,xS,UInt8.lt_iff_toNat_lt,UInt32.lt_iff_toNat_lt,vE,UInt8.le_iff_toNat_le,UInt32.le_iff_toNat_le,UInt64.le_iff_toNat_le,Int.natCast_inj];done)
  |(congr 2;rw [Bool.eq_iff_iff];simp;rw [Int.natCast_inj,vJ])
  |(congr 2;rw [Bool.eq_iff_iff];simp;rw [Int.natCast_inj,UInt32.toNat_inj])
  |(congr 2;rw [Bool.eq_iff_iff];simp;rw [Int.natCast_inj,xS])
end Go.Sy
namespace Go.Sy
def Mk (w:World) (b o:Nat) (vals:List Value):Prop:=∀ (j:Nat) v,vals[j]? =some v→w.cell? ⟨b,o+j,none⟩=some v
theorem Mk.win {w:World} {b o:Nat} {vals:List Value} (h:Mk w b o vals) (p n:Nat):Mk w b (o+p) (win vals p n):=by
 intro j v hv
 rw [Go.Sy.win,List.getElem?_take] at hv
 split at hv
 ·rw [uG] at hv
  have:=h (p+j) v hv
  rwa [Nat.add_assoc]
 cases hv
theorem q0q {w:World} {b:Nat} {vals:List Value} {ty:TypeId} {fr:Nat×Nat} (h:w.heap[b]? =some (.cells vals.toArray ty fr)):Mk w b 0 vals:=by
 intro j v hv
 rw [cell_of_row w b (0+j) _ ty fr h]
 simpa using hv
theorem Fv.map_left {α β γ:Type} {R:α→β→Prop} {f:γ→α} {l:List γ} {m:List β} (h:Fv (fun x y=>R (f x) y) l m):Fv R (l.map f) m:=by
 induction h with
 |nil=>exact .nil
 |cons h1 _ ih=>exact .cons h1 ih
def pls (c:List PL):List L:=c.map L.pl
theorem l0w {d:Va} {blk:Nat} {w:World} (hro: ∀ b o y,d.ro b o=some y→w.cell? ⟨b,o,none⟩=some y):
 ∀ {cells:List PL} {off:Nat},PL.denAt d.ro blk cells off→∃ vals:List Value,Fv (L.den d) (pls cells) vals∧Mk w blk off vals
 | [],off,_=>⟨[],.nil,fun j v hv=>by simp at hv⟩
 |c::cs,off,h=>by
   rw [PL.denAt] at h
   obtain ⟨⟨y,hy,hd⟩,h⟩:=h
   obtain ⟨vals,h2,h3⟩:=l0w hro h
   refine ⟨y::vals,.cons (by rw [L.den];exact hd) h2,fun j v hv=>?_⟩
   cases j with
   |zero=>simp at hv;subst hv;exact hro _ _ _ hy
   |succ j=>have:=h3 j v (by simpa using hv);rw [show off+(j+1)=off+1+j from by omega];exact this
def mkW (P:Program) (t:TypeId) (cells:List L):Option W:=
 match P.underlying t with
 |some (.struct _)|some (.array _ _)=>some (.agg cells)
 |some _=>match cells with
   | [l]=>some (.one l)
   |_=>none
 |none=>none
theorem addr_add (b o n:Nat):(⟨b,o,none⟩:Addr).add n=⟨b,o+n,none⟩:=by
 unfold Addr.add;split
 ·rename_i h;rw [h,vB]
 rfl
theorem j0t {P:Program} {t:TypeId} (h:P.cellsOf t≠0): ∃ i,P.info? t=some i∧i.size=P.cellsOf t:=by
 unfold Program.cellsOf at*
 cases hi:P.info? t with
 |none=>simp [hi] at h
 |some i=>exact ⟨i,rfl,rfl⟩
theorem Oy {P:Program} {t:TypeId} (h:P.cellsOf t≠0) (w:World):(sizeOf t).run P w=.ok (P.cellsOf t) w:=by
 obtain ⟨i,hi,_⟩:=j0t h
 exact run_sizeOf w hi
theorem o1z {P:Program} {t:TypeId} {cells:List L} {x:W} (h:mkW P t cells=some x) (w:World):
 (x=.agg cells∧(isAgg t).run P w=.ok true w)∨(∃ l,cells=[l]∧x=.one l∧(isAgg t).run P w=.ok false w):=by
 unfold mkW at h
 split at h
 ·rename_i fs hu;cases h;left;refine ⟨rfl,?_⟩;unfold isAgg;rw [Sem.run_bind,run_underlying hu w];rfl
 ·rename_i n e hu;cases h;left;refine ⟨rfl,?_⟩;unfold isAgg;rw [Sem.run_bind,run_underlying hu w];rfl
 ·rename_i dd h1 h2 hu
  split at h
  ·rename_i l;cases h;right;refine ⟨l,rfl,rfl,?_⟩;unfold isAgg;rw [Sem.run_bind,run_underlying hu w]
   cases dd<;>first|rfl|(exact (h1 _ rfl).elim)|(exact (h2 _ _ rfl).elim)
  cases h
 cases h
theorem o0w {P:Program} {t:TypeId} {w:World} {b o:Nat} {vals:List Value} {d:Va} {cells:List L} {x:W}
 (hc:Mk w b o vals) (hn:vals.length=P.cellsOf t) (h0:P.cellsOf t≠0) (hx:mkW P t cells=some x) (hd:Fv (L.den d) cells vals):
 ∃ y,(loadVar t ⟨b,o,none⟩).run P w=.ok y w∧x.den d y:=by
 rcases o1z hx w with ⟨rfl,ha⟩|⟨l,rfl,rfl,ha⟩
 ·have hl:=run_loadCells_list (P:=P) w ⟨b,o,none⟩ vals (fun j v hv=>by rw [addr_add];exact hc j v hv)
  rw [hn] at hl
  refine ⟨.agg vals.toArray,?_,⟨_,rfl,by simpa using hd⟩⟩
  simp [loadVar,ha,Oy h0 w,hl]
 cases hd with
 |cons h1 h2=>
   cases h2
   rename_i y
   have:=hc 0 y rfl
   refine ⟨y,?_,h1⟩
   simp only [vB] at this
   simp [loadVar,ha,this]
instance pokDec (N:Nat): ∀ p,Decidable (pok N p)
 | []=>.isTrue trivial
 |x::p=>match pokDec N p with
   | .isTrue h=>if h2:x.1+x.2≤psz N p then .isTrue ⟨h,h2⟩ else .isFalse fun h3=>h2 h3.2
   | .isFalse h=>.isFalse fun h3=>h h3.1
def n0g (P:Program) (S:St) (t:TypeId):V→Option V
 | .w (.one (.p k path))=>match look S.mem k with
   |some o=>if pok o.cells.length path∧psz o.cells.length path=P.cellsOf t∧P.cellsOf t≠0 then (mkW P t (rd o.cells path)).map .w else none
   |none=>none
 | .w (.one (.pl (.q cells path)))=>if pok cells.length path∧psz cells.length path=P.cellsOf t∧P.cellsOf t≠0 then (mkW P t (pls (rd cells path))).map .w else none
 |_=>none
theorem h1r {α:Type} (c c':List α) (o n:Nat) (h:o+n≤c.length):win (c++c') o n=win c o n:=by
 unfold win
 rw [List.drop_append_of_le_length (by omega),List.take_append_of_le_length (by simp;omega)]
theorem g1a {α β:Type} (f:α→β) (c:List α): ∀ p,rd (c.map f) p=(rd c p).map f
 | []=>rfl
 |x::p=>by rw [rd,rd,g1a f c p];simp [win]
theorem c0s (c:List PL):(pls c).length=c.length:=by simp [pls]
theorem y0h {d:Va} {blk off:Nat} {w:World} (hro: ∀ b o y,d.ro b o=some y→w.cell? ⟨b,o,none⟩=some y) {cells:List PL} {path:Path} (hp:pok cells.length path) (h:PL.denAt d.ro blk cells off):
 ∃ vals,Fv (L.den d) (pls (rd cells path)) vals∧Mk w blk (off+Xj path) vals∧vals.length=psz cells.length path:=by
 obtain ⟨vals,hd,hc⟩:=l0w hro h
 have hl:=hd.length
 rw [c0s] at hl
 have hle:=j0c hp
 refine ⟨win vals (Xj path) (psz cells.length path),?_,hc.win _ _,Yq _ _ _ (by omega)⟩
 have e:pls (rd cells path)=win (pls cells) (Xj path) (psz cells.length path):=by
  unfold pls;rw [←g1a,i1n _ (by simpa using hp)];simp
 rw [e];exact hd.win _ _
theorem Sim.readObj {B:Base} {d:Va} {S:St} {a:Act} {w:World} (h:Sim B d S a w) {k:Nat} {o:Ob} (hk:look S.mem k=some o) {path:Path} (hp:pok o.cells.length path):
 ∃ vals,Fv (L.den d) (rd o.cells path) vals∧Mk w (d.at_ k) (Xj path) vals∧vals.length=psz o.cells.length path:=by
 rcases yZ k gl0 with hkl|hkg
 case inr=>
  rcases h.glob k o hk hkg with ⟨l,rfl⟩|⟨_,cs,hcs,hat⟩
  ·have hz:psz 0 path=0:=by have:=j0c hp;simp only [xW] at this;omega
   exact ⟨[],by rw [i1n _ hp];simp only [win,List.drop_nil,List.take_nil];exact .nil,fun j v hv=>(by simp at hv),by simp only [xW];exact hz.symm⟩
  rw [h.gat k hkg]
  have hpc:pok cs.length path:=by rw [hcs,xO] at hp;exact hp
  obtain ⟨vals,hv,hc,hl⟩:=y0h (d:=d) h.ro hpc hat
  rw [xV] at hc
  exact ⟨vals,by rw [hcs,g1a];exact hv,hc,by rw [hcs,xO];exact hl⟩
 obtain ⟨vals,spare,ty,fr,hh,_,hd,_,_⟩:=h.mem k o hk hkl
 have hl:=hd.length
 have hle:=j0c hp
 refine ⟨win vals (Xj path) (psz o.cells.length path),?_,?_,?_⟩
 ·rw [i1n _ hp];exact hd.win _ _
 ·have:=(q0q hh).win (Xj path) (psz o.cells.length path)
  rwa [xV,h1r _ _ _ _ (by omega)] at this
 exact Yq _ _ _ (by omega)
theorem Sim.sizes {B:Base} {d:Va} {S:St} {a:Act} {w:World} (h:Sim B d S a w) {k:Nat} {o:Ob} (hk:look S.mem k=some o): ∃ vals spare:List Value,o.cells.length=vals.length∧(vals++spare).length=d.size k:=by
 rcases yZ k gl0 with hkl|hkg
 ·obtain ⟨vals,spare,ty,fr,_,_,hd,_,hlen⟩:=h.mem k o hk hkl
  exact ⟨vals,spare,hd.length,hlen⟩
 rcases h.glob k o hk hkg with ⟨l,rfl⟩|⟨hs,_⟩
 ·exact ⟨[],List.replicate (d.size k) undef,rfl,by simp⟩
 exact ⟨List.replicate o.cells.length undef,[],by simp,by simp [hs]⟩
theorem g1p {P:Program} {B:Base} {d:Va} {S:St} {a:Act} {w:World} (h:Sim B d S a w) {t:TypeId} {x v:V} {y:Value} (hv:n0g P S t x=some v) (hx:x.den d y):
 ∃ z,(Instr.loadAt t y).run P w=.ok z w∧v.den d z:=by
 unfold n0g at hv
 split at hv
 ·rename_i k path
  split at hv
  ·rename_i o hk
   split at hv
   ·rename_i hc
    obtain ⟨hp,hs,h0⟩:=hc
    obtain ⟨vals,hd,hcell,hlen⟩:=h.readObj hk hp
    cases hm:mkW P t (rd o.cells path) with
    |none=>simp [hm] at hv
    |some W=>
      simp only [hm,yR,Option.some.injEq] at hv;subst hv
      obtain ⟨z,hz,hzd⟩:=o0w hcell (by rw [hlen,hs]) h0 hm hd
      change y=_ at hx;subst hx
      exact ⟨z,by simpa [Instr.loadAt,Instr.sureAddr] using hz,hzd⟩
   cases hv
  cases hv
 ·rename_i cells path
  split at hv
  ·rename_i hc
   obtain ⟨hp,hs,h0⟩:=hc
   change PL.den d.ro (.q cells path) y at hx
   rw [PL.den] at hx
   obtain ⟨blk,off,rfl,hat⟩:=hx
   obtain ⟨vals,hd,hcell,hlen⟩:=y0h h.ro hp hat
   cases hm:mkW P t (pls (rd cells path)) with
   |none=>simp [hm] at hv
   |some W=>
     simp only [hm,yR,Option.some.injEq] at hv;subst hv
     obtain ⟨z,hz,hzd⟩:=o0w hcell (by rw [hlen,hs]) h0 hm hd
     exact ⟨z,by simpa [Instr.loadAt,Instr.sureAddr] using hz,hzd⟩
  cases hv
 cases hv
def m0v (P:Program) (t f:Nat) (x:V):Option V:=
 match P.underlying t with
 |some (.struct fs)=>match fs[f]? with
   |some fd=>if P.cellsOf fd.type=0 then none else
     match x with
     | .w (.one (.p k path))=>some (.w (.one (.p k ((fd.offset,P.cellsOf fd.type)::path))))
     | .w (.one (.pl (.q cells path)))=>some (.w (.one (.pl (.q cells ((fd.offset,P.cellsOf fd.type)::path)))))
     |_=>none
   |none=>none
 |_=>none
theorem q1x {P:Program} {d:Va} {w:World} {t f:Nat} {x v:V} {y:Value} (hv:m0v P t f x=some v) (hx:x.den d y):
 ∃ z,(Instr.fieldAt t y f).run P w=.ok z w∧v.den d z:=by
 unfold m0v at hv
 split at hv<;>try (cases hv;done)
 rename_i fs hu
 split at hv<;>try (cases hv;done)
 rename_i fd hf
 split at hv
 ·cases hv
 rename_i h0
 have hsz:=Oy h0 w
 split at hv<;>cases hv
 ·change y=_ at hx;subst hx
  rename_i k path
  refine ⟨.pointer (some ⟨d.at_ k,Xj path+fd.offset,none⟩),?_,?_⟩
  ·simp [Instr.fieldAt,run_underlying hu w,hf,Instr.sureAddr,fieldPlace,hsz,h0,addr_add]
  show _=_;simp [Xj,vL]
 change PL.den d.ro (.q _ _) y at hx
 rw [PL.den] at hx
 obtain ⟨blk,off,rfl,hat⟩:=hx
 rename_i cells path
 refine ⟨.pointer (some ⟨blk,off+Xj path+fd.offset,none⟩),?_,?_⟩
 ·simp [Instr.fieldAt,run_underlying hu w,hf,Instr.sureAddr,fieldPlace,hsz,h0,addr_add]
 show PL.den d.ro (.q _ _) _
 rw [PL.den];exact ⟨blk,off,by simp [Xj,Nat.add_assoc,vL,Nat.add_left_comm],hat⟩
end Go.Sy
namespace Go.Sy
def V.num :V→Option Int
 | .w (.one (.pl x))=>x.num
 |_=>none
theorem V.num_den {d:Va} {x:V} {n:Int} {y:Value} (h:x.num=some n) (hd:x.den d y): ∃ k,y=.int k n:=by
 unfold V.num at h
 split at h
 ·exact ⟨_,PL.num_den h hd⟩
 cases h
theorem q0l {ro:Ro} {blk sz:Nat}: ∀ {rows:List (List PL)} {off:Nat},PL.denRows ro blk sz rows off→∀ {i:Nat},i<rows.length→
 (rows.getD i []).length=sz∧PL.denAt ro blk (rows.getD i []) (off+i*sz)
 | [],_,_,i,hi=>by simp at hi
 |r::rs,off,h,i,hi=>by
   rw [PL.denRows] at h
   cases i with
   |zero=>simpa using ⟨h.1,h.2.1⟩
   |succ i=>
     have:=q0l h.2.2 (i:=i) (by simpa using hi)
     simp only [List.getD_cons_succ]
     rw [show off+(i+1)*sz=off+sz+i*sz from by rw [wN];omega]
     exact this
theorem f0m {ro:Ro} {blk sz:Nat}: ∀ {rows:List (List PL)} {off:Nat},PL.denRows ro blk sz rows off→∀ n,n≤rows.length→PL.denRows ro blk sz (rows.drop n) (off+n*sz)
 |rows,off,h,0,_=>by simpa using h
 | [],_,_,n+1,hn=>by simp at hn
 |r::rs,off,h,n+1,hn=>by
   rw [PL.denRows] at h
   have:=f0m h.2.2 n (by simpa using hn)
   simp only [List.drop_succ_cons]
   rw [show off+(n+1)*sz=off+sz+n*sz from by rw [wN];omega]
   exact this
theorem f0l {ro:Ro} {blk sz:Nat}: ∀ {rows:List (List PL)} {off:Nat},PL.denRows ro blk sz rows off→∀ n,PL.denRows ro blk sz (rows.take n) off
 |rows,off,h,0=>by simp [PL.denRows]
 | [],_,_,n+1=>by simp [PL.denRows]
 |r::rs,off,h,n+1=>by
   rw [PL.denRows] at h
   simp only [wE]
   rw [PL.denRows]
   exact ⟨h.1,h.2.1,f0l h.2.2 n⟩
def Vq (P:Program) (t:TypeId) (x i:V):Option V:=
 match i.num with
 |none=>none
 |some n=>
   match P.underlying t with
   |some (.array len e)=>if 0≤n∧n<len∧P.cellsOf e≠0 then
      match x with
      | .w (.one (.p k path))=>some (.w (.one (.p k ((n.toNat*P.cellsOf e,P.cellsOf e)::path))))
      | .w (.one (.pl (.q cells path)))=>some (.w (.one (.pl (.q cells ((n.toNat*P.cellsOf e,P.cellsOf e)::path)))))
      |_=>none
     else none
   |some (.slice e)=>
     match x with
     | .w (.one (.s k path len sz))=>if 0≤n∧n<len∧sz=P.cellsOf e∧sz≠0 then some (.w (.one (.p k ((n.toNat*sz,sz)::path)))) else none
     | .w (.one (.pl (.R ex sz rows)))=>if 0≤n∧n<rows.length∧sz=P.cellsOf e∧sz≠0 then some (.w (.one (.pl (.q (rows.getD n.toNat []) [])))) else none
     |_=>none
   |_=>none
theorem v0j {P:Program} {d:Va} {w:World} {t:TypeId} {x i v:V} {y j:Value} (hv:Vq P t x i=some v) (hx:x.den d y) (hi:i.den d j):
 ∃ z,(Instr.indexAt t y j).run P w=.ok z w∧v.den d z:=by
 unfold Vq at hv
 split at hv<;>try (cases hv;done)
 rename_i n hn
 obtain ⟨kk,rfl⟩:=V.num_den hn hi
 split at hv<;>try (cases hv;done)
 ·rename_i len e hu
  split at hv<;>try (cases hv;done)
  rename_i hc
  obtain ⟨h1,h2,h0⟩:=hc
  have hsz:=Oy h0 w
  split at hv<;>cases hv
  ·rename_i k path
   change y=_ at hx;subst hx
   refine ⟨.pointer (some ⟨d.at_ k,Xj path+n.toNat*P.cellsOf e,none⟩),?_,?_⟩
   ·simp [Instr.indexAt,asIntOf,run_underlying hu w,Instr.sureAddr,hsz,h1,h2,addr_add]
   show _=_;simp [Xj,vL]
  rename_i cells path
  change PL.den d.ro (.q _ _) y at hx
  rw [PL.den] at hx
  obtain ⟨blk,off,rfl,hat⟩:=hx
  refine ⟨.pointer (some ⟨blk,off+Xj path+n.toNat*P.cellsOf e,none⟩),?_,?_⟩
  ·simp [Instr.indexAt,asIntOf,run_underlying hu w,Instr.sureAddr,hsz,h1,h2,addr_add]
  show PL.den d.ro (.q _ _) _
  rw [PL.den];exact ⟨blk,off,by simp [Xj,Nat.add_assoc,vL,Nat.add_left_comm],hat⟩
 rename_i e hu
 split at hv
 ·rename_i k path len sz
  split at hv<;>cases hv
  rename_i hc
  obtain ⟨h1,h2,h3,h0⟩:=hc
  subst h3
  have hsz:=Oy h0 w
  obtain ⟨o,cap,rfl,hlc,_,ho,_⟩:=hx
  have ho:o=Xj path:=ho.resolve_left (by omega)
  subst ho
  refine ⟨.pointer (some ⟨d.at_ k,Xj path+n.toNat*P.cellsOf e,none⟩),?_,?_⟩
  ·simp [Instr.indexAt,asIntOf,run_underlying hu w,Instr.sureAddr,hsz,h1,h2,addr_add]
  show _=_;simp [Xj,vL]
 ·rename_i ex sz rows
  split at hv<;>cases hv
  rename_i hc
  obtain ⟨h1,h2,h3,h0⟩:=hc
  subst h3
  have hsz:=Oy h0 w
  change PL.den d.ro (.R _ _ _) y at hx
  rw [PL.den] at hx
  rcases hx with ⟨_,rfl⟩|⟨blk,off,cap,rfl,_,_,_,hrows⟩|⟨_,_,_,rfl,_⟩
  ·simp at h2;omega
  rotate_left
  ·simp at h2;omega
  have hg:=q0l hrows (i:=n.toNat) (by omega)
  refine ⟨.pointer (some ⟨blk,off+n.toNat*P.cellsOf e,none⟩),?_,?_⟩
  ·simp [Instr.indexAt,asIntOf,run_underlying hu w,Instr.sureAddr,hsz,h1,h2,addr_add]
  show PL.den d.ro (.q _ _) _
  rw [PL.den];exact ⟨blk,off+n.toNat*P.cellsOf e,by simp [Xj],hg.2⟩
 cases hv
theorem a1y {d:Va} {cs:List L} {vs:Array Value} (h:Fv (L.den d) cs vs.toList) (o n:Nat):Fv (L.den d) (win cs o n) (vs.extract o (o+n)).toList:=by
 have:=h.win o n
 rw [Array.toList_extract,List.extract_eq_take_drop]
 simpa [Go.Sy.win] using this
def y0q (P:Program) (t:TypeId) (cs:List L) (off:Nat):Option V:=
 if off+P.cellsOf t≤cs.length∧P.cellsOf t≠0 then (mkW P t (win cs off (P.cellsOf t))).map .w else none
theorem g1d {P:Program} {d:Va} {w:World} {t off:Nat} {cs:List L} {vs:Array Value} {v:V} (hv:y0q P t cs off=some v) (h:Fv (L.den d) cs vs.toList):
 ∃ z,(part t vs off).run P w=.ok z w∧v.den d z:=by
 unfold y0q at hv
 split at hv<;>try (cases hv;done)
 rename_i hc
 obtain ⟨hle,h0⟩:=hc
 cases hm:mkW P t (win cs off (P.cellsOf t)) with
 |none=>simp [hm] at hv
 |some W=>
   simp only [hm,yR,Option.some.injEq] at hv;subst hv
   have hsz:=Oy h0 w
   rcases o1z hm w with ⟨rfl,ha⟩|⟨l,hl,rfl,ha⟩
   ·refine ⟨.agg (vs.extract off (off+P.cellsOf t)),by simp [part,ha,hsz],⟨_,rfl,a1y h _ _⟩⟩
   have:cs[off]? =some l:=by
    have:=congrArg (fun z=>z[0]?) hl
    simp only [Go.Sy.win,List.getElem?_take,uG,vB] at this
    rw [if_pos (by omega)] at this
    simpa using this
   obtain ⟨y,hy,hd⟩:=h.get this
   refine ⟨y,?_,hd⟩
   have hy':vs[off]? =some y:=by simpa using hy
   simp [part,ha,hy']
def i0c (P:Program) (t f:Nat) (x:V):Option V:=
 match P.underlying t,x with
 |some (.struct fs),.w (.agg cs)=>match fs[f]? with
   |some fd=>y0q P fd.type cs fd.offset
   |none=>none
 |_,_=>none
theorem j1d {P:Program} {d:Va} {w:World} {t f:Nat} {x v:V} {y:Value} (hv:i0c P t f x=some v) (hx:x.den d y):
 ∃ z,(Instr.field t y f).run P w=.ok z w∧v.den d z:=by
 unfold i0c at hv
 split at hv<;>try (cases hv;done)
 rename_i fs cs hu
 split at hv<;>try (cases hv;done)
 rename_i fd hf
 obtain ⟨vs,rfl,hall⟩:=hx
 obtain ⟨z,hz,hd⟩:=g1d (w:=w) hv hall
 refine ⟨z,?_,hd⟩
 simp [Instr.field,run_underlying hu w,hf]
 show ((Sem.run P (asAgg (Value.agg vs)) w).andThen fun a w2=>Sem.run P (part fd.type a fd.offset) w2)=_
 have:Sem.run P (asAgg (Value.agg vs)) w=.ok vs w:=by simp [asAgg]
 rw [this];exact hz
def m0r (P:Program) (t:TypeId) (x i:V):Option V:=
 match i.num with
 |none=>none
 |some n=>
   match P.underlying t,x with
   |some (.array len e),.w (.agg cs)=>if 0≤n∧n<len then y0q P e cs (n.toNat*P.cellsOf e) else none
   |some .string,.w (.one (.pl (.str s)))=>if 0≤n∧n<s.length then some (.w (.one (.pl (.u8 (s.getD n.toNat 0))))) else none
   |_,_=>none
theorem q1c {P:Program} {d:Va} {w:World} {t:TypeId} {x i v:V} {y j:Value} (hv:m0r P t x i=some v) (hx:x.den d y) (hi:i.den d j):
 ∃ z,(Instr.index t y j).run P w=.ok z w∧v.den d z:=by
 unfold m0r at hv
 split at hv<;>try (cases hv;done)
 rename_i n hn
 obtain ⟨kk,rfl⟩:=V.num_den hn hi
 split at hv<;>try (cases hv;done)
 ·rename_i len e cs hu
  split at hv<;>try (cases hv;done)
  rename_i hc
  obtain ⟨vs,rfl,hall⟩:=hx
  obtain ⟨z,hz,hd⟩:=g1d (w:=w) hv hall
  have h0:P.cellsOf e≠0:=by intro h;simp [y0q,h] at hv
  refine ⟨z,?_,hd⟩
  simp [Instr.index,asIntOf,run_underlying hu w,hc.1,hc.2,Oy h0 w,hz]
 rename_i s hu
 split at hv<;>cases hv
 rename_i hc
 change PL.den d.ro (.str s) y at hx
 rw [PL.den] at hx
 obtain ⟨rfl,_⟩:=hx
 have hlt:n.toNat<s.length:=by omega
 refine ⟨.int .u8 ((s.getD n.toNat 0).toNat),?_,by show PL.den _ _ _;rw [PL.den]⟩
 have hb:(⟨s.toArray⟩:ByteArray)[n.toNat]? =some s[n.toNat]:=by
  show (if h:n.toNat<(⟨s.toArray⟩:ByteArray).size then some _ else none)=_
  rw [dif_pos (show n.toNat<(⟨s.toArray⟩:ByteArray).size by simpa [ByteArray.size] using hlt)]
  rfl
 simp [Instr.index,asIntOf,run_underlying hu w,hc.1,hb,List.getD,yO hlt]
def d0q (x:V) (i:Nat):Option V:=
 match x with
 | .tup xs=>xs[i]?.map .w
 |_=>none
theorem c1x {P:Program} {d:Va} {w:World} {x v:V} {i:Nat} {y:Value} (hv:d0q x i=some v) (hx:x.den d y):
 ∃ z,(Instr.extract y i).run P w=.ok z w∧v.den d z:=by
 unfold d0q at hv
 split at hv<;>try (cases hv;done)
 rename_i xs
 obtain ⟨vs,rfl,hall⟩:=hx
 cases hg:xs[i]? with
 |none=>simp [hg] at hv
 |some x=>
   simp only [hg,yR,Option.some.injEq] at hv;subst hv
   obtain ⟨z,hz,hd⟩:=hall.get hg
   have:vs[i]? =some z:=by simpa using hz
   exact ⟨z,by simp [Instr.extract,this],hd⟩
def unV (op:UnOp) (x:V):Option V:=
 match op,x with
 | .not,.w (.one (.pl (.b x)))=>some (.w (.one (.pl (.b (!x)))))
 | .neg,.w (.one (.pl (.i n)))=>some (.w (.one (.pl (.i (Go.RowKit.wrap64 (0-n))))))
 | .neg,.w (.one (.pl (.u64 n)))=>some (.w (.one (.pl (.u64 (0-n)))))
 | .xor,.w (.one (.pl (.u64 n)))=>some (.w (.one (.pl (.u64 (~~~n)))))
 | .xor,.w (.one (.pl (.u32 n)))=>some (.w (.one (.pl (.u32 (~~~n)))))
 | .xor,.w (.one (.pl (.i n)))=>some (.w (.one (.pl (.i (p2p (-1) n)))))
 |_,_=>none
theorem m2t (x:UInt32):((BitVec.ofInt 32 (4294967295:Int)^^^x.toBitVec).toNat:Int)%4294967296=((~~~x).toNat:Int):=by
 rw [show (BitVec.ofInt 32 (4294967295:Int))=BitVec.allOnes 32 from rfl,BitVec.allOnes_xor,b2n];rfl
theorem m2s (x:UInt64):((BitVec.ofInt 64 (18446744073709551615:Int)^^^x.toBitVec).toNat:Int)%18446744073709551616=((~~~x).toNat:Int):=by
 rw [show (BitVec.ofInt 64 (18446744073709551615:Int))=BitVec.allOnes 64 from rfl,BitVec.allOnes_xor,b2m];rfl
theorem n2b (x:UInt64):(0-(x.toNat:Int))%18446744073709551616=((0-x).toNat:Int):=by
 have:=a2e 0 x;simpa using this
theorem j2v {P:Program} {d:Va} {w:World} {op:UnOp} {x v:V} {y:Value} (hv:unV op x=some v) (hx:x.den d y):
 ∃ z,(Op.unary op y).run P w=.ok z w∧v.den d z:=by
 unfold unV at hv
 split at hv<;>cases hv<;>(change PL.den d.ro _ y at hx;rw [PL.den] at hx;subst hx)
 ·exact ⟨_,rfl,by show PL.den _ _ _;rw [PL.den]⟩
 ·exact ⟨_,rfl,by show PL.den _ _ _;rw [PL.den,←IntWalk.i64_left]⟩
 ·exact ⟨_,rfl,by show PL.den _ _ _;rw [PL.den,wrap_u64,n2b]⟩
 ·refine ⟨_,rfl,?_⟩
  show PL.den _ _ _
  rw [PL.den]
  show Value.int .u64 _=_
  rw [wrap_u64]
  rename_i n
  have:=m2s n
  rw [←this,←s2m];rfl
 ·refine ⟨_,rfl,?_⟩
  show PL.den _ _ _
  rw [PL.den]
  show Value.int .u32 _=_
  rw [wrap_u32]
  rename_i n
  have:=m2t n
  rw [←this,←s2n];rfl
 exact ⟨_,rfl,by show PL.den _ _ _;rw [PL.den,p2p,←IntWalk.i64_left];rfl⟩
def toKind (k:IntKind) (x:PL):Option PL:=
 match k,x with
 | .u8,.u8 x=>some (.u8 x)
 | .u8,.u32 x=>some (.u8 x.toUInt8)
 | .u8,.u64 x=>some (.u8 x.toUInt8)
 | .u8,.i n=>some (.u8 (UInt8.ofNat (n%256).toNat))
 | .u32,.u8 x=>some (.u32 x.toUInt32)
 | .u32,.u32 x=>some (.u32 x)
 | .u32,.u64 x=>some (.u32 x.toUInt32)
 | .u32,.i n=>some (.u32 (UInt32.ofNat (n%4294967296).toNat))
 | .u64,.u8 x=>some (.u64 x.toUInt64)
 | .u64,.u32 x=>some (.u64 x.toUInt64)
 | .u64,.u64 x=>some (.u64 x)
 | .u64,.i n=>some (.u64 (UInt64.ofNat (n%18446744073709551616).toNat))
 | .i64,.u8 x=>some (.i x.toNat)
 | .i64,.u32 x=>some (.i x.toNat)
 | .i64,.u64 x=>some (.i (Go.RowKit.wrap64 x.toNat))
 | .i64,.i n=>some (.i (Go.RowKit.wrap64 n))
 |_,_=>none
theorem m1a {P:Program} {k:IntKind} {x z:PL} {ro:Ro} (w:World) (h:toKind k x=some z):
 ∃ n,x.num=some n∧(Conv.intToInt k n).run P w=.ok z.mk w∧z.den ro z.mk:=by
 unfold toKind at h
 split at h<;>cases h<;>refine ⟨_,rfl,?_,by rw [PL.den];rfl⟩
 all_goals simp only [Conv.intToInt,PL.mk,Sem.run_pure,wrap_u8,wrap_u32,wrap_u64,IntWalk.i64_left]
 ·rename_i x;have:=x.toNat_lt;congr 2;omega
 ·congr 2
 ·congr 2
 ·rename_i n;congr 2;simp;omega
 ·rename_i x;have:=x.toNat_lt;congr 2;simp;omega
 ·rename_i x;have:=x.toNat_lt;congr 2;omega
 ·congr 2
 ·rename_i n;congr 2;simp;omega
 ·rename_i x;have:=x.toNat_lt;congr 2;simp;omega
 ·rename_i x;have:=x.toNat_lt;congr 2;simp;omega
 ·rename_i x;have:=x.toNat_lt;congr 2;omega
 ·rename_i n;congr 2;simp;omega
 ·rename_i x;have:=x.toNat_lt;congr 2;exact IntWalk.wrap64_in _ (by omega)
 rename_i x;have:=x.toNat_lt;congr 2;exact IntWalk.wrap64_in _ (by omega)
def a0b :List L→Option (List UInt8)
 | []=>some []
 | .pl (.u8 x)::r=>(a0b r).map (x:: ·)
 |_=>none
def e0b :List (List PL)→Option (List UInt8)
 | []=>some []
 | [.u8 x]::r=>(e0b r).map (x:: ·)
 |_=>none
theorem a1l {d:Va}: ∀ {c:List L} {bs:List UInt8} {vals:List Value},a0b c=some bs→Fv (L.den d) c vals→vals=bs.map fun b=>.int .u8 b.toNat
 | [],bs,vals,h,hd=>by cases hd;simp only [a0b] at h;cases h;rfl
 |c::r,bs,vals,h,hd=>by
   cases hd with
   |cons h1 h2=>
     unfold a0b at h
     split at h
     ·rename_i he;cases he
     ·rename_i x r' he
      cases he
      cases hb:a0b r with
      |none=>simp [hb] at h
      |some bs'=>
        simp only [hb,yR,Option.some.injEq] at h;subst h
        rw [L.den,PL.den] at h1
        rw [h1,a1l hb h2];rfl
     cases h
theorem a1k {ro:Ro} {blk:Nat} {w:World} (hro: ∀ b o y,ro b o=some y→w.cell? ⟨b,o,none⟩=some y):
 ∀ {rows:List (List PL)} {bs:List UInt8} {off:Nat},e0b rows=some bs→PL.denRows ro blk 1 rows off→Mk w blk off (bs.map fun b=>Value.int .u8 b.toNat)∧rows.length=bs.length
 | [],bs,off,h,_=>by simp only [e0b] at h;cases h;exact ⟨fun j v hv=>by simp at hv,rfl⟩
 |r::rs,bs,off,h,hd=>by
   unfold e0b at h
   split at h
   ·rename_i he;cases he
   ·rename_i x r' he
    cases he
    cases hb:e0b rs with
    |none=>simp [hb] at h
    |some bs'=>
      simp only [hb,yR,Option.some.injEq] at h;subst h
      rw [PL.denRows,PL.denAt] at hd
      obtain ⟨_,⟨⟨y,hy,hyd⟩,_⟩,hrest⟩:=hd
      rw [PL.den] at hyd;subst hyd
      obtain ⟨ih,hl⟩:=a1k hro hb hrest
      refine ⟨fun j v hv=>?_,by simp [hl]⟩
      cases j with
      |zero=>simp at hv;subst hv;exact hro _ _ _ hy
      |succ j=>have:=ih j v (by simpa using hv);rw [show off+(j+1)=off+1+j from by omega];exact this
   cases h
end Go.Sy
namespace Go.Sy
def Tw (x:Option V) (z:Nat) (most:Nat):Option Nat:=
 match x with
 |none=>some z
 |some x=>match x.num with
   |some n=>if 0≤n∧n≤most then some n.toNat else none
   |none=>none
def i0x (P:Program) (S:St) (t:TypeId) (x:V) (lo hi mx:Option V):Option V:=
 match P.underlying t,x with
 |some .string,.w (.one (.pl (.str s)))=>
   match mx with
   |some _=>none
   |none=>match Tw hi s.length s.length with
     |none=>none
     |some h=>match Tw lo 0 h with
       |none=>none
       |some l=>some (.w (.one (.pl (.str ((s.drop l).take (h-l))))))
 |some (.array n e),.w (.one (.p k path))=>
   match mx,look S.mem k with
   |none,some o=>if P.cellsOf e≠0∧pok o.cells.length path∧psz o.cells.length path=n*P.cellsOf e∧n≤maxLen then
      match Tw hi n n with
      |none=>none
      |some h=>match Tw lo 0 h with
        |none=>none
        |some l=>some (.w (.one (.s k ((l*P.cellsOf e,(h-l)*P.cellsOf e)::path) (h-l) (P.cellsOf e))))
     else none
   |_,_=>none
 |some (.slice e),.w (.one (.s k path len sz))=>
   match mx with
   |some _=>none
   |none=>if sz=P.cellsOf e∧sz≠0 then
      match Tw hi len len with
      |none=>none
      |some h=>match Tw lo 0 h with
        |none=>none
        |some l=>some (.w (.one (.s k ((l*sz,(h-l)*sz)::path) (h-l) sz)))
     else none
 |some (.slice e),.w (.one (.pl (.R ex sz rows)))=>
   if (sz=P.cellsOf e∨rows=[])∧P.cellsOf e≠0 then
    match Tw hi rows.length rows.length with
    |none=>none
    |some h=>match Tw lo 0 h with
      |none=>none
      |some l=>match mx with
        |none=>some (.w (.one (.pl (.R (ex&&decide (h=rows.length)) (P.cellsOf e) ((rows.drop l).take (h-l))))))
        |some m=>match m.num with
          |some m=>if m=h∧hi.isSome then some (.w (.one (.pl (.R true (P.cellsOf e) ((rows.drop l).take (h-l)))))) else none
          |none=>none
   else none
 |_,_=>none
theorem b0d {P:Program} {d:Va} {w:World} {x:V} {j:Value} {z most y:Nat} {code:BoundsCode} {n:Nat} (hv:Tw (some x) z most=some n) (hx:x.den d j) (hm:most≤y):
 (Instr.sliceBound j y code).run P w=.ok n w∧n≤most:=by
 unfold Tw at hv
 simp only at hv
 split at hv<;>try (cases hv;done)
 rename_i m hn
 obtain ⟨kk,rfl⟩:=V.num_den hn hx
 split at hv<;>cases hv
 rename_i hc
 have:0≤m∧m≤(y:Int):=by omega
 exact ⟨by simp [Instr.sliceBound,asIntOf,this],by omega⟩
theorem d0u {z most n:Nat} (hv:Tw none z most=some n):n=z:=by
 unfold Tw at hv;cases hv;rfl
def r0e (d:Va) (x:Option V) (j:Option Value):Prop:=
 match x,j with
 |none,none=>True
 |some x,some j=>x.den d j
 |_,_=>False
theorem d0a {P:Program} {d:Va} {w:World} {isSlice:Bool} {lo hi:Option V} {lj hj:Option Value} {len cap h l:Nat} (hlc:len≤cap)
 (hh:Tw hi len len=some h) (hl:Tw lo 0 h=some l) (dl:r0e d lo lj) (dh:r0e d hi hj):
 (Instr.sliceBounds isSlice len cap lj hj none).run P w=.ok (l,h,cap) w∧l≤h∧h≤len:=by
 cases hi with
 |none=>
   cases hj with
   |some _=>exact dh.elim
   |none=>
     obtain rfl:=d0u hh
     cases lo with
     |none=>
       cases lj with
       |some _=>exact dl.elim
       |none=>
         obtain rfl:=d0u hl
         exact ⟨by simp [Instr.sliceBounds],by omega,by omega⟩
     |some lo=>
       cases lj with
       |none=>exact dl.elim
       |some lj=>
         have h2:=b0d (P:=P) (w:=w) (y:=h) (code:=.sliceB) hl dl (xL _)
         exact ⟨by simp [Instr.sliceBounds,h2.1],h2.2,by omega⟩
 |some hi=>
   cases hj with
   |none=>exact dh.elim
   |some hj=>
     have h1:=b0d (P:=P) (w:=w) (y:=cap) (code:=if isSlice then .sliceAcap else .sliceAlen) hh dh hlc
     cases lo with
     |none=>
       cases lj with
       |some _=>exact dl.elim
       |none=>
         obtain rfl:=d0u hl
         exact ⟨by simp [Instr.sliceBounds,h1.1],by omega,h1.2⟩
     |some lo=>
       cases lj with
       |none=>exact dl.elim
       |some lj=>
         have h2:=b0d (P:=P) (w:=w) (y:=h) (code:=.sliceB) hl dl (xL _)
         exact ⟨by simp [Instr.sliceBounds,h1.1,h2.1],h2.2,h1.2⟩
theorem d1f {x:V} {z most n:Nat} (hv:Tw (some x) z most=some n):Tw (some x) z n=some n:=by
 unfold Tw at*
 simp only at*
 split at hv<;>try (cases hv;done)
 split at hv<;>cases hv
 rename_i hc
 rw [if_pos (by omega)]
theorem l0z {P:Program} {d:Va} {w:World} {lo:Option V} {hi:V} {lj:Option Value} {hj mj:Value} {len cap h l:Nat} {m:V} (hlc:len≤cap)
 (hh:Tw (some hi) len len=some h) (hl:Tw lo 0 h=some l) (hm:m.num=some (h:Int)) (dl:r0e d lo lj) (dh:hi.den d hj) (dm:m.den d mj):
 (Instr.sliceBounds true len cap lj (some hj) (some mj)).run P w=.ok (l,h,h) w∧l≤h∧h≤len:=by
 have h0:=b0d (P:=P) (w:=w) (y:=h) (code:=.slice3B) (d1f hh) dh (xL _)
 have h1:=b0d (P:=P) (w:=w) (y:=len) (code:=.slice3B) hh dh (xL _)
 have h2:Tw (some m) 0 h=some h:=by
  unfold Tw;simp only [hm];rw [if_pos (by omega)];rfl
 have h2:=b0d (P:=P) (w:=w) (y:=cap) (code:=.slice3Acap) h2 dm (by omega)
 cases lo with
 |none=>
   cases lj with
   |some _=>exact dl.elim
   |none=>
     obtain rfl:=d0u hl
     exact ⟨by simp [Instr.sliceBounds,h2.1,h0.1],by omega,h1.2⟩
 |some lo=>
   cases lj with
   |none=>exact dl.elim
   |some lj=>
     have h3:=b0d (P:=P) (w:=w) (y:=h) (code:=.slice3C) hl dl (xL _)
     exact ⟨by simp [Instr.sliceBounds,h2.1,h0.1,h3.1],h3.2,h1.2⟩
theorem n1a {P:Program} {B:Base} {d:Va} {S:St} {a:Act} {w:World} (hs:Sim B d S a w) {t:TypeId} {x v:V} {lo hi mx:Option V} {y:Value} {lj hj mj:Option Value}
 (hv:i0x P S t x lo hi mx=some v) (hx:x.den d y) (dl:r0e d lo lj) (dh:r0e d hi hj) (dm:r0e d mx mj):
 ∃ z,(Instr.sliceAt t y lj hj mj).run P w=.ok z w∧v.den d z:=by
 unfold i0x at hv
 split at hv<;>try (cases hv;done)
 ·rename_i s hu
  split at hv<;>try (cases hv;done)
  split at hv<;>try (cases hv;done)
  rename_i h hh
  split at hv<;>cases hv
  rename_i l hl
  change PL.den d.ro (.str s) y at hx
  rw [PL.den] at hx
  obtain ⟨rfl,hm⟩:=hx
  cases mj with
  |some _=>exact dm.elim
  |none=>
    have hb:=d0a (P:=P) (w:=w) (isSlice:=false) (xL _) hh hl dl dh
    refine ⟨.string ((⟨s.toArray⟩:ByteArray).extract l h),?_,?_⟩
    ·have hsz:(⟨s.toArray⟩:ByteArray).size=s.length:=by simp [ByteArray.size]
     simp [Instr.sliceAt,Instr.slice,run_underlying hu w,hsz,hb.1]
    show PL.den _ _ _
    rw [PL.den]
    refine ⟨?_,by simp;omega⟩
    congr 1
    apply ByteArray.ext
    simp [ByteArray.data_extract,List.extract_eq_take_drop]
 ·rename_i n e k path hu
  split at hv<;>try (cases hv;done)
  rename_i o hk
  split at hv<;>try (cases hv;done)
  rename_i hc
  obtain ⟨h0,hp,hps,hmax⟩:=hc
  split at hv<;>try (cases hv;done)
  rename_i h hh
  split at hv<;>cases hv
  rename_i l hl
  change y=_ at hx;subst hx
  cases mj with
  |some _=>exact dm.elim
  |none=>
    have hb:=d0a (P:=P) (w:=w) (isSlice:=false) (xL _) hh hl dl dh
    have hsz:=Oy h0 w
    obtain ⟨vals,spare,hvl,hlen⟩:=hs.sizes hk
    have hle:=j0c hp
    have hmul:l*P.cellsOf e+(n-l)*P.cellsOf e=n*P.cellsOf e:=by rw [←wN];congr 1;omega
    refine ⟨.slice (some ⟨d.at_ k,if n=l then Xj path else Xj path+l*P.cellsOf e,none⟩) (h-l) (n-l),?_,?_⟩
    ·simp [Instr.sliceAt,Instr.sureAddr,run_underlying hu w,hb.1,hsz,addr_add]
     split<;>rfl
    refine ⟨_,_,rfl,by omega,by omega,?_,?_⟩
    ·by_cases hnl:n=l
     ·left;omega
     right;simp [hnl,Xj,vL]
    simp only [yG] at hlen
    split
    ·rename_i hnl;subst hnl;simp;omega
    omega
 ·rename_i e k path len sz hu
  split at hv<;>try (cases hv;done)
  split at hv<;>try (cases hv;done)
  rename_i hc
  obtain ⟨rfl,h0⟩:=hc
  split at hv<;>try (cases hv;done)
  rename_i h hh
  split at hv<;>cases hv
  rename_i l hl
  obtain ⟨o,cap,rfl,hlc,hcm,ho,hfit⟩:=hx
  cases mj with
  |some _=>exact dm.elim
  |none=>
    have hb:=d0a (P:=P) (w:=w) (isSlice:=true) hlc hh hl dl dh
    have hsz:=Oy h0 w
    have hmul:l*P.cellsOf e+(cap-l)*P.cellsOf e=cap*P.cellsOf e:=by rw [←wN];congr 1;omega
    refine ⟨.slice (some ⟨d.at_ k,if cap=l then o else o+l*P.cellsOf e,none⟩) (h-l) (cap-l),?_,?_⟩
    ·simp [Instr.sliceAt,Instr.slice,run_underlying hu w,hb.1,hsz,addr_add]
     split<;>rfl
    refine ⟨_,_,rfl,by omega,by omega,?_,?_⟩
    ·by_cases hnl:cap=l
     ·left;omega
     right;rw [if_neg hnl]
     rcases ho with ho|ho
     ·omega
     subst ho;simp [Xj,vL]
    split
    ·rename_i hnl;subst hnl;simp;omega
    omega
 rename_i e ex sz rows hu
 split at hv<;>try (cases hv;done)
 rename_i hc
 obtain ⟨hsz1,h0⟩:=hc
 have fixR: ∀ blk off,PL.denRows d.ro blk sz rows off→PL.denRows d.ro blk (P.cellsOf e) rows off:=by
  intro blk off hr
  rcases hsz1 with rfl|rfl
  ·exact hr
  simp [PL.denRows]
 split at hv<;>try (cases hv;done)
 rename_i h hh
 split at hv<;>try (cases hv;done)
 rename_i l hl
 have hsz:=Oy h0 w
 change PL.den d.ro (.R _ _ _) y at hx
 rw [PL.den] at hx
 split at hv
 ·cases hv
  cases mj with
  |some _=>exact dm.elim
  |none=>
    rcases hx with ⟨rfl,rfl⟩|⟨blk,off,cap,rfl,hlc,hcm,hex,hrows⟩|⟨sa,cap,rfl,rfl,hcm,hex⟩
    ·have hb:=d0a (P:=P) (w:=w) (isSlice:=true) (xL 0) hh hl dl dh
     obtain rfl:h=0:=by omega
     obtain rfl:l=0:=by omega
     refine ⟨.slice none 0 0,?_,?_⟩
     ·simp [Instr.sliceAt,Instr.slice,run_underlying hu w,hb.1,hsz]
     show PL.den _ _ _;rw [PL.den];left;exact ⟨rfl,by simp⟩
    ·have hb:=d0a (P:=P) (w:=w) (isSlice:=true) hlc hh hl dl dh
     refine ⟨.slice (some ⟨blk,if cap=l then off else off+l*P.cellsOf e,none⟩) (h-l) (cap-l),?_,?_⟩
     ·simp [Instr.sliceAt,Instr.slice,run_underlying hu w,hb.1,hsz,addr_add]
      split<;>rfl
     show PL.den _ _ _
     rw [PL.den];right;left
     have hl2:((rows.drop l).take (h-l)).length=h-l:=by simp;omega
     refine ⟨blk,if cap=l then off else off+l*P.cellsOf e,cap-l,by rw [hl2],by omega,by omega,?_,?_⟩
     ·intro hh2
      simp only [yD,decide_eq_true_eq] at hh2
      have:=hex hh2.1
      rw [hl2];omega
     split
     ·have:h-l=0:=by omega
      rw [this];simp [PL.denRows]
     exact f0l (f0m (fixR _ _ hrows) l (by omega)) _
    have hb:=d0a (P:=P) (w:=w) (isSlice:=true) (xA cap) hh hl dl dh
    obtain rfl:h=0:=by have:=hb.2;simp at this;omega
    obtain rfl:l=0:=by have:=hb.2;omega
    refine ⟨.slice (some sa) 0 cap,?_,?_⟩
    ·simp [Instr.sliceAt,Instr.slice,run_underlying hu w,hb.1,hsz,Addr.add]
    show PL.den _ _ _;rw [PL.den];right;right;exact ⟨sa,cap,rfl,by simp,hcm,fun hh2=>by simp only [yD] at hh2;exact hex hh2.1⟩
 rename_i m
 split at hv<;>try (cases hv;done)
 rename_i mn hmn
 split at hv<;>cases hv
 rename_i hc2
 obtain ⟨rfl,his⟩:=hc2
 cases mj with
 |none=>exact dm.elim
 |some mj=>
   cases hi with
   |none=>simp at his
   |some hi=>
     cases hj with
     |none=>exact dh.elim
     |some hj=>
       rcases hx with ⟨rfl,rfl⟩|⟨blk,off,cap,rfl,hlc,hcm,hex,hrows⟩|⟨sa,cap,rfl,rfl,hcm,hex⟩
       ·have hb:=l0z (P:=P) (w:=w) (xL 0) hh hl hmn dl dh dm
        obtain rfl:h=0:=by omega
        obtain rfl:l=0:=by omega
        refine ⟨.slice none 0 0,?_,?_⟩
        ·simp [Instr.sliceAt,Instr.slice,run_underlying hu w,hb.1,hsz]
        show PL.den _ _ _;rw [PL.den];left;exact ⟨rfl,by simp⟩
       ·have hb:=l0z (P:=P) (w:=w) hlc hh hl hmn dl dh dm
        refine ⟨.slice (some ⟨blk,if h=l then off else off+l*P.cellsOf e,none⟩) (h-l) (h-l),?_,?_⟩
        ·simp [Instr.sliceAt,Instr.slice,run_underlying hu w,hb.1,hsz,addr_add]
         split<;>rfl
        show PL.den _ _ _
        rw [PL.den];right;left
        have hl2:((rows.drop l).take (h-l)).length=h-l:=by simp;omega
        refine ⟨blk,if h=l then off else off+l*P.cellsOf e,h-l,by rw [hl2],by omega,by omega,fun _=>hl2.symm,?_⟩
        split
        ·have:h-l=0:=by omega
         rw [this];simp [PL.denRows]
        exact f0l (f0m (fixR _ _ hrows) l (by omega)) _
       have hb:=l0z (P:=P) (w:=w) (xA cap) hh hl hmn dl dh dm
       obtain rfl:h=0:=by have:=hb.2;simp at this;omega
       obtain rfl:l=0:=by have:=hb.2;omega
       refine ⟨.slice (some sa) 0 0,?_,?_⟩
       ·simp [Instr.sliceAt,Instr.slice,run_underlying hu w,hb.1,hsz,Addr.add]
       show PL.den _ _ _;rw [PL.den];right;right;exact ⟨sa,0,rfl,by simp,xA _,fun _=>rfl⟩
end Go.Sy
namespace Go.Sy
inductive Kd where
 |int (k:IntKind)
 |b
 |s
 deriving DecidableEq
def p1w :Value→Option Kd
 | .int k _=>some (.int k)
 | .bool _=>some .b
 | .string _=>some .s
 |_=>none
def eqv :Value→Value→Bool
 | .int _ a,.int _ b=>a==b
 | .bool a,.bool b=>a==b
 | .string a,.string b=>a.toList==b.toList
 |_,_=>false
def Vj :List Value→List Value→Bool
 |x::xs,y::ys=>eqv x y&&Vj xs ys
 |_,_=>true
def j0z (P:Program) (g:TypeId→Option (List Kd)):List Field→Nat→Option (List Kd)
 | [],_=>some []
 |f::fs,off=>
   if f.offset=off∧f.name≠ "_" then
    match g f.type with
    |some ks=>if ks.length=P.cellsOf f.type∧ks.length≠0 then (j0z P g fs (off+ks.length)).map (ks++ ·) else none
    |none=>none
   else none
def flatK (P:Program):Nat→TypeId→Option (List Kd)
 |0,_=>none
 |n+1,t=>
   match P.underlying t with
   |some (.int k)=>some [.int k]
   |some .bool=>some [.b]
   |some .string=>some [.s]
   |some (.struct fs)=>if P.stoodInHeld t=false then j0z P (flatK P n) fs.toList 0 else none
   |some (.array len e)=>
     match flatK P n e with
     |some ks=>if ks.length=P.cellsOf e∧ks.length≠0 then some (List.replicate len ks).flatten else none
     |none=>none
   |_=>none
def f0v (P:Program) (t:TypeId) (x:Value) (cs:List Value):Prop:=
 match P.underlying t with
 |some (.struct _)|some (.array _ _)=>x=.agg cs.toArray
 |_=>cs=[x]
theorem u0u {P:Program} {w:World} {n:Nat} {t:TypeId} {ks:List Kd} (hk:flatK P n t=some ks) (hl:ks.length=P.cellsOf t) (h0:ks.length≠0) {xs:Array Value} {off:Nat} (hle:off+ks.length≤xs.size):
 ∃ z,(part t xs off).run P w=.ok z w∧f0v P t z (win xs.toList off ks.length):=by
 have hsz:=Oy (P:=P) (t:=t) (by omega) w
 have hx: ∀ (h:off<xs.size),ks.length=1→win xs.toList off ks.length=[xs[off]]:=by
  intro h h1
  rw [h1]
  unfold win
  rw [xM (by simpa using h)]
  simp
 cases n with
 |zero=>cases hk
 |succ n=>
   unfold flatK at hk
   unfold f0v
   split at hk
   ·rename_i k hu;cases hk
    have hlt:off<xs.size:=by simp at hle;omega
    refine ⟨xs[off],?_,?_⟩
    ·unfold part;simp [isAgg,Sem.run_bind,run_underlying hu w,hlt]
    simp only [hu];exact hx hlt rfl
   ·rename_i hu;cases hk
    have hlt:off<xs.size:=by simp at hle;omega
    refine ⟨xs[off],?_,?_⟩
    ·unfold part;simp [isAgg,Sem.run_bind,run_underlying hu w,hlt]
    simp only [hu];exact hx hlt rfl
   ·rename_i hu;cases hk
    have hlt:off<xs.size:=by simp at hle;omega
    refine ⟨xs[off],?_,?_⟩
    ·unfold part;simp [isAgg,Sem.run_bind,run_underlying hu w,hlt]
    simp only [hu];exact hx hlt rfl
   ·rename_i fs hu
    refine ⟨.agg (xs.extract off (off+P.cellsOf t)),?_,?_⟩
    ·unfold part;simp [isAgg,Sem.run_bind,run_underlying hu w,hsz]
    simp only [hu];rw [hl];congr 1
    apply Array.ext';simp [win,List.extract_eq_take_drop]
   ·rename_i len e hu
    refine ⟨.agg (xs.extract off (off+P.cellsOf t)),?_,?_⟩
    ·unfold part;simp [isAgg,Sem.run_bind,run_underlying hu w,hsz]
    simp only [hu];rw [hl];congr 1
    apply Array.ext';simp [win,List.extract_eq_take_drop]
   cases hk
theorem d0r : ∀ {a b c d:List Value},a.length=b.length→Vj (a++c) (b++d)=(Vj a b&&Vj c d)
 | [],[],c,d,_=>by simp [Vj]
 |x::a,y::b,c,d,h=>by
   simp only [yB,Vj]
   rw [d0r (by simpa using h),Bool.and_assoc]
theorem e0h {α:Type} (xs:List α) (o n m:Nat):win xs o (n+m)=win xs o n++win xs (o+n) m:=by
 unfold win
 rw [List.take_add,wO]
def Kinds (ks:List Kd) (xs:List Value):Prop:=xs.map p1w=ks.map some
theorem Kinds.length {ks:List Kd} {xs:List Value} (h:Kinds ks xs):xs.length=ks.length:=by
 have:=congrArg List.length h;simpa using this
theorem Kinds.split {ks ks':List Kd} {xs ys:List Value} (h:Kinds (ks++ks') (xs++ys)) (hl:xs.length=ks.length):Kinds ks xs∧Kinds ks' ys:=by
 unfold Kinds at*
 rw [xQ,xQ] at h
 exact List.append_inj h (by simpa using hl)
theorem m0w {P:Program} {w:World} {n:Nat} (ih: ∀ t ks,flatK P n t=some ks→∀ x y xs ys,f0v P t x xs→f0v P t y ys→Kinds ks xs→Kinds ks ys→(Op.equalIn n t x y).run P w=.ok (Vj xs ys) w)
 {xs ys:Array Value}: ∀ (fs:List Field) (off:Nat) (ks:List Kd),j0z P (flatK P n) fs off=some ks→off+ks.length≤xs.size→off+ks.length≤ys.size→
  Kinds ks (win xs.toList off ks.length)→Kinds ks (win ys.toList off ks.length)→
  (Op.eqFields n xs ys fs).run P w=.ok (Vj (win xs.toList off ks.length) (win ys.toList off ks.length)) w
 | [],off,ks,h,_,_,_,_=>by cases h;simp [Op.eqFields,win,Vj]
 |f::fs,off,ks,h,hx,hy,kx,ky=>by
   unfold j0z at h
   split at h<;>try (cases h;done)
   rename_i hc
   obtain ⟨rfl,hname⟩:=hc
   split at h<;>try (cases h;done)
   rename_i k1 hg
   split at h<;>try (cases h;done)
   rename_i hc2
   cases h2:j0z P (flatK P n) fs (f.offset+k1.length) with
   |none=>simp [h2] at h
   |some k2=>
     simp only [h2,yR,Option.some.injEq] at h
     subst h
     rw [yG] at hx hy kx ky ⊢
     rw [e0h] at kx ky ⊢
     rw [e0h] at ⊢
     have l1:(win xs.toList f.offset k1.length).length=k1.length:=Yq _ _ _ (by simp;omega)
     have l2:(win ys.toList f.offset k1.length).length=k1.length:=Yq _ _ _ (by simp;omega)
     obtain ⟨kx1,kx2⟩:=kx.split l1
     obtain ⟨ky1,ky2⟩:=ky.split l2
     obtain ⟨a,ha,fa⟩:=u0u (w:=w) hg hc2.1 hc2.2 (xs:=xs) (off:=f.offset) (by omega)
     obtain ⟨b,hb,fb⟩:=u0u (w:=w) hg hc2.1 hc2.2 (xs:=ys) (off:=f.offset) (by omega)
     have he:=ih _ _ hg a b _ _ fa fb kx1 ky1
     have hr:=m0w ih fs (f.offset+k1.length) k2 h2 (by omega) (by omega) kx2 ky2
     rw [d0r (by rw [l1,l2])]
     simp only [Op.eqFields,hname,ne_eq,not_false_eq_true,if_true,Sem.run_bind,ha,hb,he,Result.andThen_ok]
     cases hq:Vj (win xs.toList f.offset k1.length) (win ys.toList f.offset k1.length)
     ·simp
     simp [hr]
theorem q0e {P:Program} {w:World} {n:Nat} (ih: ∀ t ks,flatK P n t=some ks→∀ x y xs ys,f0v P t x xs→f0v P t y ys→Kinds ks xs→Kinds ks ys→(Op.equalIn n t x y).run P w=.ok (Vj xs ys) w)
 {xs ys:Array Value} {e:TypeId} {ks:List Kd} (hk:flatK P n e=some ks) (hl:ks.length=P.cellsOf e) (h0:ks.length≠0):
 ∀ (len start:Nat),(start+len)*ks.length≤xs.size→(start+len)*ks.length≤ys.size→
  Kinds (List.replicate len ks).flatten (win xs.toList (start*ks.length) (len*ks.length))→Kinds (List.replicate len ks).flatten (win ys.toList (start*ks.length) (len*ks.length))→
  (Op.eqItems n e (P.cellsOf e) xs ys (List.range' start len)).run P w=.ok (Vj (win xs.toList (start*ks.length) (len*ks.length)) (win ys.toList (start*ks.length) (len*ks.length))) w
 |0,start,_,_,_,_=>by simp [Op.eqItems,win,Vj]
 |len+1,start,hx,hy,kx,ky=>by
   have e1:(len+1)*ks.length=ks.length+len*ks.length:=by rw [wN];omega
   have e2:start*ks.length+ks.length=(start+1)*ks.length:=by rw [wN];omega
   have e3:(start+(len+1))*ks.length=(start+1+len)*ks.length:=by congr 1;omega
   have e4:(start+1+len)*ks.length=(start+1)*ks.length+len*ks.length:=by rw [wN]
   rw [e3] at hx hy
   rw [wT,wV,e1,e0h,e2] at kx ky
   rw [e1,e0h,e0h,e2]
   have l1:(win xs.toList (start*ks.length) ks.length).length=ks.length:=Yq _ _ _ (by simp;omega)
   have l2:(win ys.toList (start*ks.length) ks.length).length=ks.length:=Yq _ _ _ (by simp;omega)
   obtain ⟨kx1,kx2⟩:=kx.split l1
   obtain ⟨ky1,ky2⟩:=ky.split l2
   obtain ⟨a,ha,fa⟩:=u0u (w:=w) hk hl h0 (xs:=xs) (off:=start*ks.length) (by omega)
   obtain ⟨b,hb,fb⟩:=u0u (w:=w) hk hl h0 (xs:=ys) (off:=start*ks.length) (by omega)
   have he:=ih _ _ hk a b _ _ fa fb kx1 ky1
   have hr:=q0e ih hk hl h0 len (start+1) hx hy kx2 ky2
   rw [d0r (by rw [l1,l2])]
   rw [hl] at ha hb
   simp only [List.range'_succ,Op.eqItems,Sem.run_bind,ha,hb,he,Result.andThen_ok]
   cases hq:Vj (win xs.toList (start*ks.length) ks.length) (win ys.toList (start*ks.length) ks.length)
   ·simp
   simp [hr]
theorem i0i {P:Program} {w:World}: ∀ (n:Nat) (t:TypeId) (ks:List Kd),flatK P n t=some ks→∀ x y xs ys,f0v P t x xs→f0v P t y ys→Kinds ks xs→Kinds ks ys→
 (Op.equalIn n t x y).run P w=.ok (Vj xs ys) w
 |0,t,ks,h,_,_,_,_,_,_,_,_=>by cases h
 |n+1,t,ks,h,x,y,xs,ys,fx,fy,kx,ky=>by
   unfold flatK at h
   unfold f0v at fx fy
   split at h
   ·rename_i k hu
    cases h
    simp only [hu] at fx fy;subst fx;subst fy
    simp only [Kinds,yL,vO,List.cons.injEq,and_true] at kx ky
    unfold p1w at kx ky
    split at kx<;>cases kx
    split at ky<;>cases ky
    rw [run_equalIn_int w n t k k _ _ hu];simp [Vj,eqv]
   ·rename_i hu
    cases h
    simp only [hu] at fx fy;subst fx;subst fy
    simp only [Kinds,yL,vO,List.cons.injEq,and_true] at kx ky
    unfold p1w at kx ky
    split at kx<;>cases kx
    split at ky<;>cases ky
    rw [run_equalIn_bool' w n t _ _ hu];simp [Vj,eqv]
   ·rename_i hu
    cases h
    simp only [hu] at fx fy;subst fx;subst fy
    simp only [Kinds,yL,vO,List.cons.injEq,and_true] at kx ky
    unfold p1w at kx ky
    split at kx<;>cases kx
    split at ky<;>cases ky
    rw [run_equalIn_string w n t _ _ hu];simp [Vj,eqv]
   ·rename_i fs hu
    split at h<;>try (cases h;done)
    rename_i hst
    simp only [hu] at fx fy;subst fx;subst fy
    have hf:P.fieldsOf t=fs:=by simp [Program.fieldsOf,hu]
    rw [run_equalIn_struct w n t _ _ (by rw [hf];exact hu) hst,hf]
    have lx:=kx.length;have ly:=ky.length
    have wx:win xs.toArray.toList 0 ks.length=xs:=by simp [win,←lx]
    have wy:win ys.toArray.toList 0 ks.length=ys:=by simp [win,←ly]
    have:=m0w (w:=w) (fun t ks h=>i0i n t ks h) (xs:=xs.toArray) (ys:=ys.toArray) fs.toList 0 ks h (by simp;omega) (by simp;omega) (by rw [wx];exact kx) (by rw [wy];exact ky)
    rwa [wx,wy] at this
   ·rename_i len e hu
    split at h<;>try (cases h;done)
    rename_i ke hke
    split at h<;>cases h
    rename_i hc
    simp only [hu] at fx fy;subst fx;subst fy
    obtain ⟨i,hi,_⟩:=j0t (P:=P) (t:=e) (by omega)
    rw [run_equalIn_array w n _ _ hu hi,List.range_eq_range']
    have hfl:(List.replicate len ke).flatten.length=len*ke.length:=by simp
    have lx:=kx.length;have ly:=ky.length
    rw [hfl] at lx ly
    have wx:win xs.toArray.toList (0*ke.length) (len*ke.length)=xs:=by simp [win,←lx]
    have wy:win ys.toArray.toList (0*ke.length) (len*ke.length)=ys:=by simp [win,←ly]
    have:=q0e (w:=w) (fun t ks h=>i0i n t ks h) (xs:=xs.toArray) (ys:=ys.toArray) hke hc.1 hc.2 len 0 (by simp;omega) (by simp;omega) (by rw [wx];exact kx) (by rw [wy];exact ky)
    rwa [wx,wy] at this
   cases h
end Go.Sy
namespace Go.Sy
theorem q0a {P:Program} {g g':TypeId→Option (List Kd)} (h: ∀ t ks,g t=some ks→g' t=some ks): ∀ (fs:List Field) (off:Nat) (ks:List Kd),j0z P g fs off=some ks→j0z P g' fs off=some ks
 | [],_,_,hk=>hk
 |f::fs,off,ks,hk=>by
   unfold j0z at*
   split at hk<;>try (cases hk;done)
   rename_i hc
   split at hk<;>try (cases hk;done)
   rename_i k1 hg
   split at hk<;>try (cases hk;done)
   rename_i hc2
   cases h2:j0z P g fs (off+k1.length) with
   |none=>simp [h2] at hk
   |some k2=>
     rw [if_pos hc,h _ _ hg]
     simp only
     rw [if_pos hc2,q0a h fs _ _ h2,←hk,h2]
theorem l0s {P:Program}: ∀ (n:Nat) (t:TypeId) (ks:List Kd),flatK P n t=some ks→flatK P (n+1) t=some ks
 |0,_,_,h=>by cases h
 |n+1,t,ks,h=>by
   rw [flatK] at h
   rw [flatK]
   split at h<;>rename_i hu<;>try exact h
   ·split at h<;>try (cases h;done)
    rename_i hst
    rw [if_pos hst];exact q0a (l0s n) _ _ _ h
   split at h<;>try (cases h;done)
   rename_i ke hke
   rw [l0s n _ _ hke];exact h
theorem z0u {P:Program} {n:Nat} {t:TypeId} {ks:List Kd} (h:flatK P n t=some ks): ∀ m,flatK P (n+m) t=some ks
 |0=>h
 |m+1=>l0s _ _ _ (z0u h m)
def Tq :L→Option Kd
 | .pl (.u8 _)=>some (.int .u8)
 | .pl (.u32 _)=>some (.int .u32)
 | .pl (.u64 _)=>some (.int .u64)
 | .pl (.i _)=>some (.int .i64)
 | .pl (.b _)=>some .b
 | .pl (.str _)=>some .s
 |_=>none
def eqL :L→L→Bool
 | .pl (.u8 x),.pl (.u8 y)=>decide (x=y)
 | .pl (.u32 x),.pl (.u32 y)=>decide (x=y)
 | .pl (.u64 x),.pl (.u64 y)=>decide (x=y)
 | .pl (.i x),.pl (.i y)=>decide (x=y)
 | .pl (.b x),.pl (.b y)=>decide (x=y)
 | .pl (.str x),.pl (.str y)=>decide (x=y)
 |_,_=>false
def eqC :List L→List L→Bool
 |x::xs,y::ys=>eqL x y&&eqC xs ys
 |_,_=>true
theorem g1s {d:Va} {l:L} {y:Value} {k:Kd} (h:Tq l=some k) (hd:l.den d y):p1w y=some k:=by
 unfold Tq at h
 split at h<;>cases h<;>(rw [L.den,PL.den] at hd)<;>first|(rw [hd];rfl)|(rw [hd.1];rfl)
theorem toList_mk (s:List UInt8):(⟨s.toArray⟩:ByteArray).toList=s:=by rw [ByteArray.toList_eq]
theorem o2j {d:Va} {a b:L} {x y:Value} {k:Kd} (ha:Tq a=some k) (hb:Tq b=some k) (hx:a.den d x) (hy:b.den d y):eqv x y=eqL a b:=by
 unfold Tq at ha
 split at ha<;>cases ha<;>(unfold Tq at hb;split at hb<;>cases hb)<;>(rw [L.den,PL.den] at hx hy)<;>
  first
  |(subst hx;subst hy;simp [eqv,eqL,BEq.beq,vJ,UInt32.toNat_inj,xS,Int.natCast_inj];done)
  |(rw [hx.1,hy.1];simp only [eqv,eqL,toList_mk];rw [Bool.eq_iff_iff];simp)
theorem b2h {d:Va}: ∀ {xs ys:List L} {vs us:List Value} {ks:List Kd},xs.map Tq=ks.map some→ys.map Tq=ks.map some→Fv (L.den d) xs vs→Fv (L.den d) ys us→Vj vs us=eqC xs ys∧Kinds ks vs∧Kinds ks us
 | [],[],_,_,ks,h,h',hx,hy=>by
   cases hx;cases hy
   cases ks with
   |nil=>exact ⟨rfl,rfl,rfl⟩
   |cons=>simp at h
 | [],y::ys,_,_,ks,h,h',hx,hy=>by cases ks<;>simp at h h'
 |x::xs,[],_,_,ks,h,h',hx,hy=>by cases ks<;>simp at h h'
 |x::xs,y::ys,_,_,[],h,h',hx,hy=>by simp at h
 |x::xs,y::ys,_,_,k::ks,h,h',hx,hy=>by
   cases hx with
   |cons hx1 hx2=>
     cases hy with
     |cons hy1 hy2=>
       simp only [yL,List.cons.injEq] at h h'
       obtain ⟨e1,e2,e3⟩:=b2h h.2 h'.2 hx2 hy2
       refine ⟨by simp only [Vj,eqC,e1,o2j h.1 h'.1 hx1 hy1],?_,?_⟩
       ·simp only [Kinds,yL,g1s h.1 hx1];rw [e2]
       simp only [Kinds,yL,g1s h'.1 hy1];rw [e3]
def c0d (P:Program) (t:TypeId) (xs ys:List L):Option Bool:=
 match flatK P 9 t with
 |some ks=>if xs.map Tq=ks.map some∧ys.map Tq=ks.map some∧P.eqGuardType P.depth t=false then some (eqC xs ys) else none
 |none=>none
def Hy (P:Program) (t:TypeId):Bool:=
 match P.underlying t with
 |some (.struct _)|some (.array _ _)=>true
 |_=>false
def Kv (P:Program) (op:BinOp) (t:TypeId) (x y:V):Option V:=
 match x,y with
 | .w (.one (.pl (.str a))),.w (.one (.pl (.str b)))=>
   match op with
   | .add=>if a.length+b.length≤maxLen then some (.w (.one (.pl (.str (a++b))))) else none
   | .eql=>some (.w (.one (.pl (.b (decide (a=b))))))
   | .neq=>some (.w (.one (.pl (.b (!decide (a=b))))))
   | .lss=>some (.w (.one (.pl (.b (Op.bytesLess a b)))))
   | .leq=>some (.w (.one (.pl (.b (Op.bytesLess a b||decide (a=b))))))
   | .gtr=>some (.w (.one (.pl (.b (!(Op.bytesLess a b||decide (a=b)))))))
   | .geq=>some (.w (.one (.pl (.b (!Op.bytesLess a b)))))
   |_=>none
 | .w (.one (.pl (.b a))),.w (.one (.pl (.b b)))=>
   match op,P.underlying t with
   | .eql,some .bool=>some (.w (.one (.pl (.b (a==b)))))
   | .neq,some .bool=>some (.w (.one (.pl (.b (!(a==b))))))
   |_,_=>none
 | .w (.one (.pl a)),.w (.one (.pl b))=>
   match op with
   | .shl| .shr=>match b.num with
     |some c=>(a0i op a c).map fun z=>.w (.one (.pl z))
     |none=>none
   |op=>(h0n op a b).map fun z=>.w (.one (.pl z))
 | .w (.agg xs),.w (.agg ys)=>
   if Hy P t then
    match op with
    | .eql=>(c0d P t xs ys).map fun z=>.w (.one (.pl (.b z)))
    | .neq=>(c0d P t xs ys).map fun z=>.w (.one (.pl (.b (!z))))
    |_=>none
   else none
 |_,_=>none
theorem z0f {ro:Ro} {x:PL} {y:Value} {n:Int} (h:x.num=some n) (hd:x.den ro y):y=x.mk:=by
 rw [PL.num_den h hd]
 cases x<;>simp only [PL.num,Option.some.injEq] at h<;>first|(cases h;done)|(subst h;rfl)
theorem f0q (s:List UInt8):(⟨s.toArray⟩:ByteArray).size=s.length:=by simp [ByteArray.size]
theorem c2r (a b:List UInt8):(⟨a.toArray⟩:ByteArray)++⟨b.toArray⟩=⟨(a++b).toArray⟩:=by
 apply ByteArray.ext;simp
theorem r1r {d:Va} {x:Bool}:V.den d (.w (.one (.pl (.b x)))) (.bool x):=by
 show PL.den _ _ _;rw [PL.den]
theorem g0n {P:Program} {w:World} {op:BinOp} {t:TypeId} {x y:Operand} {a b:Value} (h: ∀ cs ds,a=.agg cs→b=.agg ds→P.eqGuardType P.depth t=false) (hn:a≠.nilIface):(eqGuard op t x y a b).run P w=.ok () w:=by
 cases a with
 |agg cs=>
   cases b with
   |agg ds=>exact run_eqGuard_agg (P:=P) (w:=w) op t x y cs ds (h _ _ rfl rfl)
   |_=>cases op<;>rfl
 |nilIface=>exact absurd rfl hn
 |_=>cases b<;>cases op<;>rfl
theorem t0r {P:Program} {d:Va} {w:World} {t:TypeId} {xs ys:List L} {cs ds:Array Value} {z:Bool} (h:c0d P t xs ys=some z) (ha:Hy P t=true)
 (hx:Fv (L.den d) xs cs.toList) (hy:Fv (L.den d) ys ds.toList):(Op.equalIn 10000 t (.agg cs) (.agg ds)).run P w=.ok z w∧P.eqGuardType P.depth t=false:=by
 unfold c0d at h
 split at h<;>try (cases h;done)
 rename_i ks hk
 split at h<;>cases h
 rename_i hc
 obtain ⟨h1,h2,h3⟩:=hc
 obtain ⟨e,k1,k2⟩:=b2h h1 h2 hx hy
 have hk2:=z0u hk 9991
 have fx: ∀ c:Array Value,f0v P t (.agg c) c.toList:=by
  intro c
  unfold Hy at ha
  unfold f0v
  split at ha
  ·rename_i hu;simp [hu]
  ·rename_i hu;simp [hu]
  cases ha
 exact ⟨by rw [←e];exact i0i _ _ _ hk2 _ _ _ _ (fx cs) (fx ds) k1 k2,h3⟩
theorem i2j {P : Program} {d : Va} {w : World} {op : BinOp} {t : TypeId} {x y v : V} {a b : Value} {ox oy : Operand} (hv : Kv P op t x y = some v) (hx : x.den d a) (hy : y.den d b) :
    ∃ z, (do eqGuard op t ox oy a b; binOp op t a b : Sem Value).run P w = .ok z w ∧ v.den d z := by
  unfold Kv at hv
  split at hv
  · rename_i s u
    change PL.den d.ro (.str s) a at hx; change PL.den d.ro (.str u) b at hy
    rw [PL.den] at hx hy
    obtain ⟨rfl, hs⟩ := hx
    obtain ⟨rfl, hu⟩ := hy
    have hg := g0n (P := P) (w := w) (op := op) (t := t) (x := ox) (y := oy) (a := .string ⟨s.toArray⟩) (b := .string ⟨u.toArray⟩) (by simp) (by simp)
    split at hv
    · split at hv <;> cases hv
      rename_i hl
      refine ⟨.string ⟨(s ++ u).toArray⟩, ?_, ?_⟩
      · have hle : ¬ (((s.length + u.length : Nat) : Int) > IntKind.i64.max) := by
          have : IntKind.i64.max = (maxLen : Int) := by decide
          rw [this]; omega
        rw [Sem.run_bind, hg, Result.andThen_ok]
        simp only [binOp, Op.stringOp, f0q, Sem.run_ite, if_neg hle, Sem.run_pure, c2r]
      · show PL.den _ _ _; rw [PL.den]; exact ⟨rfl, by simpa using hl⟩
    all_goals first
      | (cases hv; done)
      | (cases hv; refine ⟨_, ?_, r1r⟩; rw [Sem.run_bind, hg, Result.andThen_ok]; simp only [binOp, Op.stringOp, toList_mk, Sem.run_pure] <;>
         first | (congr 2; done) | (congr 2; rw [Bool.eq_iff_iff]; simp))
  · rename_i p q
    change PL.den d.ro _ a at hx; change PL.den d.ro _ b at hy
    rw [PL.den] at hx hy; subst hx; subst hy
    have hg := g0n (P := P) (w := w) (op := op) (t := t) (x := ox) (y := oy) (a := .bool p) (b := .bool q) (by simp) (by simp)
    split at hv <;> cases hv
    · rename_i hu
      refine ⟨_, ?_, r1r⟩
      rw [Sem.run_bind, hg, Result.andThen_ok]
      simp [binOp, Op.equal, Op.maxDepth, run_equalIn_bool' w 9999 t p q hu]
    · rename_i hu
      refine ⟨_, ?_, r1r⟩
      rw [Sem.run_bind, hg, Result.andThen_ok]
      simp [binOp, Op.equal, Op.maxDepth, run_equalIn_bool' w 9999 t p q hu]
  · rename_i p q _ _
    change PL.den d.ro _ a at hx; change PL.den d.ro _ b at hy
    have shift : ∀ o : BinOp, (o = .shl ∨ o = .shr) → (match q.num with | some c => (a0i o p c).map fun z => V.w (.one (.pl z)) | none => none) = some v →
        ∃ z, (do eqGuard o t ox oy a b; binOp o t a b : Sem Value).run P w = .ok z w ∧ v.den d z := by
      intro o ho hv
      split at hv <;> try (cases hv; done)
      rename_i c hc
      cases hsv : a0i o p c with
      | none => simp [hsv] at hv
      | some z =>
        simp only [hsv, yR, Option.some.injEq] at hv; subst hv
        obtain ⟨n, hn, hr, hd⟩ := n1f (P := P) (yk := q.kind) hsv d.ro w
        have ea := PL.num_den hn hx
        have eb := PL.num_den hc hy
        subst ea; subst eb
        refine ⟨z.mk, ?_, hd⟩
        have hg := g0n (P := P) (w := w) (op := o) (t := t) (x := ox) (y := oy) (a := .int p.kind n) (b := .int q.kind c) (by simp) (by simp)
        rw [Sem.run_bind, hg, Result.andThen_ok]
        rcases ho with rfl | rfl <;> simpa [binOp] using hr
    have arith : (h0n op p q).map (fun z => V.w (.one (.pl z))) = some v → ∃ z, (do eqGuard op t ox oy a b; binOp op t a b : Sem Value).run P w = .ok z w ∧ v.den d z := by
      intro hv
      cases ha : h0n op p q with
      | none => simp [ha] at hv
      | some z =>
        simp only [ha, yR, Option.some.injEq] at hv; subst hv
        obtain ⟨hr, hd, ⟨n, hn⟩, ⟨m, hm⟩, _⟩ := s1z (P := P) ha d.ro w t
        have ea := z0f hn hx
        have eb := z0f hm hy
        have en := PL.num_den hn hx
        rw [en] at ea
        have hg := g0n (P := P) (w := w) (op := op) (t := t) (x := ox) (y := oy) (a := p.mk) (b := q.mk) (by rw [← ea]; simp) (by rw [← ea]; simp)
        refine ⟨z.mk, ?_, hd⟩
        rw [en, ea, eb, Sem.run_bind, hg, Result.andThen_ok]; exact hr
    split at hv
    · exact shift _ (.inl rfl) hv
    · exact shift _ (.inr rfl) hv
    · exact arith hv
  · rename_i xs ys
    obtain ⟨cs, rfl, hxs⟩ := hx
    obtain ⟨ds, rfl, hys⟩ := hy
    split at hv <;> try (cases hv; done)
    rename_i ha
    split at hv <;> try (cases hv; done)
    · cases he : c0d P t xs ys with
      | none => simp [he] at hv
      | some z =>
        simp only [he, yR, Option.some.injEq] at hv; subst hv
        obtain ⟨hr, hg⟩ := t0r (w := w) he ha hxs hys
        refine ⟨_, ?_, r1r⟩
        rw [Sem.run_bind, run_eqGuard_agg (P := P) (w := w) _ t ox oy cs ds hg, Result.andThen_ok, run_eql_struct, hr]; rfl
    · cases he : c0d P t xs ys with
      | none => simp [he] at hv
      | some z =>
        simp only [he, yR, Option.some.injEq] at hv; subst hv
        obtain ⟨hr, hg⟩ := t0r (w := w) he ha hxs hys
        refine ⟨_, ?_, r1r⟩
        rw [Sem.run_bind, run_eqGuard_agg (P := P) (w := w) _ t ox oy cs ds hg, Result.andThen_ok, run_neq_struct, hr]; rfl
  · cases hv
end Go.Sy
namespace Go.Sy
def u1v (k:IntKind) (p:PL):Option V:=
 match k,p with
 | .i32,.i n=>if 0≤n∧n<128 then some (.w (.one (.pl (.val (.int .i32 n))))) else none
 |_,_=>none
def k0e (P:Program) (S:St) (src dst:TypeId) (x:V):Option V:=
 match P.underlying src,P.underlying dst,x with
 |some _,some (.int k),.w (.one (.pl p))=>match toKind k p with
   |some z=>some (.w (.one (.pl z)))
   |none=>u1v k p
 |some (.int .i32),some .string,.w (.one (.pl (.val (.int .i32 n))))=>if 0≤n∧n<128 then some (.w (.one (.pl (.str [UInt8.ofNat n.toNat])))) else none
 |some _,some .string,.w (.one (.pl (.str s)))=>some (.w (.one (.pl (.str s))))
 |some (.slice e),some .string,.w (.one (.pl (.R ex sz rows)))=>
   match P.underlying e with
   |some (.int .u8)=>if sz=1∨rows=[] then (e0b rows).map fun bs=>.w (.one (.pl (.str bs))) else none
   |_=>none
 |some (.slice e),some .string,.w (.one (.s k path len sz))=>
   match P.underlying e,look S.mem k with
   |some (.int .u8),some o=>if pok o.cells.length path∧psz o.cells.length path=len∧sz=1 then (a0b (rd o.cells path)).map fun bs=>.w (.one (.pl (.str bs))) else none
   |_,_=>none
 |_,_,_=>none
theorem pushes : ∀ (bs:List UInt8) (s:ByteArray),((bs.map fun b=>(b.toNat:Int)).foldl (fun r n=>r.push (UInt8.ofNat n.toNat)) s)=s++⟨bs.toArray⟩
 | [],s=>by apply ByteArray.ext;simp
 |b::bs,s=>by
   rw [yL,List.foldl_cons,pushes bs]
   apply ByteArray.ext;simp
theorem n1o {P:Program} {w:World} {blk o cap:Nat} {bs:List UInt8} (h:Mk w blk o (bs.map fun b=>Value.int .u8 b.toNat)):
 (Conv.bytesToString (.slice (some ⟨blk,o,none⟩) bs.length cap)).run P w=.ok (.string ⟨bs.toArray⟩) w:=by
 have hl:=run_loadCells_list (P:=P) w ⟨blk,o,none⟩ (bs.map fun b=>Value.int .u8 b.toNat) (fun j v hv=>by rw [addr_add];exact h j v hv)
 rw [xO] at hl
 rw [run_bytesToString w _ _ cap (bs.map fun b=>(b.toNat:Int)) (by rw [hl];simp [Function.comp_def]),pushes]
 simp
theorem t0o : ∀ {c:List L} {bs:List UInt8},a0b c=some bs→bs.length=c.length
 | [],bs,h=>by simp only [a0b] at h;cases h;rfl
 |c::r,bs,h=>by
   unfold a0b at h
   split at h
   ·rename_i he;cases he
   ·rename_i x r' he
    cases he
    cases hb:a0b r with
    |none=>simp [hb] at h
    |some bs'=>simp only [hb,yR,Option.some.injEq] at h;subst h;simp [t0o hb]
   cases h
theorem z1l {P:Program} {B:Base} {d:Va} {S:St} {a:Act} {w:World} (h:Sim B d S a w) {src dst:TypeId} {x v:V} {y:Value} (hv:k0e P S src dst x=some v) (hx:x.den d y):
 ∃ z,(convert src dst y).run P w=.ok z w∧v.den d z:=by
 unfold k0e at hv
 split at hv
 ·rename_i ds k p hs hd
  cases hk:toKind k p with
  |none=>
    simp only [hk,u1v] at hv
    split at hv<;>try (cases hv;done)
    rename_i n
    split at hv<;>try (cases hv;done)
    rename_i hn
    cases hv
    have e:y=.int .i64 n:=hx
    subst e
    refine ⟨.int .i32 n,?_,?_⟩
    ·unfold convert
     simp only [Sem.run_bind,run_underlying hs w,run_underlying hd w,Result.andThen_ok,Conv.intToInt,Sem.run_pure]
     congr 2
     simp only [IntKind.wrap,IntKind.bits,IntKind.signed]
     simp
     omega
    exact ⟨rfl,⟨fun _ h=>(by cases h),fun _ h=>(by cases h)⟩⟩
  |some z=>
    simp only [hk,Option.some.injEq] at hv;subst hv
    obtain ⟨n,hn,hr,hz⟩:=m1a (P:=P) (ro:=d.ro) w hk
    have e:=PL.num_den hn hx
    subst e
    refine ⟨z.mk,?_,hz⟩
    unfold convert
    simp only [Sem.run_bind,run_underlying hs w,run_underlying hd w,Result.andThen_ok]
    exact hr
 ·rename_i n hs hd
  split at hv<;>try (cases hv;done)
  rename_i hn
  cases hv
  have e:y=.int .i32 n:=hx.1
  subst e
  refine ⟨.string (Utf8.encode n),?_,?_⟩
  ·unfold convert
   simp only [Sem.run_bind,run_underlying hs w,run_underlying hd w,Result.andThen_ok,Conv.intToString,Sem.run_pure]
  have hv:Utf8.valid n=true:=by simp [Utf8.valid];omega
  show PL.den _ _ _
  rw [PL.den]
  refine ⟨?_,by simp;decide⟩
  simp only [Utf8.encode,hv,if_true]
  rw [if_pos (by omega)]
 ·rename_i ds s hs hd
  cases hv
  have hx':=hx
  change PL.den d.ro _ y at hx;rw [PL.den] at hx
  obtain ⟨rfl,hl⟩:=hx
  refine ⟨_,?_,hx'⟩
  unfold convert
  simp only [Sem.run_bind,run_underlying hs w,run_underlying hd w,Result.andThen_ok]
  cases ds<;>simp
 ·rename_i e ex sz rows hs hd
  split at hv<;>try (cases hv;done)
  rename_i he
  split at hv<;>try (cases hv;done)
  rename_i hc
  cases hb:e0b rows with
  |none=>simp [hb] at hv
  |some bs=>
    simp only [hb,yR,Option.some.injEq] at hv;subst hv
    change PL.den d.ro _ y at hx;rw [PL.den] at hx
    rcases hx with ⟨rfl,rfl⟩|⟨blk,off,cap,rfl,hlc,hcm,_,hrows⟩|⟨sa,cap,rfl,rfl,hcm,_⟩
    ·simp only [e0b] at hb;cases hb
     refine ⟨.string .empty,?_,?_⟩
     ·rw [run_convert_bytes_string w src dst e none 0 0 hs he hd];simp [Conv.bytesToString]
     show PL.den _ _ _;rw [PL.den];exact ⟨rfl,by simp⟩
    ·have key:Mk w blk off (bs.map fun b=>Value.int .u8 b.toNat)∧rows.length=bs.length:=by
      rcases hc with rfl|rfl
      ·exact a1k h.ro hb hrows
      simp only [e0b] at hb;cases hb;exact ⟨fun j v hv=>by simp at hv,rfl⟩
     refine ⟨.string ⟨bs.toArray⟩,?_,?_⟩
     ·rw [run_convert_bytes_string w src dst e _ _ _ hs he hd,key.2];exact n1o key.1
     show PL.den _ _ _;rw [PL.den];exact ⟨rfl,by omega⟩
    simp only [e0b] at hb;cases hb
    have hz:(loadCells sa 0).run P w=.ok #[] w:=run_loadCells_list w sa [] (fun j v hv=>by simp at hv)
    refine ⟨.string .empty,?_,?_⟩
    ·rw [run_convert_bytes_string w src dst e _ _ _ hs he hd];simp [Conv.bytesToString,hz]
    show PL.den _ _ _;rw [PL.den];exact ⟨rfl,by simp⟩
 ·rename_i e k path len sz hs hd
  split at hv<;>try (cases hv;done)
  rename_i o he hk
  split at hv<;>try (cases hv;done)
  rename_i hc
  obtain ⟨hp,hps,rfl⟩:=hc
  cases hb:a0b (rd o.cells path) with
  |none=>simp [hb] at hv
  |some bs=>
    simp only [hb,yR,Option.some.injEq] at hv;subst hv
    obtain ⟨vals,hd2,hcell,hlen⟩:=h.readObj hk hp
    have hvals:=a1l hb hd2
    have hbl:=t0o hb
    rw [c0r _ hp,hps] at hbl
    obtain ⟨oo,cap,rfl,hlc,hcm,ho,_⟩:=hx
    refine ⟨.string ⟨bs.toArray⟩,?_,?_⟩
    ·rw [run_convert_bytes_string w src dst e _ _ _ hs he hd,←hbl]
     apply n1o
     rcases ho with ho|ho
     ·have:bs=[]:=xH (by omega)
      subst this;exact fun j v hv=>by simp at hv
     rw [ho,←hvals];exact hcell
    show PL.den _ _ _;rw [PL.den];exact ⟨rfl,by omega⟩
 cases hv
def j1o (P:Program) (t:TypeId) (x:V):Option V:=
 match P.underlying t,x with
 |some .string,.w (.one (.pl (.str s)))=>some (.w (.one (.pl (.i s.length))))
 |some (.array n _),_=>some (.w (.one (.pl (.i n))))
 |some (.slice _),.w (.one (.pl (.R _ _ rows)))=>some (.w (.one (.pl (.i rows.length))))
 |some (.slice _),.w (.one (.s _ _ len _))=>some (.w (.one (.pl (.i len))))
 |_,_=>none
theorem f2p {P:Program} {d:Va} {w:World} {t ty:TypeId} {ts:Array TypeId} {x v:V} {y:Value} (hv:j1o P t x=some v) (ht:ts[0]? =some t) (hx:x.den d y):
 ∃ z,(Builtin.len_ ts ty #[y]).run P w=.ok z w∧v.den d z:=by
 unfold j1o at hv
 split at hv<;>cases hv
 ·rename_i s hu
  change PL.den d.ro _ y at hx;rw [PL.den] at hx
  obtain ⟨rfl,_⟩:=hx
  refine ⟨.int .i64 s.length,?_,by show PL.den _ _ _;rw [PL.den]⟩
  simp [Builtin.len_,ht,run_underlying hu w,f0q,goInt]
 ·rename_i n e hu
  refine ⟨.int .i64 n,?_,by show PL.den _ _ _;rw [PL.den]⟩
  simp [Builtin.len_,ht,run_underlying hu w,goInt]
 ·rename_i e ex sz rows hu
  change PL.den d.ro _ y at hx;rw [PL.den] at hx
  refine ⟨.int .i64 rows.length,?_,by show PL.den _ _ _;rw [PL.den]⟩
  rcases hx with ⟨rfl,rfl⟩|⟨blk,off,cap,rfl,_⟩|⟨_,cap,rfl,rfl,_⟩<;>simp [Builtin.len_,ht,run_underlying hu w,goInt]
 rename_i e k path len sz hu
 obtain ⟨o,cap,rfl,_⟩:=hx
 refine ⟨.int .i64 len,?_,by show PL.den _ _ _;rw [PL.den]⟩
 simp [Builtin.len_,ht,run_underlying hu w,goInt]
def n0e (c:Bool) (x y:V):V:=
 match x,y with
 | .w (.one (.pl (.b p))),.w (.one (.pl (.b q)))=>.w (.one (.pl (.b (bif c then p else q))))
 |_,_=>bif c then x else y
theorem v1u {d:Va} {c:Bool} {x y:V} {a b:Value} (hx:x.den d a) (hy:y.den d b):(n0e c x y).den d (if c=true then a else b):=by
 unfold n0e
 split
 ·change PL.den d.ro _ a at hx;change PL.den d.ro _ b at hy
  rw [PL.den] at hx hy;subst hx;subst hy
  show PL.den _ _ _;rw [PL.den];cases c<;>rfl
 cases c
 ·exact hy
 exact hx
def n2a :V→Option V
 | .w (.one (.p k path))=>some (.w (.one (.p k path)))
 | .w (.one (.pl (.q c path)))=>some (.w (.one (.pl (.q c path))))
 | .w (.one (.fn f caps))=>some (.w (.one (.fn f caps)))
 |_=>none
end Go.Sy
namespace Go.Sy
def Jq (P:Program) (t:TypeId):Option (List L):=
 match P.info? t with
 |some i=>match i.zero with
   |some z=>Tz z.cells.toList
   |none=>none
 |none=>none
theorem n0l {P:Program} {t:TypeId} {cs:List L} (h:Jq P t=some cs) (w:World) (d:Va): ∃ z,(zeroValue t).run P w=.ok z w∧Fv (L.den d) cs z.cells.toList:=by
 unfold Jq at h
 split at h<;>try (cases h;done)
 rename_i i hi
 split at h<;>try (cases h;done)
 rename_i z hz
 exact ⟨z,by simp [zeroValue,typeInfo,hi,hz],b0j h⟩
theorem foldl_set (off:Nat): ∀ (vs:List Value) (j:Nat) (cells:Array Value),off+j+vs.length≤cells.size→
 ((vs.zipIdx j).foldl (fun cs x=>cs.setIfInBounds (off+x.2) x.1) cells).toList=upd cells.toList (off+j) vs.length vs
 | [],j,cells,_=>by simp [upd]
 |v::vs,j,cells,h=>by
   simp only [xD] at h
   rw [List.zipIdx_cons,List.foldl_cons,foldl_set off vs (j+1) _ (by simp;omega)]
   have hlt:off+j<cells.size:=by omega
   simp only [upd,Array.toList_setIfInBounds,xD]
   rw [show off+(j+1)=off+j+1 from by omega]
   have hl:(cells.toList.set (off+j) v).take (off+j+1)=cells.toList.take (off+j)++[v]:=by
    rw [wI (by simpa using hlt),List.getElem_set_self,List.take_set]
    congr 1
    rw [List.set_eq_of_length_le (by simp;omega)]
   have hr:(cells.toList.set (off+j) v).drop (off+j+1+vs.length)=cells.toList.drop (off+j+(vs.length+1)):=by
    rw [List.drop_set,if_pos (by omega)];congr 1;omega
   rw [hl,hr];simp
def b0f (place:Nat→Option (Nat×Nat)):List L→List (Nat×V)→Option (List L)
 |cells,[]=>some cells
 |cells,x::rest=>
   match x.2,place x.1 with
   | .w v,some pl=>if v.cells.length=pl.2∧pl.1+pl.2≤cells.length then b0f place (upd cells pl.1 pl.2 v.cells) rest else none
   |_,_=>none
theorem o0e {d:Va} {place:Nat→Option (Nat×Nat)}: ∀ {cells:List L} {vals:Array Value} {ps:List (Nat×V)} {qs:List (Nat×Value)} {out:List L},
 b0f place cells ps=some out→Fv (L.den d) cells vals.toList→Fv (fun (p:Nat×V) (q:Nat×Value)=>p.1=q.1∧p.2.den d q.2) ps qs→
  ∃ r,Instr.fill place vals qs=some r∧Fv (L.den d) out r.toList
 |cells,vals,[],qs,out,h,hd,hp=>by cases hp;simp only [b0f] at h;cases h;exact ⟨vals,rfl,hd⟩
 |cells,vals,x::ps,qs,out,h,hd,hp=>by
   cases hp with
   |cons h1 h2=>
     rename_i q qs'
     obtain ⟨i,y⟩:=q
     obtain ⟨rfl,hy⟩:=h1
     unfold b0f at h
     split at h<;>try (cases h;done)
     rename_i v pl hv hpl
     split at h<;>try (cases h;done)
     rename_i hc
     rw [hv] at hy
     have hcells:=W.den_cells hy
     have hl:=hcells.length
     have hl2:=hd.length
     simp only [wU] at hl hl2
     have hset:=foldl_set pl.1 y.cells.toList 0 vals (by simp;omega)
     obtain ⟨r,hr,hrd⟩:=o0e (vals:=(y.cells.zipIdx.foldl (fun cs x=>cs.setIfInBounds (pl.1+x.2) x.1) vals)) h (by
      rw [←Array.foldl_toList,Array.toList_zipIdx,hset]
      simp only [vB,wU]
      rw [←hl,hc.1]
      exact hd.upd hcells _ _) h2
     refine ⟨r,?_,hrd⟩
     unfold Instr.fill
     simp only [hpl]
     rw [if_neg (by simp;omega)]
     exact hr
def Xk (S:St):List (Nat×Operand)→Option (List (Nat×V))
 | []=>some []
 |x::r=>match S.get x.2,Xk S r with
   |some v,some vs=>some ((x.1,v)::vs)
   |_,_=>none
theorem j0e {B:Base} {d:Va} {S:St} {a:Act} {w:World} (h:Sim B d S a w): ∀ {ps:List (Nat×Operand)} {vs:List (Nat×V)},Xk S ps=some vs→
 Fv (fun (p:Nat×V) (q:Nat×Value)=>p.1=q.1∧p.2.den d q.2) vs (ps.map fun x=>(x.1,a.eval x.2))
 | [],vs,hv=>by simp only [Xk] at hv;cases hv;exact .nil
 |x::r,vs,hv=>by
   simp only [Xk] at hv
   cases h1:S.get x.2 with
   |none=>simp [h1] at hv
   |some v=>
     cases h2:Xk S r with
     |none=>simp [h1,h2] at hv
     |some us=>
       simp only [h1,h2,Option.some.injEq] at hv;subst hv
       exact .cons ⟨rfl,h.get h1⟩ (j0e h h2)
def placesOf (P:Program) (fs:Array Field) (i:Nat):Option (Nat×Nat):=(fs[i]?).map fun f=>(f.offset,P.cellsOf f.type)
def k0m (P:Program) (S:St) (t:TypeId) (parts:List (Nat×Operand)):Option V:=
 match Jq P t,Xk S parts,P.underlying t with
 |some z,some ps,some (.struct fs)=>if fs.toList.all (fun f=>P.cellsOf f.type !=0) then (b0f (placesOf P fs) z ps).map fun cs=>.w (.agg cs) else none
 |some z,some ps,some (.array _ e)=>if P.cellsOf e≠0 then (b0f (fun i=>some (i*P.cellsOf e,P.cellsOf e)) z ps).map fun cs=>.w (.agg cs) else none
 |_,_,_=>none
theorem h0c {P:Program} {w:World}: ∀ (fs:List Field),(fs.all fun f=>P.cellsOf f.type !=0)=true→
 (fs.mapM fun f=>Prod.mk f.offset<$>sizeOf f.type:Sem (List (Nat×Nat))).run P w=.ok (fs.map fun f=>(f.offset,P.cellsOf f.type)) w
 | [],_=>by simp
 |f::fs,h=>by
   simp only [wR,yD,bne_iff_ne,ne_eq] at h
   simp [List.mapM_cons,Oy h.1 w,h0c fs h.2]
theorem s1a {P:Program} {B:Base} {d:Va} {S:St} {a:Act} {w:World} (h:Sim B d S a w) {t:TypeId} {parts:Array (Nat×Operand)} {v:V} (hv:k0m P S t parts.toList=some v):
 ∃ z,(Instr.build t (parts.map fun x=>(x.1,a.eval x.2))).run P w=.ok z w∧v.den d z:=by
 unfold k0m at hv
 split at hv<;>try (cases hv;done)
 ·rename_i z ps fs hz hps hu
  split at hv<;>try (cases hv;done)
  rename_i hall
  cases hf:b0f (placesOf P fs) z ps with
  |none=>simp [hf] at hv
  |some cs=>
    simp only [hf,yR,Option.some.injEq] at hv;subst hv
    obtain ⟨zv,hzr,hzd⟩:=n0l hz w d
    obtain ⟨r,hr,hrd⟩:=o0e (d:=d) (qs:=parts.toList.map fun x=>(x.1,a.eval x.2)) hf hzd (j0e h hps)
    refine ⟨.agg r,?_,⟨r,rfl,hrd⟩⟩
    have hm:=h0c (P:=P) (w:=w) fs.toList (by simpa using hall)
    have hm2:(fs.mapM fun f=>do pure (f.offset,←sizeOf f.type):Sem (Array (Nat×Nat))).run P w=.ok (fs.map fun f=>(f.offset,P.cellsOf f.type)) w:=by
     rw [Array.mapM_eq_mapM_toList]
     simp [hm]
     apply Array.ext';simp
    have e:(fun i=>(fs.map fun f=>(f.offset,P.cellsOf f.type))[i]?)=placesOf P fs:=by
     funext i;simp [placesOf]
    simp only [Instr.build,Sem.run_bind,hzr,Result.andThen_ok,run_underlying hu w,hm2]
    rw [e]
    simp [hr]
 rename_i z ps n e hz hps hu
 split at hv<;>try (cases hv;done)
 rename_i h0
 cases hf:b0f (fun i=>some (i*P.cellsOf e,P.cellsOf e)) z ps with
 |none=>simp [hf] at hv
 |some cs=>
   simp only [hf,yR,Option.some.injEq] at hv;subst hv
   obtain ⟨zv,hzr,hzd⟩:=n0l hz w d
   obtain ⟨r,hr,hrd⟩:=o0e (d:=d) (qs:=parts.toList.map fun x=>(x.1,a.eval x.2)) hf hzd (j0e h hps)
   refine ⟨.agg r,?_,⟨r,rfl,hrd⟩⟩
   simp only [Instr.build,Sem.run_bind,hzr,Result.andThen_ok,run_underlying hu w,Oy h0 w]
   simp [hr]
def h0g (S:St):Option Operand→Option (Option V)
 |none=>some none
 |some x=>(S.get x).map some
theorem p0y {B:Base} {d:Va} {S:St} {a:Act} {w:World} (h:Sim B d S a w) {x:Option Operand} {v:Option V} (hv:h0g S x=some v):r0e d v (x.map a.eval):=by
 cases x with
 |none=>simp only [h0g] at hv;cases hv;trivial
 |some x=>
   simp only [h0g] at hv
   cases hg:S.get x with
   |none=>simp [hg] at hv
   |some y=>simp only [hg,yR,Option.some.injEq] at hv;subst hv;exact h.get hg
def e0z (b:Builtin) (x y:V):Option V:=
 match b,x,y with
 | .min,.w (.one (.pl (.i p))),.w (.one (.pl (.i q)))=>some (.w (.one (.pl (.i (if q<p then q else p)))))
 | .max,.w (.one (.pl (.i p))),.w (.one (.pl (.i q)))=>some (.w (.one (.pl (.i (if q>p then q else p)))))
 |_,_,_=>none
def l0y (S:St):List Operand→Option (List Nat)
 | []=>some []
 |x::r=>match S.get x,l0y S r with
   |some (.w (.one (.p k []))),some ks=>some (k::ks)
   |_,_=>none
theorem h1i {B:Base} {d:Va} {S:St} {a:Act} {w:World} (h:Sim B d S a w): ∀ {xs:List Operand} {ks:List Nat},l0y S xs=some ks→xs.map a.eval=ks.map fun k=>Value.pointer (some ⟨d.at_ k,0,none⟩)
 | [],ks,hk=>by simp only [l0y] at hk;cases hk;rfl
 |x::r,ks,hk=>by
   unfold l0y at hk
   split at hk<;>cases hk
   rename_i k ks h1 h2
   have:=h.get h1
   rw [yL,yL,h1i h h2]
   congr 1
def Fq (P:Program) (S:St):Op→Option V
 | .move x| .assign x=>S.get x
 | .pick c x y=>match S.get c,S.get x,S.get y with
   |some (.w (.one (.pl (.b b)))),some u,some v=>some (n0e b u v)
   |_,_,_=>none
 | .build t parts=>k0m P S t parts.toList
 | .load t x=>(S.get x).bind (n0g P S t)
 | .nilCheck x=>(S.get x).bind n2a
 | .binOp op t x y _=>match S.get x,S.get y with
   |some u,some v=>Kv P op t u v
   |_,_=>none
 | .unOp op _ x=>(S.get x).bind (unV op)
 | .convert s t x=>(S.get x).bind (k0e P S s t)
 | .slice t x lo hi mx=>match S.get x,h0g S lo,h0g S hi,h0g S mx with
   |some v,some l,some h,some m=>i0x P S t v l h m
   |_,_,_,_=>none
 | .fieldAddr t x f=>(S.get x).bind (m0v P t f)
 | .field t x f=>(S.get x).bind (i0c P t f)
 | .indexAddr t x i=>match S.get x,S.get i with
   |some u,some v=>Vq P t u v
   |_,_=>none
 | .index t x i=>match S.get x,S.get i with
   |some u,some v=>m0r P t u v
   |_,_=>none
 | .extract x i=>(S.get x).bind fun v=>d0q v i
 | .makeFunc (.func f) first caps=>if first.toList=[] then (l0y S caps.toList).map fun ks=>.w (.one (.fn f ks)) else none
 | .call ⟨.builtin .len,args,ts⟩=>match args.toList,ts.toList with
   | [x],[t]=>(S.get x).bind (j1o P t)
   |_,_=>none
 | .call ⟨.builtin .min,args,_⟩=>match args.toList with
   | [x,y]=>match S.get x,S.get y with
     |some u,some v=>e0z .min u v
     |_,_=>none
   |_=>none
 | .call ⟨.builtin .max,args,_⟩=>match args.toList with
   | [x,y]=>match S.get x,S.get y with
     |some u,some v=>e0z .max u v
     |_,_=>none
   |_=>none
 |_=>none
theorem bind_some {α β:Type} {x:Option α} {f:α→Option β} {b:β} (h:x.bind f=some b): ∃ a,x=some a∧f a=some b:=by
 cases x with
 |none=>cases h
 |some a=>exact ⟨a,rfl,h⟩
theorem u0n {P:Program} {B:Base} {d:Va} {S:St} {a:Act} {w:World} (h:Sim B d S a w) {o:Oper} {v:V} (hv:Fq P S o.op=some v):
 ∃ y,(execOp a.eval o).run P w=.ok (.value y) w∧v.den d y:=by
 unfold Fq at hv
 unfold execOp
 split at hv
 ·rename_i x ho;rw [ho];exact ⟨_,rfl,h.get hv⟩
 ·rename_i x ho;rw [ho];exact ⟨_,rfl,h.get hv⟩
 ·rename_i c x y ho;rw [ho]
  split at hv<;>cases hv
  rename_i b u v hc hx hy
  have ec:a.eval c=.bool b:=by have:=h.get hc;change PL.den _ _ _ at this;rwa [PL.den] at this
  refine ⟨_,?_,v1u (h.get hx) (h.get hy)⟩
  simp [ec,asBool]
 ·rename_i t parts ho;rw [ho]
  obtain ⟨z,hz,hd⟩:=s1a (w:=w) (P:=P) h hv
  exact ⟨z,by simp [hz],hd⟩
 ·rename_i t x ho;rw [ho]
  obtain ⟨u,hu,hv⟩:=bind_some hv
  obtain ⟨z,hz,hd⟩:=g1p h hv (h.get hu)
  exact ⟨z,by simp [hz],hd⟩
 ·rename_i x ho;rw [ho]
  obtain ⟨u,hu,hv⟩:=bind_some hv
  have hx:=h.get hu
  unfold n2a at hv
  split at hv<;>cases hv
  ·change _=_ at hx
   exact ⟨_,by simp only [hx];rfl,rfl⟩
  ·have hx':=hx
   change PL.den _ _ _ at hx;rw [PL.den] at hx
   obtain ⟨blk,off,e,_⟩:=hx
   exact ⟨_,by simp only [e];rfl,by rw [←e];exact hx'⟩
  change _=_ at hx
  exact ⟨_,by simp only [hx];rfl,rfl⟩
 ·rename_i op t x y t2 ho;rw [ho]
  split at hv<;>try (cases hv;done)
  rename_i u v hx hy
  obtain ⟨z,hz,hd⟩:=i2j (w:=w) (ox:=x) (oy:=y) hv (h.get hx) (h.get hy)
  exact ⟨z,by simp only [Sem.run_bind] at hz ⊢;rw [hz];rfl,hd⟩
 ·rename_i op t x ho;rw [ho]
  obtain ⟨u,hu,hv⟩:=bind_some hv
  obtain ⟨z,hz,hd⟩:=j2v (P:=P) (w:=w) hv (h.get hu)
  exact ⟨z,by simp [hz],hd⟩
 ·rename_i s t x ho;rw [ho]
  obtain ⟨u,hu,hv⟩:=bind_some hv
  obtain ⟨z,hz,hd⟩:=z1l h hv (h.get hu)
  exact ⟨z,by simp [hz],hd⟩
 ·rename_i t x lo hi mx ho;rw [ho]
  split at hv<;>try (cases hv;done)
  rename_i v l hh m hx hl hhi hm
  obtain ⟨z,hz,hd⟩:=n1a h hv (h.get hx) (p0y h hl) (p0y h hhi) (p0y h hm)
  exact ⟨z,by simp [hz],hd⟩
 ·rename_i t x f ho;rw [ho]
  obtain ⟨u,hu,hv⟩:=bind_some hv
  obtain ⟨z,hz,hd⟩:=q1x (w:=w) hv (h.get hu)
  exact ⟨z,by simp [hz],hd⟩
 ·rename_i t x f ho;rw [ho]
  obtain ⟨u,hu,hv⟩:=bind_some hv
  obtain ⟨z,hz,hd⟩:=j1d (w:=w) hv (h.get hu)
  exact ⟨z,by simp [hz],hd⟩
 ·rename_i t x i ho;rw [ho]
  split at hv<;>try (cases hv;done)
  rename_i u v hx hy
  obtain ⟨z,hz,hd⟩:=v0j (w:=w) hv (h.get hx) (h.get hy)
  exact ⟨z,by simp [hz],hd⟩
 ·rename_i t x i ho;rw [ho]
  split at hv<;>try (cases hv;done)
  rename_i u v hx hy
  obtain ⟨z,hz,hd⟩:=q1c (w:=w) hv (h.get hx) (h.get hy)
  exact ⟨z,by simp [hz],hd⟩
 ·rename_i x i ho;rw [ho]
  obtain ⟨u,hu,hv⟩:=bind_some hv
  obtain ⟨z,hz,hd⟩:=c1x (P:=P) (w:=w) hv (h.get hu)
  exact ⟨z,by simp [hz],hd⟩
 ·rename_i f first caps ho;rw [ho]
  split at hv<;>try (cases hv;done)
  rename_i hf
  cases hc:l0y S caps.toList with
  |none=>simp [hc] at hv
  |some ks=>
    simp only [hc,yR,Option.some.injEq] at hv;subst hv
    have e:=h1i h hc
    have hf':first= #[]:=Array.toList_eq_nil_iff.1 hf
    refine ⟨_,by simp only [Instr.makeFunc];rfl,?_⟩
    show _=_
    rw [hf',←e];simp;apply Array.ext';simp
 ·rename_i args ts ho;rw [ho]
  split at hv<;>try (cases hv;done)
  rename_i x t ha ht
  obtain ⟨u,hu,hv⟩:=bind_some hv
  have ea:args= #[x]:=by rw [←vG,ha]
  have et:ts[0]? =some t:=by rw [←Array.getElem?_toList,ht];rfl
  obtain ⟨z,hz,hd⟩:=f2p (P:=P) (w:=w) (ts:=ts) (ty:=o.type) hv et (h.get hu)
  refine ⟨z,?_,hd⟩
  subst ea
  simp [resolve,invoke,builtin,hz]
 ·rename_i args ts ho;rw [ho]
  split at hv<;>try (cases hv;done)
  rename_i x y ha
  split at hv<;>try (cases hv;done)
  rename_i u v' hx hy
  have ea:args= #[x,y]:=by rw [←vG,ha]
  subst ea
  unfold e0z at hv
  split at hv<;>cases hv
  ·have h1:=h.get hx;have h2:=h.get hy
   change PL.den _ _ _ at h1 h2;rw [PL.den] at h1 h2
   refine ⟨_,?_,by show PL.den _ _ _;rw [PL.den]⟩
   simp [resolve,invoke,builtin,Builtin.min_,Builtin.min2,h1,h2]
  contradiction
 ·rename_i args ts ho;rw [ho]
  split at hv<;>try (cases hv;done)
  rename_i x y ha
  split at hv<;>try (cases hv;done)
  rename_i u v' hx hy
  have ea:args= #[x,y]:=by rw [←vG,ha]
  subst ea
  unfold e0z at hv
  split at hv<;>cases hv
  ·contradiction
  have h1:=h.get hx;have h2:=h.get hy
  change PL.den _ _ _ at h1 h2;rw [PL.den] at h1 h2
  refine ⟨_,?_,by show PL.den _ _ _;rw [PL.den]⟩
  simp [resolve,invoke,builtin,Builtin.max_,Builtin.max2,h1,h2]
 cases hv
end Go.Sy
namespace Go.Sy
def L.has (k:Nat):L→Bool
 | .pl _=>false
 | .p k' _=>k==k'
 | .s k' _ _ _=>k==k'
 | .fn _ caps=>caps.any fun k'=>k==k'
def W.has (k:Nat):W→Bool
 | .one l=>l.has k
 | .agg cs=>cs.any (L.has k)
def V.has (k:Nat):V→Bool
 | .w x=>x.has k
 | .tup xs=>xs.any (W.has k)
 | .any=>false
def Ob.has (k:Nat) (o:Ob):Bool:=o.cells.any (L.has k)
def b1f (k:Nat):List (Nat×V)→Bool
 | []=>false
 |x::r=>x.2.has k||b1f k r
def z0p (k:Nat):List (Nat×Ob)→Bool
 | []=>false
 |x::r=>x.2.has k||z0p k r
def fresh (k:Nat) (S:St):Bool:=decide (k<500000)&& !(b1f k S.env||z0p k S.mem)
theorem f0j {k:Nat} {S:St} (h:fresh k S=true):b1f k S.env=false∧z0p k S.mem=false:=by
 simp only [fresh,yD,yX,Bool.or_eq_false_iff] at h;exact h.2
theorem g0l {k:Nat} {S:St} (h:fresh k S=true):k<px0:=by
 simp only [fresh,yD,decide_eq_true_eq] at h;exact h.1
theorem a0m :px0<gl0:=by decide
def j0y (k:Nat) (S:St):Bool:=(decide (k<500000)||(decide (750000≤k)&&decide (k<1000000)))&& !(b1f k S.env||z0p k S.mem)
theorem j1u {k:Nat} {S:St} (h:j0y k S=true):b1f k S.env=false∧z0p k S.mem=false:=by
 simp only [j0y,yD,yX,Bool.or_eq_false_iff] at h;exact h.2
theorem q1q {k:Nat} {S:St} (h:j0y k S=true):k<500000∨750000≤k∧k<1000000:=by
 simp only [j0y,yD,uD,decide_eq_true_eq] at h;exact h.1
theorem q1p {k:Nat} {S:St} (h:fresh k S=true):j0y k S=true:=by
 simp only [fresh,j0y,yD,uD] at h ⊢;exact ⟨.inl h.1,h.2⟩
theorem Wq {k:Nat}: ∀ {e:List (Nat×V)} {n:Nat} {v:V},b1f k e=false→look e n=some v→v.has k=false
 |x::r,n,v,h,hl=>by
   simp only [b1f,Bool.or_eq_false_iff] at h
   unfold look at hl
   split at hl
   ·cases hl;exact h.1
   exact Wq h.2 hl
theorem a0y {k:Nat}: ∀ {e:List (Nat×Ob)} {n:Nat} {v:Ob},z0p k e=false→look e n=some v→v.has k=false
 |x::r,n,v,h,hl=>by
   simp only [z0p,Bool.or_eq_false_iff] at h
   unfold look at hl
   split at hl
   ·cases hl;exact h.1
   exact a0y h.2 hl
def Va.set (d:Va) (k b n:Nat):Va:={d with at_:=fun j=>if j=k then b else d.at_ j,size:=fun j=>if j=k then n else d.size j}
theorem L.den_set {d:Va} {k b n:Nat} {l:L} {y:Value} (h:l.den d y) (hk:l.has k=false):l.den (d.set k b n) y:=by
 cases l with
 |pl x=>exact h
 |p k' path=>
   simp only [L.has,beq_eq_false_iff_ne,ne_eq] at hk
   simp only [L.den,Va.set] at*
   rw [if_neg (fun e=>hk e.symm)];exact h
 |s k' path len sz=>
   simp only [L.has,beq_eq_false_iff_ne,ne_eq] at hk
   simp only [L.den,Va.set] at*
   rw [if_neg (fun e=>hk e.symm),if_neg (fun e=>hk e.symm)];exact h
 |fn f caps=>
   simp only [L.den,Va.set] at*
   rw [h];congr 1
   apply congrArg
   apply List.map_congr_left
   intro k' hk'
   have:¬k'=k:=by
    intro e;subst e
    simp only [L.has,xC,beq_iff_eq] at hk
    exact hk _ hk' rfl
   simp [this]
theorem o0i {d:Va} {k b n:Nat} {cs:List L} {vs:List Value} (h:Fv (L.den d) cs vs) (hk:cs.any (L.has k)=false):Fv (L.den (d.set k b n)) cs vs:=
 h.mono fun x y hx hd=>L.den_set hd (by simp only [xC] at hk;simpa using hk x hx)
theorem W.den_set {d:Va} {k b n:Nat} {x:W} {y:Value} (h:x.den d y) (hk:x.has k=false):x.den (d.set k b n) y:=by
 cases x with
 |one l=>exact L.den_set h hk
 |agg cs=>obtain ⟨vs,rfl,hv⟩:=h;exact ⟨vs,rfl,o0i hv hk⟩
theorem V.den_set {d:Va} {k b n:Nat} {x:V} {y:Value} (h:x.den d y) (hk:x.has k=false):x.den (d.set k b n) y:=by
 cases x with
 |w x=>exact W.den_set h hk
 |tup xs=>
   obtain ⟨vs,rfl,hv⟩:=h
   exact ⟨vs,rfl,hv.mono fun x y hx hd=>W.den_set hd (by simp only [V.has,xC] at hk;simpa using hk x hx)⟩
 |any=>trivial
theorem Va.set_at (d:Va) (k b n:Nat):(d.set k b n).at_ k=b:=by simp [Va.set]
theorem Va.set_size (d:Va) (k b n:Nat):(d.set k b n).size k=n:=by simp [Va.set]
theorem Va.set_other (d:Va) {k j:Nat} (b n:Nat) (h:j≠k):(d.set k b n).at_ j=d.at_ j∧(d.set k b n).size j=d.size j:=by simp [Va.set,h]
theorem f0p {w:World} {b o:Nat} {y:Value} (h:w.cell? ⟨b,o,none⟩=some y):b<w.heap.size:=by
 have:=block_lt_of_cell h;exact this
theorem Sim.mem_lt {B:Base} {d:Va} {S:St} {a:Act} {w:World} (h:Sim B d S a w) {k:Nat} (hk:(look S.mem k).isSome=true) (hkl:k<gl0):d.at_ k<w.heap.size:=by
 cases ho:look S.mem k with
 |none=>simp [ho] at hk
 |some o=>
   obtain ⟨vals,spare,ty,fr,hh,_⟩:=h.mem k o ho hkl
   exact (Array.getElem?_eq_some_iff.1 hh).1
theorem Sim.map_apart {B:Base} {d:Va} {S:St} {a:Act} {w:World} (h:Sim B d S a w) {b:Nat} {l:List (List UInt8×Int)} (hb:MapAt w b l) {j:Nat} (hj:(look S.mem j).isSome=true) (hjl:j<gl0):d.at_ j≠b:=by
 intro e;subst e
 obtain ⟨o,ho⟩:=xP.mp hj
 obtain ⟨_,_,_,_,hh,_⟩:=h.mem j o ho hjl
 unfold MapAt at hb
 rw [hh] at hb;cases hb
theorem Sim.new2 {B:Base} {d:Va} {S:St} {a:Act} {w:World} (h:Sim B d S a w) {k:Nat} (hf:j0y k S=true) {row:Bool} {cells:List L} {vals spare:List Value} {ty:TypeId} {fr:Nat×Nat} {w':World}
 (hd:Fv (L.den d) cells vals) (hc:cells.any (L.has k)=false) (hs:row=false→spare=[]) (hfr:fr=(0,0)∨(vals++spare).length≤fr.1)
 (hnew:w'.heap[w.heap.size]? =some (.cells (vals++spare).toArray ty fr)) (hold: ∀ b,b<w.heap.size→w'.heap[b]? =w.heap[b]?)
 (hos:w'.os=w.os) (htape:w'.tape=w.tape) (hout:w'.output=w.output):
 Sim B (d.set k w.heap.size (vals++spare).length) {S with mem:=(k,⟨row,cells⟩)::S.mem} a w':=by
 have hf':=j1u hf
 have hok:=q1q hf
 have hfl:k<gl0:=by show k<1000000;omega
 have hpg:=a0m
 have hsz:w.heap.size<w'.heap.size:=(Array.getElem?_eq_some_iff.1 hnew).1
 refine ⟨h.defers,h.nt,?_,?_,?_,?_,?_,h.old,hos.trans h.os,htape.trans h.tape,hout.trans h.output,xR h.size (by omega),?_,?_,?_,?_,h.fxn,fun b l hb=>?_⟩
 ·intro n v hv
  obtain ⟨y,hy,hd⟩:=h.env n v hv
  exact ⟨y,hy,V.den_set hd (Wq hf'.1 hv)⟩
 ·intro k' o ho hkl
  unfold look at ho
  split at ho
  ·rename_i e
   simp only at e
   cases ho
   subst e
   exact ⟨vals,spare,ty,fr,by rw [Va.set_at];exact hnew,hfr,o0i hd hc,fun e=>hs (Rw.b.inj e),by rw [Va.set_size]⟩
  rename_i e
  simp only at e
  obtain ⟨vs,sp,ty',fr',hh,hfr',hd',hs',hl⟩:=h.mem k' o ho hkl
  have hlt:=h.mem_lt (k:=k') (by rw [ho];rfl) hkl
  obtain ⟨e1,e2⟩:=d.set_other w.heap.size (vals++spare).length e
  refine ⟨vs,sp,ty',fr',by rw [e1,hold _ hlt];exact hh,hfr',o0i hd' (a0y hf'.2 ho),hs',by rw [e2];exact hl⟩
 ·intro k1 k2 h1 h2 g1 g2 he
  unfold look at h1 h2
  by_cases e1:k1=k<;>by_cases e2:k2=k
  ·rw [e1,e2]
  ·exfalso
   rw [if_neg e2] at h2
   have:=h.mem_lt h2 g2
   rw [e1,Va.set_at,(d.set_other _ _ e2).1] at he;omega
  ·exfalso
   rw [if_neg e1] at h1
   have:=h.mem_lt h1 g1
   rw [e2,Va.set_at,(d.set_other _ _ e1).1] at he;omega
  rw [if_neg e1] at h1;rw [if_neg e2] at h2
  rw [(d.set_other _ _ e1).1,(d.set_other _ _ e2).1] at he
  exact h.inj _ _ h1 h2 g1 g2 he
 ·intro k' hk' hkl
  unfold look at hk'
  by_cases e:k'=k
  ·subst e
   rw [Va.set_at]
   refine ⟨fun o=>?_,.inl h.size⟩
   show d.ro _ _=none
   cases hr:d.ro w.heap.size o with
   |none=>rfl
   |some y=>have:=f0p (h.ro _ _ _ hr);omega
  rw [if_neg e] at hk'
  rw [(d.set_other _ _ e).1]
  exact h.own k' hk' hkl
 ·intro b o y hy
  have hr:=h.ro b o y hy
  have:=f0p hr
  simp only [World.cell?] at hr ⊢
  rw [hold b this];exact hr
 ·intro b hb hm
  rw [hold b (by have:=h.size;omega)];exact h.block b hb hm
 ·intro k' hk'
  rw [(d.set_other _ _ (show k'≠k by omega)).1];exact h.gat k' hk'
 ·intro k' o ho hk'
  unfold look at ho
  rw [if_neg (show k'≠k by omega)] at ho
  rw [(d.set_other _ _ (show k'≠k by omega)).2]
  exact h.glob k' o ho hk'
 ·intro k' o p ho hp hkl
  by_cases hne:k'=k
  ·subst hne
   have h5:500000≤k':=h.fxn k' p hp
   exact ⟨fun hl=>by omega,.inr (by rw [Va.set_at];exact h.size)⟩
  unfold look at ho
  rw [if_neg hne] at ho
  rw [(d.set_other _ _ hne).1,(d.set_other _ _ hne).2]
  exact h.fix k' o p ho hp hkl
 simp only [look] at hb
 rw [if_neg (show mp0+b≠k by show 2000000+b≠k;have:k<1000000:=hfl;omega)] at hb
 exact (h.mp b l hb).of (hold b (h.mp b l hb).lt)
theorem Sim.new {B:Base} {d:Va} {S:St} {a:Act} {w:World} (h:Sim B d S a w) {k:Nat} (hf:fresh k S=true) {row:Bool} {cells:List L} {vals spare:List Value} {ty:TypeId} {fr:Nat×Nat} {w':World}
 (hd:Fv (L.den d) cells vals) (hc:cells.any (L.has k)=false) (hs:row=false→spare=[]) (hfr:fr=(0,0)∨(vals++spare).length≤fr.1)
 (hnew:w'.heap[w.heap.size]? =some (.cells (vals++spare).toArray ty fr)) (hold: ∀ b,b<w.heap.size→w'.heap[b]? =w.heap[b]?)
 (hos:w'.os=w.os) (htape:w'.tape=w.tape) (hout:w'.output=w.output):
 Sim B (d.set k w.heap.size (vals++spare).length) {S with mem:=(k,⟨row,cells⟩)::S.mem} a w':=h.new2 (q1p hf) hd hc hs hfr hnew hold hos htape hout
theorem Sim.put {B:Base} {d:Va} {S:St} {a:Act} {w:World} (h:Sim B d S a w) {n:Nat} {v:V} {y:Value} (hn:n<B.nt) (hd:v.den d y):
 Sim B d {S with env:=(n,v)::S.env} (a.put (some n) y) w:=by
 refine ⟨h.defers,by simpa [Act.put] using h.nt,?_,h.mem,h.inj,h.own,h.ro,h.old,h.os,h.tape,h.output,h.size,h.block,h.gat,h.glob,h.fix,h.fxn,h.mp⟩
 intro m u hu
 unfold look at hu
 split at hu
 ·rename_i e
  simp only at e
  cases hu;subst e
  refine ⟨y,?_,hd⟩
  have:m<a.tmps.size:=by rw [h.nt];exact hn
  simp [Act.put,this]
 rename_i e
 simp only at e
 obtain ⟨z,hz,hd⟩:=h.env m u hu
 refine ⟨z,?_,hd⟩
 simp only [Act.put]
 rw [Array.getElem?_setIfInBounds_ne (fun e'=>e e'.symm)]
 exact hz
theorem Sim.drew {B:Base} {d:Va} {S:St} {a:Act} {w w':World} (h:Sim B d S a w) (hh:w'.heap=w.heap) (hos:w'.os=w.os) (ht:w'.tape=w.tape) (ho:w'.output=w.output):Sim B d S a w':=by
 refine ⟨h.defers,h.nt,h.env,?_,h.inj,h.own,?_,h.old,hos.trans h.os,ht.trans h.tape,ho.trans h.output,by rw [hh];exact h.size,by rw [hh];exact h.block,h.gat,h.glob,h.fix,h.fxn,fun b l hb=>(h.mp b l hb).of (by rw [hh])⟩
 ·rw [hh];exact h.mem
 intro b o y hy;have:=h.ro b o y hy;simp only [World.cell?] at this ⊢;rw [hh];exact this
def h0b (m:List (Nat×Ob)) (k:Nat) (o:Ob):List (Nat×Ob):=
 match m with
 | []=>[]
 |x::r=>if k=x.1 then (x.1,o)::r else x::h0b r k o
theorem Fz {k:Nat} {o:Ob}: ∀ {m:List (Nat×Ob)} {j:Nat},look (h0b m k o) j=if j=k then (look m k).map (fun _=>o) else look m j
 | [],j=>by simp [h0b,look]
 |x::r,j=>by
   unfold h0b
   split
   ·rename_i e
    subst e
    simp only [look]
    split
    ·rename_i e;simp [e]
    rfl
   rename_i e
   simp only [look,if_neg e]
   split
   ·rename_i e2
    rw [if_neg (fun e3=>e (e3.symm.trans e2))]
   exact Fz
theorem Sim.write {B:Base} {d:Va} {S:St} {a:Act} {w:World} (h:Sim B d S a w) {k:Nat} {o:Ob} (hk:look S.mem k=some o) (hkl:k<gl0) {cells:List L} {vals spare:List Value} {ty:TypeId} {fr:Nat×Nat} {w':World}
 (hd:Fv (L.den d) cells vals) (hs:o.row=false→spare=[]) (hfr:fr=(0,0)∨(vals++spare).length≤fr.1) (hl:(vals++spare).length=d.size k)
 (hnew:w'.heap[d.at_ k]? =some (.cells (vals++spare).toArray ty fr)) (hold: ∀ b,b≠d.at_ k→w'.heap[b]? =w.heap[b]?) (hsz:w'.heap.size=w.heap.size)
 (hos:w'.os=w.os) (htape:w'.tape=w.tape) (hout:w'.output=w.output):
 Sim B d {S with mem:=h0b S.mem k ⟨o.row,cells⟩} a w':=by
 have hsome: ∀ j,(look (h0b S.mem k ⟨o.row,cells⟩) j).isSome=true→(look S.mem j).isSome=true:=by
  intro j hj
  rw [Fz] at hj
  split at hj
  ·rename_i e;subst e;rw [hk];rfl
  exact hj
 have hks:(look S.mem k).isSome=true:=by rw [hk];rfl
 refine ⟨h.defers,h.nt,h.env,?_,fun k1 k2 h1 h2=>h.inj k1 k2 (hsome _ h1) (hsome _ h2),fun k' hk'=>h.own k' (hsome _ hk'),?_,h.old,hos.trans h.os,htape.trans h.tape,hout.trans h.output,by rw [hsz];exact h.size,?_,h.gat,?_,?_,h.fxn,fun b l hb=>?_⟩
 ·intro j p hp hjl
  rw [Fz] at hp
  split at hp
  ·rename_i e;subst e
   rw [hk] at hp;cases hp
   exact ⟨vals,spare,ty,fr,hnew,hfr,hd,hs,hl⟩
  rename_i e
  obtain ⟨vs,sp,ty',fr',hh,rest⟩:=h.mem j p hp hjl
  refine ⟨vs,sp,ty',fr',?_,rest⟩
  rw [hold _ (fun e2=>e (h.inj j k (by rw [hp];rfl) hks hjl hkl e2))];exact hh
 ·intro b o' y hy
  have hr:=h.ro b o' y hy
  have hne:b≠d.at_ k:=by
   intro e;subst e
   have:=(h.own k hks hkl).1 o'
   rw [this] at hy;cases hy
  simp only [World.cell?] at hr ⊢
  rw [hold b hne];exact hr
 ·intro b hb hm
  have hne:b≠d.at_ k:=by
   intro e;subst e
   rcases (h.own k hks hkl).2 with h1|h1
   ·omega
   exact hm h1.2
  rw [hold b hne];exact h.block b hb hm
 ·intro j p hp hjg
  rw [Fz,if_neg (show j≠k by omega)] at hp
  exact h.glob j p hp hjg
 ·intro j p q hp hq hjl
  rw [Fz] at hp
  split at hp
  ·rename_i e;subst e
   rw [hk] at hp;cases hp
   exact h.fix j o q hk hq hjl
  exact h.fix j p q hp hq hjl
 rw [Fz,if_neg (show mp0+b≠k by show 2000000+b≠k;have:k<1000000:=hkl;omega)] at hb
 have hm:=h.mp b l hb
 refine hm.of (hold b fun e=>?_)
 subst e
 obtain ⟨_,_,_,_,hh,_⟩:=h.mem k o hk hkl
 unfold MapAt at hm
 rw [hh] at hm;cases hm
end Go.Sy
namespace Go.Sy
theorem g1q {c:Value} {l:L} (h:i0q c=some l) (k:Nat):l.has k=false:=by
 cases c with
 |int q n=>cases q<;>simp only [i0q] at h<;>first|(cases h;rfl)|(split at h<;>cases h;rfl)|(cases h)
 |func f a b=>
   simp only [i0q] at h
   cases f<;>simp only at h<;>try (cases h;done)
   split at h<;>cases h;rfl
 |string s=>simp only [i0q] at h;split at h<;>cases h;rfl
 |slice a n c=>simp only [i0q] at h;split at h<;>cases h;rfl
 |pointer a=>simp only [i0q] at h;split at h<;>cases h;rfl
 |map a=>simp only [i0q] at h;split at h<;>cases h;rfl
 |bool b=>simp only [i0q] at h;cases h;rfl
 |nilFunc=>simp only [i0q] at h;cases h;rfl
 |_=>simp [i0q] at h
theorem f0d (k:Nat): ∀ {cs:List Value} {xs:List L},Tz cs=some xs→xs.any (L.has k)=false
 | [],xs,h=>by simp only [Tz] at h;cases h;rfl
 |c::cs,xs,h=>by
   simp only [Tz] at h
   cases h1:i0q c with
   |none=>simp [h1] at h
   |some x=>
     cases h2:Tz cs with
     |none=>simp [h1,h2] at h
     |some ys=>
       simp only [h1,h2,Option.some.injEq] at h;subst h
       simp only [vX,g1q h1 k,f0d k h2,Bool.or_self]
theorem p1k {c:Value} {x:W} (h:lit c=some x) (k:Nat):x.has k=false:=by
 unfold lit at h
 split at h
 ·rename_i cs
  cases h2:Tz cs.toList with
  |none=>simp [h2] at h
  |some ys=>simp only [h2,yR,Option.some.injEq] at h;subst h;exact f0d k h2
 cases h2:i0q c with
 |none=>simp [h2] at h
 |some l=>simp only [h2,yR,Option.some.injEq] at h;subst h;exact g1q h2 k
theorem q1m {S:St} {x:Operand} {v:V} {k:Nat} (h:S.get x=some v) (hf:fresh k S=true):v.has k=false:=by
 have hf':=f0j hf
 cases x with
 |tmp t=>exact Wq hf'.1 h
 |const c=>
   simp only [St.get] at h
   cases hl:lit c with
   |none=>simp [hl] at h
   |some y=>simp only [hl,yR,Option.some.injEq] at h;subst h;exact p1k hl k
 |func f=>simp only [St.get] at h;cases h;rfl
 |global g=>
   simp only [St.get,Option.some.injEq] at h;subst h
   have:=g0l hf
   have:=a0m
   simp only [V.has,W.has,L.has,beq_eq_false_iff_ne];omega
theorem k0h {x:W} {k:Nat} (h:(V.w x).has k=false):x.cells.any (L.has k)=false:=by
 cases x with
 |one l=>simpa [V.has,W.has,W.cells] using h
 |agg cs=>exact h
theorem Wz {P:Program} {t:TypeId} {cs:List L} (h:Jq P t=some cs) (k:Nat):cs.any (L.has k)=false:=by
 unfold Jq at h
 split at h<;>try (cases h;done)
 split at h<;>try (cases h;done)
 exact f0d k h
theorem c0c {α β:Type} {R:α→β→Prop} {l:List α} {m:List β} (h:Fv R l m): ∀ n,Fv R (List.replicate n l).flatten (List.replicate n m).flatten
 |0=>.nil
 |n+1=>by rw [wT,wT,wV,wV];exact h.append (c0c h n)
theorem any_replicate {k:Nat} {cs:List L} (h:cs.any (L.has k)=false): ∀ n,(List.replicate n cs).flatten.any (L.has k)=false
 |0=>rfl
 |n+1=>by rw [wT,wV,List.any_append,h,any_replicate h n];rfl
theorem y0j (zero:Array Value) (n:Nat):((Array.range (n*zero.size)).map (fun i=>zero[i%zero.size]!)).toList=(List.replicate n zero.toList).flatten:=by
 induction n with
 |zero=>simp
 |succ n ih=>
   rw [List.replicate_succ',List.flatten_append,←ih]
   simp only [wV,List.flatten_nil,wY]
   apply List.ext_getElem?
   intro i
   rw [Nat.succ_mul]
   by_cases h1:i<n*zero.size
   ·rw [List.getElem?_append_left (by simpa using h1)]
    simp [h1,show i<n*zero.size+zero.size by omega]
   rw [vP (by simpa using Nat.le_of_not_lt h1)]
   by_cases h2:i<n*zero.size+zero.size
   ·have h0:i-n*zero.size<zero.size:=by omega
    have hm:i%zero.size=i-n*zero.size:=by
     conv=>lhs;rw [show i=(i-n*zero.size)+n*zero.size from by omega]
     rw [Nat.add_mul_mod_self_right,yN h0]
    simp [h2,hm,h0]
   have h0:¬i-n*zero.size<zero.size:=by omega
   simp [h2,h0]
def b2f (k:Nat) (ps:List (Nat×V)):Prop:=∀ p∈ps,p.2.has k=false
theorem t1e {k:Nat} {c d:List L} (hc:c.any (L.has k)=false) (hd:d.any (L.has k)=false) (o n:Nat):(upd c o n d).any (L.has k)=false:=by
 unfold upd
 rw [List.any_append,List.any_append,hd]
 simp only [xC,yS,Bool.or_eq_false_iff] at*
 exact ⟨fun x hx=>hc x (List.mem_of_mem_take hx),fun x hx=>hc x (List.mem_of_mem_drop hx)⟩
theorem q0d {k:Nat} {place:Nat→Option (Nat×Nat)}: ∀ {cells:List L} {ps:List (Nat×V)} {out:List L},b0f place cells ps=some out→cells.any (L.has k)=false→b2f k ps→out.any (L.has k)=false
 |cells,[],out,h,hc,hp=>by simp only [b0f] at h;cases h;exact hc
 |cells,x::ps,out,h,hc,hp=>by
   unfold b0f at h
   split at h<;>try (cases h;done)
   rename_i v pl hv hpl
   split at h<;>try (cases h;done)
   have hx:=hp x (by simp)
   rw [hv] at hx
   exact q0d h (t1e hc (k0h hx) _ _) (fun p hp'=>hp p (by simp [hp']))
theorem s0s {S:St} {k:Nat} (hf:fresh k S=true): ∀ {ps:List (Nat×Operand)} {vs:List (Nat×V)},Xk S ps=some vs→b2f k vs
 | [],vs,h=>by simp only [Xk] at h;cases h;intro p hp;simp at hp
 |x::r,vs,h=>by
   simp only [Xk] at h
   cases h1:S.get x.2 with
   |none=>simp [h1] at h
   |some v=>
     cases h2:Xk S r with
     |none=>simp [h1,h2] at h
     |some us=>
       simp only [h1,h2,Option.some.injEq] at h;subst h
       intro p hp
       simp only [xK] at hp
       rcases hp with rfl|hp
       ·exact q1m h1 hf
       exact s0s hf h2 p hp
def Az (bs:List UInt8):List L:=bs.map fun b=>.pl (.u8 b)
def Iz (P:Program) (k:Nat) (S:St):Op→Option (V×Ob)
 | .alloc t=>(Jq P t).map fun cs=>(.w (.one (.p k [])),⟨false,cs⟩)
 | .box t x=>match S.get x with
   |some (.w v)=>some (.w (.one (.p k [])),⟨false,v.cells⟩)
   |_=>none
 | .buildSlice t n parts=>match P.underlying t with
   |some (.slice e)=>match Jq P e,Xk S parts.toList with
     |some z,some ps=>if z.length=P.cellsOf e∧z.length≠0∧n*P.cellsOf e≤16777216 then
        (b0f (fun i=>some (i*P.cellsOf e,P.cellsOf e)) (List.replicate n z).flatten ps).map fun cs=>(.w (.one (.s k [] n (P.cellsOf e))),⟨true,cs⟩)
       else none
     |_,_=>none
   |_=>none
 | .makeSlice t l c=>match P.underlying t,(S.get l).bind V.num,(S.get c).bind V.num with
   |some (.slice e),some n,some m=>match Jq P e with
     |some z=>if z.length=P.cellsOf e∧z.length≠0∧n=m∧0≤n∧n≤281474976710656∧P.bytesOf e*n≤281474976710656 then
        some (.w (.one (.s k [] n.toNat (P.cellsOf e))),⟨true,(List.replicate n.toNat z).flatten⟩)
       else none
     |none=>none
   |_,_,_=>none
 | .convert src dst x=>match S.get x,P.underlying src,P.underlying dst with
   |some (.w (.one (.pl (.str bs)))),some .string,some (.slice e)=>match P.underlying e with
     |some (.int .u8)=>some (.w (.one (.s k [] bs.length 1)),⟨true,Az bs⟩)
     |_=>none
   |_,_,_=>none
 |_=>none
theorem k0w {P:Program} {t:TypeId} {cs:List L} (h:Jq P t=some cs) (d:Va): ∃ i z,P.info? t=some i∧i.zero=some z∧Fv (L.den d) cs z.cells.toList:=by
 unfold Jq at h
 split at h<;>try (cases h;done)
 rename_i i hi
 split at h<;>try (cases h;done)
 rename_i z hz
 exact ⟨i,z,hi,hz,b0j h⟩
theorem o0c (w:World) (c:Array Value) (t:TypeId) (l:List Value) (h:l=c.toList):(w.alloc (.cells c t)).heap[w.heap.size]? =some (.cells (l++[]).toArray t (0,0)):=by
 subst h
 show (w.heap.push _)[w.heap.size]? =_
 simp
theorem a0x (w:World) (o:Obj) (b:Nat) (h:b<w.heap.size):(w.alloc o).heap[b]? =w.heap[b]? :=by
 show (w.heap.push o)[b]? =_
 rw [Array.getElem?_push,if_neg (by omega)]
theorem l0b {α:Type} (c d:List α) (o n:Nat) (h:d.length=n) (h':o+n≤c.length):(upd c o n d).length=c.length:=by
 simp [upd];omega
theorem m0u {place:Nat→Option (Nat×Nat)}: ∀ {cells:List L} {ps:List (Nat×V)} {out:List L},b0f place cells ps=some out→out.length=cells.length
 |cells,[],out,h=>by simp only [b0f] at h;cases h;rfl
 |cells,x::ps,out,h=>by
   unfold b0f at h
   split at h<;>try (cases h;done)
   split at h<;>try (cases h;done)
   rename_i hc
   rw [m0u h,l0b _ _ _ _ hc.1 hc.2]
theorem run_mark {P:Program} {w:World} {b c:Nat} {t:TypeId} (h:w.shape? b=some (t,c)):(markStringish ⟨b,0,none⟩).run P w=.ok () (w.freeze ⟨b,c,none⟩ 1):=by
 simp only [markStringish,Sem.run_bind,run_shape,Result.andThen_ok,h,run_freeze]
theorem c0z {d:Va}: ∀ bs:List UInt8,Fv (L.den d) (Az bs) (bs.map fun b=>Value.int .u8 b.toNat)
 | []=>.nil
 |b::bs=>.cons (by rw [L.den,PL.den]) (c0z bs)
theorem a1w {P:Program} {B:Base} {d:Va} {S:St} {a:Act} {w:World} (h:Sim B d S a w) {k:Nat} (hf:fresh k S=true) {o:Oper} {v:V} {ob:Ob} (hv:Iz P k S o.op=some (v,ob)):
 ∃ y w' d',(execOp a.eval o).run P w=.ok (.value y) w'∧v.den d' y∧Sim B d' {S with mem:=(k,ob)::S.mem} a w':=by
 unfold Iz at hv
 unfold execOp
 split at hv
 ·rename_i t ho;rw [ho]
  cases hz:Jq P t with
  |none=>simp [hz] at hv
  |some cs=>
    simp only [hz,yR,Option.some.injEq,Prod.mk.injEq] at hv
    obtain ⟨rfl,rfl⟩:=hv
    obtain ⟨z,hzr,hzd⟩:=n0l hz w d
    refine ⟨.pointer (some ⟨w.heap.size,0,none⟩),w.alloc (.cells z.cells t),_,?_,?_,h.new hf (row:=false) (vals:=z.cells.toList) (spare:=[]) (ty:=t) (fr:=(0,0)) hzd (Wz hz k) (fun _=>rfl) (.inl rfl) (o0c w _ _ _ rfl) (a0x w _) rfl rfl rfl⟩
    ·simp [Instr.alloc,hzr,newVar,newRow]
    show _=_;rw [Va.set_at];rfl
 ·rename_i t x ho;rw [ho]
  split at hv<;>cases hv
  rename_i v hx
  have hd:=W.den_cells (h.get hx)
  refine ⟨.pointer (some ⟨w.heap.size,0,none⟩),w.alloc (.cells (a.eval x).cells t),_,?_,?_,h.new hf (row:=false) (vals:=(a.eval x).cells.toList) (spare:=[]) (ty:=t) (fr:=(0,0)) hd (k0h (q1m hx hf)) (fun _=>rfl) (.inl rfl) (o0c w _ _ _ rfl) (a0x w _) rfl rfl rfl⟩
  ·simp [Instr.box,newVar,newRow]
  show _=_;rw [Va.set_at];rfl
 ·rename_i t n parts ho;rw [ho]
  split at hv<;>try (cases hv;done)
  rename_i e hu
  split at hv<;>try (cases hv;done)
  rename_i z ps hz hps
  split at hv<;>try (cases hv;done)
  rename_i hc
  obtain ⟨hzl,h0,hbig⟩:=hc
  cases hfl:b0f (fun i=>some (i*P.cellsOf e,P.cellsOf e)) (List.replicate n z).flatten ps with
  |none=>simp [hfl] at hv
  |some cs=>
    simp only [hfl,yR,Option.some.injEq,Prod.mk.injEq] at hv
    obtain ⟨rfl,rfl⟩:=hv
    obtain ⟨zv,hzr,hzd⟩:=n0l hz w d
    have hzs:=hzd.length
    simp only [wU] at hzs
    have hsz:=Oy (P:=P) (t:=e) (by omega) w
    have hrow:((Array.range (n*P.cellsOf e)).map (fun i=>zv.cells[i%zv.cells.size]!)).toList=(List.replicate n zv.cells.toList).flatten:=by
     rw [←hzl,hzs];exact y0j zv.cells n
    obtain ⟨r,hr,hrd⟩:=o0e (d:=d) (vals:=(Array.range (n*P.cellsOf e)).map (fun i=>zv.cells[i%zv.cells.size]!)) (qs:=parts.toList.map fun x=>(x.1,a.eval x.2)) hfl (by rw [hrow];exact c0c hzd n) (j0e h hps)
    have hlen:r.toList.length=n*P.cellsOf e:=by
     have:=hrd.length
     rw [m0u hfl] at this
     have e2:(List.replicate n z).flatten.length=n*z.length:=by simp
     rw [e2] at this
     rw [←this,hzl]
    refine ⟨.slice (some ⟨w.heap.size,0,none⟩) n n,w.alloc (.cells r e),_,?_,?_,h.new hf (row:=true) (vals:=r.toList) (spare:=[]) (ty:=e) (fr:=(0,0)) hrd (q0d hfl (any_replicate (Wz hz k) n) (s0s hf hps)) (fun _=>rfl) (.inl rfl) (o0c w _ _ _ rfl) (a0x w _) rfl rfl rfl⟩
    ·have hn:¬n*P.cellsOf e>2 ^ 24:=by omega
     simp only [Instr.buildSlice,Sem.run_bind,run_underlying hu w,Result.andThen_ok,hsz]
     rw [if_neg hn]
     by_cases hz0:n*P.cellsOf e=0
     ·have hn0:n=0:=by rcases Nat.mul_eq_zero.1 hz0 with h|h<;>omega
      subst hn0
      rw [if_pos hz0]
      simp only [Sem.run_pure,Sem.run_bind,Result.andThen_ok]
      have hr':Instr.fill (fun i=>some (i*P.cellsOf e,P.cellsOf e)) #[] (parts.map fun x=>(x.1,a.eval x.2)).toList=some r:=by
       have e0:(Array.range (0*P.cellsOf e)).map (fun i=>zv.cells[i%zv.cells.size]!)= #[]:=Array.eq_empty_of_size_eq_zero (by simp)
       rw [e0] at hr
       simpa using hr
      have e0: ∀ f:Nat→Value,(Array.range (0*P.cellsOf e)).map f= #[]:=fun f=>Array.eq_empty_of_size_eq_zero (by simp)
      simp only [e0,hr',newRow,Sem.run_bind,run_newObj_alloc,Result.andThen_ok,Sem.run_pure]
     rw [if_neg hz0]
     have hr':Instr.fill (fun i=>some (i*P.cellsOf e,P.cellsOf e)) ((Array.range (n*P.cellsOf e)).map (fun i=>zv.cells[i%zv.cells.size]!)) (parts.map fun x=>(x.1,a.eval x.2)).toList=some r:=by
      simpa using hr
     simp only [Sem.run_bind,hzr,Result.andThen_ok,Sem.run_pure,hr',newRow,run_newObj_alloc]
    refine ⟨0,n,by rw [Va.set_at],xL _,?_,.inr rfl,?_⟩
    ·have:n≤n*P.cellsOf e:=Nat.le_mul_of_pos_right _ (by omega)
     have:16777216≤maxLen:=by decide
     omega
    rw [Va.set_size];simp only [wY];omega
 ·rename_i t l c ho;rw [ho]
  split at hv<;>try (cases hv;done)
  rename_i e n m hu hn hm
  obtain ⟨vl,hl,hln⟩:=bind_some hn
  obtain ⟨vc,hc,hcn⟩:=bind_some hm
  obtain ⟨k1,e1⟩:=V.num_den hln (h.get hl)
  obtain ⟨k2,e2⟩:=V.num_den hcn (h.get hc)
  split at hv<;>try (cases hv;done)
  rename_i z hz
  split at hv<;>cases hv
  rename_i hcond
  obtain ⟨hzl,h0,rfl,hn0,hbig,hbytes⟩:=hcond
  obtain ⟨ti,zv,hti,htz,hzd⟩:=k0w hz d
  have hzs:=hzd.length
  simp only [wU] at hzs
  have hbo:P.bytesOf e=ti.bytes:=by simp [Program.bytesOf,hti]
  have hco:P.cellsOf e=ti.size:=by simp [Program.cellsOf,hti]
  have hrow:((Array.range (n.toNat*ti.size)).map (fun i=>zv.cells[i%zv.cells.size]!)).toList=(List.replicate n.toNat zv.cells.toList).flatten:=by
   rw [←hco,←hzl,hzs];exact y0j zv.cells n.toNat
  have hr:=run_make (P:=P) w t e ti zv hu hti htz k1 k2 n n hn0 (Int.le_refl _) (by rw [←hbo];exact hbytes) (by omega)
  refine ⟨.slice (some ⟨w.heap.size,0,none⟩) n.toNat n.toNat,w.alloc (.cells ((Array.range (n.toNat*ti.size)).map (fun i=>zv.cells[i%zv.cells.size]!)) e),_,?_,?_,h.new hf (row:=true) (vals:=(List.replicate n.toNat zv.cells.toList).flatten) (spare:=[]) (ty:=e) (fr:=(0,0)) (c0c hzd n.toNat) (any_replicate (Wz hz k) _) (fun _=>rfl) (.inl rfl) (o0c w _ _ _ hrow.symm) (a0x w _) rfl rfl rfl⟩
  ·simp [e1,e2,hr,madeCells]
  have hb:281474976710656≤maxLen:=by decide
  refine ⟨0,n.toNat,by rw [Va.set_at],xL _,by omega,.inr rfl,?_⟩
  rw [Va.set_size];simp;rw [←hzs,hzl];exact xL _
 ·rename_i src dst x ho;rw [ho]
  split at hv<;>try (cases hv;done)
  rename_i bs e hx hs hd
  split at hv<;>cases hv
  rename_i he
  have hx':=h.get hx
  change PL.den _ _ _ at hx';rw [PL.den] at hx'
  obtain ⟨ex,hlen⟩:=hx'
  have hcap: ∃ c,bs.length≤c∧c≤maxLen∧(choose (.appendCap bs.length 0 e)).run P w=.ok c {w with drawn:=w.drawn+1}:=by
   refine ⟨(Question.appendCap bs.length 0 e).cut (w.tape w.drawn (.appendCap bs.length 0 e)),?_,?_,?_⟩
   ·simp only [Question.cut];omega
   ·simp only [Question.cut]
    have h63:0<2 ^ 63-bs.length:=by unfold maxLen at hlen;omega
    have:=wP (w.tape w.drawn (.appendCap bs.length 0 e)) h63
    unfold maxLen;omega
   simp [Question.forced]
  obtain ⟨c,hc1,hc2,hcr⟩:=hcap
  let vals:List Value:=bs.map fun b=>.int .u8 b.toNat
  let spare:List Value:=List.replicate (c-bs.length) (.int .u8 0)
  let w1:World:={w with drawn:=w.drawn+1}
  let w2:World:=w1.alloc (.cells (vals++spare).toArray e)
  have hwl:w1.heap.size=w.heap.size:=rfl
  have hl:(vals++spare).length=c:=by simp [vals,spare];omega
  have hx2:w2.heap[w.heap.size]? =some (.cells (vals++spare).toArray e (0,0)):=by
   show (w.heap.push _)[w.heap.size]? =_
   simp
  have hlt:w.heap.size<w2.heap.size:=(Array.getElem?_eq_some_iff.1 hx2).1
  have hrun:(Conv.stringToBytes e ⟨bs.toArray⟩).run P w=.ok (.slice (some ⟨w.heap.size,0,none⟩) bs.length c) (w2.freeze ⟨w.heap.size,c,none⟩ 1):=by
   have e1:(bs.toArray.map (fun b=>Value.int .u8 b.toNat))++Array.replicate (c-bs.length) (Value.int .u8 0)=(vals++spare).toArray:=by
    apply Array.ext';simp [vals,spare]
   have hsh:w2.shape? w.heap.size=some (e,c):=by
    unfold World.shape?;rw [hx2];simp [hl]
   have hmk:=run_mark (P:=P) hsh
   simp only [Conv.stringToBytes,f0q,Sem.run_bind,hcr,Result.andThen_ok,newRow,e1,run_newObj_alloc,Sem.run_pure]
   exact congrArg (fun r:Result Unit=>r.andThen fun _ w'=>Result.ok (Value.slice (some ⟨w.heap.size,0,none⟩) bs.length c) w') hmk
  refine ⟨.slice (some ⟨w.heap.size,0,none⟩) bs.length c,w2.freeze ⟨w.heap.size,c,none⟩ 1,_,?_,?_,h.new hf (row:=true) (vals:=vals) (spare:=spare) (ty:=e) (fr:=(c,c+1)) ?_ ?_ (by simp) (.inr (by rw [hl];exact xL _)) ?_ ?_ rfl rfl rfl⟩
  ·simp only [Sem.run_bind]
   unfold convert
   simp only [Sem.run_bind,run_underlying hs w,run_underlying hd w,Result.andThen_ok,ex,run_underlying he w,hrun];rfl
  ·refine ⟨0,c,by rw [Va.set_at],hc1,hc2,.inr rfl,?_⟩
   rw [Va.set_size,hl];omega
  ·exact c0z bs
  ·simp [Az,L.has]
  ·simp only [World.freeze]
   rw [if_neg (by omega)]
   show (w2.heap.modify w.heap.size _)[w.heap.size]? =_
   rw [Array.getElem?_modify,if_pos rfl,hx2];rfl
  intro b hb
  simp only [World.freeze]
  rw [if_neg (by omega)]
  show (w2.heap.modify w.heap.size _)[b]? =_
  rw [Array.getElem?_modify,if_neg (by omega)]
  exact a0x w1 _ b hb
 cases hv
end Go.Sy
namespace Go.Sy
theorem j1j {w:World} {g:Nat} {cur:Array Value} {t:TypeId} {fz:Nat×Nat} (hg:w.heap[g]? =some (.cells cur t fz)) (hfz:fz=(0,0)∨cur.size≤fz.1) {j:Nat} (hj:j<cur.size):w.frozen? ⟨g,j,none⟩=false:=by
 obtain ⟨lo,hi⟩:=fz
 simp only [World.frozen?,hg,Bool.and_eq_false_iff,decide_eq_false_iff_not]
 rcases hfz with h|h
 ·cases h;right;omega
 left;simp only at h;omega
theorem g0e (P:Program) (g o:Nat) (t:TypeId) (fz:Nat×Nat): ∀ (vs:List Value) (i:Nat) (cur:Array Value) (w:World),w.heap[g]? =some (.cells cur t fz)→(fz=(0,0)∨cur.size≤fz.1)→o+i+vs.length≤cur.size→(∀ v∈vs,v.oneCell'=true)→
 (storeCells ⟨g,o,none⟩ vs i).run P w=.ok () (w.setRow g (upd cur.toList (o+i) vs.length vs).toArray)
 | [],i,cur,w,hg,_,_,_=>by
   simp only [storeCells,upd,wY,xW,vB,wS,Array.toArray_toList]
   rw [setRow_self w g cur t fz hg]
   rfl
 |v::rest,i,cur,w,hg,hfz,hl,h1=>by
   have hi:o+i<cur.size:=by simp at hl;omega
   have hcell:w.cell? ⟨g,o+i,none⟩=some cur[o+i]:=by simp [World.cell?,hg,hi]
   have hfro:=j1j hg hfz hi
   have hst:(store ((⟨g,o,none⟩:Addr).add i) v).run P w=.ok () (w.setRow g (cur.setIfInBounds (o+i) v)):=by
    rw [addr_add,run_store P w _ v _ (h1 v (by simp)),hcell]
    simp [hfro,setCell_eq_setRow w g (o+i) cur t fz v hg]
   have hg2:=setRow_heap w g cur (cur.setIfInBounds (o+i) v) t fz hg
   have ih:=g0e P g o t fz rest (i+1) (cur.setIfInBounds (o+i) v) (w.setRow g (cur.setIfInBounds (o+i) v)) hg2 (by simpa using hfz) (by simp at hl ⊢;omega) (fun u hu=>h1 u (by simp [hu]))
   simp only [storeCells,Sem.run_bind,hst,Result.andThen_ok,ih,setRow_setRow]
   congr 3
   simp only [upd,Array.toList_setIfInBounds,xD]
   have e1:(cur.toList.set (o+i) v).take (o+(i+1))=cur.toList.take (o+i)++[v]:=by
    rw [show o+(i+1)=o+i+1 from by omega,wI (by simpa using hi),List.getElem_set_self,List.take_set,List.set_eq_of_length_le (by simp;omega)]
   have e2:(cur.toList.set (o+i) v).drop (o+(i+1)+rest.length)=cur.toList.drop (o+i+(rest.length+1)):=by
    rw [List.drop_set,if_pos (by omega)];congr 1;omega
   rw [e1,e2];simp
theorem Vx {d:Va}: ∀ {cs:List L} {vs:List Value},Fv (L.den d) cs vs→∀ v∈vs,v.oneCell'=true
 |_,_,.nil,v,hv=>by simp at hv
 |_,_,.cons h1 h2,v,hv=>by
   simp only [xK] at hv
   rcases hv with rfl|hv
   ·obtain ⟨a,b⟩:=L.den_scalar h1
    cases v<;>first|rfl|exact absurd rfl (a _)|exact absurd rfl (b _)
   exact Vx h2 v hv
def m0f (P:Program) (S:St) (t:TypeId) (a x:V):Option St:=
 match a,x with
 | .w (.one (.p k path)),.w v=>match look S.mem k with
   |some o=>if k<1000000∧pok o.cells.length path∧psz o.cells.length path=P.cellsOf t∧P.cellsOf t≠0∧v.cells.length=P.cellsOf t then some {S with mem:=h0b S.mem k ⟨o.row,wr o.cells path v.cells⟩} else none
   |none=>none
 |_,_=>none
theorem e0l {α:Type} (c c' d:List α) (o n:Nat) (h:o+n≤c.length):upd (c++c') o n d=upd c o n d++c':=by
 unfold upd
 rw [List.take_append_of_le_length (by omega),List.drop_append_of_le_length (by omega)];simp
theorem x0j {P:Program} {B:Base} {d:Va} {S S':St} {a:Act} {w:World} (h:Sim B d S a w) {t:TypeId} {p x:V} {y z:Value} (hv:m0f P S t p x=some S') (hp:p.den d y) (hx:x.den d z):
 ∃ w',(Instr.storeAt t y z).run P w=.ok () w'∧Sim B d S' a w':=by
 unfold m0f at hv
 split at hv<;>try (cases hv;done)
 rename_i k path v
 split at hv<;>try (cases hv;done)
 rename_i o hk
 split at hv<;>cases hv
 rename_i hc
 obtain ⟨hkl,hpk,hps,h0,hvl⟩:=hc
 change y=_ at hp;subst hp
 have hcx:=W.den_cells hx
 have hlx:=hcx.length
 obtain ⟨vals,spare,ty,fr,hh,hfr,hd,hs,hl⟩:=h.mem k o hk hkl
 have hlv:=hd.length
 have hle:=j0c hpk
 have hsz:=Oy h0 w
 simp only [wU] at hlx
 have hst:=g0e P (d.at_ k) (Xj path) ty fr z.cells.toList 0 (vals++spare).toArray w hh (by simpa using hfr) (by simp;omega) (Vx hcx)
 have e:upd (vals++spare).toArray.toList (Xj path+0) z.cells.toList.length z.cells.toList=upd vals (Xj path) (psz o.cells.length path) z.cells.toList++spare:=by
  rw [show z.cells.toList.length=psz o.cells.length path from by rw [wU];omega]
  show upd (vals++spare) _ _ _=_
  rw [vB,e0l _ _ _ _ _ (by omega)]
 rw [e] at hst
 have hul:(upd vals (Xj path) (psz o.cells.length path) z.cells.toList).length=vals.length:=l0b _ _ _ _ (by rw [wU];omega) (by omega)
 refine ⟨_,?_,h.write hk hkl (cells:=wr o.cells path v.cells) (vals:=upd vals (Xj path) (psz o.cells.length path) z.cells.toList) (spare:=spare) (ty:=ty) (fr:=fr) ?_ hs ?_ ?_ (setRow_heap w _ _ _ ty fr hh) (fun b hb=>setRow_other w _ b _ hb) (setRow_size _ _ _) rfl rfl rfl⟩
 ·simp only [Instr.storeAt,Instr.sureAddr,storeVar,Sem.run_bind,Sem.run_pure,Result.andThen_ok,hsz]
  rw [if_neg (by simp only [ne_eq,Decidable.not_not];omega)]
  simpa using hst
 ·rw [t1u _ _ hpk (by omega)]
  exact hd.upd hcx _ _
 ·simp only [yG,hul];simpa using hfr
 simp only [yG,hul];simpa using hl
end Go.Sy
namespace Go.Sy
def Uq (k:Nat) (l:L):L:=if l.has k then .pl .u else l
def W.kill (k:Nat):W→W
 | .one l=>.one (Uq k l)
 | .agg cs=>.agg (cs.map (Uq k))
def V.kill (k:Nat):V→V
 | .w x=>.w (x.kill k)
 | .tup xs=>.tup (xs.map (W.kill k))
 | .any=>.any
def p0w (k:Nat):List (Nat×V)→List (Nat×V)
 | []=>[]
 |x::r=>(x.1,x.2.kill k)::p0w k r
def c0t (k:Nat):List (Nat×Ob)→List (Nat×Ob)
 | []=>[]
 |x::r=>if k=x.1 then c0t k r else (x.1,⟨x.2.row,x.2.cells.map (Uq k)⟩)::c0t k r
def St.kill (k:Nat) (S:St):St:=⟨p0w k S.env,c0t k S.mem⟩
theorem p0v {d:Va} {k:Nat} {l:L} {y:Value} (h:l.den d y):(Uq k l).den d y:=by
 unfold Uq
 split
 ·rw [L.den,PL.den];exact L.den_scalar h
 exact h
theorem z0l (k:Nat) (l:L):(Uq k l).has k=false:=by
 unfold Uq
 split
 ·rfl
 simp_all
theorem d0x {α β:Type} {R:α→β→Prop} {f:α→α} (hf: ∀ x y,R x y→R (f x) y) {l:List α} {m:List β} (h:Fv R l m):Fv R (l.map f) m:=by
 induction h with
 |nil=>exact .nil
 |cons h1 _ ih=>exact .cons (hf _ _ h1) ih
theorem W.kill_den {d:Va} {k:Nat} {x:W} {y:Value} (h:x.den d y):(x.kill k).den d y:=by
 cases x with
 |one l=>exact p0v h
 |agg cs=>obtain ⟨vs,rfl,hv⟩:=h;exact ⟨vs,rfl,d0x (fun _ _=>p0v) hv⟩
theorem V.kill_den {d:Va} {k:Nat} {x:V} {y:Value} (h:x.den d y):(x.kill k).den d y:=by
 cases x with
 |w x=>exact W.kill_den h
 |tup xs=>obtain ⟨vs,rfl,hv⟩:=h;exact ⟨vs,rfl,d0x (fun _ _=>W.kill_den) hv⟩
 |any=>trivial
theorem h0m (k:Nat) (cs:List L):(cs.map (Uq k)).any (L.has k)=false:=by
 induction cs with
 |nil=>rfl
 |cons c cs ih=>simp only [yL,vX,z0l,ih,Bool.or_self]
theorem W.kill_has (k:Nat) (x:W):(x.kill k).has k=false:=by
 cases x with
 |one l=>exact z0l k l
 |agg cs=>exact h0m k cs
theorem V.kill_has (k:Nat) (x:V):(x.kill k).has k=false:=by
 cases x with
 |w x=>exact W.kill_has k x
 |tup xs=>
   simp only [V.kill,V.has]
   induction xs with
   |nil=>rfl
   |cons c cs ih=>simp only [yL,vX,W.kill_has,ih,Bool.or_self]
 |any=>rfl
theorem c0n {k:Nat}: ∀ {e:List (Nat×V)} {n:Nat},look (p0w k e) n=(look e n).map (V.kill k)
 | [],n=>rfl
 |x::r,n=>by
   simp only [p0w,look]
   split
   ·rfl
   exact c0n
theorem Iq {k:Nat}: ∀ {e:List (Nat×Ob)} {n:Nat},look (c0t k e) n=if n=k then none else (look e n).map fun o=>⟨o.row,o.cells.map (Uq k)⟩
 | [],n=>by simp [c0t,look]
 |x::r,n=>by
   unfold c0t
   split
   ·rename_i e
    rw [Iq]
    split
    ·rfl
    rename_i e2
    simp only [look]
    rw [if_neg (fun e3=>e2 (e3.trans e.symm))]
   rename_i e
   simp only [look]
   split
   ·rename_i e2
    rw [if_neg (fun e3=>e (e3.symm.trans e2))];rfl
   exact Iq
theorem c1s {k:Nat} (hk:k<500000∨750000≤k∧k<1000000) (S:St):j0y k (S.kill k)=true:=by
 have h1: ∀ e:List (Nat×V),b1f k (p0w k e)=false:=by
  intro e
  induction e with
  |nil=>rfl
  |cons x r ih=>simp only [p0w,b1f,V.kill_has,ih,Bool.or_self]
 have h2: ∀ e:List (Nat×Ob),z0p k (c0t k e)=false:=by
  intro e
  induction e with
  |nil=>rfl
  |cons x r ih=>
    unfold c0t
    split
    ·exact ih
    simp only [z0p,Ob.has,h0m,ih,Bool.or_self]
 simp [j0y,St.kill,h1,h2,hk]
theorem Sim.kill {B:Base} {d:Va} {S:St} {a:Act} {w:World} (h:Sim B d S a w) (k:Nat):Sim B d (S.kill k) a w:=by
 have hsome: ∀ j,(look (c0t k S.mem) j).isSome=true→(look S.mem j).isSome=true:=by
  intro j hj
  rw [Iq] at hj
  split at hj
  ·simp at hj
  simpa using hj
 refine ⟨h.defers,h.nt,?_,?_,fun k1 k2 h1 h2=>h.inj k1 k2 (hsome _ h1) (hsome _ h2),fun k' hk'=>h.own k' (hsome _ hk'),h.ro,h.old,h.os,h.tape,h.output,h.size,h.block,h.gat,?_,?_,h.fxn,fun b l hb=>?_⟩
 ·intro n v hv
  simp only [St.kill] at hv
  rw [c0n] at hv
  cases hg:look S.env n with
  |none=>simp [hg] at hv
  |some u=>
    simp only [hg,yR,Option.some.injEq] at hv;subst hv
    obtain ⟨y,hy,hd⟩:=h.env n u hg
    exact ⟨y,hy,V.kill_den hd⟩
 ·intro j o ho hjl
  simp only [St.kill] at ho
  rw [Iq] at ho
  split at ho
  ·cases ho
  cases hg:look S.mem j with
  |none=>simp [hg] at ho
  |some u=>
    simp only [hg,yR,Option.some.injEq] at ho;subst ho
    obtain ⟨vals,spare,ty,fr,h1,h2,h3,h4,h5⟩:=h.mem j u hg hjl
    exact ⟨vals,spare,ty,fr,h1,h2,d0x (fun _ _=>p0v) h3,h4,h5⟩
 ·intro j o ho hjg
  simp only [St.kill] at ho
  rw [Iq] at ho
  split at ho
  ·cases ho
  cases hg:look S.mem j with
  |none=>simp [hg] at ho
  |some u=>
    simp only [hg,yR,Option.some.injEq] at ho;subst ho
    rcases h.glob j u hg hjg with ⟨l,rfl⟩|⟨h1,cs,h2,h3⟩
    ·exact .inl ⟨l,rfl⟩
    refine .inr ?_
    have e:u.cells.map (Uq k)=u.cells:=by
     rw [h2,List.map_map]
     exact List.map_congr_left fun x _=>by simp [Uq,L.has]
    exact ⟨by simp only [e];exact h1,cs,by simp only [e];exact h2,h3⟩
 ·intro j o p ho hp hjl
  simp only [St.kill] at ho
  rw [Iq] at ho
  split at ho
  ·cases ho
  cases hg:look S.mem j with
  |none=>simp [hg] at ho
  |some u=>
    simp only [hg,yR,Option.some.injEq] at ho;subst ho
    exact h.fix j u p hg hp hjl
 simp only [St.kill] at hb
 rw [Iq] at hb
 split at hb
 ·cases hb
 cases hg:look S.mem (mp0+b) with
 |none=>simp [hg] at hb
 |some u=>
   obtain ⟨r,cs⟩:=u
   simp only [hg,yR,Option.some.injEq,Ob.mk.injEq,List.map_eq_nil_iff] at hb
   obtain ⟨rfl,rfl⟩:=hb
   exact h.mp b l hg
theorem t0d {k:Nat} {o:Ob}: ∀ {m:List (Nat×Ob)},c0t k (h0b m k o)=c0t k m
 | []=>rfl
 |x::r=>by
   unfold h0b
   split
   ·rename_i e
    simp only [c0t,if_pos e]
   rename_i e
   simp only [c0t,if_neg e,t0d]
theorem Sim.killKeep {B:Base} {d:Va} {S:St} {a:Act} {w:World} (h:Sim B d S a w) {k:Nat} {o:Ob} (hk:look S.mem k=some o) (hkl:k<gl0):Sim B d ⟨p0w k S.env,(k,o)::c0t k S.mem⟩ a w:=by
 have h2:=h.kill k
 have hsome: ∀ j,(look ((k,o)::c0t k S.mem) j).isSome=true→(look S.mem j).isSome=true:=by
  intro j hj
  simp only [look] at hj
  split at hj
  ·rename_i e;subst e;rw [hk];rfl
  rw [Iq] at hj
  split at hj
  ·simp at hj
  simpa using hj
 refine ⟨h.defers,h.nt,h2.env,?_,fun k1 k2 h1 h2=>h.inj k1 k2 (hsome _ h1) (hsome _ h2),fun k' hk'=>h.own k' (hsome _ hk'),h.ro,h.old,h.os,h.tape,h.output,h.size,h.block,h.gat,?_,?_,h.fxn,fun b l hb=>?_⟩
 ·intro j p hp hjl
  simp only [look] at hp
  split at hp
  ·rename_i e;subst e;cases hp;exact h.mem _ _ hk hkl
  exact h2.mem j p hp hjl
 ·intro j p hp hjg
  simp only [look] at hp
  rw [if_neg (show j≠k by omega)] at hp
  exact h2.glob j p hp hjg
 ·intro j p q hp hq hjl
  simp only [look] at hp
  split at hp
  ·rename_i e;subst e;cases hp;exact h.fix _ _ q hk hq hkl
  exact h2.fix j p q hp hq hjl
 simp only [look] at hb
 rw [if_neg (show mp0+b≠k by show 2000000+b≠k;have:k<1000000:=hkl;omega)] at hb
 exact h2.mp b l hb
theorem b0m {d:Va} {blk sz:Nat} {w:World} (hro: ∀ b o y,d.ro b o=some y→w.cell? ⟨b,o,none⟩=some y):
 ∀ {rows:List (List PL)} {off:Nat},PL.denRows d.ro blk sz rows off→∃ vals:List Value,Fv (L.den d) (pls rows.flatten) vals∧Mk w blk off vals∧vals.length=rows.length*sz
 | [],off,_=>⟨[],.nil,fun j v hv=>by simp at hv,by simp⟩
 |r::rs,off,h=>by
   rw [PL.denRows] at h
   obtain ⟨hl,hat,hrest⟩:=h
   obtain ⟨v1,h1,c1⟩:=l0w hro hat
   obtain ⟨v2,h2,c2,l2⟩:=b0m hro hrest
   have l1:v1.length=sz:=by rw [←h1.length,c0s,hl]
   refine ⟨v1++v2,?_,?_,by simp [l1,l2,wN,vL]⟩
   ·rw [wV];unfold pls;rw [xQ];exact h1.append h2
   intro j v hv
   by_cases hj:j<v1.length
   ·rw [List.getElem?_append_left hj] at hv;exact c1 j v hv
   rw [vP (by omega)] at hv
   have:=c2 _ v hv
   rw [show off+j=off+sz+(j-v1.length) from by omega];exact this
def l1j (P:Program) (S:St) (e tx:TypeId) (x:V):Option (List L×Nat):=
 match P.underlying tx,x with
 |some (.slice _),.w (.one (.pl (.R _ sz rows)))=>if sz=P.cellsOf e∨rows=[] then some (pls rows.flatten,rows.length) else none
 |some (.slice _),.w (.one (.s k path len sz))=>match look S.mem k with
   |some o=>if pok o.cells.length path∧psz o.cells.length path=len*sz∧sz=P.cellsOf e then some (rd o.cells path,len) else none
   |none=>none
 |some .string,.w (.one (.pl (.str bs)))=>if P.cellsOf e=1 then some (Az bs,bs.length) else none
 |_,_=>none
theorem Pw {P:Program} {w:World} {blk o:Nat} {vals:List Value} (h:Mk w blk o vals) {n:Nat} (hn:vals.length=n):(loadCells ⟨blk,o,none⟩ n).run P w=.ok vals.toArray w:=by
 subst hn
 exact run_loadCells_list w ⟨blk,o,none⟩ vals (fun j v hv=>by rw [addr_add];exact h j v hv)
theorem Mk.drew {w:World} {blk o:Nat} {vals:List Value} (h:Mk w blk o vals):Mk w.drew blk o vals:=h
theorem c2t {P:Program} {B:Base} {d:Va} {S:St} {a:Act} {w:World} (h:Sim B d S a w) {e tx:TypeId} {x:V} {y:Value} {cs:List L} {n:Nat} (hv:l1j P S e tx x=some (cs,n)) (hx:x.den d y):
 ∃ vals,Src P (P.cellsOf e) tx y n vals w∧Fv (L.den d) cs vals:=by
 unfold l1j at hv
 split at hv
 ·rename_i e' ex sz rows hu
  split at hv<;>cases hv
  rename_i hc
  change PL.den _ _ _ at hx;rw [PL.den] at hx
  rcases hx with ⟨rfl,rfl⟩|⟨blk,off,cap,rfl,hlc,hcm,_,hrows⟩|⟨sa,cap,rfl,rfl,hcm,_⟩
  ·exact ⟨[],⟨.inl ⟨_,hu⟩,fun _=>by simp [Builtin.lenOf],by simp [Builtin.firstCells],by simp [Builtin.firstCells],by simp,by simp⟩,.nil⟩
  ·have hrows':PL.denRows d.ro blk (P.cellsOf e) rows off:=by
    rcases hc with rfl|rfl
    ·exact hrows
    simp [PL.denRows]
   obtain ⟨vals,hd,hcell,hl⟩:=b0m h.ro hrows'
   refine ⟨vals,⟨.inl ⟨_,hu⟩,fun _=>by simp [Builtin.lenOf],?_,?_,hl,Vx hd⟩,hd⟩
   ·simp only [Builtin.firstCells];exact Pw hcell hl
   simp only [Builtin.firstCells];exact Pw hcell.drew hl
  exact ⟨[],⟨.inl ⟨_,hu⟩,fun _=>by simp [Builtin.lenOf],by simp only [Builtin.firstCells,xW,vW];exact run_loadCells_list _ sa [] (fun j v hv=>by simp at hv),by simp only [Builtin.firstCells,xW,vW];exact run_loadCells_list _ sa [] (fun j v hv=>by simp at hv),by simp,by simp⟩,.nil⟩
 ·rename_i e' k path len sz hu
  split at hv<;>try (cases hv;done)
  rename_i o hk
  split at hv<;>cases hv
  rename_i hc
  obtain ⟨hp,hps,rfl⟩:=hc
  obtain ⟨vals,hd,hcell,hl⟩:=h.readObj hk hp
  rw [hps] at hl
  obtain ⟨oo,cap,rfl,hlc,hcm,ho,_⟩:=hx
  have hcell':Mk w (d.at_ k) oo vals:=by
   rcases ho with ho|rfl
   ·have hz:n=0:=by omega
    rw [hz,vW] at hl
    have:=xH hl
    subst this;exact fun j v hv=>by simp at hv
   exact hcell
  refine ⟨vals,⟨.inl ⟨_,hu⟩,fun _=>by simp [Builtin.lenOf],?_,?_,hl,Vx hd⟩,hd⟩
  ·simp only [Builtin.firstCells];exact Pw hcell' hl
  simp only [Builtin.firstCells];exact Pw hcell'.drew hl
 ·rename_i bs hu
  split at hv<;>cases hv
  rename_i hc
  change PL.den _ _ _ at hx;rw [PL.den] at hx
  obtain ⟨rfl,_⟩:=hx
  have hext:((⟨bs.toArray⟩:ByteArray).extract 0 bs.length).data.map (fun b=>Value.int .u8 b.toNat)=(bs.map fun b=>Value.int .u8 b.toNat).toArray:=by
   apply Array.ext';simp [ByteArray.data_extract]
  refine ⟨bs.map fun b=>.int .u8 b.toNat,⟨.inr hu,fun _=>by simp [Builtin.lenOf,f0q],?_,?_,by simp [hc],Vx (c0z (d:=d) bs)⟩,c0z bs⟩
  ·simp only [Builtin.firstCells,hext,Sem.run_pure]
  simp only [Builtin.firstCells,hext,Sem.run_pure]
 cases hv
end Go.Sy
namespace Go.Sy
theorem q0y {P:Program} {w:World} {k:IntKind} (n:Int):(asInt (.int k n)).run P w=.ok n w:=by
 simp [asInt,asIntOf,Result.andThen]
theorem k0v (v:Value) (n:Nat):Builtin.zeroCells #[v] n=(List.replicate n v).toArray:=by
 apply Array.ext'
 simp only [Builtin.zeroCells,List.size_toArray,xD,xW,xV,Nat.mul_one,Array.toList_map,Array.toList_range]
 apply List.ext_getElem
 ·simp
 intro i h1 h2
 simp [Nat.mod_one]
structure SrcZ (P:Program) (size bytes:Nat) (tx:TypeId) (x:Value) (n:Nat) (news:List Value) (z:Value):Prop where
 kind: ∃ k,P.underlying tx=some (.int k)
 val:x=.int .i64 (n:Int)
 fit:n*bytes≤281474976710656
 small:n≤9223372036854775807
 one: ∃ v:Value,z.cells= #[v]∧news=List.replicate n v∧v.oneCell'=true
 size:size=1
def i2r (P:Program) (size bytes:Nat) (tx:TypeId) (x:Value) (n:Nat) (news:List Value) (z:Value) (w:World):Prop:=Src P size tx x n news w∨SrcZ P size bytes tx x n news z
theorem e1y {n:Nat} (h:n≤9223372036854775807):IntKind.i64.wrap (n:Int)=n:=by
 have:((n:Int))%18446744073709551616=n:=Int.emod_eq_of_lt (by omega) (by omega)
 simp [IntKind.wrap,IntKind.bits,IntKind.signed,IntKind.max,IntKind.min]
 omega
section
variable {P:Program} {w:World} {size bytes:Nat} {tx:TypeId} {x z:Value} {n:Nat} {news:List Value}
theorem i2r.newsLen (h:i2r P size bytes tx x n news z w):news.length=n*size:=by
 rcases h with h|h
 ·exact h.newsLen
 obtain ⟨v,_,rfl,_⟩:=h.one
 rw [h.size];simp
theorem i2r.oneC (h:i2r P size bytes tx x n news z w): ∀ u∈news,u.oneCell'=true:=by
 rcases h with h|h
 ·exact h.one
 obtain ⟨v,_,rfl,hv⟩:=h.one
 intro u hu
 rw [(List.mem_replicate.mp hu).2];exact hv
theorem u0j {t ty e : TypeId} {i : TypeInfo} (hu : P.underlying t = some (.slice e)) (hi : P.info? e = some i) (hz : i.zero = some z) {base : Option Addr} {sLen cap : Nat} (hs : i2r P i.size i.bytes tx x n news z w) (hin : sLen + n ≤ cap) :
    (Builtin.append_ #[t, tx] ty #[.slice base sLen cap, x]).run P w = (do if let some a := base then storeCells (a.add (sLen * i.size)) news
                                                                           pure (Value.slice base (sLen + n) cap)).run P w := by
  rcases hs with hs | hs
  · rcases hs.kind with ⟨e', hk⟩ | hk <;> (cases base <;> simp [Builtin.append_, run_underlying hu, run_underlying hk, sizeOf, typeInfo, hi, hs.len, hin, hs.cells])
  · obtain ⟨k, hk⟩ := hs.kind
    obtain ⟨v, hv, rfl, _⟩ := hs.one
    have hf := hs.fit
    have h1 : ¬ ((n : Int) < 0) := by omega
    have h2 : ¬ ((281474976710656 : Int) < (n : Int) * (i.bytes : Int)) := by
      rw [← Int.natCast_mul]; omega
    rw [hs.val]
    have w0 : IntKind.i64.wrap 0 = 0 := by decide
    have hin2 : sLen ≤ cap := by omega
    cases base <;> by_cases h0 : n = 0
    all_goals simp [Builtin.append_, run_underlying hu, run_underlying hk, sizeOf, typeInfo, hi, q0y, e1y hs.small, h1, h2, hin, zeroValue, hz, hv, k0v, hs.size, h0, w0, hin2, storeCells]
theorem y0d {t ty e:TypeId} {i:TypeInfo} (hu:P.underlying t=some (.slice e)) (hi:P.info? e=some i) (hz:i.zero=some z) (base:Option Addr) (sLen sCap:Nat) (olds:List Value)
 (hold:(Builtin.firstCells i.size sLen (.slice base sLen sCap)).run P w.drew=.ok olds.toArray w.drew) (hs:i2r P i.size i.bytes tx x n news z w)
 (hg:sCap<sLen+n) (h63:((sLen+n:Nat):Int)≤9223372036854775807) (hfit:Builtin.nextslicecap (sLen+n) sCap*i.bytes≤281474976710656):
 (Builtin.append_ #[t,tx] ty #[.slice base sLen sCap,x]).run P w=
  .ok (.slice (some ⟨w.heap.size,0,none⟩) (sLen+n) (grownCap w (sLen+n) sCap e))
   (w.drew.alloc (.cells ((olds++news).toArray++Builtin.zeroCells z.cells (grownCap w (sLen+n) sCap e-(sLen+n))) e)):=by
 rcases hs with hs|hs
 ·exact run_append_grow_src w t tx ty e i z hu hi hz base sLen sCap olds hold x n news hs hg h63 hfit
 obtain ⟨k,hk⟩:=hs.kind
 obtain ⟨v,hv,rfl,_⟩:=hs.one
 have hf:=hs.fit
 have h1:¬((n:Int)<0):=by omega
 have h2:¬((281474976710656:Int)<(n:Int)*(i.bytes:Int)):=by
  rw [←Int.natCast_mul];omega
 have hn:¬(sLen+n≤sCap):=by omega
 have h63':¬(9223372036854775807<((sLen:Int)+(n:Int))):=by omega
 have h48':¬(281474976710656<Builtin.nextslicecap (sLen+n) sCap*i.bytes):=by omega
 have w0:IntKind.i64.wrap 0=0:=by decide
 rw [hs.val]
 rw [hs.size] at hold
 by_cases h0:n=0
 ·subst h0
  simp only [vB] at*
  simp [Builtin.append_,run_underlying hu,run_underlying hk,sizeOf,typeInfo,hi,q0y,w0,hn,h63',h48',Question.forced,zeroValue,hz,hv,k0v,hs.size,hold,newRow,grownCap]
  intro h;exfalso;omega
 simp [Builtin.append_,run_underlying hu,run_underlying hk,sizeOf,typeInfo,hi,q0y,e1y hs.small,h1,h2,hn,h63',h48',Question.forced,zeroValue,hz,hv,k0v,hs.size,hold,newRow,grownCap,h0]
 congr 2
 apply Array.ext'
 simp [wM,←List.replicate_append_replicate]
end
end Go.Sy
namespace Go.Sy
def t1o (P:Program) (S:St) (e tx:TypeId) (x:V):Option (List L×Nat):=
 match P.underlying tx,x with
 |some (.int k),.w (.one (.pl (.i n)))=>match Jq P e with
   |some [z]=>if 0≤n∧n≤9223372036854775807∧P.cellsOf e=1∧n.toNat*P.bytesOf e≤140737488355328 then some (List.replicate n.toNat z,n.toNat) else none
   |_=>none
 |_,_=>l1j P S e tx x
theorem one_cell {d:Va} {l:L} {y:Value} (h:l.den d y):y.oneCell'=true:=(Vx (.cons h .nil)) y (by simp)
theorem h1p {d:Va} {z:L} {v:Value} (h:z.den d v): ∀ n,Fv (L.den d) (List.replicate n z) (List.replicate n v)
 |0=>.nil
 |n+1=>.cons h (h1p h n)
theorem c2u {P:Program} {B:Base} {d:Va} {S:St} {a:Act} {w:World} (h:Sim B d S a w) {e tx:TypeId} {x:V} {y:Value} {cs:List L} {n:Nat} (hv:t1o P S e tx x=some (cs,n)) (hx:x.den d y)
 {ti:TypeInfo} {zv:Value} (hti:P.info? e=some ti) (htz:ti.zero=some zv):
 ∃ vals,i2r P (P.cellsOf e) ti.bytes tx y n vals zv w∧Fv (L.den d) cs vals:=by
 unfold t1o at hv
 split at hv
 ·rename_i k i hu
  split at hv<;>try (cases hv;done)
  rename_i z hz
  split at hv<;>cases hv
  rename_i hc
  obtain ⟨h0,h1,h2,h3⟩:=hc
  obtain ⟨ti',zv',hti',htz',hzd⟩:=k0w hz d
  rw [hti] at hti';cases hti'
  rw [htz] at htz';cases htz'
  have hbo:P.bytesOf e=ti.bytes:=by simp [Program.bytesOf,hti]
  obtain ⟨v,hzc,hzv⟩: ∃ v,zv.cells= #[v]∧z.den d v:=by
   cases hl:zv.cells.toList with
   |nil=>rw [hl] at hzd;cases hzd
   |cons v r=>
     rw [hl] at hzd
     cases hzd with
     |cons e1 e2=>
       cases e2
       exact ⟨v,by apply Array.ext';rw [hl],e1⟩
  change PL.den _ _ _ at hx;rw [PL.den] at hx
  refine ⟨List.replicate i.toNat v,.inr ⟨⟨k,hu⟩,?_,?_,?_,⟨v,hzc,rfl,one_cell hzv⟩,h2⟩,?_⟩
  ·rw [hx];congr 1;omega
  ·rw [←hbo];omega
  ·omega
  exact h1p hzv _
 obtain ⟨vals,h1,h2⟩:=c2t h hv hx
 exact ⟨vals,.inl h1,h2⟩
end Go.Sy
namespace Go.Sy
def d0v (P:Program) (k:Nat) (S:St) (t tx:TypeId) (s x:V):Option (V×St):=
 match P.underlying t with
 |some (.slice e)=>
   match Jq P e,t1o P S e tx x with
   |some z,some (new,n)=>
     if z.length=P.cellsOf e∧P.cellsOf e≠0∧P.bytesOf e≠0 then
      match s with
      | .w (.one (.s j [] len sz))=>
        match look S.mem j with
        |some o=>if (j<500000∨750000≤j∧j<1000000)∧o.row=true∧sz=P.cellsOf e∧o.cells.length=len*sz∧(len+n)*P.bytesOf e≤140737488355328∧(o.cells++new).any (L.has j)=false then
           some (.w (.one (.s j [] (len+n) sz)),⟨p0w j S.env,(j,⟨true,o.cells++new⟩)::c0t j S.mem⟩)
          else none
        |none=>none
      | .w (.one (.pl (.R true sz rows)))=>
        if sz=P.cellsOf e∨rows=[] then
         if n=0 then some (.w (.one (.pl (.R true (P.cellsOf e) rows))),S)
         else if fresh k S=true∧(rows.length+n)*P.bytesOf e≤140737488355328∧new.any (L.has k)=false then
          some (.w (.one (.s k [] (rows.length+n) (P.cellsOf e))),⟨S.env,(k,⟨true,pls rows.flatten++new⟩)::S.mem⟩)
         else none
        else none
      |_=>none
     else none
   |_,_=>none
 |_=>none
theorem u0q (k:Nat) (c:List PL):(pls c).any (L.has k)=false:=by
 induction c with
 |nil=>rfl
 |cons c cs ih=>simp only [pls,yL,vX,L.has,yT];exact ih
theorem grownCap_le {w:World} {need old:Nat} {e:TypeId} (h:need≤140737488355328):need≤grownCap w need old e∧grownCap w need old e≤maxLen:=by
 unfold grownCap
 simp only [Question.cut]
 have h63:0<2 ^ 63-need:=by omega
 have:=wP (w.tape w.drawn (.appendCap need old e)) h63
 unfold maxLen;omega
theorem t0p {P:Program} {B:Base} {d:Va} {S S':St} {a:Act} {w:World} (h:Sim B d S a w) {k:Nat} {t tx ty:TypeId} {s x v:V} {y u:Value} (hv:d0v P k S t tx s x=some (v,S')) (hs:s.den d y) (hx:x.den d u):
 ∃ z w' d',(Builtin.append_ #[t,tx] ty #[y,u]).run P w=.ok z w'∧v.den d' z∧Sim B d' S' a w':=by
 unfold d0v at hv
 split at hv<;>try (cases hv;done)
 rename_i e hu
 split at hv<;>try (cases hv;done)
 rename_i z new n hz hsrc
 split at hv<;>try (cases hv;done)
 rename_i hc
 obtain ⟨hzl,h0,hb0⟩:=hc
 obtain ⟨ti,zv,hti,htz,hzd⟩:=k0w hz d
 have hzs:=hzd.length
 simp only [wU] at hzs
 have hbo:P.bytesOf e=ti.bytes:=by simp [Program.bytesOf,hti]
 have hco:P.cellsOf e=ti.size:=by simp [Program.cellsOf,hti]
 obtain ⟨vnew,hsr,hnd⟩:=c2u h hsrc hx hti htz
 rw [hco] at hsr
 have hnl:=hsr.newsLen
 split at hv
 ·rename_i j len sz
  split at hv<;>try (cases hv;done)
  rename_i o hk
  split at hv<;>cases hv
  rename_i hcond
  obtain ⟨hjl,hrow,rfl,hol,hroom,hany⟩:=hcond
  have hjg:j<gl0:=by show j<1000000;omega
  obtain ⟨oo,cap,rfl,hlc,hcm,ho,hfit⟩:=hs
  obtain ⟨vals,spare,ty',fr,hh,hfr,hd,hsp,hl⟩:=h.mem j o hk hjg
  have hvl:=hd.length
  have hneed:len+n≤140737488355328:=xR (Nat.le_mul_of_pos_right _ (by omega)) hroom
  by_cases hin:len+n≤cap
  ·
   by_cases hcap0:cap=0
   ·
    subst hcap0
    have hn0:n=0:=by omega
    have hl0:len=0:=by omega
    subst hn0;subst hl0
    have hnew0:new=[]:=xH (by rw [hnd.length,hnl];simp)
    have hvn0:vnew=[]:=xH (by rw [hnl];simp)
    have hrun:(Builtin.append_ #[t,tx] ty #[.slice (some ⟨d.at_ j,oo,none⟩) 0 0,u]).run P w=.ok (.slice (some ⟨d.at_ j,oo,none⟩) 0 0) w:=by
     rw [u0j hu hti htz hsr (xL _)];simp [hvn0,storeCells]
    refine ⟨_,w,d,hrun,⟨oo,0,rfl,xL _,by omega,.inl rfl,by omega⟩,?_⟩
    subst hnew0
    have:=h.killKeep (k:=j) (o:=o) hk hjg
    have eo:o=⟨true,o.cells++[]⟩:=by cases o;simp_all
    rw [eo] at this
    simpa using this
   have ho:oo=0:=by simpa [Xj] using ho.resolve_left hcap0
   subst ho
   have hszb:(vals++spare).length=d.size j:=hl
   have e1:len*P.cellsOf e+n*P.cellsOf e=(len+n)*P.cellsOf e:=by rw [wN]
   have e2:(len+n)*P.cellsOf e≤cap*P.cellsOf e:=vY _ hin
   have hfit2:len*P.cellsOf e+vnew.length≤(vals++spare).length:=by rw [hnl,←hco];omega
   have hst:=g0e P (d.at_ j) (len*P.cellsOf e) ty' fr vnew 0 (vals++spare).toArray w hh (by simpa using hfr) (by simpa using hfit2) hsr.oneC
   simp only [vB] at hst
   have hvv:vals.length=len*P.cellsOf e:=by rw [←hvl,hol]
   have eupd:upd (vals++spare).toArray.toList (len*P.cellsOf e) vnew.length vnew=(vals++vnew)++spare.drop vnew.length:=by
    show upd (vals++spare) _ _ _=_
    unfold upd
    rw [←hvv,List.take_left',List.drop_append,List.drop_eq_nil_of_le (by omega)]
    ·simp
    rfl
   rw [eupd] at hst
   have hrun:(Builtin.append_ #[t,tx] ty #[.slice (some ⟨d.at_ j,0,none⟩) len cap,u]).run P w=.ok (.slice (some ⟨d.at_ j,0,none⟩) (len+n) cap) (w.setRow (d.at_ j) ((vals++vnew)++spare.drop vnew.length).toArray):=by
    have hst':(storeCells ((⟨d.at_ j,0,none⟩:Addr).add (len*ti.size)) vnew).run P w=.ok () (w.setRow (d.at_ j) ((vals++vnew)++spare.drop vnew.length).toArray):=by
     rw [addr_add,xV,←hco];exact hst
    rw [u0j hu hti htz hsr hin];(simp at hst';simp [hst'])
   have hlen2:((vals++vnew)++spare.drop vnew.length).length=(vals++spare).length:=by
    simp only [yG,yU] at hfit2 ⊢;omega
   have hw:=h.write hk hjg (cells:=o.cells++new) (vals:=vals++vnew) (spare:=spare.drop vnew.length) (ty:=ty') (fr:=fr) (hd.append hnd) (fun e=>by rw [hrow] at e;cases e) (by rw [hlen2];exact hfr) (by rw [hlen2];exact hl) (setRow_heap w _ _ _ ty' fr hh) (fun b hb=>setRow_other w _ b _ hb) (setRow_size _ _ _) rfl rfl rfl
   have hk2:look (h0b S.mem j ⟨o.row,o.cells++new⟩) j=some ⟨true,o.cells++new⟩:=by
    rw [Fz,if_pos rfl,hk,hrow];rfl
   have hw2:=hw.killKeep hk2 hjg
   refine ⟨_,_,d,hrun,⟨0,cap,rfl,hin,hcm,.inr rfl,hfit⟩,?_⟩
   simpa [t0d] using hw2
  ·
   have hfull:cap<len+n:=by omega
   have hold:(Builtin.firstCells ti.size len (.slice (some ⟨d.at_ j,oo,none⟩) len cap)).run P w.drew=.ok vals.toArray w.drew:=by
    have hcell:Mk w (d.at_ j) oo vals:=by
     rcases ho with rfl|ho
     ·have hl0:len=0:=by omega
      have:vals=[]:=xH (by rw [←hvl,hol,hl0,vW])
      subst this;exact fun j v hv=>by simp at hv
     have:oo=0:=by simpa [Xj] using ho
     subst this
     have hc:=q0q hh
     intro i v hv
     exact hc i v (by rw [List.getElem?_append_left (by
      have:=(List.getElem?_eq_some_iff.1 hv).1;exact this)];exact hv)
    simp only [Builtin.firstCells]
    exact Pw hcell.drew (by rw [←hvl,hol,hco])
   have hrun:=y0d (ty:=ty) hu hti htz (some ⟨d.at_ j,oo,none⟩) len cap vals hold hsr hfull (by omega) (by rw [hbo] at hroom;exact growslice_fits hfull hroom)
   obtain ⟨g1,g2⟩:=grownCap_le (w:=w) (old:=cap) (e:=e) hneed
   have hzc:(Builtin.zeroCells zv.cells (grownCap w (len+n) cap e-(len+n))).toList.length=(grownCap w (len+n) cap e-(len+n))*P.cellsOf e:=by
    rw [wU,size_zeroCells,←hzs,hzl]
   have harr:(vals++vnew).toArray++Builtin.zeroCells zv.cells (grownCap w (len+n) cap e-(len+n))=((vals++vnew)++(Builtin.zeroCells zv.cells (grownCap w (len+n) cap e-(len+n))).toList).toArray:=by
    apply Array.ext';simp
   rw [harr] at hrun
   have htot:((vals++vnew)++(Builtin.zeroCells zv.cells (grownCap w (len+n) cap e-(len+n))).toList).length=grownCap w (len+n) cap e*P.cellsOf e:=by
    rw [yG,hzc,yG,←hvl,hol,hnl,←hco,←wN,←wN];congr 1;omega
   have hany2:(o.cells++new).any (L.has j)=false:=hany
   refine ⟨_,_,_,hrun,?_,(h.kill j).new2 (c1s hjl S) (row:=true) (cells:=o.cells++new) (vals:=vals++vnew) (spare:=(Builtin.zeroCells zv.cells (grownCap w (len+n) cap e-(len+n))).toList) (ty:=e) (fr:=(0,0)) (hd.append hnd) hany2 (fun e=>by cases e) (.inl rfl) ?_ ?_ rfl rfl rfl⟩
   ·refine ⟨0,grownCap w (len+n) cap e,by rw [Va.set_at],g1,g2,.inr rfl,?_⟩
    rw [Va.set_size,htot];omega
   ·show (w.heap.push _)[w.heap.size]? =_
    simp
   intro b hb;exact a0x w.drew _ b hb
 ·rename_i sz rows
  split at hv<;>try (cases hv;done)
  rename_i hsz
  change PL.den _ _ _ at hs;rw [PL.den] at hs
  have hrowsAt: ∃ base cap olds,y=.slice base rows.length cap∧cap=rows.length∧Fv (L.den d) (pls rows.flatten) olds∧olds.length=rows.length*P.cellsOf e∧
   (Builtin.firstCells ti.size rows.length (.slice base rows.length cap)).run P w.drew=.ok olds.toArray w.drew∧(base=none→rows=[]):=by
   rcases hs with ⟨rfl,rfl⟩|⟨blk,off,cap,rfl,hlc,hcm,hex,hrows⟩|⟨sa,cap,rfl,rfl,hcm,hex⟩
   ·exact ⟨none,0,[],rfl,rfl,.nil,by simp,by simp [Builtin.firstCells],fun _=>rfl⟩
   ·have hrows':PL.denRows d.ro blk (P.cellsOf e) rows off:=by
     rcases hsz with rfl|rfl
     ·exact hrows
     simp [PL.denRows]
    obtain ⟨vals,hd,hcell,hl⟩:=b0m h.ro hrows'
    exact ⟨some ⟨blk,off,none⟩,cap,vals,rfl,hex rfl,hd,hl,by simp only [Builtin.firstCells];exact Pw hcell.drew (by rw [hl,hco]),fun e=>by cases e⟩
   obtain rfl:=hex rfl
   exact ⟨some sa,0,[],rfl,rfl,.nil,by simp,by simp only [Builtin.firstCells,xW,vW];exact run_loadCells_list _ sa [] (fun j v hv=>by simp at hv),fun e=>by cases e⟩
  obtain ⟨base,cap,olds,rfl,rfl,hod,hol,hold,hbase⟩:=hrowsAt
  split at hv
  ·rename_i hn0
   cases hv;subst hn0
   have hvn0:vnew=[]:=xH (by rw [hnl];simp)
   refine ⟨.slice base rows.length rows.length,w,d,?_,?_,h⟩
   ·rw [u0j (sLen:=rows.length) (cap:=rows.length) hu hti htz hsr (by simp)];cases base<;>simp [hvn0,storeCells]
   show PL.den _ _ _
   rw [PL.den]
   rcases hs with ⟨e1,rfl⟩|⟨blk,off,cap,e1,hlc,hcm,hex,hrows⟩|⟨sa,cap,e1,rfl,hcm,hex⟩
   ·left;exact ⟨e1,rfl⟩
   ·right;left
    refine ⟨blk,off,cap,e1,hlc,hcm,hex,?_⟩
    rcases hsz with rfl|rfl
    ·exact hrows
    simp [PL.denRows]
   right;right;exact ⟨sa,cap,e1,rfl,hcm,hex⟩
  rename_i hn0
  split at hv<;>cases hv
  rename_i hcond
  obtain ⟨hf,hroom,hany⟩:=hcond
  have hneed:rows.length+n≤140737488355328:=xR (Nat.le_mul_of_pos_right _ (by omega)) hroom
  have hfull:rows.length<rows.length+n:=by omega
  have hrun:=y0d (ty:=ty) hu hti htz base rows.length rows.length olds hold hsr hfull (by omega) (by rw [hbo] at hroom;exact growslice_fits hfull hroom)
  obtain ⟨g1,g2⟩:=grownCap_le (w:=w) (old:=rows.length) (e:=e) hneed
  have hzc:(Builtin.zeroCells zv.cells (grownCap w (rows.length+n) rows.length e-(rows.length+n))).toList.length=(grownCap w (rows.length+n) rows.length e-(rows.length+n))*P.cellsOf e:=by
   rw [wU,size_zeroCells,←hzs,hzl]
  have harr:(olds++vnew).toArray++Builtin.zeroCells zv.cells (grownCap w (rows.length+n) rows.length e-(rows.length+n))=((olds++vnew)++(Builtin.zeroCells zv.cells (grownCap w (rows.length+n) rows.length e-(rows.length+n))).toList).toArray:=by
   apply Array.ext';simp
  rw [harr] at hrun
  have htot:((olds++vnew)++(Builtin.zeroCells zv.cells (grownCap w (rows.length+n) rows.length e-(rows.length+n))).toList).length=grownCap w (rows.length+n) rows.length e*P.cellsOf e:=by
   rw [yG,hzc,yG,hol,hnl,←hco,←wN,←wN];congr 1;omega
  refine ⟨_,_,_,hrun,?_,h.new hf (row:=true) (cells:=pls rows.flatten++new) (vals:=olds++vnew) (spare:=(Builtin.zeroCells zv.cells (grownCap w (rows.length+n) rows.length e-(rows.length+n))).toList) (ty:=e) (fr:=(0,0)) (hod.append hnd) (by rw [List.any_append,u0q,hany];rfl) (fun e=>by cases e) (.inl rfl) ?_ ?_ rfl rfl rfl⟩
  ·refine ⟨0,grownCap w (rows.length+n) rows.length e,by rw [Va.set_at],g1,g2,.inr rfl,?_⟩
   rw [Va.set_size,htot];omega
  ·show (w.heap.push _)[w.heap.size]? =_
   simp
  intro b hb;exact a0x w.drew _ b hb
 cases hv
end Go.Sy
namespace Go.Sy
def St.put (nt:Nat) (dst:Option Tmp) (v:V) (S:St):Option St:=
 match dst with
 |none=>some S
 |some n=>if n<nt then some ⟨(n,v)::S.env,S.mem⟩ else none
def p1o (P:Program) (S:St) (t:TypeId):V→Option V
 | .w (.one (.pl (.val (.map (some b)))))=>match P.underlying t,look S.mem (mp0+b) with
   |some (.map _ _),some ⟨.m l,[]⟩=>some (.w (.one (.pl (.i l.length))))
   |_,_=>none
 |x=>j1o P t x
theorem m0j : ∀ (l:List (List UInt8×Int)) (i:Nat),(Xw i l).length=l.length
 | [],_=>rfl
 |x::r,i=>by simp [Xw,m0j r]
theorem n1n {P:Program} {w:World} {b:Nat} {l:List (List UInt8×Int)} {t ty kt et:TypeId} (ht:P.underlying t=some (.map kt et)) (h:MapAt w b l):(Builtin.len_ #[t] ty #[.map (some b)]).run P w=.ok (.int .i64 l.length) w:=by
 have hl:=m0j l 0
 simp [Builtin.len_,run_underlying ht,Go.MapKept.run_getObj_map h,Result.andThen,goInt,hl]
def Qz (P:Program) (nt:Nat) (o:Oper) (S:St):Option St:=
 match o.op with
 | .store t x y=>match S.get x,S.get y with
   |some u,some v=>match o.dst with
     |none=>m0f P S t u v
     |some _=>none
   |_,_=>none
 | .call ⟨.builtin .append,args,ts⟩=>match args.toList,ts.toList,o.dst with
   | [x,y],[t,tx],some k=>match S.get x,S.get y with
     |some u,some v=>match d0v P k S t tx u v with
       |some r=>r.2.put nt o.dst r.1
       |none=>none
     |_,_=>none
   |_,_,_=>none
 | .call ⟨.builtin .len,args,ts⟩=>match args.toList,ts.toList with
   | [x],[t]=>match (S.get x).bind (p1o P S t) with
     |some v=>S.put nt o.dst v
     |none=>none
   |_,_=>none
 | .alloc _| .box _ _| .buildSlice _ _ _| .makeSlice _ _ _=>match o.dst with
   |some k=>if fresh k S=true then
      match Iz P k S o.op with
      |some r=>St.put nt (some k) r.1 ⟨S.env,(k,r.2)::S.mem⟩
      |none=>none
     else none
   |none=>none
 |_=>match Fq P S o.op with
   |some v=>S.put nt o.dst v
   |none=>match o.dst with
     |some k=>if fresh k S=true then
        match Iz P k S o.op with
        |some r=>St.put nt (some k) r.1 ⟨S.env,(k,r.2)::S.mem⟩
        |none=>none
       else none
     |none=>none
theorem St.put_ok {B:Base} {d:Va} {S S':St} {a:Act} {w:World} (h:Sim B d S a w) {dst:Option Tmp} {v:V} {y:Value} (hp:S.put B.nt dst v=some S') (hd:v.den d y):Sim B d S' (a.put dst y) w:=by
 unfold St.put at hp
 split at hp
 ·cases hp;exact h
 split at hp<;>cases hp
 rename_i n hn
 exact h.put hn hd
theorem d0b {P:Program} {B:Base} {d:Va} {S S':St} {a:Act} {w:World} (h:Sim B d S a w) {o:Oper}
 (hv:(match o.dst with
  |some k=>if fresh k S=true then
     match Iz P k S o.op with
     |some r=>St.put B.nt (some k) r.1 ⟨S.env,(k,r.2)::S.mem⟩
     |none=>none
    else none
  |none=>none)=some S'):
 ∃ y w' d',(execOp a.eval o).run P w=.ok (.value y) w'∧Sim B d' S' (a.put o.dst y) w':=by
 split at hv<;>try (cases hv;done)
 rename_i k hk
 split at hv<;>try (cases hv;done)
 rename_i hf
 split at hv<;>try (cases hv;done)
 rename_i r hr
 obtain ⟨y,w',d',hrun,hd,hs⟩:=a1w h hf (v:=r.1) (ob:=r.2) hr
 exact ⟨y,w',d',hrun,by rw [hk];exact St.put_ok hs hv hd⟩
theorem o1c {P:Program} {B:Base} {d:Va} {S S':St} {a:Act} {w:World} (h:Sim B d S a w) {o:Oper}
 (hv:(match Fq P S o.op with
 |some v=>S.put B.nt o.dst v
 |none=>match o.dst with
   |some k=>if fresh k S=true then
      match Iz P k S o.op with
      |some r=>St.put B.nt (some k) r.1 ⟨S.env,(k,r.2)::S.mem⟩
      |none=>none
     else none
   |none=>none)=some S'):
 ∃ y w' d',(execOp a.eval o).run P w=.ok (.value y) w'∧Sim B d' S' (a.put o.dst y) w':=by
 split at hv
 ·rename_i v hp
  obtain ⟨y,hrun,hd⟩:=u0n h hp
  exact ⟨y,w,d,hrun,St.put_ok h hv hd⟩
 exact d0b h hv
theorem u1i {P:Program} {B:Base} {d:Va} {S S':St} {a:Act} {w:World} (h:Sim B d S a w) {o:Oper} (hv:Qz P B.nt o S=some S'):
 (∃ y w' d',(execOp a.eval o).run P w=.ok (.value y) w'∧Sim B d' S' (a.put o.dst y) w')∨
 (∃ w' d',(execOp a.eval o).run P w=.ok .skip w'∧o.dst=none∧Sim B d' S' a w'):=by
 unfold Qz at hv
 split at hv
 ·rename_i t x y ho
  split at hv<;>try (cases hv;done)
  rename_i u v hx hy
  split at hv<;>try (cases hv;done)
  rename_i hdst
  obtain ⟨w',hr,hs⟩:=x0j h hv (h.get hx) (h.get hy)
  right
  refine ⟨w',d,?_,hdst,hs⟩
  unfold execOp
  rw [ho]
  simp [hr]
 ·rename_i args ts ho
  split at hv<;>try (cases hv;done)
  rename_i x y t tx k ha ht hdst
  split at hv<;>try (cases hv;done)
  rename_i u v hx hy
  split at hv<;>try (cases hv;done)
  rename_i r hr
  left
  have ea:args= #[x,y]:=by rw [←vG,ha]
  have et:ts= #[t,tx]:=by rw [←vG,ht]
  subst ea;subst et
  obtain ⟨z,w',d',hrun,hd,hs⟩:=t0p (ty:=o.type) h (v:=r.1) (S':=r.2) hr (h.get hx) (h.get hy)
  refine ⟨z,w',d',?_,St.put_ok hs hv hd⟩
  unfold execOp
  rw [ho]
  simp [resolve,invoke,builtin,hrun]
 ·rename_i args ts ho
  split at hv<;>try (cases hv;done)
  rename_i x t ha ht
  split at hv<;>try (cases hv;done)
  rename_i v hl
  left
  obtain ⟨u,hu,hl⟩:=Option.bind_eq_some_iff.mp hl
  unfold p1o at hl
  split at hl
  ·rename_i b
   split at hl<;>cases hl
   rename_i kt et l hxt hm
   have e1:args= #[x]:=by rw [←vG,ha]
   have e2:ts= #[t]:=by rw [←vG,ht]
   subst e1;subst e2
   have hd:=h.get hu
   change PL.den _ _ _ at hd
   rw [PL.den] at hd
   refine ⟨_,w,d,?_,St.put_ok h hv (show V.den d (.w (.one (.pl (.i l.length)))) (.int .i64 l.length) from by change PL.den _ _ _;rw [PL.den])⟩
   unfold execOp
   rw [ho]
   simp [resolve,invoke,builtin,hd.1,n1n hxt (h.mp b l hm)]
  have hp:Fq P S o.op=some v:=by rw [ho];simp only [Fq,ha,ht,hu];exact hl
  obtain ⟨y,hrun,hd⟩:=u0n h hp
  exact ⟨y,w,d,hrun,St.put_ok h hv hd⟩
 ·exact .inl (d0b h hv)
 ·exact .inl (d0b h hv)
 ·exact .inl (d0b h hv)
 ·exact .inl (d0b h hv)
 exact .inl (o1c h hv)
def p2q (P:Program) (B:Base) (o:Oper) (S:St) (K:St→Prop):Prop:=
 ∀ d a w,Sim B d S a w→∀ (next:Act→World→Prop) (Q:Exit→Act→World→Prop),(∀ S' d' a' w',K S'→Sim B d' S' a' w'→next a' w')→o.wp P a w next Q
theorem n0p {P:Program} {B:Base} {S S':St} {o:Oper} {K:St→Prop} (hv:Qz P B.nt o S=some S') (hK:K S'):p2q P B o S K:=by
 intro d a w h next Q hn
 rcases u1i h hv with ⟨y,w',d',hr,hs⟩|⟨w',d',hr,hdst,hs⟩
 ·unfold Oper.wp;rw [hr];exact hn _ _ _ _ hK hs
 unfold Oper.wp;rw [hr];rw [Oper.upon_skip,hdst];exact hn _ _ _ _ hK hs
def e0a :Op→Bool
 | .call ⟨.value _,_,_⟩=>true
 | .makeMap .. | .lookup .. | .mapUpdate .. | .mapEntry .. | .entryStore .. =>true
 |_=>false
def b0a (S:St) (ds:List (Option Tmp)) (j:Nat) (want:Bool):Option Bool:=
 match ds[j]? with
 |some (some t)=>match look S.env t with
   |some (.w (.one (.pl (.b c))))=>some c
   |some (.tup [])=>some (!want)
   |_=>none
 |_=>none
def x0r (S:St) (ds:List (Option Tmp)) (j:Nat) (c:Bool):St:=
 match ds[j]? with
 |some (some t)=>match look S.env t with
   |some (.w (.one (.pl (.b _))))=>⟨(t,.w (.one (.pl (.b c))))::S.env,S.mem⟩
   |_=>S
 |_=>S
theorem u0g {B:Base} {d:Va} {S:St} {a:Act} {w:World} (h:Sim B d S a w) {ds:List (Option Tmp)} {j:Nat} {c want:Bool} (hg:b0a S ds j want=some c):Sim B d (x0r S ds j c) a w:=by
 unfold b0a at hg
 unfold x0r
 split at hg<;>try (cases hg;done)
 rename_i t ht
 split at hg<;>try (cases hg;done)
 ·rename_i c' hl
  cases hg
  simp only [hl]
  refine ⟨h.defers,h.nt,fun n v hv=>?_,h.mem,h.inj,h.own,h.ro,h.old,h.os,h.tape,h.output,h.size,h.block,h.gat,h.glob,h.fix,h.fxn,h.mp⟩
  simp only [look] at hv
  split at hv
  ·rename_i e;cases hv;subst e;exact h.env _ _ hl
  exact h.env n v hv
 rename_i hl
 simp only [hl];exact h
theorem e0m (d:Va):V.den d (.tup []) undef:=⟨#[],rfl,.nil⟩
def Aj (P:Program) (B:Base) (ds:List (Option Tmp)):List Oper→St→(St→Prop)→Prop
 | [],S,K=>K S
 |o::r,S,K=>
   match o.guard with
   |none=>if e0a o.op=true then p2q P B o S fun S'=>Aj P B ds r S' K else
      match Qz P B.nt o S with
      |some S'=>Aj P B ds r S' K
      |none=>False
   |some g=>match b0a S ds g.1 g.2 with
     |some c=>
       (c=g.2→if e0a o.op=true then p2q P B o (x0r S ds g.1 g.2) fun S'=>Aj P B ds r S' K else
        match Qz P B.nt o (x0r S ds g.1 g.2) with
        |some S'=>Aj P B ds r S' K
        |none=>False)∧
       (c=(!g.2)→match (x0r S ds g.1 (!g.2)).put B.nt o.dst (.tup []) with
        |some S'=>Aj P B ds r S' K
        |none=>False)
     |none=>False
theorem e0i {B:Base} {d:Va} {S:St} {a:Act} {w:World} (h:Sim B d S a w) {ops:Array Oper} {ds:List (Option Tmp)} (hds:ds=ops.toList.map (·.dst)) {o:Oper} {g:Nat×Bool} {c:Bool} (ho:o.guard=some g) (hg:b0a S ds g.1 g.2=some c):Region.wanted o (yielded ops a.tmps)=(some c==some g.2):=by
 unfold Region.wanted
 rw [ho]
 unfold b0a at hg
 split at hg<;>try (cases hg;done)
 rename_i t ht
 have hd0:(ops[g.1]?).bind (·.dst)=some t:=by
  subst hds
  rw [vH] at ht
  cases ho:ops[g.1]? with
  |none=>simp [ho] at ht
  |some o=>simp [ho] at ht;simp [ht]
 split at hg<;>try (cases hg;done)
 ·rename_i c' hl
  cases hg
  obtain ⟨y,hy,hd⟩:=h.env _ _ hl
  change PL.den _ _ _ at hd;rw [PL.den] at hd;subst hd
  simp [yielded,hd0,hy]
 rename_i hl
 cases hg
 obtain ⟨y,hy,hd⟩:=h.env _ _ hl
 obtain ⟨vs,rfl,_⟩:=hd
 simp [yielded,hd0,hy]
theorem c0h {P:Program} {B:Base} {ops:Array Oper} {ds:List (Option Tmp)} (hds:ds=ops.toList.map (·.dst)) {Q:Exit→Act→World→Prop} {K:St→Prop} (hK: ∀ S' d' a' w',K S'→Sim B d' S' a' w'→Q .normal a' w'):
 ∀ (l:List Oper) (S:St),Aj P B ds l S K→∀ d a w,Sim B d S a w→wpList P ops Q l a w
 | [],S,h,d,a,w,hs=>hK _ _ _ _ h hs
 |o::r,S,h,d,a,w,hs=>by
   unfold Aj at h
   split at h
   ·rename_i hg
    refine wpList_plain hg fun N hN=>?_
    split at h
    ·exact h d a w hs N Q (fun S' d' a' w' hk hs'=>hN _ _ (c0h hds hK r S' hk d' a' w' hs'))
    split at h
    ·rename_i S' hst
     exact n0p (K:=fun S'=>Aj P B ds r S' K) hst h d a w hs N Q (fun S' d' a' w' hk hs'=>hN _ _ (c0h hds hK r S' hk d' a' w' hs'))
    exact h.elim
   rename_i g hg
   split at h
   ·rename_i c hc
    have hw:=e0i hs hds hg hc
    refine wpList_step fun N hN=>?_
    by_cases hcg:c=g.2
    ·rw [hw,hcg,if_pos (by simp)]
     have h1:=h.1 hcg
     have hs:=u0g (c:=g.2) (j:=g.1) (want:=g.2) (ds:=ds) hs (by rw [hc,hcg])
     split at h1
     ·exact h1 d a w hs N Q (fun S' d' a' w' hk hs'=>hN _ _ (c0h hds hK r S' hk d' a' w' hs'))
     split at h1
     ·rename_i S' hst
      exact n0p (K:=fun S'=>Aj P B ds r S' K) hst h1 d a w hs N Q (fun S' d' a' w' hk hs'=>hN _ _ (c0h hds hK r S' hk d' a' w' hs'))
     exact h1.elim
    have hcg':c= !g.2:=by cases c<;>cases hg2:g.2<;>simp_all
    rw [hw,if_neg (by simp [hcg])]
    have h2:=h.2 hcg'
    have hs:=u0g (c:=!g.2) (j:=g.1) (want:=g.2) (ds:=ds) hs (by rw [hc,hcg'])
    split at h2
    ·rename_i S' hst
     exact hN _ _ (c0h hds hK r S' h2 d _ w (St.put_ok hs hst (e0m d)))
    exact h2.elim
   exact h.elim
end Go.Sy
namespace Go.Sy
def HT (P:Program) (B:Base) (c:Code) (S:St) (Q:Exit→St→Prop):Prop:=
 ∀ d a w,Sim B d S a w→c.wp P (fun e a' w'=>∃ S' d',Q e S'∧Sim B d' S' a' w') a w
def l0d (N:St→Prop) (Q:Exit→St→Prop):Exit→St→Prop
 | .normal,S=>N S
 |e,S=>Q e S
def e0d (id:Nat) (Q:Exit→St→Prop):Exit→St→Prop
 | .exit i,S=>if i=id then Q .normal S else Q (.exit i) S
 |e,S=>Q e S
section
variable {P:Program} {B:Base} {S:St} {Q:Exit→St→Prop}
theorem HT.mono {c:Code} {Q':Exit→St→Prop} (h:HT P B c S Q) (hq: ∀ e S,Q e S→Q' e S):HT P B c S Q':=by
 intro d a w hs
 exact Code.wp_mono (fun e a' w' ⟨S',d',q,s⟩=>⟨S',d',hq _ _ q,s⟩) (h d a w hs)
theorem HT.seq {x y:Code} (h:HT P B x S (l0d (fun S'=>HT P B y S' Q) Q)):HT P B (.seq x y) S Q:=by
 intro d a w hs
 refine wp_seq (Code.wp_mono ?_ (h d a w hs))
 rintro e a' w' ⟨S',d',hq,hs'⟩
 cases e<;>first|exact hq d' a' w' hs'|exact ⟨S',d',hq,hs'⟩
theorem HT.block {id:Nat} {x:Code} (h:HT P B x S (e0d id Q)):HT P B (.block id x) S Q:=by
 intro d a w hs
 refine wp_block (Code.wp_mono ?_ (h d a w hs))
 rintro e a' w' ⟨S',d',hq,hs'⟩
 cases e with
 |exit i=>
   simp only [e0d] at hq
   simp only [Exit.inBlock]
   split
   ·rename_i e;rw [if_pos e] at hq;exact ⟨S',d',hq,hs'⟩
   rename_i e;rw [if_neg e] at hq;exact ⟨S',d',hq,hs'⟩
 |_=>exact ⟨S',d',hq,hs'⟩
theorem HT.cond {c:Operand} {x y:Code} {t:Bool} (hc:S.get c=some (.w (.one (.pl (.b t))))) (ht:t=true→HT P B x S Q) (hf:t=false→HT P B y S Q):HT P B (.cond c x y) S Q:=by
 intro d a w hs
 have h:=hs.get hc
 change PL.den _ _ _ at h;rw [PL.den] at h
 exact wp_cond_split h (fun e=>ht e d a w hs) (fun e=>hf e d a w hs)
theorem HT.region {id:Nat} {ops:Array Oper} (h:Aj P B (ops.toList.map (·.dst)) ops.toList S (Q .normal)):HT P B (.region id ops false) S Q:=by
 intro d a w hs
 refine wp_region_list ?_
 exact c0h rfl (fun S' d' a' w' hk hs'=>⟨S',d',hk,hs'⟩) _ _ h d a w hs
theorem HT.skip (h:Q .normal S):HT P B .skip S Q:=fun d a w hs=>wp_skip ⟨S,d,h,hs⟩
theorem HT.exit {id:Nat} (h:Q (.exit id) S):HT P B (.exit id) S Q:=fun d a w hs=>wp_exit ⟨S,d,h,hs⟩
theorem HT.ret (h:Q .ret S):HT P B .ret S Q:=fun d a w hs=>wp_ret ⟨S,d,h,hs⟩
theorem r0n {c:Code} {ι:Type} {a:Act} {w:World} {Q:Exit→Act→World→Prop} (I:ι→Act→World→Prop) (μ:ι→Nat) (i₀:ι) (h₀:I i₀ a w)
 (round: ∀ i a w,I i a w→c.wp P (Exit.then (fun a' w'=>∃ j,I j a' w'∧μ j<μ i) Q) a w):(Code.loop c).wp P Q a w:=by
 intro b k cs
 have key: ∀ n i a w,μ i=n→I i a w→
  ∃ e a' w',Q e a' w'∧Arrives P (lone (b.at a (.code c::.inLoop c::k)) cs w) b k cs e a' w':=by
  intro n
  induction n using Nat.strongRecOn with
  |_ n ih=>
    intro i a w hn hI
    obtain ⟨e,a₁,w₁,hq,harr⟩:=round i a w hI b (.inLoop c::k) cs
    cases e with
    |normal=>
      obtain ⟨j,hI₁,hlt⟩:=hq
      obtain ⟨e₂,a₂,w₂,hq₂,harr₂⟩:=ih (μ j) (hn▸hlt) j a₁ w₁ rfl hI₁
      exact ⟨e₂,a₂,w₂,hq₂,.of_steps (Steps.trans harr (.one step_inLoop)) harr₂⟩
    |exit id=>exact ⟨_,a₁,w₁,hq,.pass (x:=.inLoop c) rfl (fun _ _=>.inl (by simp)) harr⟩
    |goto l=>exact ⟨_,a₁,w₁,hq,.pass (x:=.inLoop c) rfl (fun _ _=>.inl (by simp)) harr⟩
    |ret=>exact ⟨_,a₁,w₁,hq,.pass (x:=.inLoop c) rfl (fun _ _=>.inl (by simp)) harr⟩
    |panic ch=>exact ⟨_,a₁,w₁,hq,.pass (x:=.inLoop c) rfl (fun _ _=>.inl (by simp)) harr⟩
    |outgrown=>exact ⟨_,a₁,w₁,hq,.pass (x:=.inLoop c) rfl (fun _ _=>.inl (by simp)) harr⟩
 obtain ⟨e,a',w',hq,harr⟩:=key _ i₀ a w rfl h₀
 exact ⟨e,a',w',hq,.of_steps (.one step_loop) harr⟩
def Le (B:Base) (S S':St):Prop:=∀ d a w,Sim B d S a w→∃ d',Sim B d' S' a w
theorem HT.le {c:Code} {S':St} (hl:Le B S S') (h:HT P B c S' Q):HT P B c S Q:=by
 intro d a w hs
 obtain ⟨d',hs'⟩:=hl d a w hs
 exact h d' a w hs'
theorem HT.loop {x:Code} {ι:Type} (T:ι→St) (μ:ι→Nat) (i₀:ι) (h₀:Le B S (T i₀))
 (round: ∀ i,HT P B x (T i) (l0d (fun S'=>∃ j,μ j<μ i∧Le B S' (T j)) Q)):HT P B (.loop x) S Q:=by
 intro d a w hs
 obtain ⟨d0,hs0⟩:=h₀ d a w hs
 refine r0n (fun i a w=>∃ d,Sim B d (T i) a w) μ i₀ ⟨d0,hs0⟩ ?_
 rintro i a w ⟨d,hs⟩
 refine Code.wp_mono ?_ (round i d a w hs)
 rintro e a' w' ⟨S',d',hq,hs'⟩
 cases e with
 |normal=>
   obtain ⟨j,hj,hl⟩:=hq
   obtain ⟨d2,hs2⟩:=hl _ _ _ hs'
   exact ⟨j,⟨d2,hs2⟩,hj⟩
 |_=>exact ⟨S',d',hq,hs'⟩
end
def xc (P:Program) (B:Base):Code→St→(Exit→St→Prop)→Prop
 | .skip,S,Q=>Q .normal S
 | .region id ops draw,S,Q=>if draw=true then HT P B (.region id ops true) S Q else Aj P B (ops.toList.map (·.dst)) ops.toList S (Q .normal)
 | .seq x y,S,Q=>xc P B x S (l0d (fun S'=>xc P B y S' Q) Q)
 | .cond c x y,S,Q=>match S.get c with
   |some (.w (.one (.pl (.b t))))=>(t=true→xc P B x S Q)∧(t=false→xc P B y S Q)
   |_=>False
 | .block id x,S,Q=>xc P B x S (e0d id Q)
 | .exit id,S,Q=>Q (.exit id) S
 | .ret,S,Q=>Q .ret S
 |c,S,Q=>HT P B c S Q
end Go.Sy
namespace Go.Sy
def l2g (P:Program) (S:St):ResultVar→Option W
 | .tmp t=>match look S.env t with
   |some (.w x)=>some x
   |_=>none
 | .cell a t=>match look S.env a with
   |some v=>match n0g P S t v with
     |some (.w x)=>some x
     |_=>none
   |none=>none
def b1u (P:Program) (S:St):List ResultVar→Option (List W)
 | []=>some []
 |r::rs=>match l2g P S r,b1u P S rs with
   |some x,some xs=>some (x::xs)
   |_,_=>none
def a2l (P:Program) (S:St) (rs:List ResultVar):Option V:=
 match b1u P S rs with
 |some [x]=>some (.w x)
 |some xs=>some (.tup xs)
 |none=>none
def o0x (tmps:Array Value):ResultVar→Sem Value
 | .tmp t=>pure (tmps.getD t undef)
 | .cell a t=>do loadVar t (←asAddr (tmps.getD a undef))
theorem d2m {P:Program} {B:Base} {d:Va} {S:St} {a:Act} {w:World} (h:Sim B d S a w) {r:ResultVar} {x:W} (hr:l2g P S r=some x): ∃ y,(o0x a.tmps r).run P w=.ok y w∧x.den d y:=by
 unfold l2g at hr
 split at hr
 ·split at hr<;>cases hr
  rename_i t x hl
  obtain ⟨y,hy,hd⟩:=h.env _ _ hl
  exact ⟨y,by simp [o0x,xZ,hy],hd⟩
 rename_i ra rt
 split at hr<;>try (cases hr;done)
 rename_i v hl
 split at hr<;>cases hr
 rename_i x hx
 obtain ⟨y,hy,hd⟩:=h.env _ _ hl
 obtain ⟨z,hz,hzd⟩:=g1p h hx hd
 refine ⟨z,?_,hzd⟩
 have hy':a.tmps.getD ra undef=y:=by simp [xZ,hy]
 simp only [o0x,hy']
 unfold Instr.loadAt Instr.sureAddr at hz
 cases y<;>first|(simp at hz;done)|skip
 rename_i q
 cases q with
 |none=>simp at hz
 |some q=>simpa [asAddr] using hz
theorem u0l {P:Program} {B:Base} {d:Va} {S:St} {a:Act} {w:World} (h:Sim B d S a w): ∀ {rs:List ResultVar} {xs:List W},b1u P S rs=some xs→∃ ys,(rs.mapM (o0x a.tmps)).run P w=.ok ys w∧Fv (W.den d) xs ys
 | [],xs,hr=>by simp only [b1u] at hr;cases hr;exact ⟨[],by simp,.nil⟩
 |r::rs,xs,hr=>by
   simp only [b1u] at hr
   cases h1:l2g P S r with
   |none=>simp [h1] at hr
   |some x=>
     cases h2:b1u P S rs with
     |none=>simp [h1,h2] at hr
     |some xs'=>
       simp only [h1,h2,Option.some.injEq] at hr;subst hr
       obtain ⟨y,hy,hd⟩:=d2m h h1
       obtain ⟨ys,hys,hds⟩:=u0l h h2
       exact ⟨y::ys,by simp [List.mapM_cons,hy,hys],.cons hd hds⟩
theorem d2n {P:Program} {B:Base} {d:Va} {S:St} {a:Act} {w:World} (h:Sim B d S a w) {fn:Func} {v:V} (hr:a2l P S fn.results.toList=some v): ∃ y,(results fn a.tmps).run P w=.ok y w∧v.den d y:=by
 unfold a2l at hr
 have key: ∀ ys:List Value,(fn.results.toList.mapM (o0x a.tmps)).run P w=.ok ys w→(results fn a.tmps).run P w=.ok (if h:ys.toArray.size=1 then ys.toArray[0] else .tuple ys.toArray) w:=by
  intro ys hy
  have e:(fn.results.mapM (o0x a.tmps)).run P w=.ok ys.toArray w:=by
   rw [Array.mapM_eq_mapM_toList];simp [hy]
  have e2:results fn a.tmps=(do let vs ←fn.results.mapM (o0x a.tmps);pure (if h:vs.size=1 then vs[0] else .tuple vs)):=rfl
  rw [e2,Sem.run_bind,e];rfl
 split at hr
 ·rename_i x hx
  cases hr
  obtain ⟨ys,hys,hds⟩:=u0l h hx
  cases hds with
  |cons h1 h2=>cases h2;exact ⟨_,key _ hys,h1⟩
 ·rename_i xs hne hx
  cases hr
  obtain ⟨ys,hys,hds⟩:=u0l h hx
  refine ⟨.tuple ys.toArray,?_,⟨_,rfl,by simpa using hds⟩⟩
  rw [key _ hys]
  have:¬ys.toArray.size=1:=by
   intro e
   have hl:=hds.length
   simp only [List.size_toArray] at e
   rw [e] at hl
   match xs,hl with
   | [x],_=>exact hne x rfl
  rw [dif_neg this]
 cases hr
def FnQ (P:Program) (fn:Func) (R:V→List (Nat×Ob)→Prop):Exit→St→Prop
 | .normal,S| .ret,S=>match a2l P S fn.results.toList with
   |some v=>R v S.mem
   |none=>False
 |_,_=>False
def m0a :Nat→List V→List (Nat×V)
 |_,[]=>[]
 |n,v::r=>(n,v)::m0a (n+1) r
theorem t0a : ∀ {n:Nat} {l:List V} {j:Nat} {v:V},look (m0a n l) j=some v→n≤j∧l[j-n]? =some v
 |n,[],j,v,h=>by cases h
 |n,x::r,j,v,h=>by
   simp only [m0a,look] at h
   split at h
   ·rename_i e;cases h;subst e;simp
   rename_i e
   obtain ⟨h1,h2⟩:=t0a h
   refine ⟨by omega,?_⟩
   rw [show j-n=(j-(n+1))+1 from by omega];simpa using h2
def m0c (B:Base) (d:Va) (m:List (Nat×Ob)) (w:World):Prop:=∃ a:Act,Sim {B with nt:=a.tmps.size} d ⟨[],m⟩ a w
def c1g (d:Va) (m:List (Nat×Ob)) (b:Nat):Prop:=∃ k,(look m k).isSome=true∧k<gl0∧d.at_ k=b
def q1o (d:Va) (m:List (Nat×Ob)) (k:Nat):Option (Nat×Nat):=if (look m k).isSome=true∧px0≤k∧k<gl0 then some (d.at_ k,d.size k) else none
def CtM (P:Program) (f:FuncId) (args:List V) (m:List (Nat×Ob)) (R:V→List (Nat×Ob)→Prop):Prop:=
 ∀ (w:World) (d:Va) (vals:Array Value),m0c ⟨w,c1g d m,0,d.ro,q1o d m⟩ d m w→Fv (V.den d) args vals.toList→
  Calls P f vals w fun e w'=>∃ y v d' m',e=.returned y∧R v m'∧v.den d' y∧m0c ⟨w,c1g d m,0,d.ro,q1o d m⟩ d' m' w'
def Ct (P:Program) (f:FuncId) (args:List V) (R:V→List (Nat×Ob)→Prop):Prop:=
 ∀ (w:World) (d:Va) (vals:Array Value),(∀ b o y,d.ro b o=some y→w.cell? ⟨b,o,none⟩=some y)→(∀ k,gl0≤k→d.at_ k=k-gl0)→Fv (V.den d) args vals.toList→
  Calls P f vals w fun e w'=>∃ y v d' m',e=.returned y∧R v m'∧v.den d' y∧m0c ⟨w,fun _=>False,0,d.ro,fun _=>none⟩ d' m' w'
theorem s1d {P:Program} {f:FuncId} {fn:Func} {c:Code} {args:List V} {m:List (Nat×Ob)} {R:V→List (Nat×Ob)→Prop} (hf:P.funcs[f]? =some fn) (hb:fn.body=some c) (hn:args.length≤fn.ntmps)
 {w:World} {d:Va} {vals:Array Value} {may:Nat→Prop} {fx:Nat→Option (Nat×Nat)} (h:HT P ⟨w,may,fn.ntmps,d.ro,fx⟩ c ⟨m0a 0 args,m⟩ (FnQ P fn R))
 (hm:m0c ⟨w,may,0,d.ro,fx⟩ d m w) (hargs:Fv (V.den d) args vals.toList):
 Calls P f vals w fun e w'=>∃ y v d' m',e=.returned y∧R v m'∧v.den d' y∧m0c ⟨w,may,0,d.ro,fx⟩ d' m' w':=by
 obtain ⟨a0,h0⟩:=hm
 refine calls_of_wp hf hb ?_
 have hl:=hargs.length
 have hs:Sim ⟨w,may,fn.ntmps,d.ro,fx⟩ d ⟨m0a 0 args,m⟩ {tmps:=vals++Array.replicate (fn.ntmps-vals.size) undef,defers:=[]} w:=by
  refine ⟨rfl,?_,?_,h0.mem,h0.inj,h0.own,h0.ro,h0.old,h0.os,h0.tape,h0.output,h0.size,h0.block,h0.gat,h0.glob,h0.fix,h0.fxn,h0.mp⟩
  ·simp at hl ⊢;omega
  intro n v hv
  obtain ⟨_,hv⟩:=t0a hv
  obtain ⟨y,hy,hd⟩:=hargs.get (by simpa using hv)
  refine ⟨y,?_,hd⟩
  have hlt:n<vals.size:=by
   have:=(List.getElem?_eq_some_iff.1 hy).1;simpa using this
  rw [Array.getElem?_append_left hlt]
  simpa using hy
 refine Code.wp_mono ?_ (h d _ w hs)
 rintro e a' w' ⟨S',d',hq,hs'⟩
 have fin:(match a2l P S' fn.results.toList with|some v=>R v S'.mem|none=>False)→a'.defers=[]∧∃ v,(results fn a'.tmps).run P w'=.ok v w'∧∃ y v1 d1 m1,Ending.returned v=.returned y∧R v1 m1∧v1.den d1 y∧m0c ⟨w,may,0,d.ro,fx⟩ d1 m1 w':=by
  intro hq
  refine ⟨hs'.defers,?_⟩
  split at hq
  ·rename_i v hv
   obtain ⟨y,hy,hd⟩:=d2n hs' hv
   refine ⟨y,hy,y,v,d',S'.mem,rfl,hq,hd,⟨a',?_⟩⟩
   exact ⟨hs'.defers,rfl,fun n v hv=>(by cases hv),hs'.mem,hs'.inj,hs'.own,hs'.ro,hs'.old,hs'.os,hs'.tape,hs'.output,hs'.size,hs'.block,hs'.gat,hs'.glob,hs'.fix,hs'.fxn,hs'.mp⟩
  exact hq.elim
 cases e with
 |normal=>exact fin hq
 |ret=>exact fin hq
 |_=>exact hq.elim
theorem CtM.of {P:Program} {f:FuncId} {fn:Func} {c:Code} {args:List V} {m:List (Nat×Ob)} {R:V→List (Nat×Ob)→Prop} (hf:P.funcs[f]? =some fn) (hb:fn.body=some c) (hn:args.length≤fn.ntmps)
 (h: ∀ (w0:World) (ro:Ro) (may:Nat→Prop) (fx:Nat→Option (Nat×Nat)),HT P ⟨w0,may,fn.ntmps,ro,fx⟩ c ⟨m0a 0 args,m⟩ (FnQ P fn R)):CtM P f args m R:=
 fun w d _ hm hargs=>s1d hf hb hn (h w d.ro _ _) hm hargs
theorem Ct.of {P:Program} {f:FuncId} {fn:Func} {c:Code} {args:List V} {R:V→List (Nat×Ob)→Prop} (hf:P.funcs[f]? =some fn) (hb:fn.body=some c) (hn:args.length≤fn.ntmps)
 (h: ∀ (w0:World) (ro:Ro),HT P ⟨w0,fun _=>False,fn.ntmps,ro,fun _=>none⟩ c ⟨m0a 0 args,[]⟩ (FnQ P fn R)):Ct P f args R:=by
 intro w d vals hro hgat hargs
 refine s1d hf hb hn (h w d.ro) ⟨⟨#[],[]⟩,?_⟩ hargs
 exact ⟨rfl,rfl,fun n v hv=>(by cases hv),fun k o hk=>(by cases hk),fun k k' h1=>(by cases h1),fun k h1=>(by cases h1),hro,fun b o y hy _=>hy,rfl,rfl,rfl,xL _,fun _ _ _=>rfl,hgat,fun k o hk=>(by cases hk),fun k o p hk=>(by cases hk),fun k p hk=>(by cases hk),fun b l hb=>(by cases hb)⟩
theorem Ct.mono {P:Program} {f:FuncId} {args:List V} {R R':V→List (Nat×Ob)→Prop} (h:Ct P f args R) (hr: ∀ v m,R v m→R' v m):Ct P f args R':=by
 intro w d vals hro hgat hargs
 exact (h w d vals hro hgat hargs).mono fun e w' ⟨y,v,d',m',h1,h2,h3⟩=>⟨y,v,d',m',h1,hr _ _ h2,h3⟩
end Go.Sy
namespace Go.Sy
def e0g :List Oper→List (Option Tmp)
 | []=>[]
 |o::r=>o.dst::e0g r
theorem l0v : ∀ l,e0g l=l.map (·.dst)
 | []=>rfl
 |o::r=>by simp [e0g,l0v r]
def p2e (P:Program) (B:Base) (y:Code) (Q:Exit→St→Prop):Exit→St→Prop:=l0d (fun S'=>xc P B y S' Q) Q
def l2f (P:Program) (B:Base) (ds:List (Option Tmp)) (r:List Oper) (K:St→Prop):St→Prop:=fun S'=>Aj P B ds r S' K
def Bw (P:Program) (B:Base) (o:Oper) (S:St) (ds:List (Option Tmp)) (r:List Oper) (K:St→Prop):Prop:=p2q P B o S (l2f P B ds r K)
def Lx (x:Option St) (P:Program) (B:Base) (ds:List (Option Tmp)) (r:List Oper) (K:St→Prop):Prop:=
 match x with
 |some S'=>Aj P B ds r S' K
 |none=>False
def Bz (x:Option Bool) (j:Nat) (want:Bool) (P:Program) (B:Base) (ds:List (Option Tmp)) (o:Oper) (r:List Oper) (S:St) (K:St→Prop):Prop:=
 match x with
 |some c=>(c=want→Aj P B ds (⟨o.dst,o.op,o.type,o.pos,o.after,none⟩::r) (x0r S ds j want) K)∧(c=(!want)→Lx ((x0r S ds j (!want)).put B.nt o.dst (.tup [])) P B ds r K)
 |none=>False
def m2h (x:Option V) (P:Program) (B:Base) (a b:Code) (S:St) (Q:Exit→St→Prop):Prop:=
 match x with
 |some (.w (.one (.pl (.b t))))=>(t=true→xc P B a S Q)∧(t=false→xc P B b S Q)
 |_=>False
def o2u (P:Program) (B:Base) (x:Code) (S:St) (Q:Exit→St→Prop):Prop:=HT P B (.loop x) S Q
def o2v (P:Program) (B:Base) (id:Nat) (ops:Array Oper) (S:St) (Q:Exit→St→Prop):Prop:=HT P B (.region id ops true) S Q
section
variable {P:Program} {B:Base} {S:St} {Q:Exit→St→Prop} {K:St→Prop} {ds:List (Option Tmp)} {r:List Oper}
theorem o2f (x y:Code):xc P B (.seq x y) S Q=xc P B x S (p2e P B y Q):=rfl
theorem g2r (y:Code):p2e P B y Q .normal S=xc P B y S Q:=rfl
theorem g2q (y:Code):p2e P B y Q .ret S=Q .ret S:=rfl
theorem g2s (y:Code) (i:Nat):p2e P B y Q (.exit i) S=Q (.exit i) S:=rfl
theorem y1p (id:Nat) (x:Code):xc P B (.block id x) S Q=xc P B x S (e0d id Q):=rfl
theorem r1h (id:Nat):e0d id Q .normal S=Q .normal S:=rfl
theorem r1g (id:Nat):e0d id Q .ret S=Q .ret S:=rfl
theorem r1i (id i:Nat):e0d id Q (.exit i) S=if i=id then Q .normal S else Q (.exit i) S:=rfl
theorem g2w (i:Nat):xc P B (.exit i) S Q=Q (.exit i) S:=rfl
theorem o2g :xc P B .ret S Q=Q .ret S:=rfl
theorem g2p :xc P B .skip S Q=Q .normal S:=rfl
theorem g2v (x:Code):xc P B (.loop x) S Q=o2u P B x S Q:=rfl
theorem r1f (t:Bool) (x y:Code):m2h (some (.w (.one (.pl (.b t))))) P B x y S Q=((t=true→xc P B x S Q)∧(t=false→xc P B y S Q)):=rfl
theorem g2z (id:Nat) (l:Array Oper):xc P B (.region id l true) S Q=o2v P B id l S Q:=rfl
theorem c0w :Aj P B ds [] S K=K S:=rfl
theorem r0z (dst:Option Tmp) (op:Op) (ty:TypeId) (pos:String) (after:Array Edge):
 Aj P B ds (⟨dst,op,ty,pos,after,none⟩::r) S K=if e0a op=true then Bw P B ⟨dst,op,ty,pos,after,none⟩ S ds r K else Lx (Qz P B.nt ⟨dst,op,ty,pos,after,none⟩ S) P B ds r K:=by
 simp only [Aj,Bw,l2f]
 split
 ·rfl
 unfold Lx;rfl
theorem y1o (dst:Option Tmp) (op:Op) (ty:TypeId) (pos:String) (after:Array Edge) (g:Nat×Bool):
 Aj P B ds (⟨dst,op,ty,pos,after,some g⟩::r) S K=Bz (b0a S ds g.1 g.2) g.1 g.2 P B ds ⟨dst,op,ty,pos,after,some g⟩ r S K:=by
 simp only [Aj,Bw,Bz,Lx];rfl
theorem g2u (S':St):Lx (some S') P B ds r K=Aj P B ds r S' K:=rfl
theorem c0v (c want:Bool) (j:Nat) (o:Oper):Bz (some c) j want P B ds o r S K=((c=want→Aj P B ds (⟨o.dst,o.op,o.type,o.pos,o.after,none⟩::r) (x0r S ds j want) K)∧(c=(!want)→Lx ((x0r S ds j (!want)).put B.nt o.dst (.tup [])) P B ds r K)):=rfl
theorem o2h (nt n:Nat) (v:V) (e:List (Nat×V)) (m:List (Nat×Ob)) (h:n<nt):St.put nt (some n) v ⟨e,m⟩=some ⟨(n,v)::e,m⟩:=by simp [St.put,h]
theorem g2t (nt:Nat) (v:V):St.put nt none v S=some S:=rfl
end
def h2e (P:Program) (rs:List ResultVar) (R:V→List (Nat×Ob)→Prop):Exit→St→Prop
 | .normal,S| .ret,S=>match a2l P S rs with
   |some v=>R v S.mem
   |none=>False
 |_,_=>False
def e2u (x:Option V) (m:List (Nat×Ob)) (R:V→List (Nat×Ob)→Prop):Prop:=
 match x with
 |some v=>R v m
 |none=>False
theorem g2x (P:Program) (rs:List ResultVar) (R:V→List (Nat×Ob)→Prop) (S:St):h2e P rs R .ret S=e2u (a2l P S rs) S.mem R:=rfl
theorem g2y (P:Program) (rs:List ResultVar) (R:V→List (Nat×Ob)→Prop) (S:St):h2e P rs R .normal S=e2u (a2l P S rs) S.mem R:=rfl
theorem y1n (v:V) (m:List (Nat×Ob)) (R:V→List (Nat×Ob)→Prop):e2u (some v) m R=R v m:=rfl
end Go.Sy
namespace Go.Sy
def goV (x:Option V) (dst:Option Tmp) (P:Program) (B:Base) (ds:List (Option Tmp)) (r:List Oper) (S:St) (K:St→Prop):Prop:=
 match x with
 |some v=>match dst with
   |some n=>if n<B.nt then Aj P B ds r ⟨(n,v)::S.env,S.mem⟩ K else False
   |none=>Aj P B ds r S K
 |none=>False
def goA (x:Option (V×Ob)) (dst:Option Tmp) (P:Program) (B:Base) (ds:List (Option Tmp)) (r:List Oper) (S:St) (K:St→Prop):Prop:=
 match dst with
 |some n=>if fresh n S=true then match x with
    |some y=>if n<B.nt then Aj P B ds r ⟨(n,y.1)::S.env,(n,y.2)::S.mem⟩ K else False
    |none=>False
   else False
 |none=>False
def goS (x:Option (V×St)) (dst:Option Tmp) (P:Program) (B:Base) (ds:List (Option Tmp)) (r:List Oper) (K:St→Prop):Prop:=
 match x with
 |some y=>match dst with
   |some n=>if n<B.nt then Aj P B ds r ⟨(n,y.1)::y.2.env,y.2.mem⟩ K else False
   |none=>Aj P B ds r y.2 K
 |none=>False
def b2 (x y:Option V) (f:V→V→Option V):Option V:=
 match x,y with
 |some u,some v=>f u v
 |_,_=>none
theorem i2p (u v:V) (f:V→V→Option V):b2 (some u) (some v) f=f u v:=rfl
def b3 (c x y:Option V):Option V:=
 match c,x,y with
 |some (.w (.one (.pl (.b b)))),some u,some v=>some (n0e b u v)
 |_,_,_=>none
theorem i2o (b:Bool) (u v:V):b3 (some (.w (.one (.pl (.b b))))) (some u) (some v)=some (n0e b u v):=rfl
section
variable {P:Program} {B:Base} {S:St} {K:St→Prop} {ds:List (Option Tmp)} {r:List Oper} {dst:Option Tmp} {ty:TypeId} {pos:String} {af:Array Edge}
theorem y1d (v:V) (n:Nat) (e:List (Nat×V)) (m:List (Nat×Ob)):goV (some v) (some n) P B ds r ⟨e,m⟩ K=if n<B.nt then Aj P B ds r ⟨(n,v)::e,m⟩ K else False:=rfl
theorem v0n (v:V):goV (some v) none P B ds r S K=Aj P B ds r S K:=rfl
theorem y1f (n:Nat) (v:V) (o:Ob) (e:List (Nat×V)) (m:List (Nat×Ob)):goA (some (v,o)) (some n) P B ds r ⟨e,m⟩ K=if fresh n ⟨e,m⟩=true then if n<B.nt then Aj P B ds r ⟨(n,v)::e,(n,o)::m⟩ K else False else False:=rfl
theorem y1e (v:V) (n:Nat) (e:List (Nat×V)) (m:List (Nat×Ob)):goS (some (v,⟨e,m⟩)) (some n) P B ds r K=if n<B.nt then Aj P B ds r ⟨(n,v)::e,m⟩ K else False:=rfl
theorem Ww {op:Op} (h0:e0a op=false) (hs:Qz P B.nt ⟨dst,op,ty,pos,af,none⟩ S=match Fq P S op with
 |some v=>S.put B.nt dst v
 |none=>none):
 Aj P B ds (⟨dst,op,ty,pos,af,none⟩::r) S K=goV (Fq P S op) dst P B ds r S K:=by
 rw [r0z,h0,hs]
 simp only [yE,if_false]
 unfold goV Lx
 cases Fq P S op with
 |none=>rfl
 |some v=>
   cases dst with
   |none=>rfl
   |some n=>simp only [St.put];by_cases hn:n<B.nt<;>simp [hn]
theorem e2m (x:Operand):Aj P B ds (⟨dst,.move x,ty,pos,af,none⟩::r) S K=goV (S.get x) dst P B ds r S K:=by
 have hs:Qz P B.nt ⟨dst,.move x,ty,pos,af,none⟩ S=match Fq P S (.move x) with
  |some v=>S.put B.nt dst v
  |none=>none:=by
  simp only [Qz]
  cases Fq P S (.move x) with
  |some v=>rfl
  |none=>cases dst with
    |none=>rfl
    |some k=>simp [Iz]
 rw [Ww rfl hs]
 first|rfl|(congr 1;unfold Fq;simp;done)|(congr 1;simp only [Fq,b2,b3];first|rfl|(split<;>simp_all))
theorem o1r (x:Operand):Aj P B ds (⟨dst,.assign x,ty,pos,af,none⟩::r) S K=goV (S.get x) dst P B ds r S K:=by
 have hs:Qz P B.nt ⟨dst,.assign x,ty,pos,af,none⟩ S=match Fq P S (.assign x) with
  |some v=>S.put B.nt dst v
  |none=>none:=by
  simp only [Qz]
  cases Fq P S (.assign x) with
  |some v=>rfl
  |none=>cases dst with
    |none=>rfl
    |some k=>simp [Iz]
 rw [Ww rfl hs]
 first|rfl|(congr 1;unfold Fq;simp;done)|(congr 1;simp only [Fq,b2,b3];first|rfl|(split<;>simp_all))
theorem e2l (c x y:Operand):Aj P B ds (⟨dst,.pick c x y,ty,pos,af,none⟩::r) S K=goV (b3 (S.get c) (S.get x) (S.get y)) dst P B ds r S K:=by
 have hs:Qz P B.nt ⟨dst,.pick c x y,ty,pos,af,none⟩ S=match Fq P S (.pick c x y) with
  |some v=>S.put B.nt dst v
  |none=>none:=by
  simp only [Qz]
  cases Fq P S (.pick c x y) with
  |some v=>rfl
  |none=>cases dst with
    |none=>rfl
    |some k=>simp [Iz]
 rw [Ww rfl hs]
 first|rfl|(congr 1;unfold Fq;simp;done)|(congr 1;simp only [Fq,b2,b3];first|rfl|(split<;>simp_all))
theorem w1r (t:TypeId) (ps:List (Nat×Operand)):Aj P B ds (⟨dst,.build t ps.toArray,ty,pos,af,none⟩::r) S K=goV (k0m P S t ps) dst P B ds r S K:=by
 have hs:Qz P B.nt ⟨dst,.build t ps.toArray,ty,pos,af,none⟩ S=match Fq P S (.build t ps.toArray) with
  |some v=>S.put B.nt dst v
  |none=>none:=by
  simp only [Qz]
  cases Fq P S (.build t ps.toArray) with
  |some v=>rfl
  |none=>cases dst with
    |none=>rfl
    |some k=>simp [Iz]
 rw [Ww rfl hs]
 first|rfl|(congr 1;unfold Fq;simp;done)|(congr 1;simp only [Fq,b2,b3];first|rfl|(split<;>simp_all))
theorem e2n (t:TypeId) (x:Operand):Aj P B ds (⟨dst,.load t x,ty,pos,af,none⟩::r) S K=goV ((S.get x).bind (n0g P S t)) dst P B ds r S K:=by
 have hs:Qz P B.nt ⟨dst,.load t x,ty,pos,af,none⟩ S=match Fq P S (.load t x) with
  |some v=>S.put B.nt dst v
  |none=>none:=by
  simp only [Qz]
  cases Fq P S (.load t x) with
  |some v=>rfl
  |none=>cases dst with
    |none=>rfl
    |some k=>simp [Iz]
 rw [Ww rfl hs]
 first|rfl|(congr 1;unfold Fq;simp;done)|(congr 1;simp only [Fq,b2,b3];first|rfl|(split<;>simp_all))
theorem w1s (op:BinOp) (t t2:TypeId) (x y:Operand):Aj P B ds (⟨dst,.binOp op t x y t2,ty,pos,af,none⟩::r) S K=goV (b2 (S.get x) (S.get y) (Kv P op t)) dst P B ds r S K:=by
 have hs:Qz P B.nt ⟨dst,.binOp op t x y t2,ty,pos,af,none⟩ S=match Fq P S (.binOp op t x y t2) with
  |some v=>S.put B.nt dst v
  |none=>none:=by
  simp only [Qz]
  cases Fq P S (.binOp op t x y t2) with
  |some v=>rfl
  |none=>cases dst with
    |none=>rfl
    |some k=>simp [Iz]
 rw [Ww rfl hs]
 first|rfl|(congr 1;unfold Fq;simp;done)|(congr 1;simp only [Fq,b2,b3];first|rfl|(split<;>simp_all))
theorem e2k (op:UnOp) (t:TypeId) (x:Operand):Aj P B ds (⟨dst,.unOp op t x,ty,pos,af,none⟩::r) S K=goV ((S.get x).bind (unV op)) dst P B ds r S K:=by
 have hs:Qz P B.nt ⟨dst,.unOp op t x,ty,pos,af,none⟩ S=match Fq P S (.unOp op t x) with
  |some v=>S.put B.nt dst v
  |none=>none:=by
  simp only [Qz]
  cases Fq P S (.unOp op t x) with
  |some v=>rfl
  |none=>cases dst with
    |none=>rfl
    |some k=>simp [Iz]
 rw [Ww rfl hs]
 first|rfl|(congr 1;unfold Fq;simp;done)|(congr 1;simp only [Fq,b2,b3];first|rfl|(split<;>simp_all))
theorem y0z (t:TypeId) (x:Operand) (f:Nat):Aj P B ds (⟨dst,.fieldAddr t x f,ty,pos,af,none⟩::r) S K=goV ((S.get x).bind (m0v P t f)) dst P B ds r S K:=by
 have hs:Qz P B.nt ⟨dst,.fieldAddr t x f,ty,pos,af,none⟩ S=match Fq P S (.fieldAddr t x f) with
  |some v=>S.put B.nt dst v
  |none=>none:=by
  simp only [Qz]
  cases Fq P S (.fieldAddr t x f) with
  |some v=>rfl
  |none=>cases dst with
    |none=>rfl
    |some k=>simp [Iz]
 rw [Ww rfl hs]
 first|rfl|(congr 1;unfold Fq;simp;done)|(congr 1;simp only [Fq,b2,b3];first|rfl|(split<;>simp_all))
theorem y0y (t:TypeId) (x i:Operand):Aj P B ds (⟨dst,.indexAddr t x i,ty,pos,af,none⟩::r) S K=goV (b2 (S.get x) (S.get i) (Vq P t)) dst P B ds r S K:=by
 have hs:Qz P B.nt ⟨dst,.indexAddr t x i,ty,pos,af,none⟩ S=match Fq P S (.indexAddr t x i) with
  |some v=>S.put B.nt dst v
  |none=>none:=by
  simp only [Qz]
  cases Fq P S (.indexAddr t x i) with
  |some v=>rfl
  |none=>cases dst with
    |none=>rfl
    |some k=>simp [Iz]
 rw [Ww rfl hs]
 first|rfl|(congr 1;unfold Fq;simp;done)|(congr 1;simp only [Fq,b2,b3];first|rfl|(split<;>simp_all))
theorem w1q (t:TypeId) (x i:Operand):Aj P B ds (⟨dst,.index t x i,ty,pos,af,none⟩::r) S K=goV (b2 (S.get x) (S.get i) (m0r P t)) dst P B ds r S K:=by
 have hs:Qz P B.nt ⟨dst,.index t x i,ty,pos,af,none⟩ S=match Fq P S (.index t x i) with
  |some v=>S.put B.nt dst v
  |none=>none:=by
  simp only [Qz]
  cases Fq P S (.index t x i) with
  |some v=>rfl
  |none=>cases dst with
    |none=>rfl
    |some k=>simp [Iz]
 rw [Ww rfl hs]
 first|rfl|(congr 1;unfold Fq;simp;done)|(congr 1;simp only [Fq,b2,b3];first|rfl|(split<;>simp_all))
theorem j1h (x:Operand) (i:Nat):Aj P B ds (⟨dst,.extract x i,ty,pos,af,none⟩::r) S K=goV ((S.get x).bind fun v=>d0q v i) dst P B ds r S K:=by
 have hs:Qz P B.nt ⟨dst,.extract x i,ty,pos,af,none⟩ S=match Fq P S (.extract x i) with
  |some v=>S.put B.nt dst v
  |none=>none:=by
  simp only [Qz]
  cases Fq P S (.extract x i) with
  |some v=>rfl
  |none=>cases dst with
    |none=>rfl
    |some k=>simp [Iz]
 rw [Ww rfl hs]
 first|rfl|(congr 1;unfold Fq;simp;done)|(congr 1;simp only [Fq,b2,b3];first|rfl|(split<;>simp_all))
theorem w1p (t:TypeId) (x:Operand) (lo hi mx:Option Operand):Aj P B ds (⟨dst,.slice t x lo hi mx,ty,pos,af,none⟩::r) S K=goV (Fq P S (.slice t x lo hi mx)) dst P B ds r S K:=by
 refine Ww rfl ?_
 simp only [Qz]
 cases Fq P S (.slice t x lo hi mx) with
 |some v=>rfl
 |none=>cases dst with
   |none=>rfl
   |some k=>simp [Iz]
theorem c1d (f:Fn) (a b:Array Operand):Aj P B ds (⟨dst,.makeFunc f a b,ty,pos,af,none⟩::r) S K=goV (Fq P S (.makeFunc f a b)) dst P B ds r S K:=by
 refine Ww rfl ?_
 simp only [Qz]
 cases Fq P S (.makeFunc f a b) with
 |some v=>rfl
 |none=>cases dst with
   |none=>rfl
   |some k=>simp [Iz]
theorem m2b (x:Operand) (t:TypeId):Aj P B ds (⟨dst,.call ⟨.builtin .len,#[x],#[t]⟩,ty,pos,af,none⟩::r) S K=goV ((S.get x).bind (p1o P S t)) dst P B ds r S K:=by
 rw [r0z,show e0a (.call ⟨.builtin .len,#[x],#[t]⟩)=false from rfl]
 simp only [Qz,yE,if_false]
 unfold goV Lx
 cases (S.get x).bind (p1o P S t) with
 |none=>rfl
 |some v=>
   cases dst with
   |none=>rfl
   |some n=>simp only [St.put];by_cases hn:n<B.nt<;>simp [hn]
@[go_sem] theorem p2m (b:Nat) (t:TypeId):p1o P S t (.w (.one (.pl (.val (.map (some b))))))=match P.underlying t,look S.mem (mp0+b) with
 |some (.map _ _),some ⟨.m l,[]⟩=>some (.w (.one (.pl (.i l.length))))
 |_,_=>none:=rfl
@[go_sem] theorem s2j (t:TypeId) (e:Bool) (s:Nat) (rows:List (List PL)):p1o P S t (.w (.one (.pl (.R e s rows))))=j1o P t (.w (.one (.pl (.R e s rows)))):=rfl
@[go_sem] theorem s2g (t:TypeId) (k:Nat) (p:Path) (n s:Nat):p1o P S t (.w (.one (.s k p n s)))=j1o P t (.w (.one (.s k p n s))):=rfl
@[go_sem] theorem p2l (t:TypeId) (s:List UInt8):p1o P S t (.w (.one (.pl (.str s))))=j1o P t (.w (.one (.pl (.str s)))):=rfl
@[go_sem] theorem p2n (t:TypeId) (cs:List L):p1o P S t (.w (.agg cs))=j1o P t (.w (.agg cs)):=rfl
@[go_sem] theorem s2h (t:TypeId) (cs:List PL) (p:Path):p1o P S t (.w (.one (.pl (.q cs p))))=j1o P t (.w (.one (.pl (.q cs p)))):=rfl
@[go_sem] theorem s2i (t:TypeId) (k:Nat) (p:Path):p1o P S t (.w (.one (.p k p)))=j1o P t (.w (.one (.p k p))):=rfl
theorem l2z (x y:Operand) (t:Array TypeId):Aj P B ds (⟨dst,.call ⟨.builtin .min,#[x,y],t⟩,ty,pos,af,none⟩::r) S K=goV (b2 (S.get x) (S.get y) (e0z .min)) dst P B ds r S K:=by
 refine (Ww rfl ?_).trans rfl
 simp only [Qz]
 cases Fq P S (.call ⟨.builtin .min,#[x,y],t⟩) with
 |some v=>rfl
 |none=>cases dst with
   |none=>rfl
   |some k=>simp [Iz]
theorem k0r {op:Op} (h0:e0a op=false) (hs:Qz P B.nt ⟨dst,op,ty,pos,af,none⟩ S=match dst with
 |some k=>if fresh k S=true then
    match Iz P k S op with
    |some r=>St.put B.nt (some k) r.1 ⟨S.env,(k,r.2)::S.mem⟩
    |none=>none
   else none
 |none=>none):
 Aj P B ds (⟨dst,op,ty,pos,af,none⟩::r) S K=goA (Iz P (dst.getD 0) S op) dst P B ds r S K:=by
 rw [r0z,h0,hs]
 simp only [yE,if_false]
 unfold goA Lx
 cases dst with
 |none=>rfl
 |some n=>
   simp only [Option.getD_some]
   by_cases hf:fresh n S=true
   ·simp only [hf,if_true]
    cases Iz P n S op with
    |none=>rfl
    |some y=>simp only [St.put];by_cases hn:n<B.nt<;>simp [hn]
   simp only [hf,yE,if_false]
theorem w1t (t:TypeId):Aj P B ds (⟨dst,.alloc t,ty,pos,af,none⟩::r) S K=goA ((Jq P t).map fun cs=>(.w (.one (.p (dst.getD 0) [])),⟨false,cs⟩)) dst P B ds r S K:=k0r rfl rfl
def s2o (k:Nat) (x:Option V):Option (V×Ob):=
 match x with
 |some (.w v)=>some (.w (.one (.p k [])),⟨false,v.cells⟩)
 |_=>none
theorem s1c (k:Nat) (v:W):s2o k (some (.w v))=some (.w (.one (.p k [])),⟨false,v.cells⟩):=rfl
theorem m2c (t:TypeId) (x:Operand):Aj P B ds (⟨dst,.box t x,ty,pos,af,none⟩::r) S K=goA (s2o (dst.getD 0) (S.get x)) dst P B ds r S K:=k0r rfl rfl
theorem u0y (t:TypeId) (n:Nat) (ps:List (Nat×Operand)):Aj P B ds (⟨dst,.buildSlice t n ps.toArray,ty,pos,af,none⟩::r) S K=goA (Iz P (dst.getD 0) S (.buildSlice t n ps.toArray)) dst P B ds r S K:=k0r rfl rfl
theorem y0x (t:TypeId) (l c:Operand):Aj P B ds (⟨dst,.makeSlice t l c,ty,pos,af,none⟩::r) S K=goA (Iz P (dst.getD 0) S (.makeSlice t l c)) dst P B ds r S K:=k0r rfl rfl
def appG (P:Program) (k:Nat) (S:St) (t tx:TypeId) (x y:Option V):Option (V×St):=
 match x,y with
 |some u,some v=>d0v P k S t tx u v
 |_,_=>none
theorem t1b (k:Nat) (t tx:TypeId) (u v:V):appG P k S t tx (some u) (some v)=d0v P k S t tx u v:=rfl
theorem o1s (x y:Operand) (t tx:TypeId) (k:Nat):Aj P B ds (⟨some k,.call ⟨.builtin .append,#[x,y],#[t,tx]⟩,ty,pos,af,none⟩::r) S K=goS (appG P k S t tx (S.get x) (S.get y)) (some k) P B ds r K:=by
 rw [r0z]
 simp only [e0a,Qz,yE,if_false]
 unfold goS appG
 cases S.get x with
 |none=>rfl
 |some u=>
   cases S.get y with
   |none=>rfl
   |some v=>
     simp only
     cases d0v P k S t tx u v with
     |none=>rfl
     |some q=>simp only [St.put];by_cases hn:k<B.nt<;>simp [hn,Lx]
def stG (P:Program) (S:St) (t:TypeId) (x y:Option V):Option St:=
 match x,y with
 |some u,some v=>m0f P S t u v
 |_,_=>none
theorem u1l (t:TypeId) (u v:V):stG P S t (some u) (some v)=m0f P S t u v:=rfl
theorem w1o (t:TypeId) (x y:Operand):Aj P B ds (⟨none,.store t x y,ty,pos,af,none⟩::r) S K=Lx (stG P S t (S.get x) (S.get y)) P B ds r K:=by
 rw [r0z]
 simp only [e0a,Qz,yE,if_false]
 unfold stG
 cases S.get x with
 |none=>rfl
 |some u=>cases S.get y<;>rfl
theorem e2o (f:Operand) (args:Array Operand) (ts:Array TypeId):Aj P B ds (⟨dst,.call ⟨.value f,args,ts⟩,ty,pos,af,none⟩::r) S K=Bw P B ⟨dst,.call ⟨.value f,args,ts⟩,ty,pos,af,none⟩ S ds r K:=by
 rw [r0z];rfl
def cvG (x:Option V) (y:Option (V×Ob)) (dst:Option Tmp) (P:Program) (B:Base) (ds:List (Option Tmp)) (r:List Oper) (S:St) (K:St→Prop):Prop:=
 match x with
 |some v=>goV (some v) dst P B ds r S K
 |none=>goA y dst P B ds r S K
theorem z1i (v:V) (y:Option (V×Ob)):cvG (some v) y dst P B ds r S K=goV (some v) dst P B ds r S K:=rfl
theorem z1j (y:Option (V×Ob)):cvG none y dst P B ds r S K=goA y dst P B ds r S K:=rfl
theorem j1i (s t:TypeId) (x:Operand):Aj P B ds (⟨dst,.convert s t x,ty,pos,af,none⟩::r) S K=
 cvG ((S.get x).bind (k0e P S s t)) (Iz P (dst.getD 0) S (.convert s t x)) dst P B ds r S K:=by
 unfold cvG
 cases h:(S.get x).bind (k0e P S s t) with
 |some v=>
   rw [r0z]
   simp only [e0a,Qz,Fq,yE,if_false,h]
   unfold goV Lx
   cases dst with
   |none=>rfl
   |some n=>simp only [St.put];by_cases hn:n<B.nt<;>simp [hn]
 |none=>
   simp only
   refine k0r rfl ?_
   first|(simp only [Qz,Fq,h];done)|(simp only [Qz,Fq,h];rfl)
theorem g2j (t:Tmp):S.get (.tmp t)=look S.env t:=rfl
theorem q1n (c:Value):S.get (.const c)=(lit c).map .w:=rfl
theorem y1g (f:FuncId):S.get (.func f)=some (.w (.one (.fn f []))):=rfl
theorem q2x (n:Int):lit (.int .i64 n)=some (.one (.pl (.i n))):=rfl
theorem q2y (b:Bool):lit (.bool b)=some (.one (.pl (.b b))):=rfl
theorem n2o (n:Int):lit (.int .u8 n)=if 0≤n∧n<256 then some (.one (.pl (.u8 (UInt8.ofNat n.toNat)))) else none:=by
 simp only [lit,i0q];split<;>rfl
theorem f2k (n:Int):lit (.int .u32 n)=if 0≤n∧n<4294967296 then some (.one (.pl (.u32 (UInt32.ofNat n.toNat)))) else none:=by
 simp only [lit,i0q];split<;>rfl
theorem f2j (n:Int):lit (.int .u64 n)=if 0≤n∧n<18446744073709551616 then some (.one (.pl (.u64 (UInt64.ofNat n.toNat)))) else none:=by
 simp only [lit,i0q];split<;>rfl
theorem f2m :lit (.slice none 0 0)=some (.one (.pl (.R true 1 []))):=rfl
theorem f2l (s:ByteArray):lit (.string s)=if s.size≤65536 then some (.one (.pl (.str s.data.toList))) else none:=by
 simp only [lit,i0q];split<;>rfl
theorem p1j {α:Type} (m n:Nat) (v:α) (e:List (Nat×α)):look ((m,v)::e) n=if n=m then some v else look e n:=rfl
end
theorem l1b (P:Program) (t:TypeId) (x y:UInt8):Kv P .add t (.w (.one (.pl (.u8 x)))) (.w (.one (.pl (.u8 y))))=some (.w (.one (.pl (.u8 (x+y))))):=rfl
theorem k1p (P:Program) (t:TypeId) (x y:UInt8):Kv P .sub t (.w (.one (.pl (.u8 x)))) (.w (.one (.pl (.u8 y))))=some (.w (.one (.pl (.u8 (x-y))))):=rfl
theorem k1u (P:Program) (t:TypeId) (x y:UInt8):Kv P .mul t (.w (.one (.pl (.u8 x)))) (.w (.one (.pl (.u8 y))))=some (.w (.one (.pl (.u8 (x*y))))):=rfl
theorem l1a (P:Program) (t:TypeId) (x y:UInt8):Kv P .and t (.w (.one (.pl (.u8 x)))) (.w (.one (.pl (.u8 y))))=some (.w (.one (.pl (.u8 (x&&&y))))):=rfl
theorem s1j (P:Program) (t:TypeId) (x y:UInt8):Kv P .or t (.w (.one (.pl (.u8 x)))) (.w (.one (.pl (.u8 y))))=some (.w (.one (.pl (.u8 (x|||y))))):=rfl
theorem k1o (P:Program) (t:TypeId) (x y:UInt8):Kv P .xor t (.w (.one (.pl (.u8 x)))) (.w (.one (.pl (.u8 y))))=some (.w (.one (.pl (.u8 (x^^^y))))):=rfl
theorem w0e (P:Program) (t:TypeId) (x y:UInt8):Kv P .andNot t (.w (.one (.pl (.u8 x)))) (.w (.one (.pl (.u8 y))))=some (.w (.one (.pl (.u8 (x&&&~~~y))))):=rfl
theorem k1z (P:Program) (t:TypeId) (x y:UInt8):Kv P .eql t (.w (.one (.pl (.u8 x)))) (.w (.one (.pl (.u8 y))))=some (.w (.one (.pl (.b (decide (x=y)))))):=rfl
theorem k1t (P:Program) (t:TypeId) (x y:UInt8):Kv P .neq t (.w (.one (.pl (.u8 x)))) (.w (.one (.pl (.u8 y))))=some (.w (.one (.pl (.b (!decide (x=y)))))):=rfl
theorem k1v (P:Program) (t:TypeId) (x y:UInt8):Kv P .lss t (.w (.one (.pl (.u8 x)))) (.w (.one (.pl (.u8 y))))=some (.w (.one (.pl (.b (decide (x<y)))))):=rfl
theorem k1w (P:Program) (t:TypeId) (x y:UInt8):Kv P .leq t (.w (.one (.pl (.u8 x)))) (.w (.one (.pl (.u8 y))))=some (.w (.one (.pl (.b (decide (x≤y)))))):=rfl
theorem k1x (P:Program) (t:TypeId) (x y:UInt8):Kv P .gtr t (.w (.one (.pl (.u8 x)))) (.w (.one (.pl (.u8 y))))=some (.w (.one (.pl (.b (decide (y<x)))))):=rfl
theorem k1y (P:Program) (t:TypeId) (x y:UInt8):Kv P .geq t (.w (.one (.pl (.u8 x)))) (.w (.one (.pl (.u8 y))))=some (.w (.one (.pl (.b (decide (y≤x)))))):=rfl
theorem k1q (P:Program) (t:TypeId) (x y:UInt8) (h:¬y=0):Kv P .rem t (.w (.one (.pl (.u8 x)))) (.w (.one (.pl (.u8 y))))=some (.w (.one (.pl (.u8 (x%y))))):=by simp [Kv,h0n,h]
theorem a1p (P:Program) (t:TypeId) (x:UInt8) (y:Int) (h:0≤y):Kv P .shr t (.w (.one (.pl (.u8 x)))) (.w (.one (.pl (.i y))))=some (.w (.one (.pl (.u8 (t1p x y.toNat))))):=by simp [Kv,a0i,PL.num,h]
theorem e1n (P:Program) (t:TypeId) (x y:UInt32):Kv P .add t (.w (.one (.pl (.u32 x)))) (.w (.one (.pl (.u32 y))))=some (.w (.one (.pl (.u32 (x+y))))):=rfl
theorem d1j (P:Program) (t:TypeId) (x y:UInt32):Kv P .sub t (.w (.one (.pl (.u32 x)))) (.w (.one (.pl (.u32 y))))=some (.w (.one (.pl (.u32 (x-y))))):=rfl
theorem d1s (P:Program) (t:TypeId) (x y:UInt32):Kv P .mul t (.w (.one (.pl (.u32 x)))) (.w (.one (.pl (.u32 y))))=some (.w (.one (.pl (.u32 (x*y))))):=rfl
theorem e1l (P:Program) (t:TypeId) (x y:UInt32):Kv P .and t (.w (.one (.pl (.u32 x)))) (.w (.one (.pl (.u32 y))))=some (.w (.one (.pl (.u32 (x&&&y))))):=rfl
theorem k1s (P:Program) (t:TypeId) (x y:UInt32):Kv P .or t (.w (.one (.pl (.u32 x)))) (.w (.one (.pl (.u32 y))))=some (.w (.one (.pl (.u32 (x|||y))))):=rfl
theorem d1h (P:Program) (t:TypeId) (x y:UInt32):Kv P .xor t (.w (.one (.pl (.u32 x)))) (.w (.one (.pl (.u32 y))))=some (.w (.one (.pl (.u32 (x^^^y))))):=rfl
theorem s0c (P:Program) (t:TypeId) (x y:UInt32):Kv P .andNot t (.w (.one (.pl (.u32 x)))) (.w (.one (.pl (.u32 y))))=some (.w (.one (.pl (.u32 (x&&&~~~y))))):=rfl
theorem e1h (P:Program) (t:TypeId) (x y:UInt32):Kv P .eql t (.w (.one (.pl (.u32 x)))) (.w (.one (.pl (.u32 y))))=some (.w (.one (.pl (.b (decide (x=y)))))):=rfl
theorem d1o (P:Program) (t:TypeId) (x y:UInt32):Kv P .neq t (.w (.one (.pl (.u32 x)))) (.w (.one (.pl (.u32 y))))=some (.w (.one (.pl (.b (!decide (x=y)))))):=rfl
theorem d1v (P:Program) (t:TypeId) (x y:UInt32):Kv P .lss t (.w (.one (.pl (.u32 x)))) (.w (.one (.pl (.u32 y))))=some (.w (.one (.pl (.b (decide (x<y)))))):=rfl
theorem d1y (P:Program) (t:TypeId) (x y:UInt32):Kv P .leq t (.w (.one (.pl (.u32 x)))) (.w (.one (.pl (.u32 y))))=some (.w (.one (.pl (.b (decide (x≤y)))))):=rfl
theorem e1b (P:Program) (t:TypeId) (x y:UInt32):Kv P .gtr t (.w (.one (.pl (.u32 x)))) (.w (.one (.pl (.u32 y))))=some (.w (.one (.pl (.b (decide (y<x)))))):=rfl
theorem e1e (P:Program) (t:TypeId) (x y:UInt32):Kv P .geq t (.w (.one (.pl (.u32 x)))) (.w (.one (.pl (.u32 y))))=some (.w (.one (.pl (.b (decide (y≤x)))))):=rfl
theorem q0w (P:Program) (t:TypeId) (x:UInt32) (y:UInt64):Kv P .shl t (.w (.one (.pl (.u32 x)))) (.w (.one (.pl (.u64 y))))=some (.w (.one (.pl (.u32 (Rx x y.toNat))))):=by simp [Kv,a0i,PL.num]
theorem q0u (P:Program) (t:TypeId) (x:UInt32) (y:UInt64):Kv P .shr t (.w (.one (.pl (.u32 x)))) (.w (.one (.pl (.u64 y))))=some (.w (.one (.pl (.u32 (a0u x y.toNat))))):=by simp [Kv,a0i,PL.num]
theorem w0d (P:Program) (t:TypeId) (x:UInt32) (y:Int) (h:0≤y):Kv P .shl t (.w (.one (.pl (.u32 x)))) (.w (.one (.pl (.i y))))=some (.w (.one (.pl (.u32 (Rx x y.toNat))))):=by simp [Kv,a0i,PL.num,h]
theorem w0a (P:Program) (t:TypeId) (x:UInt32) (y:Int) (h:0≤y):Kv P .shr t (.w (.one (.pl (.u32 x)))) (.w (.one (.pl (.i y))))=some (.w (.one (.pl (.u32 (a0u x y.toNat))))):=by simp [Kv,a0i,PL.num,h]
theorem e1m (P:Program) (t:TypeId) (x y:UInt64):Kv P .add t (.w (.one (.pl (.u64 x)))) (.w (.one (.pl (.u64 y))))=some (.w (.one (.pl (.u64 (x+y))))):=rfl
theorem d1i (P:Program) (t:TypeId) (x y:UInt64):Kv P .sub t (.w (.one (.pl (.u64 x)))) (.w (.one (.pl (.u64 y))))=some (.w (.one (.pl (.u64 (x-y))))):=rfl
theorem d1r (P:Program) (t:TypeId) (x y:UInt64):Kv P .mul t (.w (.one (.pl (.u64 x)))) (.w (.one (.pl (.u64 y))))=some (.w (.one (.pl (.u64 (x*y))))):=rfl
theorem e1k (P:Program) (t:TypeId) (x y:UInt64):Kv P .and t (.w (.one (.pl (.u64 x)))) (.w (.one (.pl (.u64 y))))=some (.w (.one (.pl (.u64 (x&&&y))))):=rfl
theorem k1r (P:Program) (t:TypeId) (x y:UInt64):Kv P .or t (.w (.one (.pl (.u64 x)))) (.w (.one (.pl (.u64 y))))=some (.w (.one (.pl (.u64 (x|||y))))):=rfl
theorem d1g (P:Program) (t:TypeId) (x y:UInt64):Kv P .xor t (.w (.one (.pl (.u64 x)))) (.w (.one (.pl (.u64 y))))=some (.w (.one (.pl (.u64 (x^^^y))))):=rfl
theorem s0b (P:Program) (t:TypeId) (x y:UInt64):Kv P .andNot t (.w (.one (.pl (.u64 x)))) (.w (.one (.pl (.u64 y))))=some (.w (.one (.pl (.u64 (x&&&~~~y))))):=rfl
theorem e1g (P:Program) (t:TypeId) (x y:UInt64):Kv P .eql t (.w (.one (.pl (.u64 x)))) (.w (.one (.pl (.u64 y))))=some (.w (.one (.pl (.b (decide (x=y)))))):=rfl
theorem d1n (P:Program) (t:TypeId) (x y:UInt64):Kv P .neq t (.w (.one (.pl (.u64 x)))) (.w (.one (.pl (.u64 y))))=some (.w (.one (.pl (.b (!decide (x=y)))))):=rfl
theorem d1t (P:Program) (t:TypeId) (x y:UInt64):Kv P .lss t (.w (.one (.pl (.u64 x)))) (.w (.one (.pl (.u64 y))))=some (.w (.one (.pl (.b (decide (x<y)))))):=rfl
theorem d1x (P:Program) (t:TypeId) (x y:UInt64):Kv P .leq t (.w (.one (.pl (.u64 x)))) (.w (.one (.pl (.u64 y))))=some (.w (.one (.pl (.b (decide (x≤y)))))):=rfl
theorem e1a (P:Program) (t:TypeId) (x y:UInt64):Kv P .gtr t (.w (.one (.pl (.u64 x)))) (.w (.one (.pl (.u64 y))))=some (.w (.one (.pl (.b (decide (y<x)))))):=rfl
theorem e1d (P:Program) (t:TypeId) (x y:UInt64):Kv P .geq t (.w (.one (.pl (.u64 x)))) (.w (.one (.pl (.u64 y))))=some (.w (.one (.pl (.b (decide (y≤x)))))):=rfl
theorem d1m (P:Program) (t:TypeId) (x y:UInt64) (h:¬y=0):Kv P .quo t (.w (.one (.pl (.u64 x)))) (.w (.one (.pl (.u64 y))))=some (.w (.one (.pl (.u64 (x/y))))):=by simp [Kv,h0n,h]
theorem d1l (P:Program) (t:TypeId) (x y:UInt64) (h:¬y=0):Kv P .rem t (.w (.one (.pl (.u64 x)))) (.w (.one (.pl (.u64 y))))=some (.w (.one (.pl (.u64 (x%y))))):=by simp [Kv,h0n,h]
theorem q0v (P:Program) (t:TypeId) (x:UInt64) (y:UInt64):Kv P .shl t (.w (.one (.pl (.u64 x)))) (.w (.one (.pl (.u64 y))))=some (.w (.one (.pl (.u64 (Dy x y.toNat))))):=by simp [Kv,a0i,PL.num]
theorem q0t (P:Program) (t:TypeId) (x:UInt64) (y:UInt64):Kv P .shr t (.w (.one (.pl (.u64 x)))) (.w (.one (.pl (.u64 y))))=some (.w (.one (.pl (.u64 (Iw x y.toNat))))):=by simp [Kv,a0i,PL.num]
theorem w0c (P:Program) (t:TypeId) (x:UInt64) (y:Int) (h:0≤y):Kv P .shl t (.w (.one (.pl (.u64 x)))) (.w (.one (.pl (.i y))))=some (.w (.one (.pl (.u64 (Dy x y.toNat))))):=by simp [Kv,a0i,PL.num,h]
theorem v0z (P:Program) (t:TypeId) (x:UInt64) (y:Int) (h:0≤y):Kv P .shr t (.w (.one (.pl (.u64 x)))) (.w (.one (.pl (.i y))))=some (.w (.one (.pl (.u64 (Iw x y.toNat))))):=by simp [Kv,a0i,PL.num,h]
theorem s1s (P:Program) (t:TypeId) (x y:Int):Kv P .add t (.w (.one (.pl (.i x)))) (.w (.one (.pl (.i y))))=some (.w (.one (.pl (.i (Go.RowKit.wrap64 (x+y)))))):=rfl
theorem s1g (P:Program) (t:TypeId) (x y:Int):Kv P .sub t (.w (.one (.pl (.i x)))) (.w (.one (.pl (.i y))))=some (.w (.one (.pl (.i (Go.RowKit.wrap64 (x-y)))))):=rfl
theorem s1l (P:Program) (t:TypeId) (x y:Int):Kv P .mul t (.w (.one (.pl (.i x)))) (.w (.one (.pl (.i y))))=some (.w (.one (.pl (.i (Go.RowKit.wrap64 (x*y)))))):=rfl
theorem s1r (P:Program) (t:TypeId) (x y:Int):Kv P .and t (.w (.one (.pl (.i x)))) (.w (.one (.pl (.i y))))=some (.w (.one (.pl (.i (j2c x y))))):=rfl
theorem z1t (P:Program) (t:TypeId) (x y:Int):Kv P .or t (.w (.one (.pl (.i x)))) (.w (.one (.pl (.i y))))=some (.w (.one (.pl (.i (ior x y))))):=rfl
theorem s1f (P:Program) (t:TypeId) (x y:Int):Kv P .xor t (.w (.one (.pl (.i x)))) (.w (.one (.pl (.i y))))=some (.w (.one (.pl (.i (p2p x y))))):=rfl
theorem a1q (P:Program) (t:TypeId) (x y:Int):Kv P .andNot t (.w (.one (.pl (.i x)))) (.w (.one (.pl (.i y))))=some (.w (.one (.pl (.i (q1e x y))))):=rfl
theorem s1q (P:Program) (t:TypeId) (x y:Int):Kv P .eql t (.w (.one (.pl (.i x)))) (.w (.one (.pl (.i y))))=some (.w (.one (.pl (.b (decide (x=y)))))):=rfl
theorem s1k (P:Program) (t:TypeId) (x y:Int):Kv P .neq t (.w (.one (.pl (.i x)))) (.w (.one (.pl (.i y))))=some (.w (.one (.pl (.b (!decide (x=y)))))):=rfl
theorem s1m (P:Program) (t:TypeId) (x y:Int):Kv P .lss t (.w (.one (.pl (.i x)))) (.w (.one (.pl (.i y))))=some (.w (.one (.pl (.b (decide (x<y)))))):=rfl
theorem s1n (P:Program) (t:TypeId) (x y:Int):Kv P .leq t (.w (.one (.pl (.i x)))) (.w (.one (.pl (.i y))))=some (.w (.one (.pl (.b (decide (x≤y)))))):=rfl
theorem s1o (P:Program) (t:TypeId) (x y:Int):Kv P .gtr t (.w (.one (.pl (.i x)))) (.w (.one (.pl (.i y))))=some (.w (.one (.pl (.b (decide (y<x)))))):=rfl
theorem s1p (P:Program) (t:TypeId) (x y:Int):Kv P .geq t (.w (.one (.pl (.i x)))) (.w (.one (.pl (.i y))))=some (.w (.one (.pl (.b (decide (y≤x)))))):=rfl
theorem s1i (P:Program) (t:TypeId) (x y:Int) (h:¬y=0):Kv P .quo t (.w (.one (.pl (.i x)))) (.w (.one (.pl (.i y))))=some (.w (.one (.pl (.i (Go.RowKit.wrap64 (x.tdiv y)))))):=by simp [Kv,h0n,h]
theorem s1h (P:Program) (t:TypeId) (x y:Int) (h:¬y=0):Kv P .rem t (.w (.one (.pl (.i x)))) (.w (.one (.pl (.i y))))=some (.w (.one (.pl (.i (x.tmod y))))):=by simp [Kv,h0n,h]
theorem w0b (P:Program) (t:TypeId) (x:Int) (y:UInt64):Kv P .shr t (.w (.one (.pl (.i x)))) (.w (.one (.pl (.u64 y))))=some (.w (.one (.pl (.i (r0x x y.toNat))))):=by simp [Kv,a0i,PL.num]
theorem d1k (P:Program) (t:TypeId) (x:Int) (y:Int) (h:0≤y):Kv P .shr t (.w (.one (.pl (.i x)))) (.w (.one (.pl (.i y))))=some (.w (.one (.pl (.i (r0x x y.toNat))))):=by simp [Kv,a0i,PL.num,h]
theorem e1i (P:Program) (t:TypeId) (x y:List UInt8):Kv P .eql t (.w (.one (.pl (.str x)))) (.w (.one (.pl (.str y))))=some (.w (.one (.pl (.b (decide (x=y)))))):=rfl
theorem d1p (P:Program) (t:TypeId) (x y:List UInt8):Kv P .neq t (.w (.one (.pl (.str x)))) (.w (.one (.pl (.str y))))=some (.w (.one (.pl (.b (!decide (x=y)))))):=rfl
theorem d1w (P:Program) (t:TypeId) (x y:List UInt8):Kv P .lss t (.w (.one (.pl (.str x)))) (.w (.one (.pl (.str y))))=some (.w (.one (.pl (.b (Op.bytesLess x y))))):=rfl
theorem d1z (P:Program) (t:TypeId) (x y:List UInt8):Kv P .leq t (.w (.one (.pl (.str x)))) (.w (.one (.pl (.str y))))=some (.w (.one (.pl (.b (Op.bytesLess x y||decide (x=y)))))):=rfl
theorem e1c (P:Program) (t:TypeId) (x y:List UInt8):Kv P .gtr t (.w (.one (.pl (.str x)))) (.w (.one (.pl (.str y))))=some (.w (.one (.pl (.b (!(Op.bytesLess x y||decide (x=y))))))):=rfl
theorem e1f (P:Program) (t:TypeId) (x y:List UInt8):Kv P .geq t (.w (.one (.pl (.str x)))) (.w (.one (.pl (.str y))))=some (.w (.one (.pl (.b (!Op.bytesLess x y))))):=rfl
theorem q0x (P:Program) (t:TypeId) (x y:List UInt8) (h:x.length+y.length≤maxLen):Kv P .add t (.w (.one (.pl (.str x)))) (.w (.one (.pl (.str y))))=some (.w (.one (.pl (.str (x++y))))):=by simp [Kv,h]
theorem e1j (P:Program) (t:TypeId) (xs ys:List L) (h:Hy P t=true):Kv P .eql t (.w (.agg xs)) (.w (.agg ys))=(c0d P t xs ys).map fun z=>.w (.one (.pl (.b z))):=by simp [Kv,h]
theorem d1q (P:Program) (t:TypeId) (xs ys:List L) (h:Hy P t=true):Kv P .neq t (.w (.agg xs)) (.w (.agg ys))=(c0d P t xs ys).map fun z=>.w (.one (.pl (.b (!z)))):=by simp [Kv,h]
theorem l2u (c p q:Bool):n0e c (.w (.one (.pl (.b p)))) (.w (.one (.pl (.b q))))=.w (.one (.pl (.b (bif c then p else q)))):=rfl
theorem o1g (x y:V):n0e true x y=x:=by
 unfold n0e;split<;>rfl
theorem j1c (x y:V):n0e false x y=y:=by
 unfold n0e;split<;>rfl
attribute [go_sem] o2f g2r g2q g2s y1p r1h r1g r1i g2w o2g g2p g2v r1f g2z c0w y1o g2u c0v o2h g2t g2x g2y y1n e2m o1r e2l w1r e2n w1s e2k y0z y0y w1q j1h w1p c1d m2b l2z w1t m2c u0y y0x o1s w1o e2o j1i y1d v0n y1f z1i z1j y1e i2p i2o s1c t1b u1l g2j q1n y1g q2x q2y n2o f2k f2j f2m f2l p1j o1g j1c l2u l1b k1p k1u l1a s1j k1o w0e k1z k1t k1v k1w k1x k1y k1q a1p e1n d1j d1s e1l k1s d1h s0c e1h d1o d1v d1y e1b e1e q0w q0u w0d w0a e1m d1i d1r e1k k1r d1g s0b e1g d1n d1t d1x e1a e1d d1m d1l q0v q0t w0c v0z s1s s1g s1l s1r z1t s1f a1q s1q s1k s1m s1n s1o s1p s1i s1h w0b d1k e1i d1p d1w d1z e1c e1f q0x e1j d1q
attribute [go_sem] e0g m0a a2l b1u l2g e0a b0a x0r fresh b1f z0p Ob.has V.has W.has L.has W.cells
end Go.Sy
namespace Go.Sy
section
variable {P:Program} {B:Base} {S:St} {Q:Exit→St→Prop}
theorem Fw {x y:Code} (h: ∀ (N:St→Prop) (M:Exit→St→Prop),(∀ S',HT P B y S' Q→N S')→(∀ e S',Q e S'→M e S')→HT P B x S (l0d N M)):HT P B (.seq x y) S Q:=
 HT.seq (h _ Q (fun _ h=>h) (fun _ _ h=>h))
theorem Cw {id:Nat} {l:List Oper} (h: ∀ K:St→Prop,(∀ S',Q .normal S'→K S')→Aj P B (e0g l) l S K):HT P B (.region id l.toArray false) S Q:=by
 refine HT.region ?_
 have:=h (Q .normal) fun _ h=>h
 rw [l0v] at this
 simpa using this
theorem h1h {c:Operand} {x y:Code} {t:Bool} (hc:S.get c=some (.w (.one (.pl (.b t))))) (ht:t=true→HT P B x S Q) (hf:t=false→HT P B y S Q):HT P B (.cond c x y) S Q:=HT.cond hc ht hf
theorem Cj {id:Nat} {x:Code} (h: ∀ M:Exit→St→Prop,(∀ S',Q .normal S'→M .normal S')→(∀ S',Q .normal S'→M (.exit id) S')→(∀ S',Q .ret S'→M .ret S')→(∀ i S',i≠id→Q (.exit i) S'→M (.exit i) S')→HT P B x S M):HT P B (.block id x) S Q:=by
 refine HT.block (h _ (fun _ h=>h) (fun _ h=>?_) (fun _ h=>h) (fun i S' hi h=>?_))
 ·simp only [e0d,if_true];exact h
 simp only [e0d,if_neg hi];exact h
theorem Tk (h:Q .ret S):HT P B .ret S Q:=HT.ret h
theorem Gq (h:Q .normal S):HT P B .skip S Q:=HT.skip h
theorem Jv {i:Nat} (h:Q (.exit i) S):HT P B (.exit i) S Q:=HT.exit h
end
theorem Ct.k {P:Program} {f:FuncId} {fn:Func} {c:Code} {args:List V} {R:V→List (Nat×Ob)→Prop} {nt:Nat} {rs:List ResultVar} (hf:P.funcs[f]? =some fn) (hb:fn.body=some c) (hnt:fn.ntmps=nt) (hrs:fn.results.toList=rs) (hn:args.length≤nt)
 (h: ∀ (w0:World) (ro:Ro),HT P ⟨w0,fun _=>False,nt,ro,fun _=>none⟩ c ⟨m0a 0 args,[]⟩ (h2e P rs R)):Ct P f args R:=by
 subst hnt;subst hrs
 refine Ct.of hf hb hn fun w0 ro=>?_
 exact (h w0 ro).mono fun e S hq=>by cases e<;>exact hq
end Go.Sy
namespace Go.Sy
mutual
theorem PL.den_mono {ro ro':Ro} (h: ∀ b o y,ro b o=some y→ro' b o=some y): ∀ {x:PL} {y:Value},x.den ro y→x.den ro' y
 | .u8 _,_,hd=>by rw [PL.den] at hd ⊢;exact hd
 | .u32 _,_,hd=>by rw [PL.den] at hd ⊢;exact hd
 | .u64 _,_,hd=>by rw [PL.den] at hd ⊢;exact hd
 | .i _,_,hd=>by rw [PL.den] at hd ⊢;exact hd
 | .b _,_,hd=>by rw [PL.den] at hd ⊢;exact hd
 | .str _,_,hd=>by rw [PL.den] at hd ⊢;exact hd
 | .val _,_,hd=>by rw [PL.den] at hd ⊢;exact hd
 | .u,_,hd=>by rw [PL.den] at hd ⊢;exact hd
 | .q cells path,_,hd=>by
   rw [PL.den] at hd ⊢
   obtain ⟨blk,off,e,hat⟩:=hd
   exact ⟨blk,off,e,PL.denAt_mono h hat⟩
 | .R ex sz rows,_,hd=>by
   rw [PL.den] at hd ⊢
   rcases hd with hd|⟨blk,off,cap,e,h1,h2,h3,hr⟩|hd
   ·exact .inl hd
   ·exact .inr (.inl ⟨blk,off,cap,e,h1,h2,h3,PL.denRows_mono h hr⟩)
   exact .inr (.inr hd)
theorem PL.denAt_mono {ro ro':Ro} (h: ∀ b o y,ro b o=some y→ro' b o=some y): ∀ {blk:Nat} {cs:List PL} {off:Nat},PL.denAt ro blk cs off→PL.denAt ro' blk cs off
 |_,[],_,_=>by rw [PL.denAt];trivial
 |_,c::cs,_,hd=>by
   rw [PL.denAt] at hd ⊢
   obtain ⟨⟨y,hy,hc⟩,hr⟩:=hd
   exact ⟨⟨y,h _ _ _ hy,PL.den_mono h hc⟩,PL.denAt_mono h hr⟩
theorem PL.denRows_mono {ro ro':Ro} (h: ∀ b o y,ro b o=some y→ro' b o=some y): ∀ {blk sz:Nat} {rs:List (List PL)} {off:Nat},PL.denRows ro blk sz rs off→PL.denRows ro' blk sz rs off
 |_,_,[],_,_=>by rw [PL.denRows];trivial
 |_,_,r::rs,_,hd=>by
   rw [PL.denRows] at hd ⊢
   exact ⟨hd.1,PL.denAt_mono h hd.2.1,PL.denRows_mono h hd.2.2⟩
end
def f1j :List L→Option (List PL)
 | []=>some []
 | .pl x::r=>(f1j r).map (x:: ·)
 |_=>none
def chunks (sz:Nat):Nat→List PL→List (List PL)
 |0,_=>[]
 |n+1,c=>c.take sz::chunks sz n (c.drop sz)
theorem o0n : ∀ {cs:List L} {c:List PL},f1j cs=some c→cs=pls c
 | [],c,h=>by simp only [f1j] at h;cases h;rfl
 |x::r,c,h=>by
   unfold f1j at h
   split at h
   ·rename_i e;cases e
   ·rename_i y r' e
    cases e
    cases hu:f1j r with
    |none=>simp [hu] at h
    |some c'=>simp only [hu,yR,Option.some.injEq] at h;subst h;rw [o0n hu];rfl
   cases h
def g0t (S:St):L→Option L
 | .pl x=>some (.pl x)
 | .s k path len sz=>match look S.mem k with
   |some o=>if pok o.cells.length path∧psz o.cells.length path=len*sz then (f1j (rd o.cells path)).map fun c=>.pl (.R false sz (chunks sz len c)) else none
   |none=>none
 | .fn f []=>some (.fn f [])
 |_=>none
def Wy (S:St):List L→Option (List L)
 | []=>some []
 |l::r=>match g0t S l,Wy S r with
   |some x,some xs=>some (x::xs)
   |_,_=>none
def w0r (S:St):V→Option V
 | .w (.one l)=>(g0t S l).map fun x=>.w (.one x)
 | .w (.agg cs)=>(Wy S cs).map fun x=>.w (.agg x)
 |_=>none
def Tj (S:St):List Operand→Option (List V)
 | []=>some []
 |x::r=>match (S.get x).bind (w0r S),Tj S r with
   |some v,some vs=>some (v::vs)
   |_,_=>none
def Va.all (d:Va) (w:World):Va:={d with ro:=fun b o=>w.cell? ⟨b,o,none⟩}
theorem i0n {d:Va} {w:World} {blk:Nat} (hro: ∀ b o y,d.ro b o=some y→w.cell? ⟨b,o,none⟩=some y): ∀ {c:List PL} {vals:List Value} {off:Nat},Fv (L.den d) (pls c) vals→Mk w blk off vals→PL.denAt (d.all w).ro blk c off
 | [],_,_,_,_=>by rw [PL.denAt];trivial
 |x::c,vals,off,h,hc=>by
   cases h with
   |cons h1 h2=>
     rename_i y m
     rw [PL.denAt]
     refine ⟨⟨y,hc 0 y rfl,PL.den_mono hro h1⟩,i0n hro h2 (fun j v hv=>?_)⟩
     have:=hc (j+1) v (by simpa using hv)
     rwa [show off+(j+1)=off+1+j from by omega] at this
theorem Uj {ro:Ro} {blk sz:Nat}: ∀ {n:Nat} {c:List PL} {off:Nat},PL.denAt ro blk c off→c.length=n*sz→PL.denRows ro blk sz (chunks sz n c) off
 |0,c,off,_,_=>by rw [chunks,PL.denRows];trivial
 |n+1,c,off,h,hl=>by
   rw [wN,Nat.one_mul] at hl
   rw [chunks,PL.denRows]
   have key: ∀ {c:List PL} {off:Nat} (m:Nat),PL.denAt ro blk c off→m≤c.length→PL.denAt ro blk (c.take m) off∧PL.denAt ro blk (c.drop m) (off+m):=by
    intro c
    induction c with
    |nil=>intro off m h hm;simp at hm;subst hm;simpa using h
    |cons x c ih=>
      intro off m h hm
      cases m with
      |zero=>simp [PL.denAt];rw [PL.denAt] at h;exact h
      |succ m=>
        rw [PL.denAt] at h
        obtain ⟨h1,h2⟩:=ih m h.2 (by simpa using hm)
        simp only [wE,List.drop_succ_cons]
        rw [PL.denAt]
        exact ⟨⟨h.1,h1⟩,by rw [show off+(m+1)=off+1+m from by omega];exact h2⟩
   obtain ⟨h1,h2⟩:=key sz h (by omega)
   exact ⟨by simp;omega,h1,Uj h2 (by simp;omega)⟩
theorem Mj (sz:Nat): ∀ (n:Nat) (c:List PL),(chunks sz n c).length=n
 |0,_=>rfl
 |n+1,c=>by simp [chunks,Mj sz n]
theorem f1c {B:Base} {d:Va} {S:St} {a:Act} {w:World} (h:Sim B d S a w) {l x:L} {y:Value} (hv:g0t S l=some x) (hd:l.den d y):x.den (d.all w) y:=by
 unfold g0t at hv
 split at hv<;>try (cases hv;done)
 ·cases hv;exact PL.den_mono h.ro hd
 ·rename_i k path len sz
  split at hv<;>try (cases hv;done)
  rename_i o hk
  split at hv<;>try (cases hv;done)
  rename_i hc
  obtain ⟨hp,hps⟩:=hc
  cases hu:f1j (rd o.cells path) with
  |none=>simp [hu] at hv
  |some c=>
    simp only [hu,yR,Option.some.injEq] at hv;subst hv
    obtain ⟨vals,hvd,hcell,hl⟩:=h.readObj hk hp
    have hcl:=c0r o.cells hp
    rw [o0n hu] at hvd hcl
    rw [c0s,hps] at hcl
    obtain ⟨oo,cap,rfl,hlc,hcm,ho,_⟩:=hd
    show PL.den _ _ _
    rw [PL.den]
    right;left
    refine ⟨d.at_ k,oo,cap,by rw [Mj],by rw [Mj];exact hlc,hcm,fun e=>(by cases e),?_⟩
    refine Uj ?_ hcl
    rcases ho with ho|rfl
    ·have hlen:len=0:=by omega
     rw [hlen,vW] at hcl
     have:=xH hcl
     subst this;rw [PL.denAt];trivial
    exact i0n h.ro hvd hcell
 cases hv;exact hd
theorem w0s {B:Base} {d:Va} {S:St} {a:Act} {w:World} (h:Sim B d S a w): ∀ {cs xs:List L} {vs:List Value},Wy S cs=some xs→Fv (L.den d) cs vs→Fv (L.den (d.all w)) xs vs
 | [],xs,vs,hv,hd=>by cases hd;simp only [Wy] at hv;cases hv;exact .nil
 |l::r,xs,vs,hv,hd=>by
   cases hd with
   |cons h1 h2=>
     simp only [Wy] at hv
     cases e1:g0t S l with
     |none=>simp [e1] at hv
     |some x=>
       cases e2:Wy S r with
       |none=>simp [e1,e2] at hv
       |some xs'=>simp only [e1,e2,Option.some.injEq] at hv;subst hv;exact .cons (f1c h e1 h1) (w0s h e2 h2)
theorem t1x {B:Base} {d:Va} {S:St} {a:Act} {w:World} (h:Sim B d S a w) {v x:V} {y:Value} (hv:w0r S v=some x) (hd:v.den d y):x.den (d.all w) y:=by
 unfold w0r at hv
 split at hv<;>try (cases hv;done)
 ·rename_i l
  cases e:g0t S l with
  |none=>simp [e] at hv
  |some z=>simp only [e,yR,Option.some.injEq] at hv;subst hv;exact f1c h e hd
 rename_i cs
 cases e:Wy S cs with
 |none=>simp [e] at hv
 |some z=>
   simp only [e,yR,Option.some.injEq] at hv;subst hv
   obtain ⟨vs,rfl,hall⟩:=hd
   exact ⟨vs,rfl,w0s h e hall⟩
theorem i0t {B:Base} {d:Va} {S:St} {a:Act} {w:World} (h:Sim B d S a w): ∀ {xs:List Operand} {vs:List V},Tj S xs=some vs→Fv (V.den (d.all w)) vs (xs.map a.eval)
 | [],vs,hv=>by simp only [Tj] at hv;cases hv;exact .nil
 |x::r,vs,hv=>by
   simp only [Tj] at hv
   cases e1:(S.get x).bind (w0r S) with
   |none=>simp [e1] at hv
   |some v=>
     cases e2:Tj S r with
     |none=>simp [e1,e2] at hv
     |some us=>
       simp only [e1,e2,Option.some.injEq] at hv;subst hv
       obtain ⟨u,hu,hv⟩:=bind_some e1
       exact .cons (t1x h hv (h.get hu)) (i0t h e2)
def Ry :L→Bool
 | .pl (.u8 _)| .pl (.u32 _)| .pl (.u64 _)| .pl (.i _)| .pl (.b _)| .pl (.str _)| .pl (.val _)| .pl .u| .pl (.R _ _ [])=>true
 |_=>false
theorem h0t {d d':Va} {l:L} {y:Value} (h:Ry l=true) (hd:l.den d y):l.den d' y:=by
 unfold Ry at h
 split at h<;>first|(cases h;done)|(rw [L.den,PL.den] at hd ⊢;exact hd)|(rw [L.den,PL.den] at hd ⊢;simpa only [PL.denRows] using hd)
theorem s0k {d d':Va}: ∀ {cs:List L} {vs:List Value},cs.all Ry=true→Fv (L.den d) cs vs→Fv (L.den d') cs vs
 |_,_,_,.nil=>.nil
 |_,_,h,.cons h1 h2=>by
   simp only [wR,yD] at h
   exact .cons (h0t h.1 h1) (s0k h.2 h2)
theorem Sim.stay {B:Base} {d:Va} {S:St} {a:Act} {w w':World} (h:Sim B d S a w) (hold: ∀ b,b<w.heap.size→w'.heap[b]? =w.heap[b]?) (hsz:w.heap.size≤w'.heap.size) (hos:w'.os=w.os) (ht:w'.tape=w.tape) (ho:w'.output=w.output):Sim B d S a w':=by
 refine ⟨h.defers,h.nt,h.env,?_,h.inj,h.own,?_,h.old,hos.trans h.os,ht.trans h.tape,ho.trans h.output,xR h.size hsz,?_,h.gat,h.glob,h.fix,h.fxn,fun b l hb=>(h.mp b l hb).of (hold b (h.mp b l hb).lt)⟩
 ·intro k o hk hkl
  obtain ⟨vals,spare,ty,fr,hh,rest⟩:=h.mem k o hk hkl
  have hlt:=h.mem_lt (k:=k) (by rw [hk];rfl) hkl
  exact ⟨vals,spare,ty,fr,by rw [hold _ hlt];exact hh,rest⟩
 ·intro b o y hy
  have hr:=h.ro b o y hy
  have:=f0p hr
  simp only [World.cell?] at hr ⊢
  rw [hold b this];exact hr
 intro b hb hm
 rw [hold b (by have:=h.size;omega)];exact h.block b hb hm
end Go.Sy
namespace Go.Sy
def L.ren (f:Nat→Nat):L→L
 | .pl x=>.pl x
 | .p k path=>.p (f k) path
 | .s k path len sz=>.s (f k) path len sz
 | .fn g caps=>.fn g (caps.map f)
def W.ren (f:Nat→Nat):W→W
 | .one l=>.one (l.ren f)
 | .agg cs=>.agg (cs.map (L.ren f))
def V.ren (f:Nat→Nat):V→V
 | .w x=>.w (x.ren f)
 | .tup xs=>.tup (xs.map (W.ren f))
 | .any=>.any
def a2m (m:List (Nat×Ob)):L→Bool
 | .pl x=>Ry (.pl x)
 | .p k _=>(look m k).isSome
 | .s k _ _ _=>(look m k).isSome
 | .fn _ []=>true
 |_=>false
def o0y (m:List (Nat×Ob)):W→Bool
 | .one l=>a2m m l
 | .agg cs=>cs.all (a2m m)
def e0p (m:List (Nat×Ob)):V→Bool
 | .w x=>o0y m x
 | .tup xs=>xs.all (o0y m)
 | .any=>true
theorem f1z {d d':Va} {f:Nat→Nat} {m:List (Nat×Ob)} (hd': ∀ k,(look m k).isSome=true→d'.at_ (f k)=d.at_ k∧d'.size (f k)=d.size k) {l:L} {y:Value} (h:a2m m l=true) (hd:l.den d y):(l.ren f).den d' y:=by
 unfold a2m at h
 split at h<;>try (cases h;done)
 ·exact h0t h hd
 ·rename_i k path
  simp only [L.ren,L.den] at*
  rw [(hd' k h).1];exact hd
 ·rename_i k path len sz
  simp only [L.ren,L.den] at*
  rw [(hd' k h).1,(hd' k h).2];exact hd
 exact hd
theorem s0n {d d':Va} {f:Nat→Nat} {m:List (Nat×Ob)} (hd': ∀ k,(look m k).isSome=true→d'.at_ (f k)=d.at_ k∧d'.size (f k)=d.size k) {x:W} {y:Value} (h:o0y m x=true) (hd:x.den d y):(x.ren f).den d' y:=by
 cases x with
 |one l=>exact f1z hd' h hd
 |agg cs=>
   obtain ⟨vs,rfl,hv⟩:=hd
   refine ⟨vs,rfl,?_⟩
   simp only [o0y,yJ] at h
   exact Fv.map_left (hv.mono fun x y hx hr=>f1z hd' (h x hx) hr)
theorem s0p {d d':Va} {f:Nat→Nat} {m:List (Nat×Ob)} (hd': ∀ k,(look m k).isSome=true→d'.at_ (f k)=d.at_ k∧d'.size (f k)=d.size k) {x:V} {y:Value} (h:e0p m x=true) (hd:x.den d y):(x.ren f).den d' y:=by
 cases x with
 |w x=>exact s0n hd' h hd
 |tup xs=>
   obtain ⟨vs,rfl,hv⟩:=hd
   refine ⟨vs,rfl,?_⟩
   simp only [e0p,yJ] at h
   exact Fv.map_left (hv.mono fun x y hx hr=>s0n hd' (h x hx) hr)
 |any=>trivial
def adopt (f:Nat→Nat):List (Nat×Ob)→List (Nat×Ob)→List (Nat×Ob)
 | [],m=>m
 |x::r,m=>(f x.1,x.2)::adopt f r m
def b0e (f:Nat→Nat) (e:List (Nat×V)):List (Nat×Ob)→List (Nat×Ob)→Bool
 | [],_=>true
 |x::r,m=>x.2.cells.all Ry&&decide (x.1<500000)&&fresh (f x.1) ⟨e,adopt f r m⟩&& !(look (adopt f r m) (f x.1)).isSome&& !(look r x.1).isSome&&b0e f e r m
theorem t0s {f:Nat→Nat} {e:List (Nat×V)} {m:List (Nat×Ob)} {k:Nat}: ∀ {l:List (Nat×Ob)},b0e f e l m=true→(look l k).isSome=true→k<px0
 | [],_,h=>by cases h
 |x::r,h,hk=>by
   simp only [b0e,yD,decide_eq_true_eq] at h
   simp only [look] at hk
   split at hk
   ·rename_i e;subst e;exact h.1.1.1.1.2
   exact t0s h.2 hk
theorem c0g {cs:List L} (h:cs.all Ry=true) (k:Nat):cs.any (L.has k)=false:=by
 simp only [xC,yJ] at*
 intro x hx
 have:=h x hx
 cases x<;>simp_all [Ry,L.has]
theorem w0g {B B':Base} {d':Va} {a a':Act} {w w':World} {f:Nat→Nat} {e:List (Nat×V)} {m0:List (Nat×Ob)} {S':St} (hc:Sim B' d' S' a' w') (hw0:B'.w0=w) (hmay: ∀ b,¬B'.may b) (hsz:B.w0.heap.size≤w.heap.size) (hroB:B'.w0.heap.size≤w'.heap.size):
 ∀ (l:List (Nat×Ob)),(∀ k o,look l k=some o→look S'.mem k=some o)→∀ (d:Va),Sim B d ⟨e,m0⟩ a w'→(∀ b o y,d.ro b o=some y→b<w.heap.size)→(∀ j,(look m0 j).isSome=true→j<gl0→d.at_ j<w.heap.size)→b0e f e l m0=true→
  ∃ d2,Sim B d2 ⟨e,adopt f l m0⟩ a w'∧(∀ k,(look l k).isSome=true→d2.at_ (f k)=d'.at_ k∧d2.size (f k)=d'.size k)∧(∀ j,(look (adopt f l m0) j).isSome=true→j<gl0→(∃ k,(look l k).isSome=true∧d2.at_ j=d'.at_ k)∨d2.at_ j<w.heap.size)∧d2.ro=d.ro
 | [],_,d,h,_,hm,_=>⟨d,h,fun k hk=>(by cases hk),fun j hj hl=>.inr (hm j hj hl),rfl⟩
 |x::r,hl,d,h,hro,hm,hok=>by
   simp only [b0e,yD,yX] at hok
   obtain ⟨⟨⟨⟨⟨hst,hxl⟩,hf⟩,hnew⟩,hdup⟩,hr⟩:=hok
   have hxl:x.1<gl0:=wZ (of_decide_eq_true hxl) a0m
   have hx:look S'.mem x.1=some x.2:=hl x.1 x.2 (by simp [look])
   obtain ⟨d1,h1,hk1,hj1,hro1⟩:=w0g hc hw0 hmay hsz hroB r (fun k o hk=>hl k o (by
    simp only [look]
    split
    ·rename_i e;subst e;rw [hk] at hdup;cases hdup
    exact hk)) d h hro hm hr
   obtain ⟨vals,spare,ty,fr,hh,hfr,hd,hs,hlen⟩:=hc.mem x.1 x.2 hx hxl
   have hown:=(hc.own x.1 (by rw [hx];rfl) hxl).2
   have hge:w.heap.size≤d'.at_ x.1:=by
    rcases hown with h2|h2
    ·rw [hw0] at h2;exact h2
    exact (hmay _ h2.2).elim
   have hf':=f0j hf
   have hfl:=g0l hf
   have hne: ∀ j,(look (adopt f r m0) j).isSome=true→j<gl0→d1.at_ j≠d'.at_ x.1:=by
    intro j hj hjl he
    rcases hj1 j hj hjl with ⟨k,hk,hk2⟩|hlt
    ·rw [he] at hk2
     have hkS:(look S'.mem k).isSome=true:=by
      cases ho:look r k with
      |none=>simp [ho] at hk
      |some o=>
        have:=hl k o (by
         simp only [look]
         split
         ·rename_i e;subst e;rw [ho] at hdup;cases hdup
         exact ho)
        rw [this];rfl
     have:=hc.inj x.1 k (by rw [hx];rfl) hkS hxl (wZ (t0s hr hk) a0m) hk2
     subst this
     rw [hdup] at hk;cases hk
    omega
   refine ⟨d1.set (f x.1) (d'.at_ x.1) (d'.size x.1),?_,?_,?_,?_⟩
   ·refine ⟨h1.defers,h1.nt,?_,?_,?_,?_,?_,?_,h1.os,h1.tape,h1.output,h1.size,h1.block,?_,?_,?_,h1.fxn,fun b l hb=>?_⟩
    ·intro n v hv
     obtain ⟨y,hy,hd⟩:=h1.env n v hv
     exact ⟨y,hy,V.den_set hd (Wq hf'.1 hv)⟩
    ·intro k o ho hkl
     simp only [adopt,look] at ho
     split at ho
     ·rename_i e;cases ho;subst e
      exact ⟨vals,spare,ty,fr,by rw [Va.set_at];exact hh,hfr,s0k hst hd,hs,by rw [Va.set_size];exact hlen⟩
     rename_i e
     obtain ⟨vs,sp,ty',fr',hh',hfr',hd',hs',hl'⟩:=h1.mem k o ho hkl
     obtain ⟨e1,e2⟩:=d1.set_other (d'.at_ x.1) (d'.size x.1) e
     exact ⟨vs,sp,ty',fr',by rw [e1];exact hh',hfr',o0i hd' (a0y hf'.2 ho),hs',by rw [e2];exact hl'⟩
    ·intro k1 k2 h2 h3 hl1 hl2 he
     simp only [adopt,look] at h2 h3
     by_cases e1:k1=f x.1<;>by_cases e2:k2=f x.1
     ·rw [e1,e2]
     ·exfalso
      rw [if_neg e2] at h3
      rw [e1,Va.set_at,(d1.set_other _ _ e2).1] at he
      exact hne k2 h3 hl2 he.symm
     ·exfalso
      rw [if_neg e1] at h2
      rw [e2,Va.set_at,(d1.set_other _ _ e1).1] at he
      exact hne k1 h2 hl1 he
     rw [if_neg e1] at h2;rw [if_neg e2] at h3
     rw [(d1.set_other _ _ e1).1,(d1.set_other _ _ e2).1] at he
     exact h1.inj _ _ h2 h3 hl1 hl2 he
    ·intro k hk hkl
     simp only [adopt,look] at hk
     by_cases e:k=f x.1
     ·subst e
      rw [Va.set_at]
      refine ⟨fun o=>?_,.inl (by omega)⟩
      show d1.ro _ _=none
      rw [hro1]
      cases hq:d.ro (d'.at_ x.1) o with
      |none=>rfl
      |some y=>have:=hro _ _ _ hq;omega
     rw [if_neg e] at hk
     rw [(d1.set_other _ _ e).1]
     exact h1.own k hk hkl
    ·exact h1.ro
    ·exact h1.old
    ·intro k hk
     have hne:k≠f x.1:=by intro e;subst e;exact absurd (wZ hfl a0m) (by omega)
     rw [(d1.set_other _ _ hne).1];exact h1.gat k hk
    ·intro k o ho hk
     have hne:k≠f x.1:=by intro e;subst e;exact absurd (wZ hfl a0m) (by omega)
     simp only [adopt,look,if_neg hne] at ho
     rw [(d1.set_other _ _ hne).2];exact h1.glob k o ho hk
    ·intro k o p ho hp hkl
     have hge:=h1.fxn k p hp
     have hne:k≠f x.1:=by intro e;subst e;omega
     simp only [adopt,look,if_neg hne] at ho
     rw [(d1.set_other _ _ hne).1,(d1.set_other _ _ hne).2];exact h1.fix k o p ho hp hkl
    simp only [adopt,look] at hb
    rw [if_neg (show mp0+b≠f x.1 by show 2000000+b≠f x.1;have:f x.1<500000:=hfl;omega)] at hb
    exact h1.mp b l hb
   ·intro k hk
    simp only [look] at hk
    by_cases e:k=x.1
    ·subst e;exact ⟨Va.set_at _ _ _ _,Va.set_size _ _ _ _⟩
    rw [if_neg e] at hk
    have hne2:f k≠f x.1:=by
     intro he
     have hjk:(look (adopt f r m0) (f k)).isSome=true:=by
      have: ∀ {r:List (Nat×Ob)},(look r k).isSome=true→(look (adopt f r m0) (f k)).isSome=true:=by
       intro r
       induction r with
       |nil=>intro h;cases h
       |cons z r ih=>
         intro h
         simp only [adopt,look] at h ⊢
         split
         ·rfl
         rename_i e2
         split at h
         ·rename_i e3;subst e3;exact absurd rfl e2
         exact ih h
      exact this hk
     rw [he,hnew] at hjk;cases hjk
    obtain ⟨e1,e2⟩:=d1.set_other (d'.at_ x.1) (d'.size x.1) hne2
    rw [e1,e2];exact hk1 k hk
   ·intro j hj hjl
    simp only [adopt,look] at hj
    by_cases e:j=f x.1
    ·subst e
     left;exact ⟨x.1,by simp [look],Va.set_at _ _ _ _⟩
    rw [if_neg e] at hj
    rw [(d1.set_other _ _ e).1]
    rcases hj1 j hj hjl with ⟨k,hk,hk2⟩|hlt
    ·left
     refine ⟨k,?_,hk2⟩
     simp only [look];split
     ·rfl
     exact hk
    exact .inr hlt
   exact hro1
theorem Cv {P:Program} {B:Base} {S:St} {K:St→Prop} {dst:Option Tmp} {ty:TypeId} {pos:String} {af:Array Edge} {f:FuncId} {args:List Operand} {ts:Array TypeId} {ds:List (Option Tmp)} {r:List Oper} {vs:List V} {R:V→List (Nat×Ob)→Prop}
 (nm:Nat→Nat) (hgo: ∀ vals w,(callFunc f vals).run P w=.ok (.enter f vals) w) (hargs:Tj S args=some vs) (hc:Ct P f vs R)
 (hK: ∀ v m,R v m→e0p m v=true∧b0e nm S.env m S.mem=true∧(match dst with
  |some n=>n<B.nt∧Aj P B ds r ⟨(n,v.ren nm)::S.env,adopt nm m S.mem⟩ K
  |none=>Aj P B ds r ⟨S.env,adopt nm m S.mem⟩ K)):
 Bw P B ⟨dst,.call ⟨.value (.func f),args.toArray,ts⟩,ty,pos,af,none⟩ S ds r K:=by
 intro d a w h next Q hn
 have hrun:(execOp a.eval ⟨dst,.call ⟨.value (.func f),args.toArray,ts⟩,ty,pos,af,none⟩).run P w=.ok (.enter f (args.map a.eval).toArray) w:=by
  simp [execOp,resolve,Deferred.ofValue,Act.eval,invoke,hgo]
 unfold Oper.wp
 rw [hrun,Oper.upon_enter]
 have hda:=i0t h hargs
 refine (hc w (d.all w) (args.map a.eval).toArray (fun b o y hy=>hy) h.gat (by simpa using hda)).mono ?_
 rintro e w' ⟨y,v,d',m',rfl,hR,hvd,a2,hmem⟩
 obtain ⟨hok,had,hk⟩:=hK v m' hR
 have hst:=h.stay (w':=w') (fun b hb=>hmem.block b hb (fun x=>x)) hmem.size hmem.os hmem.tape hmem.output
 obtain ⟨d2,hs2,hk2,_,hro2⟩:=w0g (e:=S.env) (m0:=S.mem) (f:=nm) (w:=w) hmem rfl (fun b hb=>hb) h.size hmem.size m' (fun k o hk=>hk) d hst (fun b o y hy=>f0p (h.ro b o y hy)) (fun j hj hl=>h.mem_lt hj hl) had
 have hvd2:=s0p (f:=nm) hk2 hok hvd
 cases dst with
 |none=>exact hn _ _ _ _ hk hs2
 |some n=>exact hn _ _ _ _ hk.2 (hs2.put hk.1 hvd2)
end Go.Sy
