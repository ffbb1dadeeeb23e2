/- The layer that reckons a function out: what it says of states, operations, regions, loops, calls. CONDITIONS: those that each theorem names. -/
import Derived.WalkKit
import Derived.ProofKit
import Derived.ChangeKeysEq
import Derived.Lib.FrozenHead
import Derived.Deep.AppendSrc
import Derived.MapKept
set_option linter.unusedVariables false
set_option linter.unusedSimpArgs false
namespace Go.Sy
abbrev Path :=List (Nat×Nat)
def Qy :Path→Nat
 | []=>0
 |x::p=>x.1+Qy p
def win {α:Type} (c:List α) (o n:Nat):List α:=(c.drop o).take n
def rd {α:Type} (c:List α):Path→List α
 | []=>c
 |x::p=>win (rd c p) x.1 x.2
def upd {α:Type} (c:List α) (o n:Nat) (d:List α):List α:=c.take o++d++c.drop (o+n)
def wr {α:Type} (c:List α):Path→List α→List α
 | [],d=>d
 |x::p,d=>wr c p (upd (rd c p) x.1 x.2 d)
def psz (N:Nat):Path→Nat
 | []=>N
 |x::_=>x.2
def pok (N:Nat):Path→Prop
 | []=>True
 |x::p=>pok N p∧x.1+x.2≤psz N p
theorem Ry {α:Type} (c:List α) (o n:Nat) (h:o+n≤c.length):(win c o n).length=n:=by
 simp [win];omega
theorem l1b {α:Type} (c:List α) (o n o' n':Nat) (h:o'+n'≤n):win (win c o n) o' n'=win c (o+o') n':=by
 unfold win
 rw [List.drop_take,List.take_take,List.drop_drop,Nat.min_eq_left (by omega)]
theorem e0i {N:Nat}: ∀ {p:Path},pok N p→Qy p+psz N p≤N
 | [],_=>by simp [Qy,psz]
 |x::p,h=>by
  have:=e0i h.1
  have:=h.2
  simp [Qy,psz];omega
theorem w0j {α:Type} (c:List α): ∀ {p:Path},pok c.length p→rd c p=win c (Qy p) (psz c.length p)
 | [],_=>by simp [rd,Qy,psz,win]
 |x::p,h=>by
  rw [rd,w0j c h.1,l1b _ _ _ _ _ h.2]
  simp [Qy,psz,Nat.add_comm]
theorem Xk {α:Type} (c:List α) {p:Path} (h:pok c.length p):(rd c p).length=psz c.length p:=by
 rw [w0j c h];exact Ry _ _ _ (e0i h)
theorem l1e {α:Type} (c d:List α) (o n o' n':Nat) (h:o+n≤c.length) (h':o'+n'≤n):
  upd c o n (upd (win c o n) o' n' d)=upd c (o+o') n' d:=by
 unfold upd win
 have e1:c.take o++((c.drop o).take n).take o'=c.take (o+o'):=by
  rw [List.take_take,Nat.min_eq_left (by omega),List.take_add]
 have e2:((c.drop o).take n).drop (o'+n')++c.drop (o+n)=c.drop (o+o'+n'):=by
  rw [List.drop_take,List.drop_drop]
  have:c.drop (o+n)=(c.drop (o+(o'+n'))).drop (n-(o'+n')):=by rw [List.drop_drop];congr 1;omega
  rw [this,List.take_append_drop];congr 1;omega
 rw [←e1,←e2]
 simp [List.append_assoc]
theorem e1p {α:Type} (c d:List α): ∀ {p:Path},pok c.length p→d.length=psz c.length p→wr c p d=upd c (Qy p) (psz c.length p) d
 | [],_,h=>by simp [wr,upd,Qy,psz]
 |x::p,h,hd=>by
  have hp:=e0i h.1
  have h2:=h.2
  have hx:d.length=x.2:=by simpa [psz] using hd
  have hl:(upd (rd c p) x.1 x.2 d).length=psz c.length p:=by
   have:=Xk c h.1
   simp [upd,this,hx];omega
  rw [wr,e1p c _ h.1 hl,w0j c h.1,l1e _ _ _ _ _ _ hp h2]
  simp [Qy,psz,Nat.add_comm]
inductive PL where
 |u8 (x:UInt8)
 |u32 (x:UInt32)
 |u64 (x:UInt64)
 |i (n:Int)
 |b (x:Bool)
 |str (s:List UInt8)
 |val (x:Value)
 |R (ex:Bool) (sz:Nat) (rows:List (List PL))
 |q (cells:List PL) (path:Path)
 |u
inductive L where
 |pl (x:PL)
 |p (k:Nat) (path:Path)
 |s (k:Nat) (path:Path) (len sz:Nat)
 |fn (f:Nat) (caps:List Nat)
inductive W where
 |one (l:L)
 |agg (cs:List L)
inductive V where
 |w (x:W)
 |tup (xs:List W)
 |any
def Scalar (y:Value):Prop:=(∀ cs,y≠.agg cs)∧∀ vs,y≠.tuple vs
abbrev Ro :=Nat→Nat→Option Value
mutual
def PL.den (ro:Ro):PL→Value→Prop
 | .u8 x,y=>y=.int .u8 x.toNat
 | .u32 x,y=>y=.int .u32 x.toNat
 | .u64 x,y=>y=.int .u64 x.toNat
 | .i n,y=>y=.int .i64 n
 | .b x,y=>y=.bool x
 | .str s,y=>y=.string ⟨s.toArray⟩∧s.length≤maxLen
 | .val x,y=>y=x∧Scalar x
 | .R ex sz rows,y=>(y=.slice none 0 0∧rows=[])∨
   (∃ blk off cap,y=.slice (some ⟨blk,off,none⟩) rows.length cap∧rows.length≤cap∧cap≤maxLen∧(ex=true→cap=rows.length)∧PL.denRows ro blk sz rows off)∨
   ∃ a cap,y=.slice (some a) 0 cap∧rows=[]∧cap≤maxLen∧(ex=true→cap=0)
 | .q cells path,y=>∃ blk off,y=.pointer (some ⟨blk,off+Qy path,none⟩)∧PL.denAt ro blk cells off
 | .u,y=>Scalar y
def PL.denAt (ro:Ro) (blk:Nat):List PL→Nat→Prop
 | [],_=>True
 |c::cs,off=>(∃ y,ro blk off=some y∧PL.den ro c y)∧PL.denAt ro blk cs (off+1)
def PL.denRows (ro:Ro) (blk sz:Nat):List (List PL)→Nat→Prop
 | [],_=>True
 |r::rs,off=>r.length=sz∧PL.denAt ro blk r off∧PL.denRows ro blk sz rs (off+sz)
end
structure Va where
 at_:Nat→Nat
 size:Nat→Nat
 ro:Ro
def L.den (d:Va):L→Value→Prop
 | .pl x,y=>x.den d.ro y
 | .p k path,y=>y=.pointer (some ⟨d.at_ k,Qy path,none⟩)
 | .s k path len sz,y=>∃ o cap,y=.slice (some ⟨d.at_ k,o,none⟩) len cap∧len≤cap∧cap≤maxLen∧(cap=0∨o=Qy path)∧o+cap*sz≤d.size k
 | .fn f caps,y=>y=.func (.func f) #[] (caps.map fun k=>Value.pointer (some ⟨d.at_ k,0,none⟩)).toArray
inductive Fv {α β:Type} (R:α→β→Prop):List α→List β→Prop
 |nil:Fv R [] []
 |cons {a:α} {b:β} {l:List α} {m:List β}:R a b→Fv R l m→Fv R (a::l) (b::m)
def W.den (d:Va):W→Value→Prop
 | .one l,y=>l.den d y
 | .agg cs,y=>∃ vs:Array Value,y=.agg vs∧Fv (L.den d) cs vs.toList
def V.den (d:Va):V→Value→Prop
 | .w x,y=>x.den d y
 | .tup xs,y=>∃ vs:Array Value,y=.tuple vs∧Fv (W.den d) xs vs.toList
 | .any,_=>True
end Go.Sy
namespace Go.Sy
def look {α:Type}:List (Nat×α)→Nat→Option α
 | [],_=>none
 |x::r,n=>if n=x.1 then some x.2 else look r n
inductive Rw where
 |b (x:Bool)
 |m (l:List (List UInt8×Int))
 deriving DecidableEq
instance : Coe Bool Rw:=⟨.b⟩
structure Ob where
 row:Rw
 cells:List L
structure St where
 env:List (Nat×V)
 mem:List (Nat×Ob)
structure Base where
 w0:World
 may:Nat→Prop
 nt:Nat
 ro:Ro
 fx:Nat→Option (Nat×Nat)
abbrev gl0 :Nat:=1000000
abbrev px0 :Nat:=500000
abbrev mp0 :Nat:=2000000
def Jv :Nat→List (List UInt8×Int)→List MapEntry
 |_,[]=>[]
 |i,x::r=>⟨.string ⟨x.1.toArray⟩,.int .i64 x.2,i⟩::Jv (i+1) r
def MapAt (w:World) (b:Nat) (l:List (List UInt8×Int)):Prop:=w.heap[b]? =some (.map (Jv 0 l).toArray l.length)
theorem MapAt.lt {w:World} {b:Nat} {l:List (List UInt8×Int)} (h:MapAt w b l):b<w.heap.size:=(Array.getElem?_eq_some_iff.1 h).1
theorem MapAt.of {w w':World} {b:Nat} {l:List (List UInt8×Int)} (h:MapAt w b l) (e:w'.heap[b]? =w.heap[b]?):MapAt w' b l:=e.trans h
structure Sim (B:Base) (d:Va) (S:St) (a:Act) (w:World):Prop where
 defers:a.defers=[]
 nt:a.tmps.size=B.nt
 env: ∀ n v,look S.env n=some v→∃ y,a.tmps[n]? =some y∧V.den d v y
 mem: ∀ k o,look S.mem k=some o→k<gl0→∃ (vals spare:List Value) (ty:TypeId) (fr:Nat×Nat),w.heap[d.at_ k]? =some (.cells (vals++spare).toArray ty fr)∧(fr=(0,0)∨(vals++spare).length≤fr.1)∧Fv (L.den d) o.cells vals∧(o.row=false→spare=[])∧(vals++spare).length=d.size k
 inj: ∀ k k',(look S.mem k).isSome=true→(look S.mem k').isSome=true→k<gl0→k'<gl0→d.at_ k=d.at_ k'→k=k'
 own: ∀ k,(look S.mem k).isSome=true→k<gl0→(∀ o,d.ro (d.at_ k) o=none)∧(B.w0.heap.size≤d.at_ k∨(px0≤k∧B.may (d.at_ k)))
 ro: ∀ b o y,d.ro b o=some y→w.cell? ⟨b,o,none⟩=some y
 old: ∀ b o y,d.ro b o=some y→b<B.w0.heap.size→B.ro b o=some y
 os:w.os=B.w0.os
 tape:w.tape=B.w0.tape
 output:w.output=B.w0.output
 size:B.w0.heap.size≤w.heap.size
 block: ∀ b,b<B.w0.heap.size→¬B.may b→w.heap[b]? =B.w0.heap[b]?
 gat: ∀ k,gl0≤k→d.at_ k=k-gl0
 glob: ∀ k o,look S.mem k=some o→gl0≤k→(∃ l,o=⟨.m l,[]⟩)∨(d.size k=o.cells.length∧∃ cs:List PL,o.cells=cs.map L.pl∧PL.denAt d.ro (k-gl0) cs 0)
 fix: ∀ k o p,look S.mem k=some o→B.fx k=some p→k<gl0→(k<750000→d.at_ k=p.1∧d.size k=p.2)∧(d.at_ k=p.1∨B.w0.heap.size≤d.at_ k)
 fxn: ∀ k p,B.fx k=some p→px0≤k
 mp: ∀ b l,look S.mem (mp0+b)=some ⟨.m l,[]⟩→MapAt w b l
theorem Fv.length {α β:Type} {R:α→β→Prop} {l:List α} {m:List β} (h:Fv R l m):l.length=m.length:=by
 induction h with
 |nil=>rfl
 |cons _ _ ih=>simp [ih]
theorem Fv.get {α β:Type} {R:α→β→Prop} {l:List α} {m:List β} (h:Fv R l m): ∀ {i:Nat} {x:α},l[i]? =some x→∃ y,m[i]? =some y∧R x y:=by
 induction h with
 |nil=>intro i x hx;simp at hx
 |cons hr _ ih=>
  intro i x hx
  cases i with
  |zero=>simp at hx;subst hx;exact ⟨_,rfl,hr⟩
  |succ i=>simpa using ih (by simpa using hx)
theorem Fv.drop {α β:Type} {R:α→β→Prop} {l:List α} {m:List β} (h:Fv R l m): ∀ n,Fv R (l.drop n) (m.drop n):=by
 induction h with
 |nil=>intro n;simpa using Fv.nil
 |cons hr hs ih=>
  intro n
  cases n with
  |zero=>exact .cons hr hs
  |succ n=>simpa using ih n
theorem Fv.take {α β:Type} {R:α→β→Prop} {l:List α} {m:List β} (h:Fv R l m): ∀ n,Fv R (l.take n) (m.take n):=by
 induction h with
 |nil=>intro n;simpa using Fv.nil
 |cons hr hs ih=>
  intro n
  cases n with
  |zero=>exact .nil
  |succ n=>simpa using .cons hr (ih n)
theorem Fv.append {α β:Type} {R:α→β→Prop} {l l':List α} {m m':List β} (h:Fv R l m) (h':Fv R l' m'):Fv R (l++l') (m++m'):=by
 induction h with
 |nil=>exact h'
 |cons hr _ ih=>exact .cons hr ih
theorem Fv.win {α β:Type} {R:α→β→Prop} {l:List α} {m:List β} (h:Fv R l m) (o n:Nat):Fv R (win l o n) (win m o n):=(h.drop o).take n
theorem Fv.upd {α β:Type} {R:α→β→Prop} {l d:List α} {m e:List β} (h:Fv R l m) (h':Fv R d e) (o n:Nat):Fv R (upd l o n d) (upd m o n e):=
 ((h.take o).append h').append (h.drop (o+n))
theorem Fv.mono {α β:Type} {R R':α→β→Prop} {l:List α} {m:List β} (h:Fv R l m) (hr: ∀ x y,x∈l→R x y→R' x y):Fv R' l m:=by
 induction h with
 |nil=>exact .nil
 |cons h1 _ ih=>exact .cons (hr _ _ (by simp) h1) (ih fun x y hx=>hr x y (by simp [hx]))
theorem L.den_scalar {d:Va} {l:L} {y:Value} (h:l.den d y):Scalar y:=by
 cases l with
 |pl x=>
  cases x with
  |str s=>simp only [L.den,PL.den] at h;rw [h.1];exact ⟨fun _=>nofun,fun _=>nofun⟩
  |val x=>simp only [L.den,PL.den] at h;rw [h.1];exact h.2
  |R ex sz rows=>
   simp only [L.den,PL.den] at h
   rcases h with ⟨h,_⟩|⟨_,_,_,h,_⟩|⟨_,_,h,_⟩<;>(rw [h];exact ⟨fun _=>nofun,fun _=>nofun⟩)
  |q c p=>simp only [L.den,PL.den] at h;obtain ⟨_,_,h,_⟩:=h;rw [h];exact ⟨fun _=>nofun,fun _=>nofun⟩
  |u=>simpa only [L.den,PL.den] using h
  |_=>simp only [L.den,PL.den] at h;rw [h];exact ⟨fun _=>nofun,fun _=>nofun⟩
 |p k path=>simp only [L.den] at h;rw [h];exact ⟨fun _=>nofun,fun _=>nofun⟩
 |s k path len sz=>simp only [L.den] at h;obtain ⟨_,_,h,_⟩:=h;rw [h];exact ⟨fun _=>nofun,fun _=>nofun⟩
 |fn f caps=>simp only [L.den] at h;rw [h];exact ⟨fun _=>nofun,fun _=>nofun⟩
theorem Scalar.cells {y:Value} (h:Scalar y):y.cells= #[y]:=by
 cases y<;>first|rfl|exact absurd rfl (h.1 _)
def W.cells :W→List L
 | .one l=>[l]
 | .agg cs=>cs
theorem W.den_cells {d:Va} {x:W} {y:Value} (h:x.den d y):Fv (L.den d) x.cells y.cells.toList:=by
 cases x with
 |one l=>
  have:=(L.den_scalar h).cells
  rw [this]
  exact .cons h .nil
 |agg cs=>
  obtain ⟨vs,rfl,h⟩:=h
  exact h
def f0k :Value→Option L
 | .int k n=>match k with
  | .u8=>if 0≤n∧n<256 then some (.pl (.u8 (UInt8.ofNat n.toNat))) else none
  | .u32=>if 0≤n∧n<4294967296 then some (.pl (.u32 (UInt32.ofNat n.toNat))) else none
  | .u64=>if 0≤n∧n<18446744073709551616 then some (.pl (.u64 (UInt64.ofNat n.toNat))) else none
  | .i64=>some (.pl (.i n))
  |_=>none
 | .bool x=>some (.pl (.b x))
 | .string s=>if s.size≤65536 then some (.pl (.str s.data.toList)) else none
 | .slice a n c=>if a=none∧n=0∧c=0 then some (.pl (.R true 1 [])) else none
 | .func f a b=>match f with
  | .func f=>if a.isEmpty&&b.isEmpty then some (.fn f []) else none
  |_=>none
 | .nilFunc=>some (.pl (.val .nilFunc))
 | .pointer a=>if a=none then some (.pl (.val (.pointer none))) else none
 | .map a=>if a=none then some (.pl (.val (.map none))) else none
 |_=>none
theorem o0l :65536≤maxLen:=by decide
theorem u0y {d : Va} {c : Value} {x : L} (h : f0k c = some x) : x.den d c := by
  cases c with
  | int k n =>
    simp only [f0k] at h
    cases k <;> simp only at h <;> first
      | (cases h; done)
      | (cases h; rfl)
      | (split at h <;> first
          | (cases h; done)
          | (cases h; simp only [L.den, PL.den]; congr 1
             first | (simp [UInt8.toNat_ofNat']; omega) | (simp [UInt32.toNat_ofNat']; omega) | (simp [UInt64.toNat_ofNat']; omega)))
  | bool b => simp only [f0k, Option.some.injEq] at h; subst h; simp only [L.den, PL.den]
  | string s =>
    simp only [f0k] at h
    split at h
    · simp only [Option.some.injEq] at h; subst h
      rw [L.den, PL.den]
      refine ⟨by simp, ?_⟩
      have : s.data.toList.length = s.size := Array.length_toList
      rw [this]; exact Nat.le_trans (by assumption) o0l
    · cases h
  | slice a n c =>
    simp only [f0k] at h
    split at h
    · rename_i hc; obtain ⟨rfl, rfl, rfl⟩ := hc
      simp only [Option.some.injEq] at h; subst h
      rw [L.den, PL.den]; left; exact ⟨rfl, rfl⟩
    · cases h
  | func f a b =>
    simp only [f0k] at h
    cases f <;> simp only at h <;> try (cases h; done)
    split at h
    · rename_i hc
      simp only [Bool.and_eq_true, Array.isEmpty_iff] at hc
      obtain ⟨rfl, rfl⟩ := hc
      simp only [Option.some.injEq] at h; subst h
      simp [L.den]
    · cases h
  | nilFunc => simp only [f0k, Option.some.injEq] at h; subst h; simp only [L.den, PL.den]; first | exact ⟨rfl, fun _ => nofun, fun _ => nofun⟩ | exact ⟨trivial, fun _ => nofun, fun _ => nofun⟩
  | pointer a =>
    simp only [f0k] at h
    split at h
    · rename_i hc; subst hc
      simp only [Option.some.injEq] at h; subst h
      simp only [L.den, PL.den]; first | exact ⟨rfl, fun _ => nofun, fun _ => nofun⟩ | exact ⟨trivial, fun _ => nofun, fun _ => nofun⟩
    · cases h
  | map a =>
    simp only [f0k] at h
    split at h
    · rename_i hc; subst hc
      simp only [Option.some.injEq] at h; subst h
      simp only [L.den, PL.den]; first | exact ⟨rfl, fun _ => nofun, fun _ => nofun⟩ | exact ⟨trivial, fun _ => nofun, fun _ => nofun⟩
    · cases h
  | _ => simp [f0k] at h
def Ny :List Value→Option (List L)
 | []=>some []
 |c::cs=>match f0k c,Ny cs with
  |some x,some xs=>some (x::xs)
  |_,_=>none
theorem Vj {d:Va}: ∀ {cs:List Value} {xs:List L},Ny cs=some xs→Fv (L.den d) xs cs
 | [],xs,h=>by simp only [Ny,Option.some.injEq] at h;subst h;exact .nil
 |c::cs,xs,h=>by
  simp only [Ny] at h
  cases h1:f0k c with
  |none=>simp [h1] at h
  |some x=>
   cases h2:Ny cs with
   |none=>simp [h1,h2] at h
   |some ys=>simp only [h1,h2,Option.some.injEq] at h;subst h;exact .cons (u0y h1) (Vj h2)
def lit :Value→Option W
 | .agg cs=>(Ny cs.toList).map .agg
 |c=>(f0k c).map .one
theorem n1r {d:Va} {c:Value} {x:W} (h:lit c=some x):x.den d c:=by
 unfold lit at h
 split at h
 ·rename_i cs
  cases h2:Ny cs.toList with
  |none=>simp [h2] at h
  |some ys=>simp only [h2,Option.map_some,Option.some.injEq] at h;subst h;exact ⟨cs,rfl,Vj h2⟩
 ·cases h2:f0k c with
  |none=>simp [h2] at h
  |some ys=>simp only [h2,Option.map_some,Option.some.injEq] at h;subst h;exact u0y h2
def St.get (S:St):Operand→Option V
 | .tmp t=>look S.env t
 | .const c=>(lit c).map .w
 | .func f=>some (.w (.one (.fn f [])))
 | .global g=>some (.w (.one (.p (gl0+g) [])))
theorem Sim.get {B:Base} {d:Va} {S:St} {a:Act} {w:World} (h:Sim B d S a w) {x:Operand} {v:V} (hv:S.get x=some v):v.den d (a.eval x):=by
 cases x with
 |tmp t=>
  obtain ⟨y,hy,hd⟩:=h.env t v hv
  have:a.eval (.tmp t)=y:=by simp [Act.eval,Array.getD_eq_getD_getElem?,hy]
  rw [this];exact hd
 |const c=>
  simp only [St.get] at hv
  cases hl:lit c with
  |none=>simp [hl] at hv
  |some x=>simp only [hl,Option.map_some,Option.some.injEq] at hv;subst hv;exact n1r hl
 |func f=>
  simp only [St.get,Option.some.injEq] at hv;subst hv
  show W.den d (.one (.fn f [])) _
  simp [W.den,L.den,Act.eval]
 |global g=>
  simp only [St.get,Option.some.injEq] at hv;subst hv
  show Act.eval a (.global g)=_
  simp only [Act.eval,Qy]
  rw [h.gat _ (Nat.le_add_right _ _)]
  simp
end Go.Sy
namespace Go.Sy
open Go.RowKit (wrap64)
def v1c (x:UInt8) (c:Nat):UInt8:=UInt8.ofNat (x.toNat*2 ^ c)
def q1l (x:UInt32) (c:Nat):UInt32:=UInt32.ofNat (x.toNat*2 ^ c)
def q1k (x:UInt64) (c:Nat):UInt64:=UInt64.ofNat (x.toNat*2 ^ c)
def v1b (x:UInt8) (c:Nat):UInt8:=UInt8.ofNat (x.toNat/2 ^ c)
def q1j (x:UInt32) (c:Nat):UInt32:=UInt32.ofNat (x.toNat/2 ^ c)
def q1i (x:UInt64) (c:Nat):UInt64:=UInt64.ofNat (x.toNat/2 ^ c)
def v1j (x:Int) (c:Nat):Int:=wrap64 (x*2 ^ (min c 64))
def v1i (x:Int) (c:Nat):Int:=x.fdiv (2 ^ (min c 64))
def v1k (x y:Int):Int:=wrap64 ((BitVec.ofInt 64 x&&&BitVec.ofInt 64 y).toNat)
def ior (x y:Int):Int:=wrap64 ((BitVec.ofInt 64 x|||BitVec.ofInt 64 y).toNat)
def t1t (x y:Int):Int:=wrap64 ((BitVec.ofInt 64 x^^^BitVec.ofInt 64 y).toNat)
def b1v (x y:Int):Int:=wrap64 ((BitVec.ofInt 64 x&&&~~~ BitVec.ofInt 64 y).toNat)
def PL.num :PL→Option Int
 | .u8 x=>some x.toNat
 | .u32 x=>some x.toNat
 | .u64 x=>some x.toNat
 | .i n=>some n
 |_=>none
def PL.kind :PL→IntKind
 | .u8 _=>.u8
 | .u32 _=>.u32
 | .u64 _=>.u64
 |_=>.i64
theorem PL.num_den {ro:Ro} {x:PL} {n:Int} {y:Value} (h:x.num=some n) (hd:x.den ro y):y=.int x.kind n:=by
 cases x<;>simp only [PL.num,Option.some.injEq] at h<;>first
  |(cases h;done)
  |(subst h;rw [PL.den] at hd;rw [hd];rfl)
def o0m (op:BinOp) (x:PL) (c:Int):Option PL:=
 if 0≤c then
  match op,x with
  | .shl,.u8 x=>some (.u8 (v1c x c.toNat))
  | .shl,.u32 x=>some (.u32 (q1l x c.toNat))
  | .shl,.u64 x=>some (.u64 (q1k x c.toNat))
  | .shl,.i x=>some (.i (v1j x c.toNat))
  | .shr,.u8 x=>some (.u8 (v1b x c.toNat))
  | .shr,.u32 x=>some (.u32 (q1j x c.toNat))
  | .shr,.u64 x=>some (.u64 (q1i x c.toNat))
  | .shr,.i x=>some (.i (v1i x c.toNat))
  |_,_=>none
 else none
theorem wrap_u8 (n:Int):IntKind.u8.wrap n=n%256:=by simp [IntKind.wrap,IntKind.bits,IntKind.signed]
theorem wrap_u32 (n:Int):IntKind.u32.wrap n=n%4294967296:=by simp [IntKind.wrap,IntKind.bits,IntKind.signed]
theorem wrap_u64 (n:Int):IntKind.u64.wrap n=n%18446744073709551616:=by simp [IntKind.wrap,IntKind.bits,IntKind.signed]
theorem i1t (x m:Nat):(x:Int).fdiv (m:Int)=((x/m:Nat):Int):=by
 rw [Int.fdiv_eq_ediv_of_nonneg _ (by omega)];rfl
theorem f1p (n:Nat):(2:Int) ^ n=((2 ^ n:Nat):Int):=by simp
theorem d0k (x b n:Nat):(x*2 ^ (min n b))%2 ^ b=(x*2 ^ n)%2 ^ b:=by
 by_cases h:n≤b
 ·rw [Nat.min_eq_left h]
 ·rw [Nat.min_eq_right (by omega)]
  obtain ⟨k,rfl⟩:=Nat.exists_eq_add_of_le (Nat.le_of_not_le h)
  rw [Nat.pow_add,←Nat.mul_assoc,Nat.mul_right_comm,Nat.mul_mod_left,Nat.mul_mod_left]
theorem d0r (x b n:Nat) (hx:x<2 ^ b):x/2 ^ (min n b)=x/2 ^ n:=by
 by_cases h:n≤b
 ·rw [Nat.min_eq_left h]
 ·rw [Nat.min_eq_right (by omega),Nat.div_eq_of_lt hx,Nat.div_eq_of_lt]
  exact Nat.lt_of_lt_of_le hx (Nat.pow_le_pow_right (by omega) (by omega))
theorem div_lt (x m b:Nat) (hx:x<b):x/m<b:=Nat.lt_of_le_of_lt (Nat.div_le_self _ _) hx
def PL.mk :PL→Value
 | .u8 x=>.int .u8 x.toNat
 | .u32 x=>.int .u32 x.toNat
 | .u64 x=>.int .u64 x.toNat
 | .i n=>.int .i64 n
 | .b x=>.bool x
 | .str s=>.string ⟨s.toArray⟩
 |_=>.nilIface
theorem y0s {P:Program} {op:BinOp} {x z:PL} {c:Int} {yk:IntKind} (h:o0m op x c=some z) (ro:Ro) (w:World):
  ∃ n,x.num=some n∧(Op.shift op x.kind n yk c).run P w=.ok z.mk w∧z.den ro z.mk:=by
 unfold o0m at h
 split at h
 case isFalse=>cases h
 rename_i hc
 have hc':¬c<0:=by omega
 split at h<;>cases h<;>refine ⟨_,rfl,?_,by rw [PL.den];rfl⟩
 all_goals simp only [Op.shift,PL.kind,hc',if_false,PL.mk,Sem.run_pure]
 all_goals simp only [IntKind.bits,f1p,←Int.natCast_mul,wrap_u8,wrap_u32,wrap_u64,i1t,v1c,q1l,q1k,v1b,q1j,q1i,v1j,v1i,IntWalk.i64_left,
  UInt8.toNat_ofNat',UInt32.toNat_ofNat',UInt64.toNat_ofNat']
 ·rename_i x;congr 2;have:=d0k x.toNat 8 c.toNat;omega
 ·rename_i x;congr 2;have:=d0k x.toNat 32 c.toNat;omega
 ·rename_i x;congr 2;have:=d0k x.toNat 64 c.toNat;omega
 ·rename_i x;congr 2;have h:=x.toNat_lt;have h2:=div_lt x.toNat (2 ^ c.toNat) _ h;rw [d0r x.toNat 8 c.toNat h,Nat.mod_eq_of_lt h2]
 ·rename_i x;congr 2;have h:=x.toNat_lt;have h2:=div_lt x.toNat (2 ^ c.toNat) _ h;rw [d0r x.toNat 32 c.toNat h,Nat.mod_eq_of_lt h2]
 ·rename_i x;congr 2;have h:=x.toNat_lt;have h2:=div_lt x.toNat (2 ^ c.toNat) _ h;rw [d0r x.toNat 64 c.toNat h,Nat.mod_eq_of_lt h2]
def k0h (op:BinOp) (x y:PL):Option PL:=
 match op,x,y with
 | .add,.u8 x,.u8 y=>some (.u8 (x+y))
 | .add,.u32 x,.u32 y=>some (.u32 (x+y))
 | .add,.u64 x,.u64 y=>some (.u64 (x+y))
 | .add,.i x,.i y=>some (.i (wrap64 (x+y)))
 | .sub,.u8 x,.u8 y=>some (.u8 (x-y))
 | .sub,.u32 x,.u32 y=>some (.u32 (x-y))
 | .sub,.u64 x,.u64 y=>some (.u64 (x-y))
 | .sub,.i x,.i y=>some (.i (wrap64 (x-y)))
 | .mul,.u8 x,.u8 y=>some (.u8 (x*y))
 | .mul,.u32 x,.u32 y=>some (.u32 (x*y))
 | .mul,.u64 x,.u64 y=>some (.u64 (x*y))
 | .mul,.i x,.i y=>some (.i (wrap64 (x*y)))
 | .quo,.u8 x,.u8 y=>if y=0 then none else some (.u8 (x/y))
 | .quo,.u32 x,.u32 y=>if y=0 then none else some (.u32 (x/y))
 | .quo,.u64 x,.u64 y=>if y=0 then none else some (.u64 (x/y))
 | .quo,.i x,.i y=>if y=0 then none else some (.i (wrap64 (x.tdiv y)))
 | .rem,.u8 x,.u8 y=>if y=0 then none else some (.u8 (x%y))
 | .rem,.u32 x,.u32 y=>if y=0 then none else some (.u32 (x%y))
 | .rem,.u64 x,.u64 y=>if y=0 then none else some (.u64 (x%y))
 | .rem,.i x,.i y=>if y=0 then none else some (.i (x.tmod y))
 | .and,.u8 x,.u8 y=>some (.u8 (x&&&y))
 | .and,.u32 x,.u32 y=>some (.u32 (x&&&y))
 | .and,.u64 x,.u64 y=>some (.u64 (x&&&y))
 | .and,.i x,.i y=>some (.i (v1k x y))
 | .or,.u8 x,.u8 y=>some (.u8 (x|||y))
 | .or,.u32 x,.u32 y=>some (.u32 (x|||y))
 | .or,.u64 x,.u64 y=>some (.u64 (x|||y))
 | .or,.i x,.i y=>some (.i (ior x y))
 | .xor,.u8 x,.u8 y=>some (.u8 (x^^^y))
 | .xor,.u32 x,.u32 y=>some (.u32 (x^^^y))
 | .xor,.u64 x,.u64 y=>some (.u64 (x^^^y))
 | .xor,.i x,.i y=>some (.i (t1t x y))
 | .andNot,.u8 x,.u8 y=>some (.u8 (x&&&~~~y))
 | .andNot,.u32 x,.u32 y=>some (.u32 (x&&&~~~y))
 | .andNot,.u64 x,.u64 y=>some (.u64 (x&&&~~~y))
 | .andNot,.i x,.i y=>some (.i (b1v x y))
 | .eql,.u8 x,.u8 y=>some (.b (decide (x=y)))
 | .eql,.u32 x,.u32 y=>some (.b (decide (x=y)))
 | .eql,.u64 x,.u64 y=>some (.b (decide (x=y)))
 | .eql,.i x,.i y=>some (.b (decide (x=y)))
 | .neq,.u8 x,.u8 y=>some (.b (!decide (x=y)))
 | .neq,.u32 x,.u32 y=>some (.b (!decide (x=y)))
 | .neq,.u64 x,.u64 y=>some (.b (!decide (x=y)))
 | .neq,.i x,.i y=>some (.b (!decide (x=y)))
 | .lss,.u8 x,.u8 y=>some (.b (decide (x<y)))
 | .lss,.u32 x,.u32 y=>some (.b (decide (x<y)))
 | .lss,.u64 x,.u64 y=>some (.b (decide (x<y)))
 | .lss,.i x,.i y=>some (.b (decide (x<y)))
 | .leq,.u8 x,.u8 y=>some (.b (decide (x≤y)))
 | .leq,.u32 x,.u32 y=>some (.b (decide (x≤y)))
 | .leq,.u64 x,.u64 y=>some (.b (decide (x≤y)))
 | .leq,.i x,.i y=>some (.b (decide (x≤y)))
 | .gtr,.u8 x,.u8 y=>some (.b (decide (y<x)))
 | .gtr,.u32 x,.u32 y=>some (.b (decide (y<x)))
 | .gtr,.u64 x,.u64 y=>some (.b (decide (y<x)))
 | .gtr,.i x,.i y=>some (.b (decide (y<x)))
 | .geq,.u8 x,.u8 y=>some (.b (decide (y≤x)))
 | .geq,.u32 x,.u32 y=>some (.b (decide (y≤x)))
 | .geq,.u64 x,.u64 y=>some (.b (decide (y≤x)))
 | .geq,.i x,.i y=>some (.b (decide (y≤x)))
 |_,_,_=>none
theorem bv8 (x:UInt8):BitVec.ofInt 8 (x.toNat:Int)=x.toBitVec:=by rw [BitVec.ofInt_natCast];exact BitVec.ofNat_toNat _ _
theorem v1m (x:UInt32):BitVec.ofInt 32 (x.toNat:Int)=x.toBitVec:=by rw [BitVec.ofInt_natCast];exact BitVec.ofNat_toNat _ _
theorem v1l (x:UInt64):BitVec.ofInt 64 (x.toNat:Int)=x.toBitVec:=by rw [BitVec.ofInt_natCast];exact BitVec.ofNat_toNat _ _
theorem t1z {y:UInt8} (h:¬y=0):¬(y.toNat:Int)=0:=fun e=>h (UInt8.toNat_inj.1 (by simpa using e))
theorem q1a {y:UInt32} (h:¬y=0):¬(y.toNat:Int)=0:=fun e=>h (UInt32.toNat_inj.1 (by simpa using e))
theorem p1z {y:UInt64} (h:¬y=0):¬(y.toNat:Int)=0:=fun e=>h (UInt64.toNat_inj.1 (by simpa using e))
theorem u1c (x y:UInt8):((x.toNat:Int)-(y.toNat:Int))%256=((x-y).toNat:Int):=by
 have h1:=x.toNat_lt;have h2:=y.toNat_lt
 rw [UInt8.toNat_sub];omega
theorem u1i (x y:UInt8):((x.toNat:Int).tdiv (y.toNat:Int))%256=((x/y).toNat:Int):=by
 have h1:=x.toNat_lt
 have h2:=div_lt x.toNat y.toNat _ h1
 rw [UInt8.toNat_div,Int.tdiv_eq_ediv_of_nonneg (by omega),←Int.natCast_ediv]
 generalize x.toNat/y.toNat=z at*;omega
theorem u1g (x y:UInt8):((x.toNat:Int).tmod (y.toNat:Int))=((x%y).toNat:Int):=by
 rw [UInt8.toNat_mod,Int.tmod_eq_emod_of_nonneg (by omega),←Int.natCast_emod]
theorem u1z (x:BitVec 8):((x.toNat:Nat):Int)%256=(((UInt8.ofBitVec x).toNat:Nat):Int):=by
 have h:=x.isLt
 show ((x.toNat:Nat):Int)%256=((x.toNat:Nat):Int);omega
theorem q1h (x y:UInt32):((x.toNat:Int)-(y.toNat:Int))%4294967296=((x-y).toNat:Int):=by
 have h1:=x.toNat_lt;have h2:=y.toNat_lt
 rw [UInt32.toNat_sub];omega
theorem r1d (x y:UInt32):((x.toNat:Int).tdiv (y.toNat:Int))%4294967296=((x/y).toNat:Int):=by
 have h1:=x.toNat_lt
 have h2:=div_lt x.toNat y.toNat _ h1
 rw [UInt32.toNat_div,Int.tdiv_eq_ediv_of_nonneg (by omega),←Int.natCast_ediv]
 generalize x.toNat/y.toNat=z at*;omega
theorem q1x (x y:UInt32):((x.toNat:Int).tmod (y.toNat:Int))=((x%y).toNat:Int):=by
 rw [UInt32.toNat_mod,Int.tmod_eq_emod_of_nonneg (by omega),←Int.natCast_emod]
theorem k1y (x:BitVec 32):((x.toNat:Nat):Int)%4294967296=(((UInt32.ofBitVec x).toNat:Nat):Int):=by
 have h:=x.isLt
 show ((x.toNat:Nat):Int)%4294967296=((x.toNat:Nat):Int);omega
theorem k1c (x y:UInt64):((x.toNat:Int)-(y.toNat:Int))%18446744073709551616=((x-y).toNat:Int):=by
 have h1:=x.toNat_lt;have h2:=y.toNat_lt
 rw [UInt64.toNat_sub];omega
theorem r1c (x y:UInt64):((x.toNat:Int).tdiv (y.toNat:Int))%18446744073709551616=((x/y).toNat:Int):=by
 have h1:=x.toNat_lt
 have h2:=div_lt x.toNat y.toNat _ h1
 rw [UInt64.toNat_div,Int.tdiv_eq_ediv_of_nonneg (by omega),←Int.natCast_ediv]
 generalize x.toNat/y.toNat=z at*;omega
theorem q1w (x y:UInt64):((x.toNat:Int).tmod (y.toNat:Int))=((x%y).toNat:Int):=by
 rw [UInt64.toNat_mod,Int.tmod_eq_emod_of_nonneg (by omega),←Int.natCast_emod]
theorem k1x (x:BitVec 64):((x.toNat:Nat):Int)%18446744073709551616=(((UInt64.ofBitVec x).toNat:Nat):Int):=by
 have h:=x.isLt
 show ((x.toNat:Nat):Int)%18446744073709551616=((x.toNat:Nat):Int);omega
theorem e1g {P:Program} {op:BinOp} {x y z:PL} (h:k0h op x y=some z) (ro:Ro) (w:World) (t:TypeId):
  (binOp op t x.mk y.mk).run P w=.ok z.mk w∧z.den ro z.mk∧(∃ n,x.num=some n)∧(∃ n,y.num=some n)∧x.kind=y.kind:=by
 unfold k0h at h
 split at h<;>first
  |(cases h;done)
  |(cases h;refine ⟨?_,by rw [PL.den];rfl,⟨_,rfl⟩,⟨_,rfl⟩,rfl⟩)
  |(split at h<;>first
    |(cases h;done)
    |(rename_i hz;cases h;refine ⟨?_,by rw [PL.den];rfl,⟨_,rfl⟩,⟨_,rfl⟩,rfl⟩))
 all_goals simp only [binOp,PL.mk,Op.intArith,Op.intDiv,Op.intBits,Op.intCmp,Sem.run_pure,ne_eq,not_true,if_false,IntKind.bits,IntWalk.i64_left,wrap_u8,wrap_u32,wrap_u64,bv8,v1m,v1l]
 all_goals try rw [if_neg (t1z ‹_›)]
 all_goals try rw [if_neg (q1a ‹_›)]
 all_goals try rw [if_neg (p1z ‹_›)]
 all_goals try rw [if_neg ‹_›]
 all_goals try simp only [Sem.run_pure,u1c,q1h,k1c,u1i,r1d,r1c,u1g,q1x,q1w,u1z,k1y,k1x]
 all_goals first
  |rfl
  |(congr 2;simp [UInt8.toNat_add,UInt32.toNat_add,UInt64.toNat_add];done)
  |(congr 2;simp [UInt8.toNat_add,UInt32.toNat_add,UInt64.toNat_add,UInt8.toNat_mul,UInt32.toNat_mul,UInt64.toNat_mul,UInt8.toNat_sub,UInt32.toNat_sub,UInt64.toNat_sub];omega)
  |(congr 2;rw [Bool.eq_iff_iff];simp [UInt8.toNat_inj,UInt32.toNat_inj,UInt64.toNat_inj,UInt8.lt_iff_toNat_lt,UInt32.lt_iff_toNat_lt,UInt64.lt_iff_toNat_lt,UInt8.le_iff_toNat_le,UInt32.le_iff_toNat_le,UInt64.le_iff_toNat_le,Int.natCast_inj];done)
  |(congr 2;rw [Bool.eq_iff_iff];simp;rw [Int.natCast_inj,UInt8.toNat_inj])
  |(congr 2;rw [Bool.eq_iff_iff];simp;rw [Int.natCast_inj,UInt32.toNat_inj])
  |(congr 2;rw [Bool.eq_iff_iff];simp;rw [Int.natCast_inj,UInt64.toNat_inj])
end Go.Sy
namespace Go.Sy
def Jy (w:World) (b o:Nat) (vals:List Value):Prop:=∀ (j:Nat) v,vals[j]? =some v→w.cell? ⟨b,o+j,none⟩=some v
theorem Jy.win {w:World} {b o:Nat} {vals:List Value} (h:Jy w b o vals) (p n:Nat):Jy w b (o+p) (win vals p n):=by
 intro j v hv
 rw [Go.Sy.win,List.getElem?_take] at hv
 split at hv
 ·rw [List.getElem?_drop] at hv
  have:=h (p+j) v hv
  rwa [Nat.add_assoc]
 ·cases hv
theorem j0z {w:World} {b:Nat} {vals:List Value} {ty:TypeId} {fr:Nat×Nat} (h:w.heap[b]? =some (.cells vals.toArray ty fr)):Jy w b 0 vals:=by
 intro j v hv
 rw [cell_of_row w b (0+j) _ ty fr h]
 simpa using hv
theorem Fv.map_left {α β γ:Type} {R:α→β→Prop} {f:γ→α} {l:List γ} {m:List β} (h:Fv (fun x y=>R (f x) y) l m):Fv R (l.map f) m:=by
 induction h with
 |nil=>exact .nil
 |cons h1 _ ih=>exact .cons h1 ih
def pls (c:List PL):List L:=c.map L.pl
theorem g0j {d:Va} {blk:Nat} {w:World} (hro: ∀ b o y,d.ro b o=some y→w.cell? ⟨b,o,none⟩=some y):
  ∀ {cells:List PL} {off:Nat},PL.denAt d.ro blk cells off→∃ vals:List Value,Fv (L.den d) (pls cells) vals∧Jy w blk off vals
 | [],off,_=>⟨[],.nil,fun j v hv=>by simp at hv⟩
 |c::cs,off,h=>by
  rw [PL.denAt] at h
  obtain ⟨⟨y,hy,hd⟩,h⟩:=h
  obtain ⟨vals,h2,h3⟩:=g0j hro h
  refine ⟨y::vals,.cons (by rw [L.den];exact hd) h2,fun j v hv=>?_⟩
  cases j with
  |zero=>simp at hv;subst hv;exact hro _ _ _ hy
  |succ j=>have:=h3 j v (by simpa using hv);rw [show off+(j+1)=off+1+j from by omega];exact this
def mkW (P:Program) (t:TypeId) (cells:List L):Option W:=
 match P.underlying t with
 |some (.struct _)|some (.array _ _)=>some (.agg cells)
 |some _=>match cells with
  | [l]=>some (.one l)
  |_=>none
 |none=>none
theorem addr_add (b o n:Nat):(⟨b,o,none⟩:Addr).add n=⟨b,o+n,none⟩:=by
 unfold Addr.add;split
 ·rename_i h;rw [h,Nat.add_zero]
 ·rfl
theorem e0s {P:Program} {t:TypeId} (h:P.cellsOf t≠0): ∃ i,P.info? t=some i∧i.size=P.cellsOf t:=by
 unfold Program.cellsOf at*
 cases hi:P.info? t with
 |none=>simp [hi] at h
 |some i=>exact ⟨i,rfl,rfl⟩
theorem Ky {P:Program} {t:TypeId} (h:P.cellsOf t≠0) (w:World):(sizeOf t).run P w=.ok (P.cellsOf t) w:=by
 obtain ⟨i,hi,_⟩:=e0s h
 exact run_sizeOf w hi
theorem a1w {P:Program} {t:TypeId} {cells:List L} {x:W} (h:mkW P t cells=some x) (w:World):
  (x=.agg cells∧(isAgg t).run P w=.ok true w)∨(∃ l,cells=[l]∧x=.one l∧(isAgg t).run P w=.ok false w):=by
 unfold mkW at h
 split at h
 ·rename_i fs hu;cases h;left;refine ⟨rfl,?_⟩;unfold isAgg;rw [Sem.run_bind,run_underlying hu w];rfl
 ·rename_i n e hu;cases h;left;refine ⟨rfl,?_⟩;unfold isAgg;rw [Sem.run_bind,run_underlying hu w];rfl
 ·rename_i dd h1 h2 hu
  split at h
  ·rename_i l;cases h;right;refine ⟨l,rfl,rfl,?_⟩;unfold isAgg;rw [Sem.run_bind,run_underlying hu w]
   cases dd<;>first|rfl|(exact (h1 _ rfl).elim)|(exact (h2 _ _ rfl).elim)
  ·cases h
 ·cases h
theorem i0q {P:Program} {t:TypeId} {w:World} {b o:Nat} {vals:List Value} {d:Va} {cells:List L} {x:W}
  (hc:Jy w b o vals) (hn:vals.length=P.cellsOf t) (h0:P.cellsOf t≠0) (hx:mkW P t cells=some x) (hd:Fv (L.den d) cells vals):
  ∃ y,(loadVar t ⟨b,o,none⟩).run P w=.ok y w∧x.den d y:=by
 rcases a1w hx w with ⟨rfl,ha⟩|⟨l,rfl,rfl,ha⟩
 ·have hl:=run_loadCells_list (P:=P) w ⟨b,o,none⟩ vals (fun j v hv=>by rw [addr_add];exact hc j v hv)
  rw [hn] at hl
  refine ⟨.agg vals.toArray,?_,⟨_,rfl,by simpa using hd⟩⟩
  simp [loadVar,ha,Ky h0 w,hl]
 ·cases hd with
  |cons h1 h2=>
   cases h2
   rename_i y
   have:=hc 0 y rfl
   refine ⟨y,?_,h1⟩
   simp only [Nat.add_zero] at this
   simp [loadVar,ha,this]
instance pokDec (N:Nat): ∀ p,Decidable (pok N p)
 | []=>.isTrue trivial
 |x::p=>match pokDec N p with
  | .isTrue h=>if h2:x.1+x.2≤psz N p then .isTrue ⟨h,h2⟩ else .isFalse fun h3=>h2 h3.2
  | .isFalse h=>.isFalse fun h3=>h h3.1
def h0f (P:Program) (S:St) (t:TypeId):V→Option V
 | .w (.one (.p k path))=>match look S.mem k with
  |some o=>if pok o.cells.length path∧psz o.cells.length path=P.cellsOf t∧P.cellsOf t≠0 then (mkW P t (rd o.cells path)).map .w else none
  |none=>none
 | .w (.one (.pl (.q cells path)))=>if pok cells.length path∧psz cells.length path=P.cellsOf t∧P.cellsOf t≠0 then (mkW P t (pls (rd cells path))).map .w else none
 |_=>none
theorem v0q {α:Type} (c c':List α) (o n:Nat) (h:o+n≤c.length):win (c++c') o n=win c o n:=by
 unfold win
 rw [List.drop_append_of_le_length (by omega),List.take_append_of_le_length (by simp;omega)]
theorem u0o {α β:Type} (f:α→β) (c:List α): ∀ p,rd (c.map f) p=(rd c p).map f
 | []=>rfl
 |x::p=>by rw [rd,rd,u0o f c p];simp [win]
theorem Yz (c:List PL):(pls c).length=c.length:=by simp [pls]
theorem p0c {d:Va} {blk off:Nat} {w:World} (hro: ∀ b o y,d.ro b o=some y→w.cell? ⟨b,o,none⟩=some y) {cells:List PL} {path:Path} (hp:pok cells.length path) (h:PL.denAt d.ro blk cells off):
  ∃ vals,Fv (L.den d) (pls (rd cells path)) vals∧Jy w blk (off+Qy path) vals∧vals.length=psz cells.length path:=by
 obtain ⟨vals,hd,hc⟩:=g0j hro h
 have hl:=hd.length
 rw [Yz] at hl
 have hle:=e0i hp
 refine ⟨win vals (Qy path) (psz cells.length path),?_,hc.win _ _,Ry _ _ _ (by omega)⟩
 have e:pls (rd cells path)=win (pls cells) (Qy path) (psz cells.length path):=by
  unfold pls;rw [←u0o,w0j _ (by simpa using hp)];simp
 rw [e];exact hd.win _ _
theorem Sim.readObj {B:Base} {d:Va} {S:St} {a:Act} {w:World} (h:Sim B d S a w) {k:Nat} {o:Ob} (hk:look S.mem k=some o) {path:Path} (hp:pok o.cells.length path):
  ∃ vals,Fv (L.den d) (rd o.cells path) vals∧Jy w (d.at_ k) (Qy path) vals∧vals.length=psz o.cells.length path:=by
 rcases Nat.lt_or_ge k gl0 with hkl|hkg
 case inr=>
  rcases h.glob k o hk hkg with ⟨l,rfl⟩|⟨_,cs,hcs,hat⟩
  ·have hz:psz 0 path=0:=by have:=e0i hp;simp only [List.length_nil] at this;omega
   exact ⟨[],by rw [w0j _ hp];simp only [win,List.drop_nil,List.take_nil];exact .nil,fun j v hv=>(by simp at hv),by simp only [List.length_nil];exact hz.symm⟩
  rw [h.gat k hkg]
  have hpc:pok cs.length path:=by rw [hcs,List.length_map] at hp;exact hp
  obtain ⟨vals,hv,hc,hl⟩:=p0c (d:=d) h.ro hpc hat
  rw [Nat.zero_add] at hc
  exact ⟨vals,by rw [hcs,u0o];exact hv,hc,by rw [hcs,List.length_map];exact hl⟩
 obtain ⟨vals,spare,ty,fr,hh,_,hd,_,_⟩:=h.mem k o hk hkl
 have hl:=hd.length
 have hle:=e0i hp
 refine ⟨win vals (Qy path) (psz o.cells.length path),?_,?_,?_⟩
 ·rw [w0j _ hp];exact hd.win _ _
 ·have:=(j0z hh).win (Qy path) (psz o.cells.length path)
  rwa [Nat.zero_add,v0q _ _ _ _ (by omega)] at this
 ·exact Ry _ _ _ (by omega)
theorem Sim.sizes {B:Base} {d:Va} {S:St} {a:Act} {w:World} (h:Sim B d S a w) {k:Nat} {o:Ob} (hk:look S.mem k=some o): ∃ vals spare:List Value,o.cells.length=vals.length∧(vals++spare).length=d.size k:=by
 rcases Nat.lt_or_ge k gl0 with hkl|hkg
 ·obtain ⟨vals,spare,ty,fr,_,_,hd,_,hlen⟩:=h.mem k o hk hkl
  exact ⟨vals,spare,hd.length,hlen⟩
 ·rcases h.glob k o hk hkg with ⟨l,rfl⟩|⟨hs,_⟩
  ·exact ⟨[],List.replicate (d.size k) undef,rfl,by simp⟩
  exact ⟨List.replicate o.cells.length undef,[],by simp,by simp [hs]⟩
theorem u0w {P:Program} {B:Base} {d:Va} {S:St} {a:Act} {w:World} (h:Sim B d S a w) {t:TypeId} {x v:V} {y:Value} (hv:h0f P S t x=some v) (hx:x.den d y):
  ∃ z,(Instr.loadAt t y).run P w=.ok z w∧v.den d z:=by
 unfold h0f at hv
 split at hv
 ·rename_i k path
  split at hv
  ·rename_i o hk
   split at hv
   ·rename_i hc
    obtain ⟨hp,hs,h0⟩:=hc
    obtain ⟨vals,hd,hcell,hlen⟩:=h.readObj hk hp
    cases hm:mkW P t (rd o.cells path) with
    |none=>simp [hm] at hv
    |some W=>
     simp only [hm,Option.map_some,Option.some.injEq] at hv;subst hv
     obtain ⟨z,hz,hzd⟩:=i0q hcell (by rw [hlen,hs]) h0 hm hd
     change y=_ at hx;subst hx
     exact ⟨z,by simpa [Instr.loadAt,Instr.sureAddr] using hz,hzd⟩
   ·cases hv
  ·cases hv
 ·rename_i cells path
  split at hv
  ·rename_i hc
   obtain ⟨hp,hs,h0⟩:=hc
   change PL.den d.ro (.q cells path) y at hx
   rw [PL.den] at hx
   obtain ⟨blk,off,rfl,hat⟩:=hx
   obtain ⟨vals,hd,hcell,hlen⟩:=p0c h.ro hp hat
   cases hm:mkW P t (pls (rd cells path)) with
   |none=>simp [hm] at hv
   |some W=>
    simp only [hm,Option.map_some,Option.some.injEq] at hv;subst hv
    obtain ⟨z,hz,hzd⟩:=i0q hcell (by rw [hlen,hs]) h0 hm hd
    exact ⟨z,by simpa [Instr.loadAt,Instr.sureAddr] using hz,hzd⟩
  ·cases hv
 ·cases hv
def g0y (P:Program) (t f:Nat) (x:V):Option V:=
 match P.underlying t with
 |some (.struct fs)=>match fs[f]? with
  |some fd=>if P.cellsOf fd.type=0 then none else
   match x with
   | .w (.one (.p k path))=>some (.w (.one (.p k ((fd.offset,P.cellsOf fd.type)::path))))
   | .w (.one (.pl (.q cells path)))=>some (.w (.one (.pl (.q cells ((fd.offset,P.cellsOf fd.type)::path)))))
   |_=>none
  |none=>none
 |_=>none
theorem c1l {P:Program} {d:Va} {w:World} {t f:Nat} {x v:V} {y:Value} (hv:g0y P t f x=some v) (hx:x.den d y):
  ∃ z,(Instr.fieldAt t y f).run P w=.ok z w∧v.den d z:=by
 unfold g0y at hv
 split at hv<;>try (cases hv;done)
 rename_i fs hu
 split at hv<;>try (cases hv;done)
 rename_i fd hf
 split at hv
 ·cases hv
 rename_i h0
 have hsz:=Ky h0 w
 split at hv<;>cases hv
 ·change y=_ at hx;subst hx
  rename_i k path
  refine ⟨.pointer (some ⟨d.at_ k,Qy path+fd.offset,none⟩),?_,?_⟩
  ·simp [Instr.fieldAt,run_underlying hu w,hf,Instr.sureAddr,fieldPlace,hsz,h0,addr_add]
  ·show _=_;simp [Qy,Nat.add_comm]
 ·change PL.den d.ro (.q _ _) y at hx
  rw [PL.den] at hx
  obtain ⟨blk,off,rfl,hat⟩:=hx
  rename_i cells path
  refine ⟨.pointer (some ⟨blk,off+Qy path+fd.offset,none⟩),?_,?_⟩
  ·simp [Instr.fieldAt,run_underlying hu w,hf,Instr.sureAddr,fieldPlace,hsz,h0,addr_add]
  ·show PL.den d.ro (.q _ _) _
   rw [PL.den];exact ⟨blk,off,by simp [Qy,Nat.add_assoc,Nat.add_comm,Nat.add_left_comm],hat⟩
end Go.Sy
namespace Go.Sy
def V.num :V→Option Int
 | .w (.one (.pl x))=>x.num
 |_=>none
theorem V.num_den {d:Va} {x:V} {n:Int} {y:Value} (h:x.num=some n) (hd:x.den d y): ∃ k,y=.int k n:=by
 unfold V.num at h
 split at h
 ·exact ⟨_,PL.num_den h hd⟩
 ·cases h
theorem j0u {ro:Ro} {blk sz:Nat}: ∀ {rows:List (List PL)} {off:Nat},PL.denRows ro blk sz rows off→∀ {i:Nat},i<rows.length→
  (rows.getD i []).length=sz∧PL.denAt ro blk (rows.getD i []) (off+i*sz)
 | [],_,_,i,hi=>by simp at hi
 |r::rs,off,h,i,hi=>by
  rw [PL.denRows] at h
  cases i with
  |zero=>simpa using ⟨h.1,h.2.1⟩
  |succ i=>
   have:=j0u h.2.2 (i:=i) (by simpa using hi)
   simp only [List.getD_cons_succ]
   rw [show off+(i+1)*sz=off+sz+i*sz from by rw [Nat.add_mul];omega]
   exact this
theorem b0u {ro:Ro} {blk sz:Nat}: ∀ {rows:List (List PL)} {off:Nat},PL.denRows ro blk sz rows off→∀ n,n≤rows.length→PL.denRows ro blk sz (rows.drop n) (off+n*sz)
 |rows,off,h,0,_=>by simpa using h
 | [],_,_,n+1,hn=>by simp at hn
 |r::rs,off,h,n+1,hn=>by
  rw [PL.denRows] at h
  have:=b0u h.2.2 n (by simpa using hn)
  simp only [List.drop_succ_cons]
  rw [show off+(n+1)*sz=off+sz+n*sz from by rw [Nat.add_mul];omega]
  exact this
theorem b0t {ro:Ro} {blk sz:Nat}: ∀ {rows:List (List PL)} {off:Nat},PL.denRows ro blk sz rows off→∀ n,PL.denRows ro blk sz (rows.take n) off
 |rows,off,h,0=>by simp [PL.denRows]
 | [],_,_,n+1=>by simp [PL.denRows]
 |r::rs,off,h,n+1=>by
  rw [PL.denRows] at h
  simp only [List.take_succ_cons]
  rw [PL.denRows]
  exact ⟨h.1,h.2.1,b0t h.2.2 n⟩
def Pz (P:Program) (t:TypeId) (x i:V):Option V:=
 match i.num with
 |none=>none
 |some n=>
  match P.underlying t with
  |some (.array len e)=>if 0≤n∧n<len∧P.cellsOf e≠0 then
    match x with
    | .w (.one (.p k path))=>some (.w (.one (.p k ((n.toNat*P.cellsOf e,P.cellsOf e)::path))))
    | .w (.one (.pl (.q cells path)))=>some (.w (.one (.pl (.q cells ((n.toNat*P.cellsOf e,P.cellsOf e)::path)))))
    |_=>none
   else none
  |some (.slice e)=>
   match x with
   | .w (.one (.s k path len sz))=>if 0≤n∧n<len∧sz=P.cellsOf e∧sz≠0 then some (.w (.one (.p k ((n.toNat*sz,sz)::path)))) else none
   | .w (.one (.pl (.R ex sz rows)))=>if 0≤n∧n<rows.length∧sz=P.cellsOf e∧sz≠0 then some (.w (.one (.pl (.q (rows.getD n.toNat []) [])))) else none
   |_=>none
  |_=>none
theorem n0m {P:Program} {d:Va} {w:World} {t:TypeId} {x i v:V} {y j:Value} (hv:Pz P t x i=some v) (hx:x.den d y) (hi:i.den d j):
  ∃ z,(Instr.indexAt t y j).run P w=.ok z w∧v.den d z:=by
 unfold Pz at hv
 split at hv<;>try (cases hv;done)
 rename_i n hn
 obtain ⟨kk,rfl⟩:=V.num_den hn hi
 split at hv<;>try (cases hv;done)
 ·rename_i len e hu
  split at hv<;>try (cases hv;done)
  rename_i hc
  obtain ⟨h1,h2,h0⟩:=hc
  have hsz:=Ky h0 w
  split at hv<;>cases hv
  ·rename_i k path
   change y=_ at hx;subst hx
   refine ⟨.pointer (some ⟨d.at_ k,Qy path+n.toNat*P.cellsOf e,none⟩),?_,?_⟩
   ·simp [Instr.indexAt,asIntOf,run_underlying hu w,Instr.sureAddr,hsz,h1,h2,addr_add]
   ·show _=_;simp [Qy,Nat.add_comm]
  ·rename_i cells path
   change PL.den d.ro (.q _ _) y at hx
   rw [PL.den] at hx
   obtain ⟨blk,off,rfl,hat⟩:=hx
   refine ⟨.pointer (some ⟨blk,off+Qy path+n.toNat*P.cellsOf e,none⟩),?_,?_⟩
   ·simp [Instr.indexAt,asIntOf,run_underlying hu w,Instr.sureAddr,hsz,h1,h2,addr_add]
   ·show PL.den d.ro (.q _ _) _
    rw [PL.den];exact ⟨blk,off,by simp [Qy,Nat.add_assoc,Nat.add_comm,Nat.add_left_comm],hat⟩
 ·rename_i e hu
  split at hv
  ·rename_i k path len sz
   split at hv<;>cases hv
   rename_i hc
   obtain ⟨h1,h2,h3,h0⟩:=hc
   subst h3
   have hsz:=Ky h0 w
   obtain ⟨o,cap,rfl,hlc,_,ho,_⟩:=hx
   have ho:o=Qy path:=ho.resolve_left (by omega)
   subst ho
   refine ⟨.pointer (some ⟨d.at_ k,Qy path+n.toNat*P.cellsOf e,none⟩),?_,?_⟩
   ·simp [Instr.indexAt,asIntOf,run_underlying hu w,Instr.sureAddr,hsz,h1,h2,addr_add]
   ·show _=_;simp [Qy,Nat.add_comm]
  ·rename_i ex sz rows
   split at hv<;>cases hv
   rename_i hc
   obtain ⟨h1,h2,h3,h0⟩:=hc
   subst h3
   have hsz:=Ky h0 w
   change PL.den d.ro (.R _ _ _) y at hx
   rw [PL.den] at hx
   rcases hx with ⟨_,rfl⟩|⟨blk,off,cap,rfl,_,_,_,hrows⟩|⟨_,_,_,rfl,_⟩
   ·simp at h2;omega
   rotate_left
   ·simp at h2;omega
   have hg:=j0u hrows (i:=n.toNat) (by omega)
   refine ⟨.pointer (some ⟨blk,off+n.toNat*P.cellsOf e,none⟩),?_,?_⟩
   ·simp [Instr.indexAt,asIntOf,run_underlying hu w,Instr.sureAddr,hsz,h1,h2,addr_add]
   ·show PL.den d.ro (.q _ _) _
    rw [PL.den];exact ⟨blk,off+n.toNat*P.cellsOf e,by simp [Qy],hg.2⟩
  ·cases hv
theorem r0c {d:Va} {cs:List L} {vs:Array Value} (h:Fv (L.den d) cs vs.toList) (o n:Nat):Fv (L.den d) (win cs o n) (vs.extract o (o+n)).toList:=by
 have:=h.win o n
 rw [Array.toList_extract,List.extract_eq_take_drop]
 simpa [Go.Sy.win] using this
def p0g (P:Program) (t:TypeId) (cs:List L) (off:Nat):Option V:=
 if off+P.cellsOf t≤cs.length∧P.cellsOf t≠0 then (mkW P t (win cs off (P.cellsOf t))).map .w else none
theorem u0s {P:Program} {d:Va} {w:World} {t off:Nat} {cs:List L} {vs:Array Value} {v:V} (hv:p0g P t cs off=some v) (h:Fv (L.den d) cs vs.toList):
  ∃ z,(part t vs off).run P w=.ok z w∧v.den d z:=by
 unfold p0g at hv
 split at hv<;>try (cases hv;done)
 rename_i hc
 obtain ⟨hle,h0⟩:=hc
 cases hm:mkW P t (win cs off (P.cellsOf t)) with
 |none=>simp [hm] at hv
 |some W=>
  simp only [hm,Option.map_some,Option.some.injEq] at hv;subst hv
  have hsz:=Ky h0 w
  rcases a1w hm w with ⟨rfl,ha⟩|⟨l,hl,rfl,ha⟩
  ·refine ⟨.agg (vs.extract off (off+P.cellsOf t)),by simp [part,ha,hsz],⟨_,rfl,r0c h _ _⟩⟩
  ·have:cs[off]? =some l:=by
    have:=congrArg (fun z=>z[0]?) hl
    simp only [Go.Sy.win,List.getElem?_take,List.getElem?_drop,Nat.add_zero] at this
    rw [if_pos (by omega)] at this
    simpa using this
   obtain ⟨y,hy,hd⟩:=h.get this
   refine ⟨y,?_,hd⟩
   have hy':vs[off]? =some y:=by simpa using hy
   simp [part,ha,hy']
def g0a (P:Program) (t f:Nat) (x:V):Option V:=
 match P.underlying t,x with
 |some (.struct fs),.w (.agg cs)=>match fs[f]? with
  |some fd=>p0g P fd.type cs fd.offset
  |none=>none
 |_,_=>none
theorem w0m {P:Program} {d:Va} {w:World} {t f:Nat} {x v:V} {y:Value} (hv:g0a P t f x=some v) (hx:x.den d y):
  ∃ z,(Instr.field t y f).run P w=.ok z w∧v.den d z:=by
 unfold g0a at hv
 split at hv<;>try (cases hv;done)
 rename_i fs cs hu
 split at hv<;>try (cases hv;done)
 rename_i fd hf
 obtain ⟨vs,rfl,hall⟩:=hx
 obtain ⟨z,hz,hd⟩:=u0s (w:=w) hv hall
 refine ⟨z,?_,hd⟩
 simp [Instr.field,run_underlying hu w,hf]
 show ((Sem.run P (asAgg (Value.agg vs)) w).andThen fun a w2=>Sem.run P (part fd.type a fd.offset) w2)=_
 have:Sem.run P (asAgg (Value.agg vs)) w=.ok vs w:=by simp [asAgg]
 rw [this];exact hz
def j0i (P:Program) (t:TypeId) (x i:V):Option V:=
 match i.num with
 |none=>none
 |some n=>
  match P.underlying t,x with
  |some (.array len e),.w (.agg cs)=>if 0≤n∧n<len then p0g P e cs (n.toNat*P.cellsOf e) else none
  |some .string,.w (.one (.pl (.str s)))=>if 0≤n∧n<s.length then some (.w (.one (.pl (.u8 (s.getD n.toNat 0))))) else none
  |_,_=>none
theorem b1s {P:Program} {d:Va} {w:World} {t:TypeId} {x i v:V} {y j:Value} (hv:j0i P t x i=some v) (hx:x.den d y) (hi:i.den d j):
  ∃ z,(Instr.index t y j).run P w=.ok z w∧v.den d z:=by
 unfold j0i at hv
 split at hv<;>try (cases hv;done)
 rename_i n hn
 obtain ⟨kk,rfl⟩:=V.num_den hn hi
 split at hv<;>try (cases hv;done)
 ·rename_i len e cs hu
  split at hv<;>try (cases hv;done)
  rename_i hc
  obtain ⟨vs,rfl,hall⟩:=hx
  obtain ⟨z,hz,hd⟩:=u0s (w:=w) hv hall
  have h0:P.cellsOf e≠0:=by intro h;simp [p0g,h] at hv
  refine ⟨z,?_,hd⟩
  simp [Instr.index,asIntOf,run_underlying hu w,hc.1,hc.2,Ky h0 w,hz]
 ·rename_i s hu
  split at hv<;>cases hv
  rename_i hc
  change PL.den d.ro (.str s) y at hx
  rw [PL.den] at hx
  obtain ⟨rfl,_⟩:=hx
  have hlt:n.toNat<s.length:=by omega
  refine ⟨.int .u8 ((s.getD n.toNat 0).toNat),?_,by show PL.den _ _ _;rw [PL.den]⟩
  have hb:(⟨s.toArray⟩:ByteArray)[n.toNat]? =some s[n.toNat]:=by
   show (if h:n.toNat<(⟨s.toArray⟩:ByteArray).size then some _ else none)=_
   rw [dif_pos (show n.toNat<(⟨s.toArray⟩:ByteArray).size by simpa [ByteArray.size] using hlt)]
   rfl
  simp [Instr.index,asIntOf,run_underlying hu w,hc.1,hb,List.getD,List.getElem?_eq_getElem hlt]
def c0r (x:V) (i:Nat):Option V:=
 match x with
 | .tup xs=>xs[i]?.map .w
 |_=>none
theorem s0l {P:Program} {d:Va} {w:World} {x v:V} {i:Nat} {y:Value} (hv:c0r x i=some v) (hx:x.den d y):
  ∃ z,(Instr.extract y i).run P w=.ok z w∧v.den d z:=by
 unfold c0r at hv
 split at hv<;>try (cases hv;done)
 rename_i xs
 obtain ⟨vs,rfl,hall⟩:=hx
 cases hg:xs[i]? with
 |none=>simp [hg] at hv
 |some x=>
  simp only [hg,Option.map_some,Option.some.injEq] at hv;subst hv
  obtain ⟨z,hz,hd⟩:=hall.get hg
  have:vs[i]? =some z:=by simpa using hz
  exact ⟨z,by simp [Instr.extract,this],hd⟩
def unV (op:UnOp) (x:V):Option V:=
 match op,x with
 | .not,.w (.one (.pl (.b x)))=>some (.w (.one (.pl (.b (!x)))))
 | .neg,.w (.one (.pl (.i n)))=>some (.w (.one (.pl (.i (Go.RowKit.wrap64 (0-n))))))
 | .neg,.w (.one (.pl (.u64 n)))=>some (.w (.one (.pl (.u64 (0-n)))))
 | .xor,.w (.one (.pl (.u64 n)))=>some (.w (.one (.pl (.u64 (~~~n)))))
 | .xor,.w (.one (.pl (.u32 n)))=>some (.w (.one (.pl (.u32 (~~~n)))))
 | .xor,.w (.one (.pl (.i n)))=>some (.w (.one (.pl (.i (t1t (-1) n)))))
 |_,_=>none
theorem r1s (x:UInt32):((BitVec.ofInt 32 (4294967295:Int)^^^x.toBitVec).toNat:Int)%4294967296=((~~~x).toNat:Int):=by
 rw [show (BitVec.ofInt 32 (4294967295:Int))=BitVec.allOnes 32 from rfl,BitVec.allOnes_xor,k1y];rfl
theorem r1r (x:UInt64):((BitVec.ofInt 64 (18446744073709551615:Int)^^^x.toBitVec).toNat:Int)%18446744073709551616=((~~~x).toNat:Int):=by
 rw [show (BitVec.ofInt 64 (18446744073709551615:Int))=BitVec.allOnes 64 from rfl,BitVec.allOnes_xor,k1x];rfl
theorem r1z (x:UInt64):(0-(x.toNat:Int))%18446744073709551616=((0-x).toNat:Int):=by
 have:=k1c 0 x;simpa using this
theorem p1y {P:Program} {d:Va} {w:World} {op:UnOp} {x v:V} {y:Value} (hv:unV op x=some v) (hx:x.den d y):
  ∃ z,(Op.unary op y).run P w=.ok z w∧v.den d z:=by
 unfold unV at hv
 split at hv<;>cases hv<;>(change PL.den d.ro _ y at hx;rw [PL.den] at hx;subst hx)
 ·exact ⟨_,rfl,by show PL.den _ _ _;rw [PL.den]⟩
 ·exact ⟨_,rfl,by show PL.den _ _ _;rw [PL.den,←IntWalk.i64_left]⟩
 ·exact ⟨_,rfl,by show PL.den _ _ _;rw [PL.den,wrap_u64,r1z]⟩
 ·refine ⟨_,rfl,?_⟩
  show PL.den _ _ _
  rw [PL.den]
  show Value.int .u64 _=_
  rw [wrap_u64]
  rename_i n
  have:=r1r n
  rw [←this,←v1l];rfl
 ·refine ⟨_,rfl,?_⟩
  show PL.den _ _ _
  rw [PL.den]
  show Value.int .u32 _=_
  rw [wrap_u32]
  rename_i n
  have:=r1s n
  rw [←this,←v1m];rfl
 ·exact ⟨_,rfl,by show PL.den _ _ _;rw [PL.den,t1t,←IntWalk.i64_left];rfl⟩
def toKind (k:IntKind) (x:PL):Option PL:=
 match k,x with
 | .u8,.u8 x=>some (.u8 x)
 | .u8,.u32 x=>some (.u8 x.toUInt8)
 | .u8,.u64 x=>some (.u8 x.toUInt8)
 | .u8,.i n=>some (.u8 (UInt8.ofNat (n%256).toNat))
 | .u32,.u8 x=>some (.u32 x.toUInt32)
 | .u32,.u32 x=>some (.u32 x)
 | .u32,.u64 x=>some (.u32 x.toUInt32)
 | .u32,.i n=>some (.u32 (UInt32.ofNat (n%4294967296).toNat))
 | .u64,.u8 x=>some (.u64 x.toUInt64)
 | .u64,.u32 x=>some (.u64 x.toUInt64)
 | .u64,.u64 x=>some (.u64 x)
 | .u64,.i n=>some (.u64 (UInt64.ofNat (n%18446744073709551616).toNat))
 | .i64,.u8 x=>some (.i x.toNat)
 | .i64,.u32 x=>some (.i x.toNat)
 | .i64,.u64 x=>some (.i (Go.RowKit.wrap64 x.toNat))
 | .i64,.i n=>some (.i (Go.RowKit.wrap64 n))
 |_,_=>none
theorem y0f {P:Program} {k:IntKind} {x z:PL} {ro:Ro} (w:World) (h:toKind k x=some z):
  ∃ n,x.num=some n∧(Conv.intToInt k n).run P w=.ok z.mk w∧z.den ro z.mk:=by
 unfold toKind at h
 split at h<;>cases h<;>refine ⟨_,rfl,?_,by rw [PL.den];rfl⟩
 all_goals simp only [Conv.intToInt,PL.mk,Sem.run_pure,wrap_u8,wrap_u32,wrap_u64,IntWalk.i64_left]
 ·rename_i x;have:=x.toNat_lt;congr 2;omega
 ·congr 2
 ·congr 2
 ·rename_i n;congr 2;simp;omega
 ·rename_i x;have:=x.toNat_lt;congr 2;simp;omega
 ·rename_i x;have:=x.toNat_lt;congr 2;omega
 ·congr 2
 ·rename_i n;congr 2;simp;omega
 ·rename_i x;have:=x.toNat_lt;congr 2;simp;omega
 ·rename_i x;have:=x.toNat_lt;congr 2;simp;omega
 ·rename_i x;have:=x.toNat_lt;congr 2;omega
 ·rename_i n;congr 2;simp;omega
 ·rename_i x;have:=x.toNat_lt;congr 2;exact IntWalk.wrap64_in _ (by omega)
 ·rename_i x;have:=x.toNat_lt;congr 2;exact IntWalk.wrap64_in _ (by omega)
def Vz :List L→Option (List UInt8)
 | []=>some []
 | .pl (.u8 x)::r=>(Vz r).map (x:: ·)
 |_=>none
def d0g :List (List PL)→Option (List UInt8)
 | []=>some []
 | [.u8 x]::r=>(d0g r).map (x:: ·)
 |_=>none
theorem q0n {d:Va}: ∀ {c:List L} {bs:List UInt8} {vals:List Value},Vz c=some bs→Fv (L.den d) c vals→vals=bs.map fun b=>.int .u8 b.toNat
 | [],bs,vals,h,hd=>by cases hd;simp only [Vz] at h;cases h;rfl
 |c::r,bs,vals,h,hd=>by
  cases hd with
  |cons h1 h2=>
   unfold Vz at h
   split at h
   ·rename_i he;cases he
   ·rename_i x r' he
    cases he
    cases hb:Vz r with
    |none=>simp [hb] at h
    |some bs'=>
     simp only [hb,Option.map_some,Option.some.injEq] at h;subst h
     rw [L.den,PL.den] at h1
     rw [h1,q0n hb h2];rfl
   ·cases h
theorem q0m {ro:Ro} {blk:Nat} {w:World} (hro: ∀ b o y,ro b o=some y→w.cell? ⟨b,o,none⟩=some y):
  ∀ {rows:List (List PL)} {bs:List UInt8} {off:Nat},d0g rows=some bs→PL.denRows ro blk 1 rows off→Jy w blk off (bs.map fun b=>Value.int .u8 b.toNat)∧rows.length=bs.length
 | [],bs,off,h,_=>by simp only [d0g] at h;cases h;exact ⟨fun j v hv=>by simp at hv,rfl⟩
 |r::rs,bs,off,h,hd=>by
  unfold d0g at h
  split at h
  ·rename_i he;cases he
  ·rename_i x r' he
   cases he
   cases hb:d0g rs with
   |none=>simp [hb] at h
   |some bs'=>
    simp only [hb,Option.map_some,Option.some.injEq] at h;subst h
    rw [PL.denRows,PL.denAt] at hd
    obtain ⟨_,⟨⟨y,hy,hyd⟩,_⟩,hrest⟩:=hd
    rw [PL.den] at hyd;subst hyd
    obtain ⟨ih,hl⟩:=q0m hro hb hrest
    refine ⟨fun j v hv=>?_,by simp [hl]⟩
    cases j with
    |zero=>simp at hv;subst hv;exact hro _ _ _ hy
    |succ j=>have:=ih j v (by simpa using hv);rw [show off+(j+1)=off+1+j from by omega];exact this
  ·cases h
end Go.Sy
namespace Go.Sy
def Nv (x:Option V) (z:Nat) (most:Nat):Option Nat:=
 match x with
 |none=>some z
 |some x=>match x.num with
  |some n=>if 0≤n∧n≤most then some n.toNat else none
  |none=>none
def e0c (P:Program) (S:St) (t:TypeId) (x:V) (lo hi mx:Option V):Option V:=
 match P.underlying t,x with
 |some .string,.w (.one (.pl (.str s)))=>
  match mx with
  |some _=>none
  |none=>match Nv hi s.length s.length with
   |none=>none
   |some h=>match Nv lo 0 h with
    |none=>none
    |some l=>some (.w (.one (.pl (.str ((s.drop l).take (h-l))))))
 |some (.array n e),.w (.one (.p k path))=>
  match mx,look S.mem k with
  |none,some o=>if P.cellsOf e≠0∧pok o.cells.length path∧psz o.cells.length path=n*P.cellsOf e∧n≤maxLen then
    match Nv hi n n with
    |none=>none
    |some h=>match Nv lo 0 h with
     |none=>none
     |some l=>some (.w (.one (.s k ((l*P.cellsOf e,(h-l)*P.cellsOf e)::path) (h-l) (P.cellsOf e))))
   else none
  |_,_=>none
 |some (.slice e),.w (.one (.s k path len sz))=>
  match mx with
  |some _=>none
  |none=>if sz=P.cellsOf e∧sz≠0 then
    match Nv hi len len with
    |none=>none
    |some h=>match Nv lo 0 h with
     |none=>none
     |some l=>some (.w (.one (.s k ((l*sz,(h-l)*sz)::path) (h-l) sz)))
   else none
 |some (.slice e),.w (.one (.pl (.R ex sz rows)))=>
  if (sz=P.cellsOf e∨rows=[])∧P.cellsOf e≠0 then
   match Nv hi rows.length rows.length with
   |none=>none
   |some h=>match Nv lo 0 h with
    |none=>none
    |some l=>match mx with
     |none=>some (.w (.one (.pl (.R (ex&&decide (h=rows.length)) (P.cellsOf e) ((rows.drop l).take (h-l))))))
     |some m=>match m.num with
      |some m=>if m=h∧hi.isSome then some (.w (.one (.pl (.R true (P.cellsOf e) ((rows.drop l).take (h-l)))))) else none
      |none=>none
  else none
 |_,_=>none
theorem Vy {P:Program} {d:Va} {w:World} {x:V} {j:Value} {z most y:Nat} {code:BoundsCode} {n:Nat} (hv:Nv (some x) z most=some n) (hx:x.den d j) (hm:most≤y):
  (Instr.sliceBound j y code).run P w=.ok n w∧n≤most:=by
 unfold Nv at hv
 simp only at hv
 split at hv<;>try (cases hv;done)
 rename_i m hn
 obtain ⟨kk,rfl⟩:=V.num_den hn hx
 split at hv<;>cases hv
 rename_i hc
 have:0≤m∧m≤(y:Int):=by omega
 exact ⟨by simp [Instr.sliceBound,asIntOf,this],by omega⟩
theorem a0i {z most n:Nat} (hv:Nv none z most=some n):n=z:=by
 unfold Nv at hv;cases hv;rfl
def k0j (d:Va) (x:Option V) (j:Option Value):Prop:=
 match x,j with
 |none,none=>True
 |some x,some j=>x.den d j
 |_,_=>False
theorem Yk {P:Program} {d:Va} {w:World} {isSlice:Bool} {lo hi:Option V} {lj hj:Option Value} {len cap h l:Nat} (hlc:len≤cap)
  (hh:Nv hi len len=some h) (hl:Nv lo 0 h=some l) (dl:k0j d lo lj) (dh:k0j d hi hj):
  (Instr.sliceBounds isSlice len cap lj hj none).run P w=.ok (l,h,cap) w∧l≤h∧h≤len:=by
 cases hi with
 |none=>
  cases hj with
  |some _=>exact dh.elim
  |none=>
   obtain rfl:=a0i hh
   cases lo with
   |none=>
    cases lj with
    |some _=>exact dl.elim
    |none=>
     obtain rfl:=a0i hl
     exact ⟨by simp [Instr.sliceBounds],by omega,by omega⟩
   |some lo=>
    cases lj with
    |none=>exact dl.elim
    |some lj=>
     have h2:=Vy (P:=P) (w:=w) (y:=h) (code:=.sliceB) hl dl (Nat.le_refl _)
     exact ⟨by simp [Instr.sliceBounds,h2.1],h2.2,by omega⟩
 |some hi=>
  cases hj with
  |none=>exact dh.elim
  |some hj=>
   have h1:=Vy (P:=P) (w:=w) (y:=cap) (code:=if isSlice then .sliceAcap else .sliceAlen) hh dh hlc
   cases lo with
   |none=>
    cases lj with
    |some _=>exact dl.elim
    |none=>
     obtain rfl:=a0i hl
     exact ⟨by simp [Instr.sliceBounds,h1.1],by omega,h1.2⟩
   |some lo=>
    cases lj with
    |none=>exact dl.elim
    |some lj=>
     have h2:=Vy (P:=P) (w:=w) (y:=h) (code:=.sliceB) hl dl (Nat.le_refl _)
     exact ⟨by simp [Instr.sliceBounds,h1.1,h2.1],h2.2,h1.2⟩
theorem s0r {x:V} {z most n:Nat} (hv:Nv (some x) z most=some n):Nv (some x) z n=some n:=by
 unfold Nv at*
 simp only at*
 split at hv<;>try (cases hv;done)
 split at hv<;>cases hv
 rename_i hc
 rw [if_pos (by omega)]
theorem g0l {P:Program} {d:Va} {w:World} {lo:Option V} {hi:V} {lj:Option Value} {hj mj:Value} {len cap h l:Nat} {m:V} (hlc:len≤cap)
  (hh:Nv (some hi) len len=some h) (hl:Nv lo 0 h=some l) (hm:m.num=some (h:Int)) (dl:k0j d lo lj) (dh:hi.den d hj) (dm:m.den d mj):
  (Instr.sliceBounds true len cap lj (some hj) (some mj)).run P w=.ok (l,h,h) w∧l≤h∧h≤len:=by
 have h0:=Vy (P:=P) (w:=w) (y:=h) (code:=.slice3B) (s0r hh) dh (Nat.le_refl _)
 have h1:=Vy (P:=P) (w:=w) (y:=len) (code:=.slice3B) hh dh (Nat.le_refl _)
 have h2:Nv (some m) 0 h=some h:=by
  unfold Nv;simp only [hm];rw [if_pos (by omega)];rfl
 have h2:=Vy (P:=P) (w:=w) (y:=cap) (code:=.slice3Acap) h2 dm (by omega)
 cases lo with
 |none=>
  cases lj with
  |some _=>exact dl.elim
  |none=>
   obtain rfl:=a0i hl
   exact ⟨by simp [Instr.sliceBounds,h2.1,h0.1],by omega,h1.2⟩
 |some lo=>
  cases lj with
  |none=>exact dl.elim
  |some lj=>
   have h3:=Vy (P:=P) (w:=w) (y:=h) (code:=.slice3C) hl dl (Nat.le_refl _)
   exact ⟨by simp [Instr.sliceBounds,h2.1,h0.1,h3.1],h3.2,h1.2⟩
theorem y0n {P:Program} {B:Base} {d:Va} {S:St} {a:Act} {w:World} (hs:Sim B d S a w) {t:TypeId} {x v:V} {lo hi mx:Option V} {y:Value} {lj hj mj:Option Value}
  (hv:e0c P S t x lo hi mx=some v) (hx:x.den d y) (dl:k0j d lo lj) (dh:k0j d hi hj) (dm:k0j d mx mj):
  ∃ z,(Instr.sliceAt t y lj hj mj).run P w=.ok z w∧v.den d z:=by
 unfold e0c at hv
 split at hv<;>try (cases hv;done)
 ·rename_i s hu
  split at hv<;>try (cases hv;done)
  split at hv<;>try (cases hv;done)
  rename_i h hh
  split at hv<;>cases hv
  rename_i l hl
  change PL.den d.ro (.str s) y at hx
  rw [PL.den] at hx
  obtain ⟨rfl,hm⟩:=hx
  cases mj with
  |some _=>exact dm.elim
  |none=>
   have hb:=Yk (P:=P) (w:=w) (isSlice:=false) (Nat.le_refl _) hh hl dl dh
   refine ⟨.string ((⟨s.toArray⟩:ByteArray).extract l h),?_,?_⟩
   ·have hsz:(⟨s.toArray⟩:ByteArray).size=s.length:=by simp [ByteArray.size]
    simp [Instr.sliceAt,Instr.slice,run_underlying hu w,hsz,hb.1]
   ·show PL.den _ _ _
    rw [PL.den]
    refine ⟨?_,by simp;omega⟩
    congr 1
    apply ByteArray.ext
    simp [ByteArray.data_extract,List.extract_eq_take_drop]
 ·rename_i n e k path hu
  split at hv<;>try (cases hv;done)
  rename_i o hk
  split at hv<;>try (cases hv;done)
  rename_i hc
  obtain ⟨h0,hp,hps,hmax⟩:=hc
  split at hv<;>try (cases hv;done)
  rename_i h hh
  split at hv<;>cases hv
  rename_i l hl
  change y=_ at hx;subst hx
  cases mj with
  |some _=>exact dm.elim
  |none=>
   have hb:=Yk (P:=P) (w:=w) (isSlice:=false) (Nat.le_refl _) hh hl dl dh
   have hsz:=Ky h0 w
   obtain ⟨vals,spare,hvl,hlen⟩:=hs.sizes hk
   have hle:=e0i hp
   have hmul:l*P.cellsOf e+(n-l)*P.cellsOf e=n*P.cellsOf e:=by rw [←Nat.add_mul];congr 1;omega
   refine ⟨.slice (some ⟨d.at_ k,if n=l then Qy path else Qy path+l*P.cellsOf e,none⟩) (h-l) (n-l),?_,?_⟩
   ·simp [Instr.sliceAt,Instr.sureAddr,run_underlying hu w,hb.1,hsz,addr_add]
    split<;>rfl
   ·refine ⟨_,_,rfl,by omega,by omega,?_,?_⟩
    ·by_cases hnl:n=l
     ·left;omega
     ·right;simp [hnl,Qy,Nat.add_comm]
    ·simp only [List.length_append] at hlen
     split
     ·rename_i hnl;subst hnl;simp;omega
     ·omega
 ·rename_i e k path len sz hu
  split at hv<;>try (cases hv;done)
  split at hv<;>try (cases hv;done)
  rename_i hc
  obtain ⟨rfl,h0⟩:=hc
  split at hv<;>try (cases hv;done)
  rename_i h hh
  split at hv<;>cases hv
  rename_i l hl
  obtain ⟨o,cap,rfl,hlc,hcm,ho,hfit⟩:=hx
  cases mj with
  |some _=>exact dm.elim
  |none=>
   have hb:=Yk (P:=P) (w:=w) (isSlice:=true) hlc hh hl dl dh
   have hsz:=Ky h0 w
   have hmul:l*P.cellsOf e+(cap-l)*P.cellsOf e=cap*P.cellsOf e:=by rw [←Nat.add_mul];congr 1;omega
   refine ⟨.slice (some ⟨d.at_ k,if cap=l then o else o+l*P.cellsOf e,none⟩) (h-l) (cap-l),?_,?_⟩
   ·simp [Instr.sliceAt,Instr.slice,run_underlying hu w,hb.1,hsz,addr_add]
    split<;>rfl
   ·refine ⟨_,_,rfl,by omega,by omega,?_,?_⟩
    ·by_cases hnl:cap=l
     ·left;omega
     ·right;rw [if_neg hnl]
      rcases ho with ho|ho
      ·omega
      ·subst ho;simp [Qy,Nat.add_comm]
    ·split
     ·rename_i hnl;subst hnl;simp;omega
     ·omega
 ·rename_i e ex sz rows hu
  split at hv<;>try (cases hv;done)
  rename_i hc
  obtain ⟨hsz1,h0⟩:=hc
  have fixR: ∀ blk off,PL.denRows d.ro blk sz rows off→PL.denRows d.ro blk (P.cellsOf e) rows off:=by
   intro blk off hr
   rcases hsz1 with rfl|rfl
   ·exact hr
   ·simp [PL.denRows]
  split at hv<;>try (cases hv;done)
  rename_i h hh
  split at hv<;>try (cases hv;done)
  rename_i l hl
  have hsz:=Ky h0 w
  change PL.den d.ro (.R _ _ _) y at hx
  rw [PL.den] at hx
  split at hv
  ·cases hv
   cases mj with
   |some _=>exact dm.elim
   |none=>
    rcases hx with ⟨rfl,rfl⟩|⟨blk,off,cap,rfl,hlc,hcm,hex,hrows⟩|⟨sa,cap,rfl,rfl,hcm,hex⟩
    ·have hb:=Yk (P:=P) (w:=w) (isSlice:=true) (Nat.le_refl 0) hh hl dl dh
     obtain rfl:h=0:=by omega
     obtain rfl:l=0:=by omega
     refine ⟨.slice none 0 0,?_,?_⟩
     ·simp [Instr.sliceAt,Instr.slice,run_underlying hu w,hb.1,hsz]
     ·show PL.den _ _ _;rw [PL.den];left;exact ⟨rfl,by simp⟩
    ·have hb:=Yk (P:=P) (w:=w) (isSlice:=true) hlc hh hl dl dh
     refine ⟨.slice (some ⟨blk,if cap=l then off else off+l*P.cellsOf e,none⟩) (h-l) (cap-l),?_,?_⟩
     ·simp [Instr.sliceAt,Instr.slice,run_underlying hu w,hb.1,hsz,addr_add]
      split<;>rfl
     ·show PL.den _ _ _
      rw [PL.den];right;left
      have hl2:((rows.drop l).take (h-l)).length=h-l:=by simp;omega
      refine ⟨blk,if cap=l then off else off+l*P.cellsOf e,cap-l,by rw [hl2],by omega,by omega,?_,?_⟩
      ·intro hh2
       simp only [Bool.and_eq_true,decide_eq_true_eq] at hh2
       have:=hex hh2.1
       rw [hl2];omega
      ·split
       ·have:h-l=0:=by omega
        rw [this];simp [PL.denRows]
       ·exact b0t (b0u (fixR _ _ hrows) l (by omega)) _
    ·have hb:=Yk (P:=P) (w:=w) (isSlice:=true) (Nat.zero_le cap) hh hl dl dh
     obtain rfl:h=0:=by have:=hb.2;simp at this;omega
     obtain rfl:l=0:=by have:=hb.2;omega
     refine ⟨.slice (some sa) 0 cap,?_,?_⟩
     ·simp [Instr.sliceAt,Instr.slice,run_underlying hu w,hb.1,hsz,Addr.add]
     ·show PL.den _ _ _;rw [PL.den];right;right;exact ⟨sa,cap,rfl,by simp,hcm,fun hh2=>by simp only [Bool.and_eq_true] at hh2;exact hex hh2.1⟩
  ·rename_i m
   split at hv<;>try (cases hv;done)
   rename_i mn hmn
   split at hv<;>cases hv
   rename_i hc2
   obtain ⟨rfl,his⟩:=hc2
   cases mj with
   |none=>exact dm.elim
   |some mj=>
    cases hi with
    |none=>simp at his
    |some hi=>
     cases hj with
     |none=>exact dh.elim
     |some hj=>
      rcases hx with ⟨rfl,rfl⟩|⟨blk,off,cap,rfl,hlc,hcm,hex,hrows⟩|⟨sa,cap,rfl,rfl,hcm,hex⟩
      ·have hb:=g0l (P:=P) (w:=w) (Nat.le_refl 0) hh hl hmn dl dh dm
       obtain rfl:h=0:=by omega
       obtain rfl:l=0:=by omega
       refine ⟨.slice none 0 0,?_,?_⟩
       ·simp [Instr.sliceAt,Instr.slice,run_underlying hu w,hb.1,hsz]
       ·show PL.den _ _ _;rw [PL.den];left;exact ⟨rfl,by simp⟩
      ·have hb:=g0l (P:=P) (w:=w) hlc hh hl hmn dl dh dm
       refine ⟨.slice (some ⟨blk,if h=l then off else off+l*P.cellsOf e,none⟩) (h-l) (h-l),?_,?_⟩
       ·simp [Instr.sliceAt,Instr.slice,run_underlying hu w,hb.1,hsz,addr_add]
        split<;>rfl
       ·show PL.den _ _ _
        rw [PL.den];right;left
        have hl2:((rows.drop l).take (h-l)).length=h-l:=by simp;omega
        refine ⟨blk,if h=l then off else off+l*P.cellsOf e,h-l,by rw [hl2],by omega,by omega,fun _=>hl2.symm,?_⟩
        split
        ·have:h-l=0:=by omega
         rw [this];simp [PL.denRows]
        ·exact b0t (b0u (fixR _ _ hrows) l (by omega)) _
      ·have hb:=g0l (P:=P) (w:=w) (Nat.zero_le cap) hh hl hmn dl dh dm
       obtain rfl:h=0:=by have:=hb.2;simp at this;omega
       obtain rfl:l=0:=by have:=hb.2;omega
       refine ⟨.slice (some sa) 0 0,?_,?_⟩
       ·simp [Instr.sliceAt,Instr.slice,run_underlying hu w,hb.1,hsz,Addr.add]
       ·show PL.den _ _ _;rw [PL.den];right;right;exact ⟨sa,0,rfl,by simp,Nat.zero_le _,fun _=>rfl⟩
end Go.Sy
namespace Go.Sy
inductive Kd where
 |int (k:IntKind)
 |b
 |s
 deriving DecidableEq
def b1n :Value→Option Kd
 | .int k _=>some (.int k)
 | .bool _=>some .b
 | .string _=>some .s
 |_=>none
def eqv :Value→Value→Bool
 | .int _ a,.int _ b=>a==b
 | .bool a,.bool b=>a==b
 | .string a,.string b=>a.toList==b.toList
 |_,_=>false
def Px :List Value→List Value→Bool
 |x::xs,y::ys=>eqv x y&&Px xs ys
 |_,_=>true
def f0b (P:Program) (g:TypeId→Option (List Kd)):List Field→Nat→Option (List Kd)
 | [],_=>some []
 |f::fs,off=>
  if f.offset=off∧f.name≠ "_" then
   match g f.type with
   |some ks=>if ks.length=P.cellsOf f.type∧ks.length≠0 then (f0b P g fs (off+ks.length)).map (ks++ ·) else none
   |none=>none
  else none
def flatK (P:Program):Nat→TypeId→Option (List Kd)
 |0,_=>none
 |n+1,t=>
  match P.underlying t with
  |some (.int k)=>some [.int k]
  |some .bool=>some [.b]
  |some .string=>some [.s]
  |some (.struct fs)=>if P.stoodInHeld t=false then f0b P (flatK P n) fs.toList 0 else none
  |some (.array len e)=>
   match flatK P n e with
   |some ks=>if ks.length=P.cellsOf e∧ks.length≠0 then some (List.replicate len ks).flatten else none
   |none=>none
  |_=>none
def c0g (P:Program) (t:TypeId) (x:Value) (cs:List Value):Prop:=
 match P.underlying t with
 |some (.struct _)|some (.array _ _)=>x=.agg cs.toArray
 |_=>cs=[x]
theorem n0c {P:Program} {w:World} {n:Nat} {t:TypeId} {ks:List Kd} (hk:flatK P n t=some ks) (hl:ks.length=P.cellsOf t) (h0:ks.length≠0) {xs:Array Value} {off:Nat} (hle:off+ks.length≤xs.size):
  ∃ z,(part t xs off).run P w=.ok z w∧c0g P t z (win xs.toList off ks.length):=by
 have hsz:=Ky (P:=P) (t:=t) (by omega) w
 have hx: ∀ (h:off<xs.size),ks.length=1→win xs.toList off ks.length=[xs[off]]:=by
  intro h h1
  rw [h1]
  unfold win
  rw [List.drop_eq_getElem_cons (by simpa using h)]
  simp
 cases n with
 |zero=>cases hk
 |succ n=>
  unfold flatK at hk
  unfold c0g
  split at hk
  ·rename_i k hu;cases hk
   have hlt:off<xs.size:=by simp at hle;omega
   refine ⟨xs[off],?_,?_⟩
   ·unfold part;simp [isAgg,Sem.run_bind,run_underlying hu w,hlt]
   ·simp only [hu];exact hx hlt rfl
  ·rename_i hu;cases hk
   have hlt:off<xs.size:=by simp at hle;omega
   refine ⟨xs[off],?_,?_⟩
   ·unfold part;simp [isAgg,Sem.run_bind,run_underlying hu w,hlt]
   ·simp only [hu];exact hx hlt rfl
  ·rename_i hu;cases hk
   have hlt:off<xs.size:=by simp at hle;omega
   refine ⟨xs[off],?_,?_⟩
   ·unfold part;simp [isAgg,Sem.run_bind,run_underlying hu w,hlt]
   ·simp only [hu];exact hx hlt rfl
  ·rename_i fs hu
   refine ⟨.agg (xs.extract off (off+P.cellsOf t)),?_,?_⟩
   ·unfold part;simp [isAgg,Sem.run_bind,run_underlying hu w,hsz]
   ·simp only [hu];rw [hl];congr 1
    apply Array.ext';simp [win,List.extract_eq_take_drop]
  ·rename_i len e hu
   refine ⟨.agg (xs.extract off (off+P.cellsOf t)),?_,?_⟩
   ·unfold part;simp [isAgg,Sem.run_bind,run_underlying hu w,hsz]
   ·simp only [hu];rw [hl];congr 1
    apply Array.ext';simp [win,List.extract_eq_take_drop]
  ·cases hk
theorem a0e : ∀ {a b c d:List Value},a.length=b.length→Px (a++c) (b++d)=(Px a b&&Px c d)
 | [],[],c,d,_=>by simp [Px]
 |x::a,y::b,c,d,h=>by
  simp only [List.cons_append,Px]
  rw [a0e (by simpa using h),Bool.and_assoc]
theorem a0v {α:Type} (xs:List α) (o n m:Nat):win xs o (n+m)=win xs o n++win xs (o+n) m:=by
 unfold win
 rw [List.take_add,List.drop_drop]
def Kinds (ks:List Kd) (xs:List Value):Prop:=xs.map b1n=ks.map some
theorem Kinds.length {ks:List Kd} {xs:List Value} (h:Kinds ks xs):xs.length=ks.length:=by
 have:=congrArg List.length h;simpa using this
theorem Kinds.split {ks ks':List Kd} {xs ys:List Value} (h:Kinds (ks++ks') (xs++ys)) (hl:xs.length=ks.length):Kinds ks xs∧Kinds ks' ys:=by
 unfold Kinds at*
 rw [List.map_append,List.map_append] at h
 exact List.append_inj h (by simpa using hl)
theorem g0z {P:Program} {w:World} {n:Nat} (ih: ∀ t ks,flatK P n t=some ks→∀ x y xs ys,c0g P t x xs→c0g P t y ys→Kinds ks xs→Kinds ks ys→(Op.equalIn n t x y).run P w=.ok (Px xs ys) w)
  {xs ys:Array Value}: ∀ (fs:List Field) (off:Nat) (ks:List Kd),f0b P (flatK P n) fs off=some ks→off+ks.length≤xs.size→off+ks.length≤ys.size→
   Kinds ks (win xs.toList off ks.length)→Kinds ks (win ys.toList off ks.length)→
   (Op.eqFields n xs ys fs).run P w=.ok (Px (win xs.toList off ks.length) (win ys.toList off ks.length)) w
 | [],off,ks,h,_,_,_,_=>by cases h;simp [Op.eqFields,win,Px]
 |f::fs,off,ks,h,hx,hy,kx,ky=>by
  unfold f0b at h
  split at h<;>try (cases h;done)
  rename_i hc
  obtain ⟨rfl,hname⟩:=hc
  split at h<;>try (cases h;done)
  rename_i k1 hg
  split at h<;>try (cases h;done)
  rename_i hc2
  cases h2:f0b P (flatK P n) fs (f.offset+k1.length) with
  |none=>simp [h2] at h
  |some k2=>
   simp only [h2,Option.map_some,Option.some.injEq] at h
   subst h
   rw [List.length_append] at hx hy kx ky ⊢
   rw [a0v] at kx ky ⊢
   rw [a0v] at ⊢
   have l1:(win xs.toList f.offset k1.length).length=k1.length:=Ry _ _ _ (by simp;omega)
   have l2:(win ys.toList f.offset k1.length).length=k1.length:=Ry _ _ _ (by simp;omega)
   obtain ⟨kx1,kx2⟩:=kx.split l1
   obtain ⟨ky1,ky2⟩:=ky.split l2
   obtain ⟨a,ha,fa⟩:=n0c (w:=w) hg hc2.1 hc2.2 (xs:=xs) (off:=f.offset) (by omega)
   obtain ⟨b,hb,fb⟩:=n0c (w:=w) hg hc2.1 hc2.2 (xs:=ys) (off:=f.offset) (by omega)
   have he:=ih _ _ hg a b _ _ fa fb kx1 ky1
   have hr:=g0z ih fs (f.offset+k1.length) k2 h2 (by omega) (by omega) kx2 ky2
   rw [a0e (by rw [l1,l2])]
   simp only [Op.eqFields,hname,ne_eq,not_false_eq_true,if_true,Sem.run_bind,ha,hb,he,Result.andThen_ok]
   cases hq:Px (win xs.toList f.offset k1.length) (win ys.toList f.offset k1.length)
   ·simp
   ·simp [hr]
theorem j0q {P:Program} {w:World} {n:Nat} (ih: ∀ t ks,flatK P n t=some ks→∀ x y xs ys,c0g P t x xs→c0g P t y ys→Kinds ks xs→Kinds ks ys→(Op.equalIn n t x y).run P w=.ok (Px xs ys) w)
  {xs ys:Array Value} {e:TypeId} {ks:List Kd} (hk:flatK P n e=some ks) (hl:ks.length=P.cellsOf e) (h0:ks.length≠0):
  ∀ (len start:Nat),(start+len)*ks.length≤xs.size→(start+len)*ks.length≤ys.size→
   Kinds (List.replicate len ks).flatten (win xs.toList (start*ks.length) (len*ks.length))→Kinds (List.replicate len ks).flatten (win ys.toList (start*ks.length) (len*ks.length))→
   (Op.eqItems n e (P.cellsOf e) xs ys (List.range' start len)).run P w=.ok (Px (win xs.toList (start*ks.length) (len*ks.length)) (win ys.toList (start*ks.length) (len*ks.length))) w
 |0,start,_,_,_,_=>by simp [Op.eqItems,win,Px]
 |len+1,start,hx,hy,kx,ky=>by
  have e1:(len+1)*ks.length=ks.length+len*ks.length:=by rw [Nat.add_mul];omega
  have e2:start*ks.length+ks.length=(start+1)*ks.length:=by rw [Nat.add_mul];omega
  have e3:(start+(len+1))*ks.length=(start+1+len)*ks.length:=by congr 1;omega
  have e4:(start+1+len)*ks.length=(start+1)*ks.length+len*ks.length:=by rw [Nat.add_mul]
  rw [e3] at hx hy
  rw [List.replicate_succ,List.flatten_cons,e1,a0v,e2] at kx ky
  rw [e1,a0v,a0v,e2]
  have l1:(win xs.toList (start*ks.length) ks.length).length=ks.length:=Ry _ _ _ (by simp;omega)
  have l2:(win ys.toList (start*ks.length) ks.length).length=ks.length:=Ry _ _ _ (by simp;omega)
  obtain ⟨kx1,kx2⟩:=kx.split l1
  obtain ⟨ky1,ky2⟩:=ky.split l2
  obtain ⟨a,ha,fa⟩:=n0c (w:=w) hk hl h0 (xs:=xs) (off:=start*ks.length) (by omega)
  obtain ⟨b,hb,fb⟩:=n0c (w:=w) hk hl h0 (xs:=ys) (off:=start*ks.length) (by omega)
  have he:=ih _ _ hk a b _ _ fa fb kx1 ky1
  have hr:=j0q ih hk hl h0 len (start+1) hx hy kx2 ky2
  rw [a0e (by rw [l1,l2])]
  rw [hl] at ha hb
  simp only [List.range'_succ,Op.eqItems,Sem.run_bind,ha,hb,he,Result.andThen_ok]
  cases hq:Px (win xs.toList (start*ks.length) ks.length) (win ys.toList (start*ks.length) ks.length)
  ·simp
  ·simp [hr]
theorem d0q {P:Program} {w:World}: ∀ (n:Nat) (t:TypeId) (ks:List Kd),flatK P n t=some ks→∀ x y xs ys,c0g P t x xs→c0g P t y ys→Kinds ks xs→Kinds ks ys→
  (Op.equalIn n t x y).run P w=.ok (Px xs ys) w
 |0,t,ks,h,_,_,_,_,_,_,_,_=>by cases h
 |n+1,t,ks,h,x,y,xs,ys,fx,fy,kx,ky=>by
  unfold flatK at h
  unfold c0g at fx fy
  split at h
  ·rename_i k hu
   cases h
   simp only [hu] at fx fy;subst fx;subst fy
   simp only [Kinds,List.map_cons,List.map_nil,List.cons.injEq,and_true] at kx ky
   unfold b1n at kx ky
   split at kx<;>cases kx
   split at ky<;>cases ky
   rw [run_equalIn_int w n t k k _ _ hu];simp [Px,eqv]
  ·rename_i hu
   cases h
   simp only [hu] at fx fy;subst fx;subst fy
   simp only [Kinds,List.map_cons,List.map_nil,List.cons.injEq,and_true] at kx ky
   unfold b1n at kx ky
   split at kx<;>cases kx
   split at ky<;>cases ky
   rw [run_equalIn_bool' w n t _ _ hu];simp [Px,eqv]
  ·rename_i hu
   cases h
   simp only [hu] at fx fy;subst fx;subst fy
   simp only [Kinds,List.map_cons,List.map_nil,List.cons.injEq,and_true] at kx ky
   unfold b1n at kx ky
   split at kx<;>cases kx
   split at ky<;>cases ky
   rw [run_equalIn_string w n t _ _ hu];simp [Px,eqv]
  ·rename_i fs hu
   split at h<;>try (cases h;done)
   rename_i hst
   simp only [hu] at fx fy;subst fx;subst fy
   have hf:P.fieldsOf t=fs:=by simp [Program.fieldsOf,hu]
   rw [run_equalIn_struct w n t _ _ (by rw [hf];exact hu) hst,hf]
   have lx:=kx.length;have ly:=ky.length
   have wx:win xs.toArray.toList 0 ks.length=xs:=by simp [win,←lx]
   have wy:win ys.toArray.toList 0 ks.length=ys:=by simp [win,←ly]
   have:=g0z (w:=w) (fun t ks h=>d0q n t ks h) (xs:=xs.toArray) (ys:=ys.toArray) fs.toList 0 ks h (by simp;omega) (by simp;omega) (by rw [wx];exact kx) (by rw [wy];exact ky)
   rwa [wx,wy] at this
  ·rename_i len e hu
   split at h<;>try (cases h;done)
   rename_i ke hke
   split at h<;>cases h
   rename_i hc
   simp only [hu] at fx fy;subst fx;subst fy
   obtain ⟨i,hi,_⟩:=e0s (P:=P) (t:=e) (by omega)
   rw [run_equalIn_array w n _ _ hu hi,List.range_eq_range']
   have hfl:(List.replicate len ke).flatten.length=len*ke.length:=by simp
   have lx:=kx.length;have ly:=ky.length
   rw [hfl] at lx ly
   have wx:win xs.toArray.toList (0*ke.length) (len*ke.length)=xs:=by simp [win,←lx]
   have wy:win ys.toArray.toList (0*ke.length) (len*ke.length)=ys:=by simp [win,←ly]
   have:=j0q (w:=w) (fun t ks h=>d0q n t ks h) (xs:=xs.toArray) (ys:=ys.toArray) hke hc.1 hc.2 len 0 (by simp;omega) (by simp;omega) (by rw [wx];exact kx) (by rw [wy];exact ky)
   rwa [wx,wy] at this
  ·cases h
end Go.Sy
namespace Go.Sy
theorem j0m {P:Program} {g g':TypeId→Option (List Kd)} (h: ∀ t ks,g t=some ks→g' t=some ks): ∀ (fs:List Field) (off:Nat) (ks:List Kd),f0b P g fs off=some ks→f0b P g' fs off=some ks
 | [],_,_,hk=>hk
 |f::fs,off,ks,hk=>by
  unfold f0b at*
  split at hk<;>try (cases hk;done)
  rename_i hc
  split at hk<;>try (cases hk;done)
  rename_i k1 hg
  split at hk<;>try (cases hk;done)
  rename_i hc2
  cases h2:f0b P g fs (off+k1.length) with
  |none=>simp [h2] at hk
  |some k2=>
   rw [if_pos hc,h _ _ hg]
   simp only
   rw [if_pos hc2,j0m h fs _ _ h2,←hk,h2]
theorem g0g {P:Program}: ∀ (n:Nat) (t:TypeId) (ks:List Kd),flatK P n t=some ks→flatK P (n+1) t=some ks
 |0,_,_,h=>by cases h
 |n+1,t,ks,h=>by
  rw [flatK] at h
  rw [flatK]
  split at h<;>rename_i hu<;>try exact h
  ·split at h<;>try (cases h;done)
   rename_i hst
   rw [if_pos hst];exact j0m (g0g n) _ _ _ h
  ·split at h<;>try (cases h;done)
   rename_i ke hke
   rw [g0g n _ _ hke];exact h
theorem q0a {P:Program} {n:Nat} {t:TypeId} {ks:List Kd} (h:flatK P n t=some ks): ∀ m,flatK P (n+m) t=some ks
 |0=>h
 |m+1=>g0g _ _ _ (q0a h m)
def c0u :L→Option Kd
 | .pl (.u8 _)=>some (.int .u8)
 | .pl (.u32 _)=>some (.int .u32)
 | .pl (.u64 _)=>some (.int .u64)
 | .pl (.i _)=>some (.int .i64)
 | .pl (.b _)=>some .b
 | .pl (.str _)=>some .s
 |_=>none
def eqL :L→L→Bool
 | .pl (.u8 x),.pl (.u8 y)=>decide (x=y)
 | .pl (.u32 x),.pl (.u32 y)=>decide (x=y)
 | .pl (.u64 x),.pl (.u64 y)=>decide (x=y)
 | .pl (.i x),.pl (.i y)=>decide (x=y)
 | .pl (.b x),.pl (.b y)=>decide (x=y)
 | .pl (.str x),.pl (.str y)=>decide (x=y)
 |_,_=>false
def eqC :List L→List L→Bool
 |x::xs,y::ys=>eqL x y&&eqC xs ys
 |_,_=>true
theorem v0a {d:Va} {l:L} {y:Value} {k:Kd} (h:c0u l=some k) (hd:l.den d y):b1n y=some k:=by
 unfold c0u at h
 split at h<;>cases h<;>(rw [L.den,PL.den] at hd)<;>first|(rw [hd];rfl)|(rw [hd.1];rfl)
theorem toList_mk (s:List UInt8):(⟨s.toArray⟩:ByteArray).toList=s:=by rw [ByteArray.toList_eq]
theorem s1x {d:Va} {a b:L} {x y:Value} {k:Kd} (ha:c0u a=some k) (hb:c0u b=some k) (hx:a.den d x) (hy:b.den d y):eqv x y=eqL a b:=by
 unfold c0u at ha
 split at ha<;>cases ha<;>(unfold c0u at hb;split at hb<;>cases hb)<;>(rw [L.den,PL.den] at hx hy)<;>
  first
  |(subst hx;subst hy;simp [eqv,eqL,BEq.beq,UInt8.toNat_inj,UInt32.toNat_inj,UInt64.toNat_inj,Int.natCast_inj];done)
  |(rw [hx.1,hy.1];simp only [eqv,eqL,toList_mk];rw [Bool.eq_iff_iff];simp)
theorem k1r {d:Va}: ∀ {xs ys:List L} {vs us:List Value} {ks:List Kd},xs.map c0u=ks.map some→ys.map c0u=ks.map some→Fv (L.den d) xs vs→Fv (L.den d) ys us→Px vs us=eqC xs ys∧Kinds ks vs∧Kinds ks us
 | [],[],_,_,ks,h,h',hx,hy=>by
  cases hx;cases hy
  cases ks with
  |nil=>exact ⟨rfl,rfl,rfl⟩
  |cons=>simp at h
 | [],y::ys,_,_,ks,h,h',hx,hy=>by cases ks<;>simp at h h'
 |x::xs,[],_,_,ks,h,h',hx,hy=>by cases ks<;>simp at h h'
 |x::xs,y::ys,_,_,[],h,h',hx,hy=>by simp at h
 |x::xs,y::ys,_,_,k::ks,h,h',hx,hy=>by
  cases hx with
  |cons hx1 hx2=>
   cases hy with
   |cons hy1 hy2=>
    simp only [List.map_cons,List.cons.injEq] at h h'
    obtain ⟨e1,e2,e3⟩:=k1r h.2 h'.2 hx2 hy2
    refine ⟨by simp only [Px,eqC,e1,s1x h.1 h'.1 hx1 hy1],?_,?_⟩
    ·simp only [Kinds,List.map_cons,v0a h.1 hx1];rw [e2]
    ·simp only [Kinds,List.map_cons,v0a h'.1 hy1];rw [e3]
def y0b (P:Program) (t:TypeId) (xs ys:List L):Option Bool:=
 match flatK P 9 t with
 |some ks=>if xs.map c0u=ks.map some∧ys.map c0u=ks.map some∧P.eqGuardType P.depth t=false then some (eqC xs ys) else none
 |none=>none
def Oy (P:Program) (t:TypeId):Bool:=
 match P.underlying t with
 |some (.struct _)|some (.array _ _)=>true
 |_=>false
def Mj (P:Program) (op:BinOp) (t:TypeId) (x y:V):Option V:=
 match x,y with
 | .w (.one (.pl (.str a))),.w (.one (.pl (.str b)))=>
  match op with
  | .add=>if a.length+b.length≤maxLen then some (.w (.one (.pl (.str (a++b))))) else none
  | .eql=>some (.w (.one (.pl (.b (decide (a=b))))))
  | .neq=>some (.w (.one (.pl (.b (!decide (a=b))))))
  | .lss=>some (.w (.one (.pl (.b (Op.bytesLess a b)))))
  | .leq=>some (.w (.one (.pl (.b (Op.bytesLess a b||decide (a=b))))))
  | .gtr=>some (.w (.one (.pl (.b (!(Op.bytesLess a b||decide (a=b)))))))
  | .geq=>some (.w (.one (.pl (.b (!Op.bytesLess a b)))))
  |_=>none
 | .w (.one (.pl (.b a))),.w (.one (.pl (.b b)))=>
  match op,P.underlying t with
  | .eql,some .bool=>some (.w (.one (.pl (.b (a==b)))))
  | .neq,some .bool=>some (.w (.one (.pl (.b (!(a==b))))))
  |_,_=>none
 | .w (.one (.pl a)),.w (.one (.pl b))=>
  match op with
  | .shl| .shr=>match b.num with
   |some c=>(o0m op a c).map fun z=>.w (.one (.pl z))
   |none=>none
  |op=>(k0h op a b).map fun z=>.w (.one (.pl z))
 | .w (.agg xs),.w (.agg ys)=>
  if Oy P t then
   match op with
   | .eql=>(y0b P t xs ys).map fun z=>.w (.one (.pl (.b z)))
   | .neq=>(y0b P t xs ys).map fun z=>.w (.one (.pl (.b (!z))))
   |_=>none
  else none
 |_,_=>none
theorem p0q {ro:Ro} {x:PL} {y:Value} {n:Int} (h:x.num=some n) (hd:x.den ro y):y=x.mk:=by
 rw [PL.num_den h hd]
 cases x<;>simp only [PL.num,Option.some.injEq] at h<;>first|(cases h;done)|(subst h;rfl)
theorem b0z (s:List UInt8):(⟨s.toArray⟩:ByteArray).size=s.length:=by simp [ByteArray.size]
theorem l1g (a b:List UInt8):(⟨a.toArray⟩:ByteArray)++⟨b.toArray⟩=⟨(a++b).toArray⟩:=by
 apply ByteArray.ext;simp
theorem d1b {d:Va} {x:Bool}:V.den d (.w (.one (.pl (.b x)))) (.bool x):=by
 show PL.den _ _ _;rw [PL.den]
theorem c0s {P:Program} {w:World} {op:BinOp} {t:TypeId} {x y:Operand} {a b:Value} (h: ∀ cs ds,a=.agg cs→b=.agg ds→P.eqGuardType P.depth t=false) (hn:a≠.nilIface):(eqGuard op t x y a b).run P w=.ok () w:=by
 cases a with
 |agg cs=>
  cases b with
  |agg ds=>exact run_eqGuard_agg (P:=P) (w:=w) op t x y cs ds (h _ _ rfl rfl)
  |_=>cases op<;>rfl
 |nilIface=>exact absurd rfl hn
 |_=>cases b<;>cases op<;>rfl
theorem m0n {P:Program} {d:Va} {w:World} {t:TypeId} {xs ys:List L} {cs ds:Array Value} {z:Bool} (h:y0b P t xs ys=some z) (ha:Oy P t=true)
  (hx:Fv (L.den d) xs cs.toList) (hy:Fv (L.den d) ys ds.toList):(Op.equalIn 10000 t (.agg cs) (.agg ds)).run P w=.ok z w∧P.eqGuardType P.depth t=false:=by
 unfold y0b at h
 split at h<;>try (cases h;done)
 rename_i ks hk
 split at h<;>cases h
 rename_i hc
 obtain ⟨h1,h2,h3⟩:=hc
 obtain ⟨e,k1,k2⟩:=k1r h1 h2 hx hy
 have hk2:=q0a hk 9991
 have fx: ∀ c:Array Value,c0g P t (.agg c) c.toList:=by
  intro c
  unfold Oy at ha
  unfold c0g
  split at ha
  ·rename_i hu;simp [hu]
  ·rename_i hu;simp [hu]
  ·cases ha
 exact ⟨by rw [←e];exact d0q _ _ _ hk2 _ _ _ _ (fx cs) (fx ds) k1 k2,h3⟩
theorem p1j {P : Program} {d : Va} {w : World} {op : BinOp} {t : TypeId} {x y v : V} {a b : Value} {ox oy : Operand} (hv : Mj P op t x y = some v) (hx : x.den d a) (hy : y.den d b) :
    ∃ z, (do eqGuard op t ox oy a b; binOp op t a b : Sem Value).run P w = .ok z w ∧ v.den d z := by
  unfold Mj at hv
  split at hv
  · rename_i s u
    change PL.den d.ro (.str s) a at hx; change PL.den d.ro (.str u) b at hy
    rw [PL.den] at hx hy
    obtain ⟨rfl, hs⟩ := hx
    obtain ⟨rfl, hu⟩ := hy
    have hg := c0s (P := P) (w := w) (op := op) (t := t) (x := ox) (y := oy) (a := .string ⟨s.toArray⟩) (b := .string ⟨u.toArray⟩) (by simp) (by simp)
    split at hv
    · split at hv <;> cases hv
      rename_i hl
      refine ⟨.string ⟨(s ++ u).toArray⟩, ?_, ?_⟩
      · have hle : ¬ (((s.length + u.length : Nat) : Int) > IntKind.i64.max) := by
          have : IntKind.i64.max = (maxLen : Int) := by decide
          rw [this]; omega
        rw [Sem.run_bind, hg, Result.andThen_ok]
        simp only [binOp, Op.stringOp, b0z, Sem.run_ite, if_neg hle, Sem.run_pure, l1g]
      · show PL.den _ _ _; rw [PL.den]; exact ⟨rfl, by simpa using hl⟩
    all_goals first
      | (cases hv; done)
      | (cases hv; refine ⟨_, ?_, d1b⟩; rw [Sem.run_bind, hg, Result.andThen_ok]; simp only [binOp, Op.stringOp, toList_mk, Sem.run_pure] <;>
         first | (congr 2; done) | (congr 2; rw [Bool.eq_iff_iff]; simp))
  · rename_i p q
    change PL.den d.ro _ a at hx; change PL.den d.ro _ b at hy
    rw [PL.den] at hx hy; subst hx; subst hy
    have hg := c0s (P := P) (w := w) (op := op) (t := t) (x := ox) (y := oy) (a := .bool p) (b := .bool q) (by simp) (by simp)
    split at hv <;> cases hv
    · rename_i hu
      refine ⟨_, ?_, d1b⟩
      rw [Sem.run_bind, hg, Result.andThen_ok]
      simp [binOp, Op.equal, Op.maxDepth, run_equalIn_bool' w 9999 t p q hu]
    · rename_i hu
      refine ⟨_, ?_, d1b⟩
      rw [Sem.run_bind, hg, Result.andThen_ok]
      simp [binOp, Op.equal, Op.maxDepth, run_equalIn_bool' w 9999 t p q hu]
  · rename_i p q _ _
    change PL.den d.ro _ a at hx; change PL.den d.ro _ b at hy
    have shift : ∀ o : BinOp, (o = .shl ∨ o = .shr) → (match q.num with | some c => (o0m o p c).map fun z => V.w (.one (.pl z)) | none => none) = some v →
        ∃ z, (do eqGuard o t ox oy a b; binOp o t a b : Sem Value).run P w = .ok z w ∧ v.den d z := by
      intro o ho hv
      split at hv <;> try (cases hv; done)
      rename_i c hc
      cases hsv : o0m o p c with
      | none => simp [hsv] at hv
      | some z =>
        simp only [hsv, Option.map_some, Option.some.injEq] at hv; subst hv
        obtain ⟨n, hn, hr, hd⟩ := y0s (P := P) (yk := q.kind) hsv d.ro w
        have ea := PL.num_den hn hx
        have eb := PL.num_den hc hy
        subst ea; subst eb
        refine ⟨z.mk, ?_, hd⟩
        have hg := c0s (P := P) (w := w) (op := o) (t := t) (x := ox) (y := oy) (a := .int p.kind n) (b := .int q.kind c) (by simp) (by simp)
        rw [Sem.run_bind, hg, Result.andThen_ok]
        rcases ho with rfl | rfl <;> simpa [binOp] using hr
    have arith : (k0h op p q).map (fun z => V.w (.one (.pl z))) = some v → ∃ z, (do eqGuard op t ox oy a b; binOp op t a b : Sem Value).run P w = .ok z w ∧ v.den d z := by
      intro hv
      cases ha : k0h op p q with
      | none => simp [ha] at hv
      | some z =>
        simp only [ha, Option.map_some, Option.some.injEq] at hv; subst hv
        obtain ⟨hr, hd, ⟨n, hn⟩, ⟨m, hm⟩, _⟩ := e1g (P := P) ha d.ro w t
        have ea := p0q hn hx
        have eb := p0q hm hy
        have en := PL.num_den hn hx
        rw [en] at ea
        have hg := c0s (P := P) (w := w) (op := op) (t := t) (x := ox) (y := oy) (a := p.mk) (b := q.mk) (by rw [← ea]; simp) (by rw [← ea]; simp)
        refine ⟨z.mk, ?_, hd⟩
        rw [en, ea, eb, Sem.run_bind, hg, Result.andThen_ok]; exact hr
    split at hv
    · exact shift _ (.inl rfl) hv
    · exact shift _ (.inr rfl) hv
    · exact arith hv
  · rename_i xs ys
    obtain ⟨cs, rfl, hxs⟩ := hx
    obtain ⟨ds, rfl, hys⟩ := hy
    split at hv <;> try (cases hv; done)
    rename_i ha
    split at hv <;> try (cases hv; done)
    · cases he : y0b P t xs ys with
      | none => simp [he] at hv
      | some z =>
        simp only [he, Option.map_some, Option.some.injEq] at hv; subst hv
        obtain ⟨hr, hg⟩ := m0n (w := w) he ha hxs hys
        refine ⟨_, ?_, d1b⟩
        rw [Sem.run_bind, run_eqGuard_agg (P := P) (w := w) _ t ox oy cs ds hg, Result.andThen_ok, run_eql_struct, hr]; rfl
    · cases he : y0b P t xs ys with
      | none => simp [he] at hv
      | some z =>
        simp only [he, Option.map_some, Option.some.injEq] at hv; subst hv
        obtain ⟨hr, hg⟩ := m0n (w := w) he ha hxs hys
        refine ⟨_, ?_, d1b⟩
        rw [Sem.run_bind, run_eqGuard_agg (P := P) (w := w) _ t ox oy cs ds hg, Result.andThen_ok, run_neq_struct, hr]; rfl
  · cases hv
end Go.Sy
namespace Go.Sy
def f1j (k:IntKind) (p:PL):Option V:=
 match k,p with
 | .i32,.i n=>if 0≤n∧n<128 then some (.w (.one (.pl (.val (.int .i32 n))))) else none
 |_,_=>none
def j0y (P:Program) (S:St) (src dst:TypeId) (x:V):Option V:=
 match P.underlying src,P.underlying dst,x with
 |some _,some (.int k),.w (.one (.pl p))=>match toKind k p with
  |some z=>some (.w (.one (.pl z)))
  |none=>f1j k p
 |some (.int .i32),some .string,.w (.one (.pl (.val (.int .i32 n))))=>if 0≤n∧n<128 then some (.w (.one (.pl (.str [UInt8.ofNat n.toNat])))) else none
 |some _,some .string,.w (.one (.pl (.str s)))=>some (.w (.one (.pl (.str s))))
 |some (.slice e),some .string,.w (.one (.pl (.R ex sz rows)))=>
  match P.underlying e with
  |some (.int .u8)=>if sz=1∨rows=[] then (d0g rows).map fun bs=>.w (.one (.pl (.str bs))) else none
  |_=>none
 |some (.slice e),some .string,.w (.one (.s k path len sz))=>
  match P.underlying e,look S.mem k with
  |some (.int .u8),some o=>if pok o.cells.length path∧psz o.cells.length path=len∧sz=1 then (Vz (rd o.cells path)).map fun bs=>.w (.one (.pl (.str bs))) else none
  |_,_=>none
 |_,_,_=>none
theorem pushes : ∀ (bs:List UInt8) (s:ByteArray),((bs.map fun b=>(b.toNat:Int)).foldl (fun r n=>r.push (UInt8.ofNat n.toNat)) s)=s++⟨bs.toArray⟩
 | [],s=>by apply ByteArray.ext;simp
 |b::bs,s=>by
  rw [List.map_cons,List.foldl_cons,pushes bs]
  apply ByteArray.ext;simp
theorem a1i {P:Program} {w:World} {blk o cap:Nat} {bs:List UInt8} (h:Jy w blk o (bs.map fun b=>Value.int .u8 b.toNat)):
  (Conv.bytesToString (.slice (some ⟨blk,o,none⟩) bs.length cap)).run P w=.ok (.string ⟨bs.toArray⟩) w:=by
 have hl:=run_loadCells_list (P:=P) w ⟨blk,o,none⟩ (bs.map fun b=>Value.int .u8 b.toNat) (fun j v hv=>by rw [addr_add];exact h j v hv)
 rw [List.length_map] at hl
 rw [run_bytesToString w _ _ cap (bs.map fun b=>(b.toNat:Int)) (by rw [hl];simp [Function.comp_def]),pushes]
 simp
theorem m0j : ∀ {c:List L} {bs:List UInt8},Vz c=some bs→bs.length=c.length
 | [],bs,h=>by simp only [Vz] at h;cases h;rfl
 |c::r,bs,h=>by
  unfold Vz at h
  split at h
  ·rename_i he;cases he
  ·rename_i x r' he
   cases he
   cases hb:Vz r with
   |none=>simp [hb] at h
   |some bs'=>simp only [hb,Option.map_some,Option.some.injEq] at h;subst h;simp [m0j hb]
  ·cases h
theorem j1n {P:Program} {B:Base} {d:Va} {S:St} {a:Act} {w:World} (h:Sim B d S a w) {src dst:TypeId} {x v:V} {y:Value} (hv:j0y P S src dst x=some v) (hx:x.den d y):
  ∃ z,(convert src dst y).run P w=.ok z w∧v.den d z:=by
 unfold j0y at hv
 split at hv
 ·rename_i ds k p hs hd
  cases hk:toKind k p with
  |none=>
   simp only [hk,f1j] at hv
   split at hv<;>try (cases hv;done)
   rename_i n
   split at hv<;>try (cases hv;done)
   rename_i hn
   cases hv
   have e:y=.int .i64 n:=hx
   subst e
   refine ⟨.int .i32 n,?_,?_⟩
   ·unfold convert
    simp only [Sem.run_bind,run_underlying hs w,run_underlying hd w,Result.andThen_ok,Conv.intToInt,Sem.run_pure]
    congr 2
    simp only [IntKind.wrap,IntKind.bits,IntKind.signed]
    simp
    omega
   ·exact ⟨rfl,⟨fun _ h=>(by cases h),fun _ h=>(by cases h)⟩⟩
  |some z=>
   simp only [hk,Option.some.injEq] at hv;subst hv
   obtain ⟨n,hn,hr,hz⟩:=y0f (P:=P) (ro:=d.ro) w hk
   have e:=PL.num_den hn hx
   subst e
   refine ⟨z.mk,?_,hz⟩
   unfold convert
   simp only [Sem.run_bind,run_underlying hs w,run_underlying hd w,Result.andThen_ok]
   exact hr
 ·rename_i n hs hd
  split at hv<;>try (cases hv;done)
  rename_i hn
  cases hv
  have e:y=.int .i32 n:=hx.1
  subst e
  refine ⟨.string (Utf8.encode n),?_,?_⟩
  ·unfold convert
   simp only [Sem.run_bind,run_underlying hs w,run_underlying hd w,Result.andThen_ok,Conv.intToString,Sem.run_pure]
  ·have hv:Utf8.valid n=true:=by simp [Utf8.valid];omega
   show PL.den _ _ _
   rw [PL.den]
   refine ⟨?_,by simp;decide⟩
   simp only [Utf8.encode,hv,if_true]
   rw [if_pos (by omega)]
 ·rename_i ds s hs hd
  cases hv
  have hx':=hx
  change PL.den d.ro _ y at hx;rw [PL.den] at hx
  obtain ⟨rfl,hl⟩:=hx
  refine ⟨_,?_,hx'⟩
  unfold convert
  simp only [Sem.run_bind,run_underlying hs w,run_underlying hd w,Result.andThen_ok]
  cases ds<;>simp
 ·rename_i e ex sz rows hs hd
  split at hv<;>try (cases hv;done)
  rename_i he
  split at hv<;>try (cases hv;done)
  rename_i hc
  cases hb:d0g rows with
  |none=>simp [hb] at hv
  |some bs=>
   simp only [hb,Option.map_some,Option.some.injEq] at hv;subst hv
   change PL.den d.ro _ y at hx;rw [PL.den] at hx
   rcases hx with ⟨rfl,rfl⟩|⟨blk,off,cap,rfl,hlc,hcm,_,hrows⟩|⟨sa,cap,rfl,rfl,hcm,_⟩
   ·simp only [d0g] at hb;cases hb
    refine ⟨.string .empty,?_,?_⟩
    ·rw [run_convert_bytes_string w src dst e none 0 0 hs he hd];simp [Conv.bytesToString]
    ·show PL.den _ _ _;rw [PL.den];exact ⟨rfl,by simp⟩
   ·have key:Jy w blk off (bs.map fun b=>Value.int .u8 b.toNat)∧rows.length=bs.length:=by
     rcases hc with rfl|rfl
     ·exact q0m h.ro hb hrows
     ·simp only [d0g] at hb;cases hb;exact ⟨fun j v hv=>by simp at hv,rfl⟩
    refine ⟨.string ⟨bs.toArray⟩,?_,?_⟩
    ·rw [run_convert_bytes_string w src dst e _ _ _ hs he hd,key.2];exact a1i key.1
    ·show PL.den _ _ _;rw [PL.den];exact ⟨rfl,by omega⟩
   ·simp only [d0g] at hb;cases hb
    have hz:(loadCells sa 0).run P w=.ok #[] w:=run_loadCells_list w sa [] (fun j v hv=>by simp at hv)
    refine ⟨.string .empty,?_,?_⟩
    ·rw [run_convert_bytes_string w src dst e _ _ _ hs he hd];simp [Conv.bytesToString,hz]
    ·show PL.den _ _ _;rw [PL.den];exact ⟨rfl,by simp⟩
 ·rename_i e k path len sz hs hd
  split at hv<;>try (cases hv;done)
  rename_i o he hk
  split at hv<;>try (cases hv;done)
  rename_i hc
  obtain ⟨hp,hps,rfl⟩:=hc
  cases hb:Vz (rd o.cells path) with
  |none=>simp [hb] at hv
  |some bs=>
   simp only [hb,Option.map_some,Option.some.injEq] at hv;subst hv
   obtain ⟨vals,hd2,hcell,hlen⟩:=h.readObj hk hp
   have hvals:=q0n hb hd2
   have hbl:=m0j hb
   rw [Xk _ hp,hps] at hbl
   obtain ⟨oo,cap,rfl,hlc,hcm,ho,_⟩:=hx
   refine ⟨.string ⟨bs.toArray⟩,?_,?_⟩
   ·rw [run_convert_bytes_string w src dst e _ _ _ hs he hd,←hbl]
    apply a1i
    rcases ho with ho|ho
    ·have:bs=[]:=List.eq_nil_of_length_eq_zero (by omega)
     subst this;exact fun j v hv=>by simp at hv
    ·rw [ho,←hvals];exact hcell
   ·show PL.den _ _ _;rw [PL.den];exact ⟨rfl,by omega⟩
 ·cases hv
def w0s (P:Program) (t:TypeId) (x:V):Option V:=
 match P.underlying t,x with
 |some .string,.w (.one (.pl (.str s)))=>some (.w (.one (.pl (.i s.length))))
 |some (.array n _),_=>some (.w (.one (.pl (.i n))))
 |some (.slice _),.w (.one (.pl (.R _ _ rows)))=>some (.w (.one (.pl (.i rows.length))))
 |some (.slice _),.w (.one (.s _ _ len _))=>some (.w (.one (.pl (.i len))))
 |_,_=>none
theorem n1s {P:Program} {d:Va} {w:World} {t ty:TypeId} {ts:Array TypeId} {x v:V} {y:Value} (hv:w0s P t x=some v) (ht:ts[0]? =some t) (hx:x.den d y):
  ∃ z,(Builtin.len_ ts ty #[y]).run P w=.ok z w∧v.den d z:=by
 unfold w0s at hv
 split at hv<;>cases hv
 ·rename_i s hu
  change PL.den d.ro _ y at hx;rw [PL.den] at hx
  obtain ⟨rfl,_⟩:=hx
  refine ⟨.int .i64 s.length,?_,by show PL.den _ _ _;rw [PL.den]⟩
  simp [Builtin.len_,ht,run_underlying hu w,b0z,goInt]
 ·rename_i n e hu
  refine ⟨.int .i64 n,?_,by show PL.den _ _ _;rw [PL.den]⟩
  simp [Builtin.len_,ht,run_underlying hu w,goInt]
 ·rename_i e ex sz rows hu
  change PL.den d.ro _ y at hx;rw [PL.den] at hx
  refine ⟨.int .i64 rows.length,?_,by show PL.den _ _ _;rw [PL.den]⟩
  rcases hx with ⟨rfl,rfl⟩|⟨blk,off,cap,rfl,_⟩|⟨_,cap,rfl,rfl,_⟩<;>simp [Builtin.len_,ht,run_underlying hu w,goInt]
 ·rename_i e k path len sz hu
  obtain ⟨o,cap,rfl,_⟩:=hx
  refine ⟨.int .i64 len,?_,by show PL.den _ _ _;rw [PL.den]⟩
  simp [Builtin.len_,ht,run_underlying hu w,goInt]
def h0e (c:Bool) (x y:V):V:=
 match x,y with
 | .w (.one (.pl (.b p))),.w (.one (.pl (.b q)))=>.w (.one (.pl (.b (bif c then p else q))))
 |_,_=>bif c then x else y
theorem f1q {d:Va} {c:Bool} {x y:V} {a b:Value} (hx:x.den d a) (hy:y.den d b):(h0e c x y).den d (if c=true then a else b):=by
 unfold h0e
 split
 ·change PL.den d.ro _ a at hx;change PL.den d.ro _ b at hy
  rw [PL.den] at hx hy;subst hx;subst hy
  show PL.den _ _ _;rw [PL.den];cases c<;>rfl
 ·cases c
  ·exact hy
  ·exact hx
def t1n :V→Option V
 | .w (.one (.p k path))=>some (.w (.one (.p k path)))
 | .w (.one (.pl (.q c path)))=>some (.w (.one (.pl (.q c path))))
 | .w (.one (.fn f caps))=>some (.w (.one (.fn f caps)))
 |_=>none
end Go.Sy
namespace Go.Sy
def Ik (P:Program) (t:TypeId):Option (List L):=
 match P.info? t with
 |some i=>match i.zero with
  |some z=>Ny z.cells.toList
  |none=>none
 |none=>none
theorem h0m {P:Program} {t:TypeId} {cs:List L} (h:Ik P t=some cs) (w:World) (d:Va): ∃ z,(zeroValue t).run P w=.ok z w∧Fv (L.den d) cs z.cells.toList:=by
 unfold Ik at h
 split at h<;>try (cases h;done)
 rename_i i hi
 split at h<;>try (cases h;done)
 rename_i z hz
 exact ⟨z,by simp [zeroValue,typeInfo,hi,hz],Vj h⟩
theorem foldl_set (off:Nat): ∀ (vs:List Value) (j:Nat) (cells:Array Value),off+j+vs.length≤cells.size→
  ((vs.zipIdx j).foldl (fun cs x=>cs.setIfInBounds (off+x.2) x.1) cells).toList=upd cells.toList (off+j) vs.length vs
 | [],j,cells,_=>by simp [upd]
 |v::vs,j,cells,h=>by
  simp only [List.length_cons] at h
  rw [List.zipIdx_cons,List.foldl_cons,foldl_set off vs (j+1) _ (by simp;omega)]
  have hlt:off+j<cells.size:=by omega
  simp only [upd,Array.toList_setIfInBounds,List.length_cons]
  rw [show off+(j+1)=off+j+1 from by omega]
  have hl:(cells.toList.set (off+j) v).take (off+j+1)=cells.toList.take (off+j)++[v]:=by
   rw [List.take_succ_eq_append_getElem (by simpa using hlt),List.getElem_set_self,List.take_set]
   congr 1
   rw [List.set_eq_of_length_le (by simp;omega)]
  have hr:(cells.toList.set (off+j) v).drop (off+j+1+vs.length)=cells.toList.drop (off+j+(vs.length+1)):=by
   rw [List.drop_set,if_pos (by omega)];congr 1;omega
  rw [hl,hr];simp
def Vw (place:Nat→Option (Nat×Nat)):List L→List (Nat×V)→Option (List L)
 |cells,[]=>some cells
 |cells,x::rest=>
  match x.2,place x.1 with
  | .w v,some pl=>if v.cells.length=pl.2∧pl.1+pl.2≤cells.length then Vw place (upd cells pl.1 pl.2 v.cells) rest else none
  |_,_=>none
theorem h0y {d:Va} {place:Nat→Option (Nat×Nat)}: ∀ {cells:List L} {vals:Array Value} {ps:List (Nat×V)} {qs:List (Nat×Value)} {out:List L},
  Vw place cells ps=some out→Fv (L.den d) cells vals.toList→Fv (fun (p:Nat×V) (q:Nat×Value)=>p.1=q.1∧p.2.den d q.2) ps qs→
   ∃ r,Instr.fill place vals qs=some r∧Fv (L.den d) out r.toList
 |cells,vals,[],qs,out,h,hd,hp=>by cases hp;simp only [Vw] at h;cases h;exact ⟨vals,rfl,hd⟩
 |cells,vals,x::ps,qs,out,h,hd,hp=>by
  cases hp with
  |cons h1 h2=>
   rename_i q qs'
   obtain ⟨i,y⟩:=q
   obtain ⟨rfl,hy⟩:=h1
   unfold Vw at h
   split at h<;>try (cases h;done)
   rename_i v pl hv hpl
   split at h<;>try (cases h;done)
   rename_i hc
   rw [hv] at hy
   have hcells:=W.den_cells hy
   have hl:=hcells.length
   have hl2:=hd.length
   simp only [Array.length_toList] at hl hl2
   have hset:=foldl_set pl.1 y.cells.toList 0 vals (by simp;omega)
   obtain ⟨r,hr,hrd⟩:=h0y (vals:=(y.cells.zipIdx.foldl (fun cs x=>cs.setIfInBounds (pl.1+x.2) x.1) vals)) h (by
    rw [←Array.foldl_toList,Array.toList_zipIdx,hset]
    simp only [Nat.add_zero,Array.length_toList]
    rw [←hl,hc.1]
    exact hd.upd hcells _ _) h2
   refine ⟨r,?_,hrd⟩
   unfold Instr.fill
   simp only [hpl]
   rw [if_neg (by simp;omega)]
   exact hr
def Qx (S:St):List (Nat×Operand)→Option (List (Nat×V))
 | []=>some []
 |x::r=>match S.get x.2,Qx S r with
  |some v,some vs=>some ((x.1,v)::vs)
  |_,_=>none
theorem e0j {B:Base} {d:Va} {S:St} {a:Act} {w:World} (h:Sim B d S a w): ∀ {ps:List (Nat×Operand)} {vs:List (Nat×V)},Qx S ps=some vs→
  Fv (fun (p:Nat×V) (q:Nat×Value)=>p.1=q.1∧p.2.den d q.2) vs (ps.map fun x=>(x.1,a.eval x.2))
 | [],vs,hv=>by simp only [Qx] at hv;cases hv;exact .nil
 |x::r,vs,hv=>by
  simp only [Qx] at hv
  cases h1:S.get x.2 with
  |none=>simp [h1] at hv
  |some v=>
   cases h2:Qx S r with
   |none=>simp [h1,h2] at hv
   |some us=>
    simp only [h1,h2,Option.some.injEq] at hv;subst hv
    exact .cons ⟨rfl,h.get h1⟩ (e0j h h2)
def placesOf (P:Program) (fs:Array Field) (i:Nat):Option (Nat×Nat):=(fs[i]?).map fun f=>(f.offset,P.cellsOf f.type)
def h0c (P:Program) (S:St) (t:TypeId) (parts:List (Nat×Operand)):Option V:=
 match Ik P t,Qx S parts,P.underlying t with
 |some z,some ps,some (.struct fs)=>if fs.toList.all (fun f=>P.cellsOf f.type !=0) then (Vw (placesOf P fs) z ps).map fun cs=>.w (.agg cs) else none
 |some z,some ps,some (.array _ e)=>if P.cellsOf e≠0 then (Vw (fun i=>some (i*P.cellsOf e,P.cellsOf e)) z ps).map fun cs=>.w (.agg cs) else none
 |_,_,_=>none
theorem c0z {P:Program} {w:World}: ∀ (fs:List Field),(fs.all fun f=>P.cellsOf f.type !=0)=true→
  (fs.mapM fun f=>Prod.mk f.offset<$>sizeOf f.type:Sem (List (Nat×Nat))).run P w=.ok (fs.map fun f=>(f.offset,P.cellsOf f.type)) w
 | [],_=>by simp
 |f::fs,h=>by
  simp only [List.all_cons,Bool.and_eq_true,bne_iff_ne,ne_eq] at h
  simp [List.mapM_cons,Ky h.1 w,c0z fs h.2]
theorem d1k {P:Program} {B:Base} {d:Va} {S:St} {a:Act} {w:World} (h:Sim B d S a w) {t:TypeId} {parts:Array (Nat×Operand)} {v:V} (hv:h0c P S t parts.toList=some v):
  ∃ z,(Instr.build t (parts.map fun x=>(x.1,a.eval x.2))).run P w=.ok z w∧v.den d z:=by
 unfold h0c at hv
 split at hv<;>try (cases hv;done)
 ·rename_i z ps fs hz hps hu
  split at hv<;>try (cases hv;done)
  rename_i hall
  cases hf:Vw (placesOf P fs) z ps with
  |none=>simp [hf] at hv
  |some cs=>
   simp only [hf,Option.map_some,Option.some.injEq] at hv;subst hv
   obtain ⟨zv,hzr,hzd⟩:=h0m hz w d
   obtain ⟨r,hr,hrd⟩:=h0y (d:=d) (qs:=parts.toList.map fun x=>(x.1,a.eval x.2)) hf hzd (e0j h hps)
   refine ⟨.agg r,?_,⟨r,rfl,hrd⟩⟩
   have hm:=c0z (P:=P) (w:=w) fs.toList (by simpa using hall)
   have hm2:(fs.mapM fun f=>do pure (f.offset,←sizeOf f.type):Sem (Array (Nat×Nat))).run P w=.ok (fs.map fun f=>(f.offset,P.cellsOf f.type)) w:=by
    rw [Array.mapM_eq_mapM_toList]
    simp [hm]
    apply Array.ext';simp
   have e:(fun i=>(fs.map fun f=>(f.offset,P.cellsOf f.type))[i]?)=placesOf P fs:=by
    funext i;simp [placesOf]
   simp only [Instr.build,Sem.run_bind,hzr,Result.andThen_ok,run_underlying hu w,hm2]
   rw [e]
   simp [hr]
 ·rename_i z ps n e hz hps hu
  split at hv<;>try (cases hv;done)
  rename_i h0
  cases hf:Vw (fun i=>some (i*P.cellsOf e,P.cellsOf e)) z ps with
  |none=>simp [hf] at hv
  |some cs=>
   simp only [hf,Option.map_some,Option.some.injEq] at hv;subst hv
   obtain ⟨zv,hzr,hzd⟩:=h0m hz w d
   obtain ⟨r,hr,hrd⟩:=h0y (d:=d) (qs:=parts.toList.map fun x=>(x.1,a.eval x.2)) hf hzd (e0j h hps)
   refine ⟨.agg r,?_,⟨r,rfl,hrd⟩⟩
   simp only [Instr.build,Sem.run_bind,hzr,Result.andThen_ok,run_underlying hu w,Ky h0 w]
   simp [hr]
def d0d (S:St):Option Operand→Option (Option V)
 |none=>some none
 |some x=>(S.get x).map some
theorem j0k {B:Base} {d:Va} {S:St} {a:Act} {w:World} (h:Sim B d S a w) {x:Option Operand} {v:Option V} (hv:d0d S x=some v):k0j d v (x.map a.eval):=by
 cases x with
 |none=>simp only [d0d] at hv;cases hv;trivial
 |some x=>
  simp only [d0d] at hv
  cases hg:S.get x with
  |none=>simp [hg] at hv
  |some y=>simp only [hg,Option.map_some,Option.some.injEq] at hv;subst hv;exact h.get hg
def d0l (b:Builtin) (x y:V):Option V:=
 match b,x,y with
 | .min,.w (.one (.pl (.i p))),.w (.one (.pl (.i q)))=>some (.w (.one (.pl (.i (if q<p then q else p)))))
 | .max,.w (.one (.pl (.i p))),.w (.one (.pl (.i q)))=>some (.w (.one (.pl (.i (if q>p then q else p)))))
 |_,_,_=>none
def g0k (S:St):List Operand→Option (List Nat)
 | []=>some []
 |x::r=>match S.get x,g0k S r with
  |some (.w (.one (.p k []))),some ks=>some (k::ks)
  |_,_=>none
theorem v0n {B:Base} {d:Va} {S:St} {a:Act} {w:World} (h:Sim B d S a w): ∀ {xs:List Operand} {ks:List Nat},g0k S xs=some ks→xs.map a.eval=ks.map fun k=>Value.pointer (some ⟨d.at_ k,0,none⟩)
 | [],ks,hk=>by simp only [g0k] at hk;cases hk;rfl
 |x::r,ks,hk=>by
  unfold g0k at hk
  split at hk<;>cases hk
  rename_i k ks h1 h2
  have:=h.get h1
  rw [List.map_cons,List.map_cons,v0n h h2]
  congr 1
def Fw (P:Program) (S:St):Op→Option V
 | .move x| .assign x=>S.get x
 | .pick c x y=>match S.get c,S.get x,S.get y with
  |some (.w (.one (.pl (.b b)))),some u,some v=>some (h0e b u v)
  |_,_,_=>none
 | .build t parts=>h0c P S t parts.toList
 | .load t x=>(S.get x).bind (h0f P S t)
 | .nilCheck x=>(S.get x).bind t1n
 | .binOp op t x y _=>match S.get x,S.get y with
  |some u,some v=>Mj P op t u v
  |_,_=>none
 | .unOp op _ x=>(S.get x).bind (unV op)
 | .convert s t x=>(S.get x).bind (j0y P S s t)
 | .slice t x lo hi mx=>match S.get x,d0d S lo,d0d S hi,d0d S mx with
  |some v,some l,some h,some m=>e0c P S t v l h m
  |_,_,_,_=>none
 | .fieldAddr t x f=>(S.get x).bind (g0y P t f)
 | .field t x f=>(S.get x).bind (g0a P t f)
 | .indexAddr t x i=>match S.get x,S.get i with
  |some u,some v=>Pz P t u v
  |_,_=>none
 | .index t x i=>match S.get x,S.get i with
  |some u,some v=>j0i P t u v
  |_,_=>none
 | .extract x i=>(S.get x).bind fun v=>c0r v i
 | .makeFunc (.func f) first caps=>if first.toList=[] then (g0k S caps.toList).map fun ks=>.w (.one (.fn f ks)) else none
 | .call ⟨.builtin .len,args,ts⟩=>match args.toList,ts.toList with
  | [x],[t]=>(S.get x).bind (w0s P t)
  |_,_=>none
 | .call ⟨.builtin .min,args,_⟩=>match args.toList with
  | [x,y]=>match S.get x,S.get y with
   |some u,some v=>d0l .min u v
   |_,_=>none
  |_=>none
 | .call ⟨.builtin .max,args,_⟩=>match args.toList with
  | [x,y]=>match S.get x,S.get y with
   |some u,some v=>d0l .max u v
   |_,_=>none
  |_=>none
 |_=>none
theorem bind_some {α β:Type} {x:Option α} {f:α→Option β} {b:β} (h:x.bind f=some b): ∃ a,x=some a∧f a=some b:=by
 cases x with
 |none=>cases h
 |some a=>exact ⟨a,rfl,h⟩
theorem n0b {P:Program} {B:Base} {d:Va} {S:St} {a:Act} {w:World} (h:Sim B d S a w) {o:Oper} {v:V} (hv:Fw P S o.op=some v):
  ∃ y,(execOp a.eval o).run P w=.ok (.value y) w∧v.den d y:=by
 unfold Fw at hv
 unfold execOp
 split at hv
 ·rename_i x ho;rw [ho];exact ⟨_,rfl,h.get hv⟩
 ·rename_i x ho;rw [ho];exact ⟨_,rfl,h.get hv⟩
 ·rename_i c x y ho;rw [ho]
  split at hv<;>cases hv
  rename_i b u v hc hx hy
  have ec:a.eval c=.bool b:=by have:=h.get hc;change PL.den _ _ _ at this;rwa [PL.den] at this
  refine ⟨_,?_,f1q (h.get hx) (h.get hy)⟩
  simp [ec,asBool]
 ·rename_i t parts ho;rw [ho]
  obtain ⟨z,hz,hd⟩:=d1k (w:=w) (P:=P) h hv
  exact ⟨z,by simp [hz],hd⟩
 ·rename_i t x ho;rw [ho]
  obtain ⟨u,hu,hv⟩:=bind_some hv
  obtain ⟨z,hz,hd⟩:=u0w h hv (h.get hu)
  exact ⟨z,by simp [hz],hd⟩
 ·rename_i x ho;rw [ho]
  obtain ⟨u,hu,hv⟩:=bind_some hv
  have hx:=h.get hu
  unfold t1n at hv
  split at hv<;>cases hv
  ·change _=_ at hx
   exact ⟨_,by simp only [hx];rfl,rfl⟩
  ·have hx':=hx
   change PL.den _ _ _ at hx;rw [PL.den] at hx
   obtain ⟨blk,off,e,_⟩:=hx
   exact ⟨_,by simp only [e];rfl,by rw [←e];exact hx'⟩
  ·change _=_ at hx
   exact ⟨_,by simp only [hx];rfl,rfl⟩
 ·rename_i op t x y t2 ho;rw [ho]
  split at hv<;>try (cases hv;done)
  rename_i u v hx hy
  obtain ⟨z,hz,hd⟩:=p1j (w:=w) (ox:=x) (oy:=y) hv (h.get hx) (h.get hy)
  exact ⟨z,by simp only [Sem.run_bind] at hz ⊢;rw [hz];rfl,hd⟩
 ·rename_i op t x ho;rw [ho]
  obtain ⟨u,hu,hv⟩:=bind_some hv
  obtain ⟨z,hz,hd⟩:=p1y (P:=P) (w:=w) hv (h.get hu)
  exact ⟨z,by simp [hz],hd⟩
 ·rename_i s t x ho;rw [ho]
  obtain ⟨u,hu,hv⟩:=bind_some hv
  obtain ⟨z,hz,hd⟩:=j1n h hv (h.get hu)
  exact ⟨z,by simp [hz],hd⟩
 ·rename_i t x lo hi mx ho;rw [ho]
  split at hv<;>try (cases hv;done)
  rename_i v l hh m hx hl hhi hm
  obtain ⟨z,hz,hd⟩:=y0n h hv (h.get hx) (j0k h hl) (j0k h hhi) (j0k h hm)
  exact ⟨z,by simp [hz],hd⟩
 ·rename_i t x f ho;rw [ho]
  obtain ⟨u,hu,hv⟩:=bind_some hv
  obtain ⟨z,hz,hd⟩:=c1l (w:=w) hv (h.get hu)
  exact ⟨z,by simp [hz],hd⟩
 ·rename_i t x f ho;rw [ho]
  obtain ⟨u,hu,hv⟩:=bind_some hv
  obtain ⟨z,hz,hd⟩:=w0m (w:=w) hv (h.get hu)
  exact ⟨z,by simp [hz],hd⟩
 ·rename_i t x i ho;rw [ho]
  split at hv<;>try (cases hv;done)
  rename_i u v hx hy
  obtain ⟨z,hz,hd⟩:=n0m (w:=w) hv (h.get hx) (h.get hy)
  exact ⟨z,by simp [hz],hd⟩
 ·rename_i t x i ho;rw [ho]
  split at hv<;>try (cases hv;done)
  rename_i u v hx hy
  obtain ⟨z,hz,hd⟩:=b1s (w:=w) hv (h.get hx) (h.get hy)
  exact ⟨z,by simp [hz],hd⟩
 ·rename_i x i ho;rw [ho]
  obtain ⟨u,hu,hv⟩:=bind_some hv
  obtain ⟨z,hz,hd⟩:=s0l (P:=P) (w:=w) hv (h.get hu)
  exact ⟨z,by simp [hz],hd⟩
 ·rename_i f first caps ho;rw [ho]
  split at hv<;>try (cases hv;done)
  rename_i hf
  cases hc:g0k S caps.toList with
  |none=>simp [hc] at hv
  |some ks=>
   simp only [hc,Option.map_some,Option.some.injEq] at hv;subst hv
   have e:=v0n h hc
   have hf':first= #[]:=Array.toList_eq_nil_iff.1 hf
   refine ⟨_,by simp only [Instr.makeFunc];rfl,?_⟩
   show _=_
   rw [hf',←e];simp;apply Array.ext';simp
 ·rename_i args ts ho;rw [ho]
  split at hv<;>try (cases hv;done)
  rename_i x t ha ht
  obtain ⟨u,hu,hv⟩:=bind_some hv
  have ea:args= #[x]:=by rw [←Array.toList_inj,ha]
  have et:ts[0]? =some t:=by rw [←Array.getElem?_toList,ht];rfl
  obtain ⟨z,hz,hd⟩:=n1s (P:=P) (w:=w) (ts:=ts) (ty:=o.type) hv et (h.get hu)
  refine ⟨z,?_,hd⟩
  subst ea
  simp [resolve,invoke,builtin,hz]
 ·rename_i args ts ho;rw [ho]
  split at hv<;>try (cases hv;done)
  rename_i x y ha
  split at hv<;>try (cases hv;done)
  rename_i u v' hx hy
  have ea:args= #[x,y]:=by rw [←Array.toList_inj,ha]
  subst ea
  unfold d0l at hv
  split at hv<;>cases hv
  ·have h1:=h.get hx;have h2:=h.get hy
   change PL.den _ _ _ at h1 h2;rw [PL.den] at h1 h2
   refine ⟨_,?_,by show PL.den _ _ _;rw [PL.den]⟩
   simp [resolve,invoke,builtin,Builtin.min_,Builtin.min2,h1,h2]
  ·contradiction
 ·rename_i args ts ho;rw [ho]
  split at hv<;>try (cases hv;done)
  rename_i x y ha
  split at hv<;>try (cases hv;done)
  rename_i u v' hx hy
  have ea:args= #[x,y]:=by rw [←Array.toList_inj,ha]
  subst ea
  unfold d0l at hv
  split at hv<;>cases hv
  ·contradiction
  ·have h1:=h.get hx;have h2:=h.get hy
   change PL.den _ _ _ at h1 h2;rw [PL.den] at h1 h2
   refine ⟨_,?_,by show PL.den _ _ _;rw [PL.den]⟩
   simp [resolve,invoke,builtin,Builtin.max_,Builtin.max2,h1,h2]
 ·cases hv
end Go.Sy
namespace Go.Sy
def L.has (k:Nat):L→Bool
 | .pl _=>false
 | .p k' _=>k==k'
 | .s k' _ _ _=>k==k'
 | .fn _ caps=>caps.any fun k'=>k==k'
def W.has (k:Nat):W→Bool
 | .one l=>l.has k
 | .agg cs=>cs.any (L.has k)
def V.has (k:Nat):V→Bool
 | .w x=>x.has k
 | .tup xs=>xs.any (W.has k)
 | .any=>false
def Ob.has (k:Nat) (o:Ob):Bool:=o.cells.any (L.has k)
def r0f (k:Nat):List (Nat×V)→Bool
 | []=>false
 |x::r=>x.2.has k||r0f k r
def p0v (k:Nat):List (Nat×Ob)→Bool
 | []=>false
 |x::r=>x.2.has k||p0v k r
def fresh (k:Nat) (S:St):Bool:=decide (k<500000)&& !(r0f k S.env||p0v k S.mem)
theorem b0s {k:Nat} {S:St} (h:fresh k S=true):r0f k S.env=false∧p0v k S.mem=false:=by
 simp only [fresh,Bool.and_eq_true,Bool.not_eq_true',Bool.or_eq_false_iff] at h;exact h.2
theorem e0w {k:Nat} {S:St} (h:fresh k S=true):k<px0:=by
 simp only [fresh,Bool.and_eq_true,decide_eq_true_eq] at h;exact h.1
theorem Tv :px0<gl0:=by decide
def e0x (k:Nat) (S:St):Bool:=(decide (k<500000)||(decide (750000≤k)&&decide (k<1000000)))&& !(r0f k S.env||p0v k S.mem)
theorem w0u {k:Nat} {S:St} (h:e0x k S=true):r0f k S.env=false∧p0v k S.mem=false:=by
 simp only [e0x,Bool.and_eq_true,Bool.not_eq_true',Bool.or_eq_false_iff] at h;exact h.2
theorem c1e {k:Nat} {S:St} (h:e0x k S=true):k<500000∨750000≤k∧k<1000000:=by
 simp only [e0x,Bool.and_eq_true,Bool.or_eq_true,decide_eq_true_eq] at h;exact h.1
theorem c1d {k:Nat} {S:St} (h:fresh k S=true):e0x k S=true:=by
 simp only [fresh,e0x,Bool.and_eq_true,Bool.or_eq_true] at h ⊢;exact ⟨.inl h.1,h.2⟩
theorem Rk {k:Nat}: ∀ {e:List (Nat×V)} {n:Nat} {v:V},r0f k e=false→look e n=some v→v.has k=false
 |x::r,n,v,h,hl=>by
  simp only [r0f,Bool.or_eq_false_iff] at h
  unfold look at hl
  split at hl
  ·cases hl;exact h.1
  ·exact Rk h.2 hl
theorem Yx {k:Nat}: ∀ {e:List (Nat×Ob)} {n:Nat} {v:Ob},p0v k e=false→look e n=some v→v.has k=false
 |x::r,n,v,h,hl=>by
  simp only [p0v,Bool.or_eq_false_iff] at h
  unfold look at hl
  split at hl
  ·cases hl;exact h.1
  ·exact Yx h.2 hl
def Va.set (d:Va) (k b n:Nat):Va:={d with at_:=fun j=>if j=k then b else d.at_ j,size:=fun j=>if j=k then n else d.size j}
theorem L.den_set {d:Va} {k b n:Nat} {l:L} {y:Value} (h:l.den d y) (hk:l.has k=false):l.den (d.set k b n) y:=by
 cases l with
 |pl x=>exact h
 |p k' path=>
  simp only [L.has,beq_eq_false_iff_ne,ne_eq] at hk
  simp only [L.den,Va.set] at*
  rw [if_neg (fun e=>hk e.symm)];exact h
 |s k' path len sz=>
  simp only [L.has,beq_eq_false_iff_ne,ne_eq] at hk
  simp only [L.den,Va.set] at*
  rw [if_neg (fun e=>hk e.symm),if_neg (fun e=>hk e.symm)];exact h
 |fn f caps=>
  simp only [L.den,Va.set] at*
  rw [h];congr 1
  apply congrArg
  apply List.map_congr_left
  intro k' hk'
  have:¬k'=k:=by
   intro e;subst e
   simp only [L.has,List.any_eq_false,beq_iff_eq] at hk
   exact hk _ hk' rfl
  simp [this]
theorem i0b {d:Va} {k b n:Nat} {cs:List L} {vs:List Value} (h:Fv (L.den d) cs vs) (hk:cs.any (L.has k)=false):Fv (L.den (d.set k b n)) cs vs:=
 h.mono fun x y hx hd=>L.den_set hd (by simp only [List.any_eq_false] at hk;simpa using hk x hx)
theorem W.den_set {d:Va} {k b n:Nat} {x:W} {y:Value} (h:x.den d y) (hk:x.has k=false):x.den (d.set k b n) y:=by
 cases x with
 |one l=>exact L.den_set h hk
 |agg cs=>obtain ⟨vs,rfl,hv⟩:=h;exact ⟨vs,rfl,i0b hv hk⟩
theorem V.den_set {d:Va} {k b n:Nat} {x:V} {y:Value} (h:x.den d y) (hk:x.has k=false):x.den (d.set k b n) y:=by
 cases x with
 |w x=>exact W.den_set h hk
 |tup xs=>
  obtain ⟨vs,rfl,hv⟩:=h
  exact ⟨vs,rfl,hv.mono fun x y hx hd=>W.den_set hd (by simp only [V.has,List.any_eq_false] at hk;simpa using hk x hx)⟩
 |any=>trivial
theorem Va.set_at (d:Va) (k b n:Nat):(d.set k b n).at_ k=b:=by simp [Va.set]
theorem Va.set_size (d:Va) (k b n:Nat):(d.set k b n).size k=n:=by simp [Va.set]
theorem Va.set_other (d:Va) {k j:Nat} (b n:Nat) (h:j≠k):(d.set k b n).at_ j=d.at_ j∧(d.set k b n).size j=d.size j:=by simp [Va.set,h]
theorem b0y {w:World} {b o:Nat} {y:Value} (h:w.cell? ⟨b,o,none⟩=some y):b<w.heap.size:=by
 have:=block_lt_of_cell h;exact this
theorem Sim.mem_lt {B:Base} {d:Va} {S:St} {a:Act} {w:World} (h:Sim B d S a w) {k:Nat} (hk:(look S.mem k).isSome=true) (hkl:k<gl0):d.at_ k<w.heap.size:=by
 cases ho:look S.mem k with
 |none=>simp [ho] at hk
 |some o=>
  obtain ⟨vals,spare,ty,fr,hh,_⟩:=h.mem k o ho hkl
  exact (Array.getElem?_eq_some_iff.1 hh).1
theorem Sim.map_apart {B:Base} {d:Va} {S:St} {a:Act} {w:World} (h:Sim B d S a w) {b:Nat} {l:List (List UInt8×Int)} (hb:MapAt w b l) {j:Nat} (hj:(look S.mem j).isSome=true) (hjl:j<gl0):d.at_ j≠b:=by
 intro e;subst e
 obtain ⟨o,ho⟩:=Option.isSome_iff_exists.mp hj
 obtain ⟨_,_,_,_,hh,_⟩:=h.mem j o ho hjl
 unfold MapAt at hb
 rw [hh] at hb;cases hb
theorem Sim.new2 {B:Base} {d:Va} {S:St} {a:Act} {w:World} (h:Sim B d S a w) {k:Nat} (hf:e0x k S=true) {row:Bool} {cells:List L} {vals spare:List Value} {ty:TypeId} {fr:Nat×Nat} {w':World}
  (hd:Fv (L.den d) cells vals) (hc:cells.any (L.has k)=false) (hs:row=false→spare=[]) (hfr:fr=(0,0)∨(vals++spare).length≤fr.1)
  (hnew:w'.heap[w.heap.size]? =some (.cells (vals++spare).toArray ty fr)) (hold: ∀ b,b<w.heap.size→w'.heap[b]? =w.heap[b]?)
  (hos:w'.os=w.os) (htape:w'.tape=w.tape) (hout:w'.output=w.output):
  Sim B (d.set k w.heap.size (vals++spare).length) {S with mem:=(k,⟨row,cells⟩)::S.mem} a w':=by
 have hf':=w0u hf
 have hok:=c1e hf
 have hfl:k<gl0:=by show k<1000000;omega
 have hpg:=Tv
 have hsz:w.heap.size<w'.heap.size:=(Array.getElem?_eq_some_iff.1 hnew).1
 refine ⟨h.defers,h.nt,?_,?_,?_,?_,?_,h.old,hos.trans h.os,htape.trans h.tape,hout.trans h.output,Nat.le_trans h.size (by omega),?_,?_,?_,?_,h.fxn,fun b l hb=>?_⟩
 ·intro n v hv
  obtain ⟨y,hy,hd⟩:=h.env n v hv
  exact ⟨y,hy,V.den_set hd (Rk hf'.1 hv)⟩
 ·intro k' o ho hkl
  unfold look at ho
  split at ho
  ·rename_i e
   simp only at e
   cases ho
   subst e
   exact ⟨vals,spare,ty,fr,by rw [Va.set_at];exact hnew,hfr,i0b hd hc,fun e=>hs (Rw.b.inj e),by rw [Va.set_size]⟩
  ·rename_i e
   simp only at e
   obtain ⟨vs,sp,ty',fr',hh,hfr',hd',hs',hl⟩:=h.mem k' o ho hkl
   have hlt:=h.mem_lt (k:=k') (by rw [ho];rfl) hkl
   obtain ⟨e1,e2⟩:=d.set_other w.heap.size (vals++spare).length e
   refine ⟨vs,sp,ty',fr',by rw [e1,hold _ hlt];exact hh,hfr',i0b hd' (Yx hf'.2 ho),hs',by rw [e2];exact hl⟩
 ·intro k1 k2 h1 h2 g1 g2 he
  unfold look at h1 h2
  by_cases e1:k1=k<;>by_cases e2:k2=k
  ·rw [e1,e2]
  ·exfalso
   rw [if_neg e2] at h2
   have:=h.mem_lt h2 g2
   rw [e1,Va.set_at,(d.set_other _ _ e2).1] at he;omega
  ·exfalso
   rw [if_neg e1] at h1
   have:=h.mem_lt h1 g1
   rw [e2,Va.set_at,(d.set_other _ _ e1).1] at he;omega
  ·rw [if_neg e1] at h1;rw [if_neg e2] at h2
   rw [(d.set_other _ _ e1).1,(d.set_other _ _ e2).1] at he
   exact h.inj _ _ h1 h2 g1 g2 he
 ·intro k' hk' hkl
  unfold look at hk'
  by_cases e:k'=k
  ·subst e
   rw [Va.set_at]
   refine ⟨fun o=>?_,.inl h.size⟩
   show d.ro _ _=none
   cases hr:d.ro w.heap.size o with
   |none=>rfl
   |some y=>have:=b0y (h.ro _ _ _ hr);omega
  ·rw [if_neg e] at hk'
   rw [(d.set_other _ _ e).1]
   exact h.own k' hk' hkl
 ·intro b o y hy
  have hr:=h.ro b o y hy
  have:=b0y hr
  simp only [World.cell?] at hr ⊢
  rw [hold b this];exact hr
 ·intro b hb hm
  rw [hold b (by have:=h.size;omega)];exact h.block b hb hm
 ·intro k' hk'
  rw [(d.set_other _ _ (show k'≠k by omega)).1];exact h.gat k' hk'
 ·intro k' o ho hk'
  unfold look at ho
  rw [if_neg (show k'≠k by omega)] at ho
  rw [(d.set_other _ _ (show k'≠k by omega)).2]
  exact h.glob k' o ho hk'
 ·intro k' o p ho hp hkl
  by_cases hne:k'=k
  ·subst hne
   have h5:500000≤k':=h.fxn k' p hp
   exact ⟨fun hl=>by omega,.inr (by rw [Va.set_at];exact h.size)⟩
  ·unfold look at ho
   rw [if_neg hne] at ho
   rw [(d.set_other _ _ hne).1,(d.set_other _ _ hne).2]
   exact h.fix k' o p ho hp hkl
 ·simp only [look] at hb
  rw [if_neg (show mp0+b≠k by show 2000000+b≠k;have:k<1000000:=hfl;omega)] at hb
  exact (h.mp b l hb).of (hold b (h.mp b l hb).lt)
theorem Sim.new {B:Base} {d:Va} {S:St} {a:Act} {w:World} (h:Sim B d S a w) {k:Nat} (hf:fresh k S=true) {row:Bool} {cells:List L} {vals spare:List Value} {ty:TypeId} {fr:Nat×Nat} {w':World}
  (hd:Fv (L.den d) cells vals) (hc:cells.any (L.has k)=false) (hs:row=false→spare=[]) (hfr:fr=(0,0)∨(vals++spare).length≤fr.1)
  (hnew:w'.heap[w.heap.size]? =some (.cells (vals++spare).toArray ty fr)) (hold: ∀ b,b<w.heap.size→w'.heap[b]? =w.heap[b]?)
  (hos:w'.os=w.os) (htape:w'.tape=w.tape) (hout:w'.output=w.output):
  Sim B (d.set k w.heap.size (vals++spare).length) {S with mem:=(k,⟨row,cells⟩)::S.mem} a w':=h.new2 (c1d hf) hd hc hs hfr hnew hold hos htape hout
theorem Sim.put {B:Base} {d:Va} {S:St} {a:Act} {w:World} (h:Sim B d S a w) {n:Nat} {v:V} {y:Value} (hn:n<B.nt) (hd:v.den d y):
  Sim B d {S with env:=(n,v)::S.env} (a.put (some n) y) w:=by
 refine ⟨h.defers,by simpa [Act.put] using h.nt,?_,h.mem,h.inj,h.own,h.ro,h.old,h.os,h.tape,h.output,h.size,h.block,h.gat,h.glob,h.fix,h.fxn,h.mp⟩
 intro m u hu
 unfold look at hu
 split at hu
 ·rename_i e
  simp only at e
  cases hu;subst e
  refine ⟨y,?_,hd⟩
  have:m<a.tmps.size:=by rw [h.nt];exact hn
  simp [Act.put,this]
 ·rename_i e
  simp only at e
  obtain ⟨z,hz,hd⟩:=h.env m u hu
  refine ⟨z,?_,hd⟩
  simp only [Act.put]
  rw [Array.getElem?_setIfInBounds_ne (fun e'=>e e'.symm)]
  exact hz
theorem Sim.drew {B:Base} {d:Va} {S:St} {a:Act} {w w':World} (h:Sim B d S a w) (hh:w'.heap=w.heap) (hos:w'.os=w.os) (ht:w'.tape=w.tape) (ho:w'.output=w.output):Sim B d S a w':=by
 refine ⟨h.defers,h.nt,h.env,?_,h.inj,h.own,?_,h.old,hos.trans h.os,ht.trans h.tape,ho.trans h.output,by rw [hh];exact h.size,by rw [hh];exact h.block,h.gat,h.glob,h.fix,h.fxn,fun b l hb=>(h.mp b l hb).of (by rw [hh])⟩
 ·rw [hh];exact h.mem
 ·intro b o y hy;have:=h.ro b o y hy;simp only [World.cell?] at this ⊢;rw [hh];exact this
def Qk (m:List (Nat×Ob)) (k:Nat) (o:Ob):List (Nat×Ob):=
 match m with
 | []=>[]
 |x::r=>if k=x.1 then (x.1,o)::r else x::Qk r k o
theorem Dj {k:Nat} {o:Ob}: ∀ {m:List (Nat×Ob)} {j:Nat},look (Qk m k o) j=if j=k then (look m k).map (fun _=>o) else look m j
 | [],j=>by simp [Qk,look]
 |x::r,j=>by
  unfold Qk
  split
  ·rename_i e
   subst e
   simp only [look]
   split
   ·rename_i e;simp [e]
   ·rfl
  ·rename_i e
   simp only [look,if_neg e]
   split
   ·rename_i e2
    rw [if_neg (fun e3=>e (e3.symm.trans e2))]
   ·exact Dj
theorem Sim.write {B:Base} {d:Va} {S:St} {a:Act} {w:World} (h:Sim B d S a w) {k:Nat} {o:Ob} (hk:look S.mem k=some o) (hkl:k<gl0) {cells:List L} {vals spare:List Value} {ty:TypeId} {fr:Nat×Nat} {w':World}
  (hd:Fv (L.den d) cells vals) (hs:o.row=false→spare=[]) (hfr:fr=(0,0)∨(vals++spare).length≤fr.1) (hl:(vals++spare).length=d.size k)
  (hnew:w'.heap[d.at_ k]? =some (.cells (vals++spare).toArray ty fr)) (hold: ∀ b,b≠d.at_ k→w'.heap[b]? =w.heap[b]?) (hsz:w'.heap.size=w.heap.size)
  (hos:w'.os=w.os) (htape:w'.tape=w.tape) (hout:w'.output=w.output):
  Sim B d {S with mem:=Qk S.mem k ⟨o.row,cells⟩} a w':=by
 have hsome: ∀ j,(look (Qk S.mem k ⟨o.row,cells⟩) j).isSome=true→(look S.mem j).isSome=true:=by
  intro j hj
  rw [Dj] at hj
  split at hj
  ·rename_i e;subst e;rw [hk];rfl
  ·exact hj
 have hks:(look S.mem k).isSome=true:=by rw [hk];rfl
 refine ⟨h.defers,h.nt,h.env,?_,fun k1 k2 h1 h2=>h.inj k1 k2 (hsome _ h1) (hsome _ h2),fun k' hk'=>h.own k' (hsome _ hk'),?_,h.old,hos.trans h.os,htape.trans h.tape,hout.trans h.output,by rw [hsz];exact h.size,?_,h.gat,?_,?_,h.fxn,fun b l hb=>?_⟩
 ·intro j p hp hjl
  rw [Dj] at hp
  split at hp
  ·rename_i e;subst e
   rw [hk] at hp;cases hp
   exact ⟨vals,spare,ty,fr,hnew,hfr,hd,hs,hl⟩
  ·rename_i e
   obtain ⟨vs,sp,ty',fr',hh,rest⟩:=h.mem j p hp hjl
   refine ⟨vs,sp,ty',fr',?_,rest⟩
   rw [hold _ (fun e2=>e (h.inj j k (by rw [hp];rfl) hks hjl hkl e2))];exact hh
 ·intro b o' y hy
  have hr:=h.ro b o' y hy
  have hne:b≠d.at_ k:=by
   intro e;subst e
   have:=(h.own k hks hkl).1 o'
   rw [this] at hy;cases hy
  simp only [World.cell?] at hr ⊢
  rw [hold b hne];exact hr
 ·intro b hb hm
  have hne:b≠d.at_ k:=by
   intro e;subst e
   rcases (h.own k hks hkl).2 with h1|h1
   ·omega
   ·exact hm h1.2
  rw [hold b hne];exact h.block b hb hm
 ·intro j p hp hjg
  rw [Dj,if_neg (show j≠k by omega)] at hp
  exact h.glob j p hp hjg
 ·intro j p q hp hq hjl
  rw [Dj] at hp
  split at hp
  ·rename_i e;subst e
   rw [hk] at hp;cases hp
   exact h.fix j o q hk hq hjl
  ·exact h.fix j p q hp hq hjl
 ·rw [Dj,if_neg (show mp0+b≠k by show 2000000+b≠k;have:k<1000000:=hkl;omega)] at hb
  have hm:=h.mp b l hb
  refine hm.of (hold b fun e=>?_)
  subst e
  obtain ⟨_,_,_,_,hh,_⟩:=h.mem k o hk hkl
  unfold MapAt at hm
  rw [hh] at hm;cases hm
end Go.Sy
namespace Go.Sy
theorem u0x {c:Value} {l:L} (h:f0k c=some l) (k:Nat):l.has k=false:=by
 cases c with
 |int q n=>cases q<;>simp only [f0k] at h<;>first|(cases h;rfl)|(split at h<;>cases h;rfl)|(cases h)
 |func f a b=>
  simp only [f0k] at h
  cases f<;>simp only at h<;>try (cases h;done)
  split at h<;>cases h;rfl
 |string s=>simp only [f0k] at h;split at h<;>cases h;rfl
 |slice a n c=>simp only [f0k] at h;split at h<;>cases h;rfl
 |pointer a=>simp only [f0k] at h;split at h<;>cases h;rfl
 |map a=>simp only [f0k] at h;split at h<;>cases h;rfl
 |bool b=>simp only [f0k] at h;cases h;rfl
 |nilFunc=>simp only [f0k] at h;cases h;rfl
 |_=>simp [f0k] at h
theorem b0k (k:Nat): ∀ {cs:List Value} {xs:List L},Ny cs=some xs→xs.any (L.has k)=false
 | [],xs,h=>by simp only [Ny] at h;cases h;rfl
 |c::cs,xs,h=>by
  simp only [Ny] at h
  cases h1:f0k c with
  |none=>simp [h1] at h
  |some x=>
   cases h2:Ny cs with
   |none=>simp [h1,h2] at h
   |some ys=>
    simp only [h1,h2,Option.some.injEq] at h;subst h
    simp only [List.any_cons,u0x h1 k,b0k k h2,Bool.or_self]
theorem b1e {c:Value} {x:W} (h:lit c=some x) (k:Nat):x.has k=false:=by
 unfold lit at h
 split at h
 ·rename_i cs
  cases h2:Ny cs.toList with
  |none=>simp [h2] at h
  |some ys=>simp only [h2,Option.map_some,Option.some.injEq] at h;subst h;exact b0k k h2
 ·cases h2:f0k c with
  |none=>simp [h2] at h
  |some l=>simp only [h2,Option.map_some,Option.some.injEq] at h;subst h;exact u0x h2 k
theorem b1z {S:St} {x:Operand} {v:V} {k:Nat} (h:S.get x=some v) (hf:fresh k S=true):v.has k=false:=by
 have hf':=b0s hf
 cases x with
 |tmp t=>exact Rk hf'.1 h
 |const c=>
  simp only [St.get] at h
  cases hl:lit c with
  |none=>simp [hl] at h
  |some y=>simp only [hl,Option.map_some,Option.some.injEq] at h;subst h;exact b1e hl k
 |func f=>simp only [St.get] at h;cases h;rfl
 |global g=>
  simp only [St.get,Option.some.injEq] at h;subst h
  have:=e0w hf
  have:=Tv
  simp only [V.has,W.has,L.has,beq_eq_false_iff_ne];omega
theorem f0e {x:W} {k:Nat} (h:(V.w x).has k=false):x.cells.any (L.has k)=false:=by
 cases x with
 |one l=>simpa [V.has,W.has,W.cells] using h
 |agg cs=>exact h
theorem Pq {P:Program} {t:TypeId} {cs:List L} (h:Ik P t=some cs) (k:Nat):cs.any (L.has k)=false:=by
 unfold Ik at h
 split at h<;>try (cases h;done)
 split at h<;>try (cases h;done)
 exact b0k k h
theorem Ww {α β:Type} {R:α→β→Prop} {l:List α} {m:List β} (h:Fv R l m): ∀ n,Fv R (List.replicate n l).flatten (List.replicate n m).flatten
 |0=>.nil
 |n+1=>by rw [List.replicate_succ,List.replicate_succ,List.flatten_cons,List.flatten_cons];exact h.append (Ww h n)
theorem any_replicate {k:Nat} {cs:List L} (h:cs.any (L.has k)=false): ∀ n,(List.replicate n cs).flatten.any (L.has k)=false
 |0=>rfl
 |n+1=>by rw [List.replicate_succ,List.flatten_cons,List.any_append,h,any_replicate h n];rfl
theorem p0d (zero:Array Value) (n:Nat):((Array.range (n*zero.size)).map (fun i=>zero[i%zero.size]!)).toList=(List.replicate n zero.toList).flatten:=by
 induction n with
 |zero=>simp
 |succ n ih=>
  rw [List.replicate_succ',List.flatten_append,←ih]
  simp only [List.flatten_cons,List.flatten_nil,List.append_nil]
  apply List.ext_getElem?
  intro i
  rw [Nat.succ_mul]
  by_cases h1:i<n*zero.size
  ·rw [List.getElem?_append_left (by simpa using h1)]
   simp [h1,show i<n*zero.size+zero.size by omega]
  ·rw [List.getElem?_append_right (by simpa using Nat.le_of_not_lt h1)]
   by_cases h2:i<n*zero.size+zero.size
   ·have h0:i-n*zero.size<zero.size:=by omega
    have hm:i%zero.size=i-n*zero.size:=by
     conv=>lhs;rw [show i=(i-n*zero.size)+n*zero.size from by omega]
     rw [Nat.add_mul_mod_self_right,Nat.mod_eq_of_lt h0]
    simp [h2,hm,h0]
   ·have h0:¬i-n*zero.size<zero.size:=by omega
    simp [h2,h0]
def k1o (k:Nat) (ps:List (Nat×V)):Prop:=∀ p∈ps,p.2.has k=false
theorem e1k {k:Nat} {c d:List L} (hc:c.any (L.has k)=false) (hd:d.any (L.has k)=false) (o n:Nat):(upd c o n d).any (L.has k)=false:=by
 unfold upd
 rw [List.any_append,List.any_append,hd]
 simp only [List.any_eq_false,Bool.or_false,Bool.or_eq_false_iff] at*
 exact ⟨fun x hx=>hc x (List.mem_of_mem_take hx),fun x hx=>hc x (List.mem_of_mem_drop hx)⟩
theorem j0o {k:Nat} {place:Nat→Option (Nat×Nat)}: ∀ {cells:List L} {ps:List (Nat×V)} {out:List L},Vw place cells ps=some out→cells.any (L.has k)=false→k1o k ps→out.any (L.has k)=false
 |cells,[],out,h,hc,hp=>by simp only [Vw] at h;cases h;exact hc
 |cells,x::ps,out,h,hc,hp=>by
  unfold Vw at h
  split at h<;>try (cases h;done)
  rename_i v pl hv hpl
  split at h<;>try (cases h;done)
  have hx:=hp x (by simp)
  rw [hv] at hx
  exact j0o h (e1k hc (f0e hx) _ _) (fun p hp'=>hp p (by simp [hp']))
theorem l0q {S:St} {k:Nat} (hf:fresh k S=true): ∀ {ps:List (Nat×Operand)} {vs:List (Nat×V)},Qx S ps=some vs→k1o k vs
 | [],vs,h=>by simp only [Qx] at h;cases h;intro p hp;simp at hp
 |x::r,vs,h=>by
  simp only [Qx] at h
  cases h1:S.get x.2 with
  |none=>simp [h1] at h
  |some v=>
   cases h2:Qx S r with
   |none=>simp [h1,h2] at h
   |some us=>
    simp only [h1,h2,Option.some.injEq] at h;subst h
    intro p hp
    simp only [List.mem_cons] at hp
    rcases hp with rfl|hp
    ·exact b1z h1 hf
    ·exact l0q hf h2 p hp
def k0f (bs:List UInt8):List L:=bs.map fun b=>.pl (.u8 b)
def Ij (P:Program) (k:Nat) (S:St):Op→Option (V×Ob)
 | .alloc t=>(Ik P t).map fun cs=>(.w (.one (.p k [])),⟨false,cs⟩)
 | .box t x=>match S.get x with
  |some (.w v)=>some (.w (.one (.p k [])),⟨false,v.cells⟩)
  |_=>none
 | .buildSlice t n parts=>match P.underlying t with
  |some (.slice e)=>match Ik P e,Qx S parts.toList with
   |some z,some ps=>if z.length=P.cellsOf e∧z.length≠0∧n*P.cellsOf e≤16777216 then
     (Vw (fun i=>some (i*P.cellsOf e,P.cellsOf e)) (List.replicate n z).flatten ps).map fun cs=>(.w (.one (.s k [] n (P.cellsOf e))),⟨true,cs⟩)
    else none
   |_,_=>none
  |_=>none
 | .makeSlice t l c=>match P.underlying t,(S.get l).bind V.num,(S.get c).bind V.num with
  |some (.slice e),some n,some m=>match Ik P e with
   |some z=>if z.length=P.cellsOf e∧z.length≠0∧n=m∧0≤n∧n≤281474976710656∧P.bytesOf e*n≤281474976710656 then
     some (.w (.one (.s k [] n.toNat (P.cellsOf e))),⟨true,(List.replicate n.toNat z).flatten⟩)
    else none
   |none=>none
  |_,_,_=>none
 | .convert src dst x=>match S.get x,P.underlying src,P.underlying dst with
  |some (.w (.one (.pl (.str bs)))),some .string,some (.slice e)=>match P.underlying e with
   |some (.int .u8)=>some (.w (.one (.s k [] bs.length 1)),⟨true,k0f bs⟩)
   |_=>none
  |_,_,_=>none
 |_=>none
theorem f0m {P:Program} {t:TypeId} {cs:List L} (h:Ik P t=some cs) (d:Va): ∃ i z,P.info? t=some i∧i.zero=some z∧Fv (L.den d) cs z.cells.toList:=by
 unfold Ik at h
 split at h<;>try (cases h;done)
 rename_i i hi
 split at h<;>try (cases h;done)
 rename_i z hz
 exact ⟨i,z,hi,hz,Vj h⟩
theorem h0t (w:World) (c:Array Value) (t:TypeId) (l:List Value) (h:l=c.toList):(w.alloc (.cells c t)).heap[w.heap.size]? =some (.cells (l++[]).toArray t (0,0)):=by
 subst h
 show (w.heap.push _)[w.heap.size]? =_
 simp
theorem Uw (w:World) (o:Obj) (b:Nat) (h:b<w.heap.size):(w.alloc o).heap[b]? =w.heap[b]? :=by
 show (w.heap.push o)[b]? =_
 rw [Array.getElem?_push,if_neg (by omega)]
theorem f0q {α:Type} (c d:List α) (o n:Nat) (h:d.length=n) (h':o+n≤c.length):(upd c o n d).length=c.length:=by
 simp [upd];omega
theorem g0x {place:Nat→Option (Nat×Nat)}: ∀ {cells:List L} {ps:List (Nat×V)} {out:List L},Vw place cells ps=some out→out.length=cells.length
 |cells,[],out,h=>by simp only [Vw] at h;cases h;rfl
 |cells,x::ps,out,h=>by
  unfold Vw at h
  split at h<;>try (cases h;done)
  split at h<;>try (cases h;done)
  rename_i hc
  rw [g0x h,f0q _ _ _ _ hc.1 hc.2]
theorem run_mark {P:Program} {w:World} {b c:Nat} {t:TypeId} (h:w.shape? b=some (t,c)):(markStringish ⟨b,0,none⟩).run P w=.ok () (w.freeze ⟨b,c,none⟩ 1):=by
 simp only [markStringish,Sem.run_bind,run_shape,Result.andThen_ok,h,run_freeze]
theorem Yj {d:Va}: ∀ bs:List UInt8,Fv (L.den d) (k0f bs) (bs.map fun b=>Value.int .u8 b.toNat)
 | []=>.nil
 |b::bs=>.cons (by rw [L.den,PL.den]) (Yj bs)
theorem r0b {P:Program} {B:Base} {d:Va} {S:St} {a:Act} {w:World} (h:Sim B d S a w) {k:Nat} (hf:fresh k S=true) {o:Oper} {v:V} {ob:Ob} (hv:Ij P k S o.op=some (v,ob)):
  ∃ y w' d',(execOp a.eval o).run P w=.ok (.value y) w'∧v.den d' y∧Sim B d' {S with mem:=(k,ob)::S.mem} a w':=by
 unfold Ij at hv
 unfold execOp
 split at hv
 ·rename_i t ho;rw [ho]
  cases hz:Ik P t with
  |none=>simp [hz] at hv
  |some cs=>
   simp only [hz,Option.map_some,Option.some.injEq,Prod.mk.injEq] at hv
   obtain ⟨rfl,rfl⟩:=hv
   obtain ⟨z,hzr,hzd⟩:=h0m hz w d
   refine ⟨.pointer (some ⟨w.heap.size,0,none⟩),w.alloc (.cells z.cells t),_,?_,?_,h.new hf (row:=false) (vals:=z.cells.toList) (spare:=[]) (ty:=t) (fr:=(0,0)) hzd (Pq hz k) (fun _=>rfl) (.inl rfl) (h0t w _ _ _ rfl) (Uw w _) rfl rfl rfl⟩
   ·simp [Instr.alloc,hzr,newVar,newRow]
   ·show _=_;rw [Va.set_at];rfl
 ·rename_i t x ho;rw [ho]
  split at hv<;>cases hv
  rename_i v hx
  have hd:=W.den_cells (h.get hx)
  refine ⟨.pointer (some ⟨w.heap.size,0,none⟩),w.alloc (.cells (a.eval x).cells t),_,?_,?_,h.new hf (row:=false) (vals:=(a.eval x).cells.toList) (spare:=[]) (ty:=t) (fr:=(0,0)) hd (f0e (b1z hx hf)) (fun _=>rfl) (.inl rfl) (h0t w _ _ _ rfl) (Uw w _) rfl rfl rfl⟩
  ·simp [Instr.box,newVar,newRow]
  ·show _=_;rw [Va.set_at];rfl
 ·rename_i t n parts ho;rw [ho]
  split at hv<;>try (cases hv;done)
  rename_i e hu
  split at hv<;>try (cases hv;done)
  rename_i z ps hz hps
  split at hv<;>try (cases hv;done)
  rename_i hc
  obtain ⟨hzl,h0,hbig⟩:=hc
  cases hfl:Vw (fun i=>some (i*P.cellsOf e,P.cellsOf e)) (List.replicate n z).flatten ps with
  |none=>simp [hfl] at hv
  |some cs=>
   simp only [hfl,Option.map_some,Option.some.injEq,Prod.mk.injEq] at hv
   obtain ⟨rfl,rfl⟩:=hv
   obtain ⟨zv,hzr,hzd⟩:=h0m hz w d
   have hzs:=hzd.length
   simp only [Array.length_toList] at hzs
   have hsz:=Ky (P:=P) (t:=e) (by omega) w
   have hrow:((Array.range (n*P.cellsOf e)).map (fun i=>zv.cells[i%zv.cells.size]!)).toList=(List.replicate n zv.cells.toList).flatten:=by
    rw [←hzl,hzs];exact p0d zv.cells n
   obtain ⟨r,hr,hrd⟩:=h0y (d:=d) (vals:=(Array.range (n*P.cellsOf e)).map (fun i=>zv.cells[i%zv.cells.size]!)) (qs:=parts.toList.map fun x=>(x.1,a.eval x.2)) hfl (by rw [hrow];exact Ww hzd n) (e0j h hps)
   have hlen:r.toList.length=n*P.cellsOf e:=by
    have:=hrd.length
    rw [g0x hfl] at this
    have e2:(List.replicate n z).flatten.length=n*z.length:=by simp
    rw [e2] at this
    rw [←this,hzl]
   refine ⟨.slice (some ⟨w.heap.size,0,none⟩) n n,w.alloc (.cells r e),_,?_,?_,h.new hf (row:=true) (vals:=r.toList) (spare:=[]) (ty:=e) (fr:=(0,0)) hrd (j0o hfl (any_replicate (Pq hz k) n) (l0q hf hps)) (fun _=>rfl) (.inl rfl) (h0t w _ _ _ rfl) (Uw w _) rfl rfl rfl⟩
   ·have hn:¬n*P.cellsOf e>2 ^ 24:=by omega
    simp only [Instr.buildSlice,Sem.run_bind,run_underlying hu w,Result.andThen_ok,hsz]
    rw [if_neg hn]
    by_cases hz0:n*P.cellsOf e=0
    ·have hn0:n=0:=by rcases Nat.mul_eq_zero.1 hz0 with h|h<;>omega
     subst hn0
     rw [if_pos hz0]
     simp only [Sem.run_pure,Sem.run_bind,Result.andThen_ok]
     have hr':Instr.fill (fun i=>some (i*P.cellsOf e,P.cellsOf e)) #[] (parts.map fun x=>(x.1,a.eval x.2)).toList=some r:=by
      have e0:(Array.range (0*P.cellsOf e)).map (fun i=>zv.cells[i%zv.cells.size]!)= #[]:=Array.eq_empty_of_size_eq_zero (by simp)
      rw [e0] at hr
      simpa using hr
     have e0: ∀ f:Nat→Value,(Array.range (0*P.cellsOf e)).map f= #[]:=fun f=>Array.eq_empty_of_size_eq_zero (by simp)
     simp only [e0,hr',newRow,Sem.run_bind,run_newObj_alloc,Result.andThen_ok,Sem.run_pure]
    ·rw [if_neg hz0]
     have hr':Instr.fill (fun i=>some (i*P.cellsOf e,P.cellsOf e)) ((Array.range (n*P.cellsOf e)).map (fun i=>zv.cells[i%zv.cells.size]!)) (parts.map fun x=>(x.1,a.eval x.2)).toList=some r:=by
      simpa using hr
     simp only [Sem.run_bind,hzr,Result.andThen_ok,Sem.run_pure,hr',newRow,run_newObj_alloc]
   ·refine ⟨0,n,by rw [Va.set_at],Nat.le_refl _,?_,.inr rfl,?_⟩
    ·have:n≤n*P.cellsOf e:=Nat.le_mul_of_pos_right _ (by omega)
     have:16777216≤maxLen:=by decide
     omega
    ·rw [Va.set_size];simp only [List.append_nil];omega
 ·rename_i t l c ho;rw [ho]
  split at hv<;>try (cases hv;done)
  rename_i e n m hu hn hm
  obtain ⟨vl,hl,hln⟩:=bind_some hn
  obtain ⟨vc,hc,hcn⟩:=bind_some hm
  obtain ⟨k1,e1⟩:=V.num_den hln (h.get hl)
  obtain ⟨k2,e2⟩:=V.num_den hcn (h.get hc)
  split at hv<;>try (cases hv;done)
  rename_i z hz
  split at hv<;>cases hv
  rename_i hcond
  obtain ⟨hzl,h0,rfl,hn0,hbig,hbytes⟩:=hcond
  obtain ⟨ti,zv,hti,htz,hzd⟩:=f0m hz d
  have hzs:=hzd.length
  simp only [Array.length_toList] at hzs
  have hbo:P.bytesOf e=ti.bytes:=by simp [Program.bytesOf,hti]
  have hco:P.cellsOf e=ti.size:=by simp [Program.cellsOf,hti]
  have hrow:((Array.range (n.toNat*ti.size)).map (fun i=>zv.cells[i%zv.cells.size]!)).toList=(List.replicate n.toNat zv.cells.toList).flatten:=by
   rw [←hco,←hzl,hzs];exact p0d zv.cells n.toNat
  have hr:=run_make (P:=P) w t e ti zv hu hti htz k1 k2 n n hn0 (Int.le_refl _) (by rw [←hbo];exact hbytes) (by omega)
  refine ⟨.slice (some ⟨w.heap.size,0,none⟩) n.toNat n.toNat,w.alloc (.cells ((Array.range (n.toNat*ti.size)).map (fun i=>zv.cells[i%zv.cells.size]!)) e),_,?_,?_,h.new hf (row:=true) (vals:=(List.replicate n.toNat zv.cells.toList).flatten) (spare:=[]) (ty:=e) (fr:=(0,0)) (Ww hzd n.toNat) (any_replicate (Pq hz k) _) (fun _=>rfl) (.inl rfl) (h0t w _ _ _ hrow.symm) (Uw w _) rfl rfl rfl⟩
  ·simp [e1,e2,hr,madeCells]
  ·have hb:281474976710656≤maxLen:=by decide
   refine ⟨0,n.toNat,by rw [Va.set_at],Nat.le_refl _,by omega,.inr rfl,?_⟩
   rw [Va.set_size];simp;rw [←hzs,hzl];exact Nat.le_refl _
 ·rename_i src dst x ho;rw [ho]
  split at hv<;>try (cases hv;done)
  rename_i bs e hx hs hd
  split at hv<;>cases hv
  rename_i he
  have hx':=h.get hx
  change PL.den _ _ _ at hx';rw [PL.den] at hx'
  obtain ⟨ex,hlen⟩:=hx'
  have hcap: ∃ c,bs.length≤c∧c≤maxLen∧(choose (.appendCap bs.length 0 e)).run P w=.ok c {w with drawn:=w.drawn+1}:=by
   refine ⟨(Question.appendCap bs.length 0 e).cut (w.tape w.drawn (.appendCap bs.length 0 e)),?_,?_,?_⟩
   ·simp only [Question.cut];omega
   ·simp only [Question.cut]
    have h63:0<2 ^ 63-bs.length:=by unfold maxLen at hlen;omega
    have:=Nat.mod_lt (w.tape w.drawn (.appendCap bs.length 0 e)) h63
    unfold maxLen;omega
   ·simp [Question.forced]
  obtain ⟨c,hc1,hc2,hcr⟩:=hcap
  let vals:List Value:=bs.map fun b=>.int .u8 b.toNat
  let spare:List Value:=List.replicate (c-bs.length) (.int .u8 0)
  let w1:World:={w with drawn:=w.drawn+1}
  let w2:World:=w1.alloc (.cells (vals++spare).toArray e)
  have hwl:w1.heap.size=w.heap.size:=rfl
  have hl:(vals++spare).length=c:=by simp [vals,spare];omega
  have hx2:w2.heap[w.heap.size]? =some (.cells (vals++spare).toArray e (0,0)):=by
   show (w.heap.push _)[w.heap.size]? =_
   simp
  have hlt:w.heap.size<w2.heap.size:=(Array.getElem?_eq_some_iff.1 hx2).1
  have hrun:(Conv.stringToBytes e ⟨bs.toArray⟩).run P w=.ok (.slice (some ⟨w.heap.size,0,none⟩) bs.length c) (w2.freeze ⟨w.heap.size,c,none⟩ 1):=by
   have e1:(bs.toArray.map (fun b=>Value.int .u8 b.toNat))++Array.replicate (c-bs.length) (Value.int .u8 0)=(vals++spare).toArray:=by
    apply Array.ext';simp [vals,spare]
   have hsh:w2.shape? w.heap.size=some (e,c):=by
    unfold World.shape?;rw [hx2];simp [hl]
   have hmk:=run_mark (P:=P) hsh
   simp only [Conv.stringToBytes,b0z,Sem.run_bind,hcr,Result.andThen_ok,newRow,e1,run_newObj_alloc,Sem.run_pure]
   exact congrArg (fun r:Result Unit=>r.andThen fun _ w'=>Result.ok (Value.slice (some ⟨w.heap.size,0,none⟩) bs.length c) w') hmk
  refine ⟨.slice (some ⟨w.heap.size,0,none⟩) bs.length c,w2.freeze ⟨w.heap.size,c,none⟩ 1,_,?_,?_,h.new hf (row:=true) (vals:=vals) (spare:=spare) (ty:=e) (fr:=(c,c+1)) ?_ ?_ (by simp) (.inr (by rw [hl];exact Nat.le_refl _)) ?_ ?_ rfl rfl rfl⟩
  ·simp only [Sem.run_bind]
   unfold convert
   simp only [Sem.run_bind,run_underlying hs w,run_underlying hd w,Result.andThen_ok,ex,run_underlying he w,hrun];rfl
  ·refine ⟨0,c,by rw [Va.set_at],hc1,hc2,.inr rfl,?_⟩
   rw [Va.set_size,hl];omega
  ·exact Yj bs
  ·simp [k0f,L.has]
  ·simp only [World.freeze]
   rw [if_neg (by omega)]
   show (w2.heap.modify w.heap.size _)[w.heap.size]? =_
   rw [Array.getElem?_modify,if_pos rfl,hx2];rfl
  ·intro b hb
   simp only [World.freeze]
   rw [if_neg (by omega)]
   show (w2.heap.modify w.heap.size _)[b]? =_
   rw [Array.getElem?_modify,if_neg (by omega)]
   exact Uw w1 _ b hb
 ·cases hv
end Go.Sy
namespace Go.Sy
theorem w0q {w:World} {g:Nat} {cur:Array Value} {t:TypeId} {fz:Nat×Nat} (hg:w.heap[g]? =some (.cells cur t fz)) (hfz:fz=(0,0)∨cur.size≤fz.1) {j:Nat} (hj:j<cur.size):w.frozen? ⟨g,j,none⟩=false:=by
 obtain ⟨lo,hi⟩:=fz
 simp only [World.frozen?,hg,Bool.and_eq_false_iff,decide_eq_false_iff_not]
 rcases hfz with h|h
 ·cases h;right;omega
 ·left;simp only at h;omega
theorem c0i (P:Program) (g o:Nat) (t:TypeId) (fz:Nat×Nat): ∀ (vs:List Value) (i:Nat) (cur:Array Value) (w:World),w.heap[g]? =some (.cells cur t fz)→(fz=(0,0)∨cur.size≤fz.1)→o+i+vs.length≤cur.size→(∀ v∈vs,v.oneCell'=true)→
  (storeCells ⟨g,o,none⟩ vs i).run P w=.ok () (w.setRow g (upd cur.toList (o+i) vs.length vs).toArray)
 | [],i,cur,w,hg,_,_,_=>by
  simp only [storeCells,upd,List.append_nil,List.length_nil,Nat.add_zero,List.take_append_drop,Array.toArray_toList]
  rw [setRow_self w g cur t fz hg]
  rfl
 |v::rest,i,cur,w,hg,hfz,hl,h1=>by
  have hi:o+i<cur.size:=by simp at hl;omega
  have hcell:w.cell? ⟨g,o+i,none⟩=some cur[o+i]:=by simp [World.cell?,hg,hi]
  have hfro:=w0q hg hfz hi
  have hst:(store ((⟨g,o,none⟩:Addr).add i) v).run P w=.ok () (w.setRow g (cur.setIfInBounds (o+i) v)):=by
   rw [addr_add,run_store P w _ v _ (h1 v (by simp)),hcell]
   simp [hfro,setCell_eq_setRow w g (o+i) cur t fz v hg]
  have hg2:=setRow_heap w g cur (cur.setIfInBounds (o+i) v) t fz hg
  have ih:=c0i P g o t fz rest (i+1) (cur.setIfInBounds (o+i) v) (w.setRow g (cur.setIfInBounds (o+i) v)) hg2 (by simpa using hfz) (by simp at hl ⊢;omega) (fun u hu=>h1 u (by simp [hu]))
  simp only [storeCells,Sem.run_bind,hst,Result.andThen_ok,ih,setRow_setRow]
  congr 3
  simp only [upd,Array.toList_setIfInBounds,List.length_cons]
  have e1:(cur.toList.set (o+i) v).take (o+(i+1))=cur.toList.take (o+i)++[v]:=by
   rw [show o+(i+1)=o+i+1 from by omega,List.take_succ_eq_append_getElem (by simpa using hi),List.getElem_set_self,List.take_set,List.set_eq_of_length_le (by simp;omega)]
  have e2:(cur.toList.set (o+i) v).drop (o+(i+1)+rest.length)=cur.toList.drop (o+i+(rest.length+1)):=by
   rw [List.drop_set,if_pos (by omega)];congr 1;omega
  rw [e1,e2];simp
theorem Ov {d:Va}: ∀ {cs:List L} {vs:List Value},Fv (L.den d) cs vs→∀ v∈vs,v.oneCell'=true
 |_,_,.nil,v,hv=>by simp at hv
 |_,_,.cons h1 h2,v,hv=>by
  simp only [List.mem_cons] at hv
  rcases hv with rfl|hv
  ·obtain ⟨a,b⟩:=L.den_scalar h1
   cases v<;>first|rfl|exact absurd rfl (a _)|exact absurd rfl (b _)
  ·exact Ov h2 v hv
def g0q (P:Program) (S:St) (t:TypeId) (a x:V):Option St:=
 match a,x with
 | .w (.one (.p k path)),.w v=>match look S.mem k with
  |some o=>if k<1000000∧pok o.cells.length path∧psz o.cells.length path=P.cellsOf t∧P.cellsOf t≠0∧v.cells.length=P.cellsOf t then some {S with mem:=Qk S.mem k ⟨o.row,wr o.cells path v.cells⟩} else none
  |none=>none
 |_,_=>none
theorem b0a {α:Type} (c c' d:List α) (o n:Nat) (h:o+n≤c.length):upd (c++c') o n d=upd c o n d++c':=by
 unfold upd
 rw [List.take_append_of_le_length (by omega),List.drop_append_of_le_length (by omega)];simp
theorem o0i {P:Program} {B:Base} {d:Va} {S S':St} {a:Act} {w:World} (h:Sim B d S a w) {t:TypeId} {p x:V} {y z:Value} (hv:g0q P S t p x=some S') (hp:p.den d y) (hx:x.den d z):
  ∃ w',(Instr.storeAt t y z).run P w=.ok () w'∧Sim B d S' a w':=by
 unfold g0q at hv
 split at hv<;>try (cases hv;done)
 rename_i k path v
 split at hv<;>try (cases hv;done)
 rename_i o hk
 split at hv<;>cases hv
 rename_i hc
 obtain ⟨hkl,hpk,hps,h0,hvl⟩:=hc
 change y=_ at hp;subst hp
 have hcx:=W.den_cells hx
 have hlx:=hcx.length
 obtain ⟨vals,spare,ty,fr,hh,hfr,hd,hs,hl⟩:=h.mem k o hk hkl
 have hlv:=hd.length
 have hle:=e0i hpk
 have hsz:=Ky h0 w
 simp only [Array.length_toList] at hlx
 have hst:=c0i P (d.at_ k) (Qy path) ty fr z.cells.toList 0 (vals++spare).toArray w hh (by simpa using hfr) (by simp;omega) (Ov hcx)
 have e:upd (vals++spare).toArray.toList (Qy path+0) z.cells.toList.length z.cells.toList=upd vals (Qy path) (psz o.cells.length path) z.cells.toList++spare:=by
  rw [show z.cells.toList.length=psz o.cells.length path from by rw [Array.length_toList];omega]
  show upd (vals++spare) _ _ _=_
  rw [Nat.add_zero,b0a _ _ _ _ _ (by omega)]
 rw [e] at hst
 have hul:(upd vals (Qy path) (psz o.cells.length path) z.cells.toList).length=vals.length:=f0q _ _ _ _ (by rw [Array.length_toList];omega) (by omega)
 refine ⟨_,?_,h.write hk hkl (cells:=wr o.cells path v.cells) (vals:=upd vals (Qy path) (psz o.cells.length path) z.cells.toList) (spare:=spare) (ty:=ty) (fr:=fr) ?_ hs ?_ ?_ (setRow_heap w _ _ _ ty fr hh) (fun b hb=>setRow_other w _ b _ hb) (setRow_size _ _ _) rfl rfl rfl⟩
 ·simp only [Instr.storeAt,Instr.sureAddr,storeVar,Sem.run_bind,Sem.run_pure,Result.andThen_ok,hsz]
  rw [if_neg (by simp only [ne_eq,Decidable.not_not];omega)]
  simpa using hst
 ·rw [e1p _ _ hpk (by omega)]
  exact hd.upd hcx _ _
 ·simp only [List.length_append,hul];simpa using hfr
 ·simp only [List.length_append,hul];simpa using hl
end Go.Sy
namespace Go.Sy
def Rx (k:Nat) (l:L):L:=if l.has k then .pl .u else l
def W.kill (k:Nat):W→W
 | .one l=>.one (Rx k l)
 | .agg cs=>.agg (cs.map (Rx k))
def V.kill (k:Nat):V→V
 | .w x=>.w (x.kill k)
 | .tup xs=>.tup (xs.map (W.kill k))
 | .any=>.any
def b0m (k:Nat):List (Nat×V)→List (Nat×V)
 | []=>[]
 |x::r=>(x.1,x.2.kill k)::b0m k r
def Yy (k:Nat):List (Nat×Ob)→List (Nat×Ob)
 | []=>[]
 |x::r=>if k=x.1 then Yy k r else (x.1,⟨x.2.row,x.2.cells.map (Rx k)⟩)::Yy k r
def St.kill (k:Nat) (S:St):St:=⟨b0m k S.env,Yy k S.mem⟩
theorem j0g {d:Va} {k:Nat} {l:L} {y:Value} (h:l.den d y):(Rx k l).den d y:=by
 unfold Rx
 split
 ·rw [L.den,PL.den];exact L.den_scalar h
 ·exact h
theorem p0t (k:Nat) (l:L):(Rx k l).has k=false:=by
 unfold Rx
 split
 ·rfl
 ·simp_all
theorem a0k {α β:Type} {R:α→β→Prop} {f:α→α} (hf: ∀ x y,R x y→R (f x) y) {l:List α} {m:List β} (h:Fv R l m):Fv R (l.map f) m:=by
 induction h with
 |nil=>exact .nil
 |cons h1 _ ih=>exact .cons (hf _ _ h1) ih
theorem W.kill_den {d:Va} {k:Nat} {x:W} {y:Value} (h:x.den d y):(x.kill k).den d y:=by
 cases x with
 |one l=>exact j0g h
 |agg cs=>obtain ⟨vs,rfl,hv⟩:=h;exact ⟨vs,rfl,a0k (fun _ _=>j0g) hv⟩
theorem V.kill_den {d:Va} {k:Nat} {x:V} {y:Value} (h:x.den d y):(x.kill k).den d y:=by
 cases x with
 |w x=>exact W.kill_den h
 |tup xs=>obtain ⟨vs,rfl,hv⟩:=h;exact ⟨vs,rfl,a0k (fun _ _=>W.kill_den) hv⟩
 |any=>trivial
theorem d0f (k:Nat) (cs:List L):(cs.map (Rx k)).any (L.has k)=false:=by
 induction cs with
 |nil=>rfl
 |cons c cs ih=>simp only [List.map_cons,List.any_cons,p0t,ih,Bool.or_self]
theorem W.kill_has (k:Nat) (x:W):(x.kill k).has k=false:=by
 cases x with
 |one l=>exact p0t k l
 |agg cs=>exact d0f k cs
theorem V.kill_has (k:Nat) (x:V):(x.kill k).has k=false:=by
 cases x with
 |w x=>exact W.kill_has k x
 |tup xs=>
  simp only [V.kill,V.has]
  induction xs with
  |nil=>rfl
  |cons c cs ih=>simp only [List.map_cons,List.any_cons,W.kill_has,ih,Bool.or_self]
 |any=>rfl
theorem Uz {k:Nat}: ∀ {e:List (Nat×V)} {n:Nat},look (b0m k e) n=(look e n).map (V.kill k)
 | [],n=>rfl
 |x::r,n=>by
  simp only [b0m,look]
  split
  ·rfl
  ·exact Uz
theorem Hy {k:Nat}: ∀ {e:List (Nat×Ob)} {n:Nat},look (Yy k e) n=if n=k then none else (look e n).map fun o=>⟨o.row,o.cells.map (Rx k)⟩
 | [],n=>by simp [Yy,look]
 |x::r,n=>by
  unfold Yy
  split
  ·rename_i e
   rw [Hy]
   split
   ·rfl
   ·rename_i e2
    simp only [look]
    rw [if_neg (fun e3=>e2 (e3.trans e.symm))]
  ·rename_i e
   simp only [look]
   split
   ·rename_i e2
    rw [if_neg (fun e3=>e (e3.symm.trans e2))];rfl
   ·exact Hy
theorem s0h {k:Nat} (hk:k<500000∨750000≤k∧k<1000000) (S:St):e0x k (S.kill k)=true:=by
 have h1: ∀ e:List (Nat×V),r0f k (b0m k e)=false:=by
  intro e
  induction e with
  |nil=>rfl
  |cons x r ih=>simp only [b0m,r0f,V.kill_has,ih,Bool.or_self]
 have h2: ∀ e:List (Nat×Ob),p0v k (Yy k e)=false:=by
  intro e
  induction e with
  |nil=>rfl
  |cons x r ih=>
   unfold Yy
   split
   ·exact ih
   ·simp only [p0v,Ob.has,d0f,ih,Bool.or_self]
 simp [e0x,St.kill,h1,h2,hk]
theorem Sim.kill {B:Base} {d:Va} {S:St} {a:Act} {w:World} (h:Sim B d S a w) (k:Nat):Sim B d (S.kill k) a w:=by
 have hsome: ∀ j,(look (Yy k S.mem) j).isSome=true→(look S.mem j).isSome=true:=by
  intro j hj
  rw [Hy] at hj
  split at hj
  ·simp at hj
  ·simpa using hj
 refine ⟨h.defers,h.nt,?_,?_,fun k1 k2 h1 h2=>h.inj k1 k2 (hsome _ h1) (hsome _ h2),fun k' hk'=>h.own k' (hsome _ hk'),h.ro,h.old,h.os,h.tape,h.output,h.size,h.block,h.gat,?_,?_,h.fxn,fun b l hb=>?_⟩
 ·intro n v hv
  simp only [St.kill] at hv
  rw [Uz] at hv
  cases hg:look S.env n with
  |none=>simp [hg] at hv
  |some u=>
   simp only [hg,Option.map_some,Option.some.injEq] at hv;subst hv
   obtain ⟨y,hy,hd⟩:=h.env n u hg
   exact ⟨y,hy,V.kill_den hd⟩
 ·intro j o ho hjl
  simp only [St.kill] at ho
  rw [Hy] at ho
  split at ho
  ·cases ho
  ·cases hg:look S.mem j with
   |none=>simp [hg] at ho
   |some u=>
    simp only [hg,Option.map_some,Option.some.injEq] at ho;subst ho
    obtain ⟨vals,spare,ty,fr,h1,h2,h3,h4,h5⟩:=h.mem j u hg hjl
    exact ⟨vals,spare,ty,fr,h1,h2,a0k (fun _ _=>j0g) h3,h4,h5⟩
 ·intro j o ho hjg
  simp only [St.kill] at ho
  rw [Hy] at ho
  split at ho
  ·cases ho
  ·cases hg:look S.mem j with
   |none=>simp [hg] at ho
   |some u=>
    simp only [hg,Option.map_some,Option.some.injEq] at ho;subst ho
    rcases h.glob j u hg hjg with ⟨l,rfl⟩|⟨h1,cs,h2,h3⟩
    ·exact .inl ⟨l,rfl⟩
    refine .inr ?_
    have e:u.cells.map (Rx k)=u.cells:=by
     rw [h2,List.map_map]
     exact List.map_congr_left fun x _=>by simp [Rx,L.has]
    exact ⟨by simp only [e];exact h1,cs,by simp only [e];exact h2,h3⟩
 ·intro j o p ho hp hjl
  simp only [St.kill] at ho
  rw [Hy] at ho
  split at ho
  ·cases ho
  ·cases hg:look S.mem j with
   |none=>simp [hg] at ho
   |some u=>
    simp only [hg,Option.map_some,Option.some.injEq] at ho;subst ho
    exact h.fix j u p hg hp hjl
 ·simp only [St.kill] at hb
  rw [Hy] at hb
  split at hb
  ·cases hb
  ·cases hg:look S.mem (mp0+b) with
   |none=>simp [hg] at hb
   |some u=>
    obtain ⟨r,cs⟩:=u
    simp only [hg,Option.map_some,Option.some.injEq,Ob.mk.injEq,List.map_eq_nil_iff] at hb
    obtain ⟨rfl,rfl⟩:=hb
    exact h.mp b l hg
theorem l0w {k:Nat} {o:Ob}: ∀ {m:List (Nat×Ob)},Yy k (Qk m k o)=Yy k m
 | []=>rfl
 |x::r=>by
  unfold Qk
  split
  ·rename_i e
   simp only [Yy,if_pos e]
  ·rename_i e
   simp only [Yy,if_neg e,l0w]
theorem Sim.killKeep {B:Base} {d:Va} {S:St} {a:Act} {w:World} (h:Sim B d S a w) {k:Nat} {o:Ob} (hk:look S.mem k=some o) (hkl:k<gl0):Sim B d ⟨b0m k S.env,(k,o)::Yy k S.mem⟩ a w:=by
 have h2:=h.kill k
 have hsome: ∀ j,(look ((k,o)::Yy k S.mem) j).isSome=true→(look S.mem j).isSome=true:=by
  intro j hj
  simp only [look] at hj
  split at hj
  ·rename_i e;subst e;rw [hk];rfl
  ·rw [Hy] at hj
   split at hj
   ·simp at hj
   ·simpa using hj
 refine ⟨h.defers,h.nt,h2.env,?_,fun k1 k2 h1 h2=>h.inj k1 k2 (hsome _ h1) (hsome _ h2),fun k' hk'=>h.own k' (hsome _ hk'),h.ro,h.old,h.os,h.tape,h.output,h.size,h.block,h.gat,?_,?_,h.fxn,fun b l hb=>?_⟩
 ·intro j p hp hjl
  simp only [look] at hp
  split at hp
  ·rename_i e;subst e;cases hp;exact h.mem _ _ hk hkl
  ·exact h2.mem j p hp hjl
 ·intro j p hp hjg
  simp only [look] at hp
  rw [if_neg (show j≠k by omega)] at hp
  exact h2.glob j p hp hjg
 ·intro j p q hp hq hjl
  simp only [look] at hp
  split at hp
  ·rename_i e;subst e;cases hp;exact h.fix _ _ q hk hq hkl
  ·exact h2.fix j p q hp hq hjl
 ·simp only [look] at hb
  rw [if_neg (show mp0+b≠k by show 2000000+b≠k;have:k<1000000:=hkl;omega)] at hb
  exact h2.mp b l hb
theorem Vk {d:Va} {blk sz:Nat} {w:World} (hro: ∀ b o y,d.ro b o=some y→w.cell? ⟨b,o,none⟩=some y):
  ∀ {rows:List (List PL)} {off:Nat},PL.denRows d.ro blk sz rows off→∃ vals:List Value,Fv (L.den d) (pls rows.flatten) vals∧Jy w blk off vals∧vals.length=rows.length*sz
 | [],off,_=>⟨[],.nil,fun j v hv=>by simp at hv,by simp⟩
 |r::rs,off,h=>by
  rw [PL.denRows] at h
  obtain ⟨hl,hat,hrest⟩:=h
  obtain ⟨v1,h1,c1⟩:=g0j hro hat
  obtain ⟨v2,h2,c2,l2⟩:=Vk hro hrest
  have l1:v1.length=sz:=by rw [←h1.length,Yz,hl]
  refine ⟨v1++v2,?_,?_,by simp [l1,l2,Nat.add_mul,Nat.add_comm]⟩
  ·rw [List.flatten_cons];unfold pls;rw [List.map_append];exact h1.append h2
  ·intro j v hv
   by_cases hj:j<v1.length
   ·rw [List.getElem?_append_left hj] at hv;exact c1 j v hv
   ·rw [List.getElem?_append_right (by omega)] at hv
    have:=c2 _ v hv
    rw [show off+j=off+sz+(j-v1.length) from by omega];exact this
def y0c (P:Program) (S:St) (e tx:TypeId) (x:V):Option (List L×Nat):=
 match P.underlying tx,x with
 |some (.slice _),.w (.one (.pl (.R _ sz rows)))=>if sz=P.cellsOf e∨rows=[] then some (pls rows.flatten,rows.length) else none
 |some (.slice _),.w (.one (.s k path len sz))=>match look S.mem k with
  |some o=>if pok o.cells.length path∧psz o.cells.length path=len*sz∧sz=P.cellsOf e then some (rd o.cells path,len) else none
  |none=>none
 |some .string,.w (.one (.pl (.str bs)))=>if P.cellsOf e=1 then some (k0f bs,bs.length) else none
 |_,_=>none
theorem Kq {P:Program} {w:World} {blk o:Nat} {vals:List Value} (h:Jy w blk o vals) {n:Nat} (hn:vals.length=n):(loadCells ⟨blk,o,none⟩ n).run P w=.ok vals.toArray w:=by
 subst hn
 exact run_loadCells_list w ⟨blk,o,none⟩ vals (fun j v hv=>by rw [addr_add];exact h j v hv)
theorem Jy.drew {w:World} {blk o:Nat} {vals:List Value} (h:Jy w blk o vals):Jy w.drew blk o vals:=h
theorem l1i {P:Program} {B:Base} {d:Va} {S:St} {a:Act} {w:World} (h:Sim B d S a w) {e tx:TypeId} {x:V} {y:Value} {cs:List L} {n:Nat} (hv:y0c P S e tx x=some (cs,n)) (hx:x.den d y):
  ∃ vals,Src P (P.cellsOf e) tx y n vals w∧Fv (L.den d) cs vals:=by
 unfold y0c at hv
 split at hv
 ·rename_i e' ex sz rows hu
  split at hv<;>cases hv
  rename_i hc
  change PL.den _ _ _ at hx;rw [PL.den] at hx
  rcases hx with ⟨rfl,rfl⟩|⟨blk,off,cap,rfl,hlc,hcm,_,hrows⟩|⟨sa,cap,rfl,rfl,hcm,_⟩
  ·exact ⟨[],⟨.inl ⟨_,hu⟩,fun _=>by simp [Builtin.lenOf],by simp [Builtin.firstCells],by simp [Builtin.firstCells],by simp,by simp⟩,.nil⟩
  ·have hrows':PL.denRows d.ro blk (P.cellsOf e) rows off:=by
    rcases hc with rfl|rfl
    ·exact hrows
    ·simp [PL.denRows]
   obtain ⟨vals,hd,hcell,hl⟩:=Vk h.ro hrows'
   refine ⟨vals,⟨.inl ⟨_,hu⟩,fun _=>by simp [Builtin.lenOf],?_,?_,hl,Ov hd⟩,hd⟩
   ·simp only [Builtin.firstCells];exact Kq hcell hl
   ·simp only [Builtin.firstCells];exact Kq hcell.drew hl
  ·exact ⟨[],⟨.inl ⟨_,hu⟩,fun _=>by simp [Builtin.lenOf],by simp only [Builtin.firstCells,List.length_nil,Nat.zero_mul];exact run_loadCells_list _ sa [] (fun j v hv=>by simp at hv),by simp only [Builtin.firstCells,List.length_nil,Nat.zero_mul];exact run_loadCells_list _ sa [] (fun j v hv=>by simp at hv),by simp,by simp⟩,.nil⟩
 ·rename_i e' k path len sz hu
  split at hv<;>try (cases hv;done)
  rename_i o hk
  split at hv<;>cases hv
  rename_i hc
  obtain ⟨hp,hps,rfl⟩:=hc
  obtain ⟨vals,hd,hcell,hl⟩:=h.readObj hk hp
  rw [hps] at hl
  obtain ⟨oo,cap,rfl,hlc,hcm,ho,_⟩:=hx
  have hcell':Jy w (d.at_ k) oo vals:=by
   rcases ho with ho|rfl
   ·have hz:n=0:=by omega
    rw [hz,Nat.zero_mul] at hl
    have:=List.eq_nil_of_length_eq_zero hl
    subst this;exact fun j v hv=>by simp at hv
   ·exact hcell
  refine ⟨vals,⟨.inl ⟨_,hu⟩,fun _=>by simp [Builtin.lenOf],?_,?_,hl,Ov hd⟩,hd⟩
  ·simp only [Builtin.firstCells];exact Kq hcell' hl
  ·simp only [Builtin.firstCells];exact Kq hcell'.drew hl
 ·rename_i bs hu
  split at hv<;>cases hv
  rename_i hc
  change PL.den _ _ _ at hx;rw [PL.den] at hx
  obtain ⟨rfl,_⟩:=hx
  have hext:((⟨bs.toArray⟩:ByteArray).extract 0 bs.length).data.map (fun b=>Value.int .u8 b.toNat)=(bs.map fun b=>Value.int .u8 b.toNat).toArray:=by
   apply Array.ext';simp [ByteArray.data_extract]
  refine ⟨bs.map fun b=>.int .u8 b.toNat,⟨.inr hu,fun _=>by simp [Builtin.lenOf,b0z],?_,?_,by simp [hc],Ov (Yj (d:=d) bs)⟩,Yj bs⟩
  ·simp only [Builtin.firstCells,hext,Sem.run_pure]
  ·simp only [Builtin.firstCells,hext,Sem.run_pure]
 ·cases hv
end Go.Sy
namespace Go.Sy
theorem k0g {P:Program} {w:World} {k:IntKind} (n:Int):(asInt (.int k n)).run P w=.ok n w:=by
 simp [asInt,asIntOf,Result.andThen]
theorem f0l (v:Value) (n:Nat):Builtin.zeroCells #[v] n=(List.replicate n v).toArray:=by
 apply Array.ext'
 simp only [Builtin.zeroCells,List.size_toArray,List.length_cons,List.length_nil,Nat.zero_add,Nat.mul_one,Array.toList_map,Array.toList_range]
 apply List.ext_getElem
 ·simp
 ·intro i h1 h2
  simp [Nat.mod_one]
structure SrcZ (P:Program) (size bytes:Nat) (tx:TypeId) (x:Value) (n:Nat) (news:List Value) (z:Value):Prop where
 kind: ∃ k,P.underlying tx=some (.int k)
 val:x=.int .i64 (n:Int)
 fit:n*bytes≤281474976710656
 small:n≤9223372036854775807
 one: ∃ v:Value,z.cells= #[v]∧news=List.replicate n v∧v.oneCell'=true
 size:size=1
def p1n (P:Program) (size bytes:Nat) (tx:TypeId) (x:Value) (n:Nat) (news:List Value) (z:Value) (w:World):Prop:=Src P size tx x n news w∨SrcZ P size bytes tx x n news z
theorem t0y {n:Nat} (h:n≤9223372036854775807):IntKind.i64.wrap (n:Int)=n:=by
 have:((n:Int))%18446744073709551616=n:=Int.emod_eq_of_lt (by omega) (by omega)
 simp [IntKind.wrap,IntKind.bits,IntKind.signed,IntKind.max,IntKind.min]
 omega
section
variable {P:Program} {w:World} {size bytes:Nat} {tx:TypeId} {x z:Value} {n:Nat} {news:List Value}
theorem p1n.newsLen (h:p1n P size bytes tx x n news z w):news.length=n*size:=by
 rcases h with h|h
 ·exact h.newsLen
 ·obtain ⟨v,_,rfl,_⟩:=h.one
  rw [h.size];simp
theorem p1n.oneC (h:p1n P size bytes tx x n news z w): ∀ u∈news,u.oneCell'=true:=by
 rcases h with h|h
 ·exact h.one
 ·obtain ⟨v,_,rfl,hv⟩:=h.one
  intro u hu
  rw [(List.mem_replicate.mp hu).2];exact hv
theorem m0z {t ty e:TypeId} {i:TypeInfo} (hu:P.underlying t=some (.slice e)) (hi:P.info? e=some i) (hz:i.zero=some z) {base:Option Addr} {sLen cap:Nat} (hs:p1n P i.size i.bytes tx x n news z w) (hin:sLen+n≤cap):
    (Builtin.append_ #[t,tx] ty #[.slice base sLen cap,x]).run P w=(do if let some a:=base then storeCells (a.add (sLen*i.size)) news
                                                                           pure (Value.slice base (sLen+n) cap)).run P w:=by
  rcases hs with hs|hs
  · rcases hs.kind with ⟨e',hk⟩|hk<;>(cases base<;>simp [Builtin.append_,run_underlying hu,run_underlying hk,sizeOf,typeInfo,hi,hs.len,hin,hs.cells])
  · obtain ⟨k,hk⟩:=hs.kind
    obtain ⟨v,hv,rfl,_⟩:=hs.one
    have hf:=hs.fit
    have h1:¬((n:Int)<0):=by omega
    have h2:¬((281474976710656:Int)<(n:Int)*(i.bytes:Int)):=by
      rw [←Int.natCast_mul];omega
    rw [hs.val]
    have w0:IntKind.i64.wrap 0=0:=by decide
    have hin2:sLen≤cap:=by omega
    cases base<;>by_cases h0:n=0
    all_goals simp [Builtin.append_,run_underlying hu,run_underlying hk,sizeOf,typeInfo,hi,k0g,t0y hs.small,h1,h2,hin,zeroValue,hz,hv,f0l,hs.size,h0,w0,hin2,storeCells]
theorem o0x {t ty e:TypeId} {i:TypeInfo} (hu:P.underlying t=some (.slice e)) (hi:P.info? e=some i) (hz:i.zero=some z) (base:Option Addr) (sLen sCap:Nat) (olds:List Value)
  (hold:(Builtin.firstCells i.size sLen (.slice base sLen sCap)).run P w.drew=.ok olds.toArray w.drew) (hs:p1n P i.size i.bytes tx x n news z w)
  (hg:sCap<sLen+n) (h63:((sLen+n:Nat):Int)≤9223372036854775807) (hfit:Builtin.nextslicecap (sLen+n) sCap*i.bytes≤281474976710656):
  (Builtin.append_ #[t,tx] ty #[.slice base sLen sCap,x]).run P w=
   .ok (.slice (some ⟨w.heap.size,0,none⟩) (sLen+n) (grownCap w (sLen+n) sCap e))
    (w.drew.alloc (.cells ((olds++news).toArray++Builtin.zeroCells z.cells (grownCap w (sLen+n) sCap e-(sLen+n))) e)):=by
 rcases hs with hs|hs
 ·exact run_append_grow_src w t tx ty e i z hu hi hz base sLen sCap olds hold x n news hs hg h63 hfit
 ·obtain ⟨k,hk⟩:=hs.kind
  obtain ⟨v,hv,rfl,_⟩:=hs.one
  have hf:=hs.fit
  have h1:¬((n:Int)<0):=by omega
  have h2:¬((281474976710656:Int)<(n:Int)*(i.bytes:Int)):=by
   rw [←Int.natCast_mul];omega
  have hn:¬(sLen+n≤sCap):=by omega
  have h63':¬(9223372036854775807<((sLen:Int)+(n:Int))):=by omega
  have h48':¬(281474976710656<Builtin.nextslicecap (sLen+n) sCap*i.bytes):=by omega
  have w0:IntKind.i64.wrap 0=0:=by decide
  rw [hs.val]
  rw [hs.size] at hold
  by_cases h0:n=0
  ·subst h0
   simp only [Nat.add_zero] at*
   simp [Builtin.append_,run_underlying hu,run_underlying hk,sizeOf,typeInfo,hi,k0g,w0,hn,h63',h48',Question.forced,zeroValue,hz,hv,f0l,hs.size,hold,newRow,grownCap]
   intro h;exfalso;omega
  ·simp [Builtin.append_,run_underlying hu,run_underlying hk,sizeOf,typeInfo,hi,k0g,t0y hs.small,h1,h2,hn,h63',h48',Question.forced,zeroValue,hz,hv,f0l,hs.size,hold,newRow,grownCap,h0]
   congr 2
   apply Array.ext'
   simp [List.append_assoc,←List.replicate_append_replicate]
end
end Go.Sy
namespace Go.Sy
def e1o (P:Program) (S:St) (e tx:TypeId) (x:V):Option (List L×Nat):=
 match P.underlying tx,x with
 |some (.int k),.w (.one (.pl (.i n)))=>match Ik P e with
  |some [z]=>if 0≤n∧n≤9223372036854775807∧P.cellsOf e=1∧n.toNat*P.bytesOf e≤140737488355328 then some (List.replicate n.toNat z,n.toNat) else none
  |_=>none
 |_,_=>y0c P S e tx x
theorem one_cell {d:Va} {l:L} {y:Value} (h:l.den d y):y.oneCell'=true:=(Ov (.cons h .nil)) y (by simp)
theorem v0p {d:Va} {z:L} {v:Value} (h:z.den d v): ∀ n,Fv (L.den d) (List.replicate n z) (List.replicate n v)
 |0=>.nil
 |n+1=>.cons h (v0p h n)
theorem l1j {P:Program} {B:Base} {d:Va} {S:St} {a:Act} {w:World} (h:Sim B d S a w) {e tx:TypeId} {x:V} {y:Value} {cs:List L} {n:Nat} (hv:e1o P S e tx x=some (cs,n)) (hx:x.den d y)
  {ti:TypeInfo} {zv:Value} (hti:P.info? e=some ti) (htz:ti.zero=some zv):
  ∃ vals,p1n P (P.cellsOf e) ti.bytes tx y n vals zv w∧Fv (L.den d) cs vals:=by
 unfold e1o at hv
 split at hv
 ·rename_i k i hu
  split at hv<;>try (cases hv;done)
  rename_i z hz
  split at hv<;>cases hv
  rename_i hc
  obtain ⟨h0,h1,h2,h3⟩:=hc
  obtain ⟨ti',zv',hti',htz',hzd⟩:=f0m hz d
  rw [hti] at hti';cases hti'
  rw [htz] at htz';cases htz'
  have hbo:P.bytesOf e=ti.bytes:=by simp [Program.bytesOf,hti]
  obtain ⟨v,hzc,hzv⟩: ∃ v,zv.cells= #[v]∧z.den d v:=by
   cases hl:zv.cells.toList with
   |nil=>rw [hl] at hzd;cases hzd
   |cons v r=>
    rw [hl] at hzd
    cases hzd with
    |cons e1 e2=>
     cases e2
     exact ⟨v,by apply Array.ext';rw [hl],e1⟩
  change PL.den _ _ _ at hx;rw [PL.den] at hx
  refine ⟨List.replicate i.toNat v,.inr ⟨⟨k,hu⟩,?_,?_,?_,⟨v,hzc,rfl,one_cell hzv⟩,h2⟩,?_⟩
  ·rw [hx];congr 1;omega
  ·rw [←hbo];omega
  ·omega
  ·exact v0p hzv _
 ·obtain ⟨vals,h1,h2⟩:=l1i h hv hx
  exact ⟨vals,.inl h1,h2⟩
end Go.Sy
namespace Go.Sy
def a0j (P:Program) (k:Nat) (S:St) (t tx:TypeId) (s x:V):Option (V×St):=
 match P.underlying t with
 |some (.slice e)=>
  match Ik P e,e1o P S e tx x with
  |some z,some (new,n)=>
   if z.length=P.cellsOf e∧P.cellsOf e≠0∧P.bytesOf e≠0 then
    match s with
    | .w (.one (.s j [] len sz))=>
     match look S.mem j with
     |some o=>if (j<500000∨750000≤j∧j<1000000)∧o.row=true∧sz=P.cellsOf e∧o.cells.length=len*sz∧(len+n)*P.bytesOf e≤140737488355328∧(o.cells++new).any (L.has j)=false then
       some (.w (.one (.s j [] (len+n) sz)),⟨b0m j S.env,(j,⟨true,o.cells++new⟩)::Yy j S.mem⟩)
      else none
     |none=>none
    | .w (.one (.pl (.R true sz rows)))=>
     if sz=P.cellsOf e∨rows=[] then
      if n=0 then some (.w (.one (.pl (.R true (P.cellsOf e) rows))),S)
      else if fresh k S=true∧(rows.length+n)*P.bytesOf e≤140737488355328∧new.any (L.has k)=false then
       some (.w (.one (.s k [] (rows.length+n) (P.cellsOf e))),⟨S.env,(k,⟨true,pls rows.flatten++new⟩)::S.mem⟩)
      else none
     else none
    |_=>none
   else none
  |_,_=>none
 |_=>none
theorem Pk (k:Nat) (c:List PL):(pls c).any (L.has k)=false:=by
 induction c with
 |nil=>rfl
 |cons c cs ih=>simp only [pls,List.map_cons,List.any_cons,L.has,Bool.false_or];exact ih
theorem grownCap_le {w:World} {need old:Nat} {e:TypeId} (h:need≤140737488355328):need≤grownCap w need old e∧grownCap w need old e≤maxLen:=by
 unfold grownCap
 simp only [Question.cut]
 have h63:0<2 ^ 63-need:=by omega
 have:=Nat.mod_lt (w.tape w.drawn (.appendCap need old e)) h63
 unfold maxLen;omega
theorem m0k {P:Program} {B:Base} {d:Va} {S S':St} {a:Act} {w:World} (h:Sim B d S a w) {k:Nat} {t tx ty:TypeId} {s x v:V} {y u:Value} (hv:a0j P k S t tx s x=some (v,S')) (hs:s.den d y) (hx:x.den d u):
  ∃ z w' d',(Builtin.append_ #[t,tx] ty #[y,u]).run P w=.ok z w'∧v.den d' z∧Sim B d' S' a w':=by
 unfold a0j at hv
 split at hv<;>try (cases hv;done)
 rename_i e hu
 split at hv<;>try (cases hv;done)
 rename_i z new n hz hsrc
 split at hv<;>try (cases hv;done)
 rename_i hc
 obtain ⟨hzl,h0,hb0⟩:=hc
 obtain ⟨ti,zv,hti,htz,hzd⟩:=f0m hz d
 have hzs:=hzd.length
 simp only [Array.length_toList] at hzs
 have hbo:P.bytesOf e=ti.bytes:=by simp [Program.bytesOf,hti]
 have hco:P.cellsOf e=ti.size:=by simp [Program.cellsOf,hti]
 obtain ⟨vnew,hsr,hnd⟩:=l1j h hsrc hx hti htz
 rw [hco] at hsr
 have hnl:=hsr.newsLen
 split at hv
 ·rename_i j len sz
  split at hv<;>try (cases hv;done)
  rename_i o hk
  split at hv<;>cases hv
  rename_i hcond
  obtain ⟨hjl,hrow,rfl,hol,hroom,hany⟩:=hcond
  have hjg:j<gl0:=by show j<1000000;omega
  obtain ⟨oo,cap,rfl,hlc,hcm,ho,hfit⟩:=hs
  obtain ⟨vals,spare,ty',fr,hh,hfr,hd,hsp,hl⟩:=h.mem j o hk hjg
  have hvl:=hd.length
  have hneed:len+n≤140737488355328:=Nat.le_trans (Nat.le_mul_of_pos_right _ (by omega)) hroom
  by_cases hin:len+n≤cap
  ·
   by_cases hcap0:cap=0
   ·
    subst hcap0
    have hn0:n=0:=by omega
    have hl0:len=0:=by omega
    subst hn0;subst hl0
    have hnew0:new=[]:=List.eq_nil_of_length_eq_zero (by rw [hnd.length,hnl];simp)
    have hvn0:vnew=[]:=List.eq_nil_of_length_eq_zero (by rw [hnl];simp)
    have hrun:(Builtin.append_ #[t,tx] ty #[.slice (some ⟨d.at_ j,oo,none⟩) 0 0,u]).run P w=.ok (.slice (some ⟨d.at_ j,oo,none⟩) 0 0) w:=by
     rw [m0z hu hti htz hsr (Nat.le_refl _)];simp [hvn0,storeCells]
    refine ⟨_,w,d,hrun,⟨oo,0,rfl,Nat.le_refl _,by omega,.inl rfl,by omega⟩,?_⟩
    subst hnew0
    have:=h.killKeep (k:=j) (o:=o) hk hjg
    have eo:o=⟨true,o.cells++[]⟩:=by cases o;simp_all
    rw [eo] at this
    simpa using this
   ·have ho:oo=0:=by simpa [Qy] using ho.resolve_left hcap0
    subst ho
    have hszb:(vals++spare).length=d.size j:=hl
    have e1:len*P.cellsOf e+n*P.cellsOf e=(len+n)*P.cellsOf e:=by rw [Nat.add_mul]
    have e2:(len+n)*P.cellsOf e≤cap*P.cellsOf e:=Nat.mul_le_mul_right _ hin
    have hfit2:len*P.cellsOf e+vnew.length≤(vals++spare).length:=by rw [hnl,←hco];omega
    have hst:=c0i P (d.at_ j) (len*P.cellsOf e) ty' fr vnew 0 (vals++spare).toArray w hh (by simpa using hfr) (by simpa using hfit2) hsr.oneC
    simp only [Nat.add_zero] at hst
    have hvv:vals.length=len*P.cellsOf e:=by rw [←hvl,hol]
    have eupd:upd (vals++spare).toArray.toList (len*P.cellsOf e) vnew.length vnew=(vals++vnew)++spare.drop vnew.length:=by
     show upd (vals++spare) _ _ _=_
     unfold upd
     rw [←hvv,List.take_left',List.drop_append,List.drop_eq_nil_of_le (by omega)]
     ·simp
     ·rfl
    rw [eupd] at hst
    have hrun:(Builtin.append_ #[t,tx] ty #[.slice (some ⟨d.at_ j,0,none⟩) len cap,u]).run P w=.ok (.slice (some ⟨d.at_ j,0,none⟩) (len+n) cap) (w.setRow (d.at_ j) ((vals++vnew)++spare.drop vnew.length).toArray):=by
     have hst':(storeCells ((⟨d.at_ j,0,none⟩:Addr).add (len*ti.size)) vnew).run P w=.ok () (w.setRow (d.at_ j) ((vals++vnew)++spare.drop vnew.length).toArray):=by
      rw [addr_add,Nat.zero_add,←hco];exact hst
     rw [m0z hu hti htz hsr hin];(simp at hst';simp [hst'])
    have hlen2:((vals++vnew)++spare.drop vnew.length).length=(vals++spare).length:=by
     simp only [List.length_append,List.length_drop] at hfit2 ⊢;omega
    have hw:=h.write hk hjg (cells:=o.cells++new) (vals:=vals++vnew) (spare:=spare.drop vnew.length) (ty:=ty') (fr:=fr) (hd.append hnd) (fun e=>by rw [hrow] at e;cases e) (by rw [hlen2];exact hfr) (by rw [hlen2];exact hl) (setRow_heap w _ _ _ ty' fr hh) (fun b hb=>setRow_other w _ b _ hb) (setRow_size _ _ _) rfl rfl rfl
    have hk2:look (Qk S.mem j ⟨o.row,o.cells++new⟩) j=some ⟨true,o.cells++new⟩:=by
     rw [Dj,if_pos rfl,hk,hrow];rfl
    have hw2:=hw.killKeep hk2 hjg
    refine ⟨_,_,d,hrun,⟨0,cap,rfl,hin,hcm,.inr rfl,hfit⟩,?_⟩
    simpa [l0w] using hw2
  ·
   have hfull:cap<len+n:=by omega
   have hold:(Builtin.firstCells ti.size len (.slice (some ⟨d.at_ j,oo,none⟩) len cap)).run P w.drew=.ok vals.toArray w.drew:=by
    have hcell:Jy w (d.at_ j) oo vals:=by
     rcases ho with rfl|ho
     ·have hl0:len=0:=by omega
      have:vals=[]:=List.eq_nil_of_length_eq_zero (by rw [←hvl,hol,hl0,Nat.zero_mul])
      subst this;exact fun j v hv=>by simp at hv
     ·have:oo=0:=by simpa [Qy] using ho
      subst this
      have hc:=j0z hh
      intro i v hv
      exact hc i v (by rw [List.getElem?_append_left (by
       have:=(List.getElem?_eq_some_iff.1 hv).1;exact this)];exact hv)
    simp only [Builtin.firstCells]
    exact Kq hcell.drew (by rw [←hvl,hol,hco])
   have hrun:=o0x (ty:=ty) hu hti htz (some ⟨d.at_ j,oo,none⟩) len cap vals hold hsr hfull (by omega) (by rw [hbo] at hroom;exact growslice_fits hfull hroom)
   obtain ⟨g1,g2⟩:=grownCap_le (w:=w) (old:=cap) (e:=e) hneed
   have hzc:(Builtin.zeroCells zv.cells (grownCap w (len+n) cap e-(len+n))).toList.length=(grownCap w (len+n) cap e-(len+n))*P.cellsOf e:=by
    rw [Array.length_toList,size_zeroCells,←hzs,hzl]
   have harr:(vals++vnew).toArray++Builtin.zeroCells zv.cells (grownCap w (len+n) cap e-(len+n))=((vals++vnew)++(Builtin.zeroCells zv.cells (grownCap w (len+n) cap e-(len+n))).toList).toArray:=by
    apply Array.ext';simp
   rw [harr] at hrun
   have htot:((vals++vnew)++(Builtin.zeroCells zv.cells (grownCap w (len+n) cap e-(len+n))).toList).length=grownCap w (len+n) cap e*P.cellsOf e:=by
    rw [List.length_append,hzc,List.length_append,←hvl,hol,hnl,←hco,←Nat.add_mul,←Nat.add_mul];congr 1;omega
   have hany2:(o.cells++new).any (L.has j)=false:=hany
   refine ⟨_,_,_,hrun,?_,(h.kill j).new2 (s0h hjl S) (row:=true) (cells:=o.cells++new) (vals:=vals++vnew) (spare:=(Builtin.zeroCells zv.cells (grownCap w (len+n) cap e-(len+n))).toList) (ty:=e) (fr:=(0,0)) (hd.append hnd) hany2 (fun e=>by cases e) (.inl rfl) ?_ ?_ rfl rfl rfl⟩
   ·refine ⟨0,grownCap w (len+n) cap e,by rw [Va.set_at],g1,g2,.inr rfl,?_⟩
    rw [Va.set_size,htot];omega
   ·show (w.heap.push _)[w.heap.size]? =_
    simp
   ·intro b hb;exact Uw w.drew _ b hb
 ·rename_i sz rows
  split at hv<;>try (cases hv;done)
  rename_i hsz
  change PL.den _ _ _ at hs;rw [PL.den] at hs
  have hrowsAt: ∃ base cap olds,y=.slice base rows.length cap∧cap=rows.length∧Fv (L.den d) (pls rows.flatten) olds∧olds.length=rows.length*P.cellsOf e∧
    (Builtin.firstCells ti.size rows.length (.slice base rows.length cap)).run P w.drew=.ok olds.toArray w.drew∧(base=none→rows=[]):=by
   rcases hs with ⟨rfl,rfl⟩|⟨blk,off,cap,rfl,hlc,hcm,hex,hrows⟩|⟨sa,cap,rfl,rfl,hcm,hex⟩
   ·exact ⟨none,0,[],rfl,rfl,.nil,by simp,by simp [Builtin.firstCells],fun _=>rfl⟩
   ·have hrows':PL.denRows d.ro blk (P.cellsOf e) rows off:=by
     rcases hsz with rfl|rfl
     ·exact hrows
     ·simp [PL.denRows]
    obtain ⟨vals,hd,hcell,hl⟩:=Vk h.ro hrows'
    exact ⟨some ⟨blk,off,none⟩,cap,vals,rfl,hex rfl,hd,hl,by simp only [Builtin.firstCells];exact Kq hcell.drew (by rw [hl,hco]),fun e=>by cases e⟩
   ·obtain rfl:=hex rfl
    exact ⟨some sa,0,[],rfl,rfl,.nil,by simp,by simp only [Builtin.firstCells,List.length_nil,Nat.zero_mul];exact run_loadCells_list _ sa [] (fun j v hv=>by simp at hv),fun e=>by cases e⟩
  obtain ⟨base,cap,olds,rfl,rfl,hod,hol,hold,hbase⟩:=hrowsAt
  split at hv
  ·rename_i hn0
   cases hv;subst hn0
   have hvn0:vnew=[]:=List.eq_nil_of_length_eq_zero (by rw [hnl];simp)
   refine ⟨.slice base rows.length rows.length,w,d,?_,?_,h⟩
   ·rw [m0z (sLen:=rows.length) (cap:=rows.length) hu hti htz hsr (by simp)];cases base<;>simp [hvn0,storeCells]
   ·show PL.den _ _ _
    rw [PL.den]
    rcases hs with ⟨e1,rfl⟩|⟨blk,off,cap,e1,hlc,hcm,hex,hrows⟩|⟨sa,cap,e1,rfl,hcm,hex⟩
    ·left;exact ⟨e1,rfl⟩
    ·right;left
     refine ⟨blk,off,cap,e1,hlc,hcm,hex,?_⟩
     rcases hsz with rfl|rfl
     ·exact hrows
     ·simp [PL.denRows]
    ·right;right;exact ⟨sa,cap,e1,rfl,hcm,hex⟩
  ·rename_i hn0
   split at hv<;>cases hv
   rename_i hcond
   obtain ⟨hf,hroom,hany⟩:=hcond
   have hneed:rows.length+n≤140737488355328:=Nat.le_trans (Nat.le_mul_of_pos_right _ (by omega)) hroom
   have hfull:rows.length<rows.length+n:=by omega
   have hrun:=o0x (ty:=ty) hu hti htz base rows.length rows.length olds hold hsr hfull (by omega) (by rw [hbo] at hroom;exact growslice_fits hfull hroom)
   obtain ⟨g1,g2⟩:=grownCap_le (w:=w) (old:=rows.length) (e:=e) hneed
   have hzc:(Builtin.zeroCells zv.cells (grownCap w (rows.length+n) rows.length e-(rows.length+n))).toList.length=(grownCap w (rows.length+n) rows.length e-(rows.length+n))*P.cellsOf e:=by
    rw [Array.length_toList,size_zeroCells,←hzs,hzl]
   have harr:(olds++vnew).toArray++Builtin.zeroCells zv.cells (grownCap w (rows.length+n) rows.length e-(rows.length+n))=((olds++vnew)++(Builtin.zeroCells zv.cells (grownCap w (rows.length+n) rows.length e-(rows.length+n))).toList).toArray:=by
    apply Array.ext';simp
   rw [harr] at hrun
   have htot:((olds++vnew)++(Builtin.zeroCells zv.cells (grownCap w (rows.length+n) rows.length e-(rows.length+n))).toList).length=grownCap w (rows.length+n) rows.length e*P.cellsOf e:=by
    rw [List.length_append,hzc,List.length_append,hol,hnl,←hco,←Nat.add_mul,←Nat.add_mul];congr 1;omega
   refine ⟨_,_,_,hrun,?_,h.new hf (row:=true) (cells:=pls rows.flatten++new) (vals:=olds++vnew) (spare:=(Builtin.zeroCells zv.cells (grownCap w (rows.length+n) rows.length e-(rows.length+n))).toList) (ty:=e) (fr:=(0,0)) (hod.append hnd) (by rw [List.any_append,Pk,hany];rfl) (fun e=>by cases e) (.inl rfl) ?_ ?_ rfl rfl rfl⟩
   ·refine ⟨0,grownCap w (rows.length+n) rows.length e,by rw [Va.set_at],g1,g2,.inr rfl,?_⟩
    rw [Va.set_size,htot];omega
   ·show (w.heap.push _)[w.heap.size]? =_
    simp
   ·intro b hb;exact Uw w.drew _ b hb
 ·cases hv
end Go.Sy
namespace Go.Sy
def St.put (nt:Nat) (dst:Option Tmp) (v:V) (S:St):Option St:=
 match dst with
 |none=>some S
 |some n=>if n<nt then some ⟨(n,v)::S.env,S.mem⟩ else none
def b1f (P:Program) (S:St) (t:TypeId):V→Option V
 | .w (.one (.pl (.val (.map (some b)))))=>match P.underlying t,look S.mem (mp0+b) with
  |some (.map _ _),some ⟨.m l,[]⟩=>some (.w (.one (.pl (.i l.length))))
  |_,_=>none
 |x=>w0s P t x
theorem g0s : ∀ (l:List (List UInt8×Int)) (i:Nat),(Jv i l).length=l.length
 | [],_=>rfl
 |x::r,i=>by simp [Jv,g0s r]
theorem a1h {P:Program} {w:World} {b:Nat} {l:List (List UInt8×Int)} {t ty kt et:TypeId} (ht:P.underlying t=some (.map kt et)) (h:MapAt w b l):(Builtin.len_ #[t] ty #[.map (some b)]).run P w=.ok (.int .i64 l.length) w:=by
 have hl:=g0s l 0
 simp [Builtin.len_,run_underlying ht,Go.MapKept.run_getObj_map h,Result.andThen,goInt,hl]
def Lj (P:Program) (nt:Nat) (o:Oper) (S:St):Option St:=
 match o.op with
 | .store t x y=>match S.get x,S.get y with
  |some u,some v=>match o.dst with
   |none=>g0q P S t u v
   |some _=>none
  |_,_=>none
 | .call ⟨.builtin .append,args,ts⟩=>match args.toList,ts.toList,o.dst with
  | [x,y],[t,tx],some k=>match S.get x,S.get y with
   |some u,some v=>match a0j P k S t tx u v with
    |some r=>r.2.put nt o.dst r.1
    |none=>none
   |_,_=>none
  |_,_,_=>none
 | .call ⟨.builtin .len,args,ts⟩=>match args.toList,ts.toList with
  | [x],[t]=>match (S.get x).bind (b1f P S t) with
   |some v=>S.put nt o.dst v
   |none=>none
  |_,_=>none
 | .alloc _| .box _ _| .buildSlice _ _ _| .makeSlice _ _ _=>match o.dst with
  |some k=>if fresh k S=true then
    match Ij P k S o.op with
    |some r=>St.put nt (some k) r.1 ⟨S.env,(k,r.2)::S.mem⟩
    |none=>none
   else none
  |none=>none
 |_=>match Fw P S o.op with
  |some v=>S.put nt o.dst v
  |none=>match o.dst with
   |some k=>if fresh k S=true then
     match Ij P k S o.op with
     |some r=>St.put nt (some k) r.1 ⟨S.env,(k,r.2)::S.mem⟩
     |none=>none
    else none
   |none=>none
theorem St.Vq {B:Base} {d:Va} {S S':St} {a:Act} {w:World} (h:Sim B d S a w) {dst:Option Tmp} {v:V} {y:Value} (hp:S.put B.nt dst v=some S') (hd:v.den d y):Sim B d S' (a.put dst y) w:=by
 unfold St.put at hp
 split at hp
 ·cases hp;exact h
 ·split at hp<;>cases hp
  rename_i n hn
  exact h.put hn hd
theorem Zz {P:Program} {B:Base} {d:Va} {S S':St} {a:Act} {w:World} (h:Sim B d S a w) {o:Oper}
  (hv:(match o.dst with
   |some k=>if fresh k S=true then
     match Ij P k S o.op with
     |some r=>St.put B.nt (some k) r.1 ⟨S.env,(k,r.2)::S.mem⟩
     |none=>none
    else none
   |none=>none)=some S'):
  ∃ y w' d',(execOp a.eval o).run P w=.ok (.value y) w'∧Sim B d' S' (a.put o.dst y) w':=by
 split at hv<;>try (cases hv;done)
 rename_i k hk
 split at hv<;>try (cases hv;done)
 rename_i hf
 split at hv<;>try (cases hv;done)
 rename_i r hr
 obtain ⟨y,w',d',hrun,hd,hs⟩:=r0b h hf (v:=r.1) (ob:=r.2) hr
 exact ⟨y,w',d',hrun,by rw [hk];exact St.Vq hs hv hd⟩
theorem a1m {P:Program} {B:Base} {d:Va} {S S':St} {a:Act} {w:World} (h:Sim B d S a w) {o:Oper}
  (hv:(match Fw P S o.op with
  |some v=>S.put B.nt o.dst v
  |none=>match o.dst with
   |some k=>if fresh k S=true then
     match Ij P k S o.op with
     |some r=>St.put B.nt (some k) r.1 ⟨S.env,(k,r.2)::S.mem⟩
     |none=>none
    else none
   |none=>none)=some S'):
  ∃ y w' d',(execOp a.eval o).run P w=.ok (.value y) w'∧Sim B d' S' (a.put o.dst y) w':=by
 split at hv
 ·rename_i v hp
  obtain ⟨y,hrun,hd⟩:=n0b h hp
  exact ⟨y,w,d,hrun,St.Vq h hv hd⟩
 ·exact Zz h hv
theorem e1y {P:Program} {B:Base} {d:Va} {S S':St} {a:Act} {w:World} (h:Sim B d S a w) {o:Oper} (hv:Lj P B.nt o S=some S'):
  (∃ y w' d',(execOp a.eval o).run P w=.ok (.value y) w'∧Sim B d' S' (a.put o.dst y) w')∨
  (∃ w' d',(execOp a.eval o).run P w=.ok .skip w'∧o.dst=none∧Sim B d' S' a w'):=by
 unfold Lj at hv
 split at hv
 ·rename_i t x y ho
  split at hv<;>try (cases hv;done)
  rename_i u v hx hy
  split at hv<;>try (cases hv;done)
  rename_i hdst
  obtain ⟨w',hr,hs⟩:=o0i h hv (h.get hx) (h.get hy)
  right
  refine ⟨w',d,?_,hdst,hs⟩
  unfold execOp
  rw [ho]
  simp [hr]
 ·rename_i args ts ho
  split at hv<;>try (cases hv;done)
  rename_i x y t tx k ha ht hdst
  split at hv<;>try (cases hv;done)
  rename_i u v hx hy
  split at hv<;>try (cases hv;done)
  rename_i r hr
  left
  have ea:args= #[x,y]:=by rw [←Array.toList_inj,ha]
  have et:ts= #[t,tx]:=by rw [←Array.toList_inj,ht]
  subst ea;subst et
  obtain ⟨z,w',d',hrun,hd,hs⟩:=m0k (ty:=o.type) h (v:=r.1) (S':=r.2) hr (h.get hx) (h.get hy)
  refine ⟨z,w',d',?_,St.Vq hs hv hd⟩
  unfold execOp
  rw [ho]
  simp [resolve,invoke,builtin,hrun]
 ·rename_i args ts ho
  split at hv<;>try (cases hv;done)
  rename_i x t ha ht
  split at hv<;>try (cases hv;done)
  rename_i v hl
  left
  obtain ⟨u,hu,hl⟩:=Option.bind_eq_some_iff.mp hl
  unfold b1f at hl
  split at hl
  ·rename_i b
   split at hl<;>cases hl
   rename_i kt et l hxt hm
   have e1:args= #[x]:=by rw [←Array.toList_inj,ha]
   have e2:ts= #[t]:=by rw [←Array.toList_inj,ht]
   subst e1;subst e2
   have hd:=h.get hu
   change PL.den _ _ _ at hd
   rw [PL.den] at hd
   refine ⟨_,w,d,?_,St.Vq h hv (show V.den d (.w (.one (.pl (.i l.length)))) (.int .i64 l.length) from by change PL.den _ _ _;rw [PL.den])⟩
   unfold execOp
   rw [ho]
   simp [resolve,invoke,builtin,hd.1,a1h hxt (h.mp b l hm)]
  ·have hp:Fw P S o.op=some v:=by rw [ho];simp only [Fw,ha,ht,hu];exact hl
   obtain ⟨y,hrun,hd⟩:=n0b h hp
   exact ⟨y,w,d,hrun,St.Vq h hv hd⟩
 ·exact .inl (Zz h hv)
 ·exact .inl (Zz h hv)
 ·exact .inl (Zz h hv)
 ·exact .inl (Zz h hv)
 ·exact .inl (a1m h hv)
def t1w (P:Program) (B:Base) (o:Oper) (S:St) (K:St→Prop):Prop:=
 ∀ d a w,Sim B d S a w→∀ (next:Act→World→Prop) (Q:Exit→Act→World→Prop),(∀ S' d' a' w',K S'→Sim B d' S' a' w'→next a' w')→o.wp P a w next Q
theorem c0h {P:Program} {B:Base} {S S':St} {o:Oper} {K:St→Prop} (hv:Lj P B.nt o S=some S') (hK:K S'):t1w P B o S K:=by
 intro d a w h next Q hn
 rcases e1y h hv with ⟨y,w',d',hr,hs⟩|⟨w',d',hr,hdst,hs⟩
 ·unfold Oper.wp;rw [hr];exact hn _ _ _ _ hK hs
 ·unfold Oper.wp;rw [hr];rw [Oper.upon_skip,hdst];exact hn _ _ _ _ hK hs
def a0o :Op→Bool
 | .call ⟨.value _,_,_⟩=>true
 | .makeMap .. | .lookup .. | .mapUpdate .. | .mapEntry .. | .entryStore .. =>true
 |_=>false
def Uq (S:St) (ds:List (Option Tmp)) (j:Nat) (want:Bool):Option Bool:=
 match ds[j]? with
 |some (some t)=>match look S.env t with
  |some (.w (.one (.pl (.b c))))=>some c
  |some (.tup [])=>some (!want)
  |_=>none
 |_=>none
def m0w (S:St) (ds:List (Option Tmp)) (j:Nat) (c:Bool):St:=
 match ds[j]? with
 |some (some t)=>match look S.env t with
  |some (.w (.one (.pl (.b _))))=>⟨(t,.w (.one (.pl (.b c))))::S.env,S.mem⟩
  |_=>S
 |_=>S
theorem f0v {B:Base} {d:Va} {S:St} {a:Act} {w:World} (h:Sim B d S a w) {ds:List (Option Tmp)} {j:Nat} {c want:Bool} (hg:Uq S ds j want=some c):Sim B d (m0w S ds j c) a w:=by
 unfold Uq at hg
 unfold m0w
 split at hg<;>try (cases hg;done)
 rename_i t ht
 split at hg<;>try (cases hg;done)
 ·rename_i c' hl
  cases hg
  simp only [hl]
  refine ⟨h.defers,h.nt,fun n v hv=>?_,h.mem,h.inj,h.own,h.ro,h.old,h.os,h.tape,h.output,h.size,h.block,h.gat,h.glob,h.fix,h.fxn,h.mp⟩
  simp only [look] at hv
  split at hv
  ·rename_i e;cases hv;subst e;exact h.env _ _ hl
  ·exact h.env n v hv
 ·rename_i hl
  simp only [hl];exact h
theorem b0b (d:Va):V.den d (.tup []) undef:=⟨#[],rfl,.nil⟩
def Bq (P:Program) (B:Base) (ds:List (Option Tmp)):List Oper→St→(St→Prop)→Prop
 | [],S,K=>K S
 |o::r,S,K=>
  match o.guard with
  |none=>if a0o o.op=true then t1w P B o S fun S'=>Bq P B ds r S' K else
    match Lj P B.nt o S with
    |some S'=>Bq P B ds r S' K
    |none=>False
  |some g=>match Uq S ds g.1 g.2 with
   |some c=>
    (c=g.2→if a0o o.op=true then t1w P B o (m0w S ds g.1 g.2) fun S'=>Bq P B ds r S' K else
     match Lj P B.nt o (m0w S ds g.1 g.2) with
     |some S'=>Bq P B ds r S' K
     |none=>False)∧
    (c=(!g.2)→match (m0w S ds g.1 (!g.2)).put B.nt o.dst (.tup []) with
     |some S'=>Bq P B ds r S' K
     |none=>False)
   |none=>False
theorem a0x {B:Base} {d:Va} {S:St} {a:Act} {w:World} (h:Sim B d S a w) {ops:Array Oper} {ds:List (Option Tmp)} (hds:ds=ops.toList.map (·.dst)) {o:Oper} {g:Nat×Bool} {c:Bool} (ho:o.guard=some g) (hg:Uq S ds g.1 g.2=some c):Region.wanted o (yielded ops a.tmps)=(some c==some g.2):=by
 unfold Region.wanted
 rw [ho]
 unfold Uq at hg
 split at hg<;>try (cases hg;done)
 rename_i t ht
 have hd0:(ops[g.1]?).bind (·.dst)=some t:=by
  subst hds
  rw [List.getElem?_map] at ht
  cases ho:ops[g.1]? with
  |none=>simp [ho] at ht
  |some o=>simp [ho] at ht;simp [ht]
 split at hg<;>try (cases hg;done)
 ·rename_i c' hl
  cases hg
  obtain ⟨y,hy,hd⟩:=h.env _ _ hl
  change PL.den _ _ _ at hd;rw [PL.den] at hd;subst hd
  simp [yielded,hd0,hy]
 ·rename_i hl
  cases hg
  obtain ⟨y,hy,hd⟩:=h.env _ _ hl
  obtain ⟨vs,rfl,_⟩:=hd
  simp [yielded,hd0,hy]
theorem Xy {P:Program} {B:Base} {ops:Array Oper} {ds:List (Option Tmp)} (hds:ds=ops.toList.map (·.dst)) {Q:Exit→Act→World→Prop} {K:St→Prop} (hK: ∀ S' d' a' w',K S'→Sim B d' S' a' w'→Q .normal a' w'):
  ∀ (l:List Oper) (S:St),Bq P B ds l S K→∀ d a w,Sim B d S a w→wpList P ops Q l a w
 | [],S,h,d,a,w,hs=>hK _ _ _ _ h hs
 |o::r,S,h,d,a,w,hs=>by
  unfold Bq at h
  split at h
  ·rename_i hg
   refine wpList_plain hg fun N hN=>?_
   split at h
   ·exact h d a w hs N Q (fun S' d' a' w' hk hs'=>hN _ _ (Xy hds hK r S' hk d' a' w' hs'))
   ·split at h
    ·rename_i S' hst
     exact c0h (K:=fun S'=>Bq P B ds r S' K) hst h d a w hs N Q (fun S' d' a' w' hk hs'=>hN _ _ (Xy hds hK r S' hk d' a' w' hs'))
    ·exact h.elim
  ·rename_i g hg
   split at h
   ·rename_i c hc
    have hw:=a0x hs hds hg hc
    refine wpList_step fun N hN=>?_
    by_cases hcg:c=g.2
    ·rw [hw,hcg,if_pos (by simp)]
     have h1:=h.1 hcg
     have hs:=f0v (c:=g.2) (j:=g.1) (want:=g.2) (ds:=ds) hs (by rw [hc,hcg])
     split at h1
     ·exact h1 d a w hs N Q (fun S' d' a' w' hk hs'=>hN _ _ (Xy hds hK r S' hk d' a' w' hs'))
     ·split at h1
      ·rename_i S' hst
       exact c0h (K:=fun S'=>Bq P B ds r S' K) hst h1 d a w hs N Q (fun S' d' a' w' hk hs'=>hN _ _ (Xy hds hK r S' hk d' a' w' hs'))
      ·exact h1.elim
    ·have hcg':c= !g.2:=by cases c<;>cases hg2:g.2<;>simp_all
     rw [hw,if_neg (by simp [hcg])]
     have h2:=h.2 hcg'
     have hs:=f0v (c:=!g.2) (j:=g.1) (want:=g.2) (ds:=ds) hs (by rw [hc,hcg'])
     split at h2
     ·rename_i S' hst
      exact hN _ _ (Xy hds hK r S' h2 d _ w (St.Vq hs hst (b0b d)))
     ·exact h2.elim
   ·exact h.elim
end Go.Sy
namespace Go.Sy
def HT (P:Program) (B:Base) (c:Code) (S:St) (Q:Exit→St→Prop):Prop:=
 ∀ d a w,Sim B d S a w→c.wp P (fun e a' w'=>∃ S' d',Q e S'∧Sim B d' S' a' w') a w
def i0h (N:St→Prop) (Q:Exit→St→Prop):Exit→St→Prop
 | .normal,S=>N S
 |e,S=>Q e S
def c0c (id:Nat) (Q:Exit→St→Prop):Exit→St→Prop
 | .exit i,S=>if i=id then Q .normal S else Q (.exit i) S
 |e,S=>Q e S
section
variable {P:Program} {B:Base} {S:St} {Q:Exit→St→Prop}
theorem HT.mono {c:Code} {Q':Exit→St→Prop} (h:HT P B c S Q) (hq: ∀ e S,Q e S→Q' e S):HT P B c S Q':=by
 intro d a w hs
 exact Code.wp_mono (fun e a' w' ⟨S',d',q,s⟩=>⟨S',d',hq _ _ q,s⟩) (h d a w hs)
theorem HT.seq {x y:Code} (h:HT P B x S (i0h (fun S'=>HT P B y S' Q) Q)):HT P B (.seq x y) S Q:=by
 intro d a w hs
 refine wp_seq (Code.wp_mono ?_ (h d a w hs))
 rintro e a' w' ⟨S',d',hq,hs'⟩
 cases e<;>first|exact hq d' a' w' hs'|exact ⟨S',d',hq,hs'⟩
theorem HT.block {id:Nat} {x:Code} (h:HT P B x S (c0c id Q)):HT P B (.block id x) S Q:=by
 intro d a w hs
 refine wp_block (Code.wp_mono ?_ (h d a w hs))
 rintro e a' w' ⟨S',d',hq,hs'⟩
 cases e with
 |exit i=>
  simp only [c0c] at hq
  simp only [Exit.inBlock]
  split
  ·rename_i e;rw [if_pos e] at hq;exact ⟨S',d',hq,hs'⟩
  ·rename_i e;rw [if_neg e] at hq;exact ⟨S',d',hq,hs'⟩
 |_=>exact ⟨S',d',hq,hs'⟩
theorem HT.cond {c:Operand} {x y:Code} {t:Bool} (hc:S.get c=some (.w (.one (.pl (.b t))))) (ht:t=true→HT P B x S Q) (hf:t=false→HT P B y S Q):HT P B (.cond c x y) S Q:=by
 intro d a w hs
 have h:=hs.get hc
 change PL.den _ _ _ at h;rw [PL.den] at h
 exact wp_cond_split h (fun e=>ht e d a w hs) (fun e=>hf e d a w hs)
theorem HT.region {id:Nat} {ops:Array Oper} (h:Bq P B (ops.toList.map (·.dst)) ops.toList S (Q .normal)):HT P B (.region id ops false) S Q:=by
 intro d a w hs
 refine wp_region_list ?_
 exact Xy rfl (fun S' d' a' w' hk hs'=>⟨S',d',hk,hs'⟩) _ _ h d a w hs
theorem HT.skip (h:Q .normal S):HT P B .skip S Q:=fun d a w hs=>wp_skip ⟨S,d,h,hs⟩
theorem HT.exit {id:Nat} (h:Q (.exit id) S):HT P B (.exit id) S Q:=fun d a w hs=>wp_exit ⟨S,d,h,hs⟩
theorem HT.ret (h:Q .ret S):HT P B .ret S Q:=fun d a w hs=>wp_ret ⟨S,d,h,hs⟩
theorem k0n {c:Code} {ι:Type} {a:Act} {w:World} {Q:Exit→Act→World→Prop} (I:ι→Act→World→Prop) (μ:ι→Nat) (i₀:ι) (h₀:I i₀ a w)
  (round: ∀ i a w,I i a w→c.wp P (Exit.then (fun a' w'=>∃ j,I j a' w'∧μ j<μ i) Q) a w):(Code.loop c).wp P Q a w:=by
 intro b k cs
 have key: ∀ n i a w,μ i=n→I i a w→
   ∃ e a' w',Q e a' w'∧Arrives P (lone (b.at a (.code c::.inLoop c::k)) cs w) b k cs e a' w':=by
  intro n
  induction n using Nat.strongRecOn with
  |_ n ih=>
   intro i a w hn hI
   obtain ⟨e,a₁,w₁,hq,harr⟩:=round i a w hI b (.inLoop c::k) cs
   cases e with
   |normal=>
    obtain ⟨j,hI₁,hlt⟩:=hq
    obtain ⟨e₂,a₂,w₂,hq₂,harr₂⟩:=ih (μ j) (hn▸hlt) j a₁ w₁ rfl hI₁
    exact ⟨e₂,a₂,w₂,hq₂,.of_steps (Steps.trans harr (.one step_inLoop)) harr₂⟩
   |exit id=>exact ⟨_,a₁,w₁,hq,.pass (x:=.inLoop c) rfl (fun _ _=>.inl (by simp)) harr⟩
   |goto l=>exact ⟨_,a₁,w₁,hq,.pass (x:=.inLoop c) rfl (fun _ _=>.inl (by simp)) harr⟩
   |ret=>exact ⟨_,a₁,w₁,hq,.pass (x:=.inLoop c) rfl (fun _ _=>.inl (by simp)) harr⟩
   |panic ch=>exact ⟨_,a₁,w₁,hq,.pass (x:=.inLoop c) rfl (fun _ _=>.inl (by simp)) harr⟩
   |outgrown=>exact ⟨_,a₁,w₁,hq,.pass (x:=.inLoop c) rfl (fun _ _=>.inl (by simp)) harr⟩
 obtain ⟨e,a',w',hq,harr⟩:=key _ i₀ a w rfl h₀
 exact ⟨e,a',w',hq,.of_steps (.one step_loop) harr⟩
def Le (B:Base) (S S':St):Prop:=∀ d a w,Sim B d S a w→∃ d',Sim B d' S' a w
theorem Le.refl (S:St):Le B S S:=fun d _ _ h=>⟨d,h⟩
theorem HT.le {c:Code} {S':St} (hl:Le B S S') (h:HT P B c S' Q):HT P B c S Q:=by
 intro d a w hs
 obtain ⟨d',hs'⟩:=hl d a w hs
 exact h d' a w hs'
theorem HT.loop {x:Code} {ι:Type} (T:ι→St) (μ:ι→Nat) (i₀:ι) (h₀:Le B S (T i₀))
  (round: ∀ i,HT P B x (T i) (i0h (fun S'=>∃ j,μ j<μ i∧Le B S' (T j)) Q)):HT P B (.loop x) S Q:=by
 intro d a w hs
 obtain ⟨d0,hs0⟩:=h₀ d a w hs
 refine k0n (fun i a w=>∃ d,Sim B d (T i) a w) μ i₀ ⟨d0,hs0⟩ ?_
 rintro i a w ⟨d,hs⟩
 refine Code.wp_mono ?_ (round i d a w hs)
 rintro e a' w' ⟨S',d',hq,hs'⟩
 cases e with
 |normal=>
  obtain ⟨j,hj,hl⟩:=hq
  obtain ⟨d2,hs2⟩:=hl _ _ _ hs'
  exact ⟨j,⟨d2,hs2⟩,hj⟩
 |_=>exact ⟨S',d',hq,hs'⟩
end
def xc (P:Program) (B:Base):Code→St→(Exit→St→Prop)→Prop
 | .skip,S,Q=>Q .normal S
 | .region id ops draw,S,Q=>if draw=true then HT P B (.region id ops true) S Q else Bq P B (ops.toList.map (·.dst)) ops.toList S (Q .normal)
 | .seq x y,S,Q=>xc P B x S (i0h (fun S'=>xc P B y S' Q) Q)
 | .cond c x y,S,Q=>match S.get c with
  |some (.w (.one (.pl (.b t))))=>(t=true→xc P B x S Q)∧(t=false→xc P B y S Q)
  |_=>False
 | .block id x,S,Q=>xc P B x S (c0c id Q)
 | .exit id,S,Q=>Q (.exit id) S
 | .ret,S,Q=>Q .ret S
 |c,S,Q=>HT P B c S Q
end Go.Sy
namespace Go.Sy
def q1v (P:Program) (S:St):ResultVar→Option W
 | .tmp t=>match look S.env t with
  |some (.w x)=>some x
  |_=>none
 | .cell a t=>match look S.env a with
  |some v=>match h0f P S t v with
   |some (.w x)=>some x
   |_=>none
  |none=>none
def r0q (P:Program) (S:St):List ResultVar→Option (List W)
 | []=>some []
 |r::rs=>match q1v P S r,r0q P S rs with
  |some x,some xs=>some (x::xs)
  |_,_=>none
def k1f (P:Program) (S:St) (rs:List ResultVar):Option V:=
 match r0q P S rs with
 |some [x]=>some (.w x)
 |some xs=>some (.tup xs)
 |none=>none
def i0r (tmps:Array Value):ResultVar→Sem Value
 | .tmp t=>pure (tmps.getD t undef)
 | .cell a t=>do loadVar t (←asAddr (tmps.getD a undef))
theorem m1c {P:Program} {B:Base} {d:Va} {S:St} {a:Act} {w:World} (h:Sim B d S a w) {r:ResultVar} {x:W} (hr:q1v P S r=some x): ∃ y,(i0r a.tmps r).run P w=.ok y w∧x.den d y:=by
 unfold q1v at hr
 split at hr
 ·split at hr<;>cases hr
  rename_i t x hl
  obtain ⟨y,hy,hd⟩:=h.env _ _ hl
  exact ⟨y,by simp [i0r,Array.getD_eq_getD_getElem?,hy],hd⟩
 ·rename_i ra rt
  split at hr<;>try (cases hr;done)
  rename_i v hl
  split at hr<;>cases hr
  rename_i x hx
  obtain ⟨y,hy,hd⟩:=h.env _ _ hl
  obtain ⟨z,hz,hzd⟩:=u0w h hx hd
  refine ⟨z,?_,hzd⟩
  have hy':a.tmps.getD ra undef=y:=by simp [Array.getD_eq_getD_getElem?,hy]
  simp only [i0r,hy']
  unfold Instr.loadAt Instr.sureAddr at hz
  cases y<;>first|(simp at hz;done)|skip
  rename_i q
  cases q with
  |none=>simp at hz
  |some q=>simpa [asAddr] using hz
theorem n0a {P:Program} {B:Base} {d:Va} {S:St} {a:Act} {w:World} (h:Sim B d S a w): ∀ {rs:List ResultVar} {xs:List W},r0q P S rs=some xs→∃ ys,(rs.mapM (i0r a.tmps)).run P w=.ok ys w∧Fv (W.den d) xs ys
 | [],xs,hr=>by simp only [r0q] at hr;cases hr;exact ⟨[],by simp,.nil⟩
 |r::rs,xs,hr=>by
  simp only [r0q] at hr
  cases h1:q1v P S r with
  |none=>simp [h1] at hr
  |some x=>
   cases h2:r0q P S rs with
   |none=>simp [h1,h2] at hr
   |some xs'=>
    simp only [h1,h2,Option.some.injEq] at hr;subst hr
    obtain ⟨y,hy,hd⟩:=m1c h h1
    obtain ⟨ys,hys,hds⟩:=n0a h h2
    exact ⟨y::ys,by simp [List.mapM_cons,hy,hys],.cons hd hds⟩
theorem m1d {P:Program} {B:Base} {d:Va} {S:St} {a:Act} {w:World} (h:Sim B d S a w) {fn:Func} {v:V} (hr:k1f P S fn.results.toList=some v): ∃ y,(results fn a.tmps).run P w=.ok y w∧v.den d y:=by
 unfold k1f at hr
 have key: ∀ ys:List Value,(fn.results.toList.mapM (i0r a.tmps)).run P w=.ok ys w→(results fn a.tmps).run P w=.ok (if h:ys.toArray.size=1 then ys.toArray[0] else .tuple ys.toArray) w:=by
  intro ys hy
  have e:(fn.results.mapM (i0r a.tmps)).run P w=.ok ys.toArray w:=by
   rw [Array.mapM_eq_mapM_toList];simp [hy]
  have e2:results fn a.tmps=(do let vs ←fn.results.mapM (i0r a.tmps);pure (if h:vs.size=1 then vs[0] else .tuple vs)):=rfl
  rw [e2,Sem.run_bind,e];rfl
 split at hr
 ·rename_i x hx
  cases hr
  obtain ⟨ys,hys,hds⟩:=n0a h hx
  cases hds with
  |cons h1 h2=>cases h2;exact ⟨_,key _ hys,h1⟩
 ·rename_i xs hne hx
  cases hr
  obtain ⟨ys,hys,hds⟩:=n0a h hx
  refine ⟨.tuple ys.toArray,?_,⟨_,rfl,by simpa using hds⟩⟩
  rw [key _ hys]
  have:¬ys.toArray.size=1:=by
   intro e
   have hl:=hds.length
   simp only [List.size_toArray] at e
   rw [e] at hl
   match xs,hl with
   | [x],_=>exact hne x rfl
  rw [dif_neg this]
 ·cases hr
def FnQ (P:Program) (fn:Func) (R:V→List (Nat×Ob)→Prop):Exit→St→Prop
 | .normal,S| .ret,S=>match k1f P S fn.results.toList with
  |some v=>R v S.mem
  |none=>False
 |_,_=>False
def g0n :Nat→List V→List (Nat×V)
 |_,[]=>[]
 |n,v::r=>(n,v)::g0n (n+1) r
theorem l0v : ∀ {n:Nat} {l:List V} {j:Nat} {v:V},look (g0n n l) j=some v→n≤j∧l[j-n]? =some v
 |n,[],j,v,h=>by cases h
 |n,x::r,j,v,h=>by
  simp only [g0n,look] at h
  split at h
  ·rename_i e;cases h;subst e;simp
  ·rename_i e
   obtain ⟨h1,h2⟩:=l0v h
   refine ⟨by omega,?_⟩
   rw [show j-n=(j-(n+1))+1 from by omega];simpa using h2
def f0i (B:Base) (d:Va) (m:List (Nat×Ob)) (w:World):Prop:=∃ a:Act,Sim {B with nt:=a.tmps.size} d ⟨[],m⟩ a w
def r0z (d:Va) (m:List (Nat×Ob)) (b:Nat):Prop:=∃ k,(look m k).isSome=true∧k<gl0∧d.at_ k=b
def h1f (d:Va) (m:List (Nat×Ob)) (k:Nat):Option (Nat×Nat):=if (look m k).isSome=true∧px0≤k∧k<gl0 then some (d.at_ k,d.size k) else none
def CtM (P:Program) (f:FuncId) (args:List V) (m:List (Nat×Ob)) (R:V→List (Nat×Ob)→Prop):Prop:=
 ∀ (w:World) (d:Va) (vals:Array Value),f0i ⟨w,r0z d m,0,d.ro,h1f d m⟩ d m w→Fv (V.den d) args vals.toList→
  Calls P f vals w fun e w'=>∃ y v d' m',e=.returned y∧R v m'∧v.den d' y∧f0i ⟨w,r0z d m,0,d.ro,h1f d m⟩ d' m' w'
def Ct (P:Program) (f:FuncId) (args:List V) (R:V→List (Nat×Ob)→Prop):Prop:=
 ∀ (w:World) (d:Va) (vals:Array Value),(∀ b o y,d.ro b o=some y→w.cell? ⟨b,o,none⟩=some y)→(∀ k,gl0≤k→d.at_ k=k-gl0)→Fv (V.den d) args vals.toList→
  Calls P f vals w fun e w'=>∃ y v d' m',e=.returned y∧R v m'∧v.den d' y∧f0i ⟨w,fun _=>False,0,d.ro,fun _=>none⟩ d' m' w'
theorem d1n {P:Program} {f:FuncId} {fn:Func} {c:Code} {args:List V} {m:List (Nat×Ob)} {R:V→List (Nat×Ob)→Prop} (hf:P.funcs[f]? =some fn) (hb:fn.body=some c) (hn:args.length≤fn.ntmps)
  {w:World} {d:Va} {vals:Array Value} {may:Nat→Prop} {fx:Nat→Option (Nat×Nat)} (h:HT P ⟨w,may,fn.ntmps,d.ro,fx⟩ c ⟨g0n 0 args,m⟩ (FnQ P fn R))
  (hm:f0i ⟨w,may,0,d.ro,fx⟩ d m w) (hargs:Fv (V.den d) args vals.toList):
  Calls P f vals w fun e w'=>∃ y v d' m',e=.returned y∧R v m'∧v.den d' y∧f0i ⟨w,may,0,d.ro,fx⟩ d' m' w':=by
 obtain ⟨a0,h0⟩:=hm
 refine calls_of_wp hf hb ?_
 have hl:=hargs.length
 have hs:Sim ⟨w,may,fn.ntmps,d.ro,fx⟩ d ⟨g0n 0 args,m⟩ {tmps:=vals++Array.replicate (fn.ntmps-vals.size) undef,defers:=[]} w:=by
  refine ⟨rfl,?_,?_,h0.mem,h0.inj,h0.own,h0.ro,h0.old,h0.os,h0.tape,h0.output,h0.size,h0.block,h0.gat,h0.glob,h0.fix,h0.fxn,h0.mp⟩
  ·simp at hl ⊢;omega
  ·intro n v hv
   obtain ⟨_,hv⟩:=l0v hv
   obtain ⟨y,hy,hd⟩:=hargs.get (by simpa using hv)
   refine ⟨y,?_,hd⟩
   have hlt:n<vals.size:=by
    have:=(List.getElem?_eq_some_iff.1 hy).1;simpa using this
   rw [Array.getElem?_append_left hlt]
   simpa using hy
 refine Code.wp_mono ?_ (h d _ w hs)
 rintro e a' w' ⟨S',d',hq,hs'⟩
 have fin:(match k1f P S' fn.results.toList with|some v=>R v S'.mem|none=>False)→a'.defers=[]∧∃ v,(results fn a'.tmps).run P w'=.ok v w'∧∃ y v1 d1 m1,Ending.returned v=.returned y∧R v1 m1∧v1.den d1 y∧f0i ⟨w,may,0,d.ro,fx⟩ d1 m1 w':=by
  intro hq
  refine ⟨hs'.defers,?_⟩
  split at hq
  ·rename_i v hv
   obtain ⟨y,hy,hd⟩:=m1d hs' hv
   refine ⟨y,hy,y,v,d',S'.mem,rfl,hq,hd,⟨a',?_⟩⟩
   exact ⟨hs'.defers,rfl,fun n v hv=>(by cases hv),hs'.mem,hs'.inj,hs'.own,hs'.ro,hs'.old,hs'.os,hs'.tape,hs'.output,hs'.size,hs'.block,hs'.gat,hs'.glob,hs'.fix,hs'.fxn,hs'.mp⟩
  ·exact hq.elim
 cases e with
 |normal=>exact fin hq
 |ret=>exact fin hq
 |_=>exact hq.elim
theorem CtM.of {P:Program} {f:FuncId} {fn:Func} {c:Code} {args:List V} {m:List (Nat×Ob)} {R:V→List (Nat×Ob)→Prop} (hf:P.funcs[f]? =some fn) (hb:fn.body=some c) (hn:args.length≤fn.ntmps)
  (h: ∀ (w0:World) (ro:Ro) (may:Nat→Prop) (fx:Nat→Option (Nat×Nat)),HT P ⟨w0,may,fn.ntmps,ro,fx⟩ c ⟨g0n 0 args,m⟩ (FnQ P fn R)):CtM P f args m R:=
 fun w d _ hm hargs=>d1n hf hb hn (h w d.ro _ _) hm hargs
theorem Ct.of {P:Program} {f:FuncId} {fn:Func} {c:Code} {args:List V} {R:V→List (Nat×Ob)→Prop} (hf:P.funcs[f]? =some fn) (hb:fn.body=some c) (hn:args.length≤fn.ntmps)
  (h: ∀ (w0:World) (ro:Ro),HT P ⟨w0,fun _=>False,fn.ntmps,ro,fun _=>none⟩ c ⟨g0n 0 args,[]⟩ (FnQ P fn R)):Ct P f args R:=by
 intro w d vals hro hgat hargs
 refine d1n hf hb hn (h w d.ro) ⟨⟨#[],[]⟩,?_⟩ hargs
 exact ⟨rfl,rfl,fun n v hv=>(by cases hv),fun k o hk=>(by cases hk),fun k k' h1=>(by cases h1),fun k h1=>(by cases h1),hro,fun b o y hy _=>hy,rfl,rfl,rfl,Nat.le_refl _,fun _ _ _=>rfl,hgat,fun k o hk=>(by cases hk),fun k o p hk=>(by cases hk),fun k p hk=>(by cases hk),fun b l hb=>(by cases hb)⟩
end Go.Sy
namespace Go.Sy
def c0v :List Oper→List (Option Tmp)
 | []=>[]
 |o::r=>o.dst::c0v r
theorem g0h : ∀ l,c0v l=l.map (·.dst)
 | []=>rfl
 |o::r=>by simp [c0v,g0h r]
def t1k (P:Program) (B:Base) (y:Code) (Q:Exit→St→Prop):Exit→St→Prop:=i0h (fun S'=>xc P B y S' Q) Q
def q1u (P:Program) (B:Base) (ds:List (Option Tmp)) (r:List Oper) (K:St→Prop):St→Prop:=fun S'=>Bq P B ds r S' K
def Ey (P:Program) (B:Base) (o:Oper) (S:St) (ds:List (Option Tmp)) (r:List Oper) (K:St→Prop):Prop:=t1w P B o S (q1u P B ds r K)
def Wv (x:Option St) (P:Program) (B:Base) (ds:List (Option Tmp)) (r:List Oper) (K:St→Prop):Prop:=
 match x with
 |some S'=>Bq P B ds r S' K
 |none=>False
def Fx (x:Option Bool) (j:Nat) (want:Bool) (P:Program) (B:Base) (ds:List (Option Tmp)) (o:Oper) (r:List Oper) (S:St) (K:St→Prop):Prop:=
 match x with
 |some c=>(c=want→Bq P B ds (⟨o.dst,o.op,o.type,o.pos,o.after,none⟩::r) (m0w S ds j want) K)∧(c=(!want)→Wv ((m0w S ds j (!want)).put B.nt o.dst (.tup [])) P B ds r K)
 |none=>False
def r1n (x:Option V) (P:Program) (B:Base) (a b:Code) (S:St) (Q:Exit→St→Prop):Prop:=
 match x with
 |some (.w (.one (.pl (.b t))))=>(t=true→xc P B a S Q)∧(t=false→xc P B b S Q)
 |_=>False
def t1h (P:Program) (B:Base) (x:Code) (S:St) (Q:Exit→St→Prop):Prop:=HT P B (.loop x) S Q
def t1i (P:Program) (B:Base) (id:Nat) (ops:Array Oper) (S:St) (Q:Exit→St→Prop):Prop:=HT P B (.region id ops true) S Q
section
variable {P:Program} {B:Base} {S:St} {Q:Exit→St→Prop} {K:St→Prop} {ds:List (Option Tmp)} {r:List Oper}
theorem s1t (x y:Code):xc P B (.seq x y) S Q=xc P B x S (t1k P B y Q):=rfl
theorem o1g (y:Code):t1k P B y Q .normal S=xc P B y S Q:=rfl
theorem o1f (y:Code):t1k P B y Q .ret S=Q .ret S:=rfl
theorem o1h (y:Code) (i:Nat):t1k P B y Q (.exit i) S=Q (.exit i) S:=rfl
theorem i1x (id:Nat) (x:Code):xc P B (.block id x) S Q=xc P B x S (c0c id Q):=rfl
theorem c1t (id:Nat):c0c id Q .normal S=Q .normal S:=rfl
theorem c1s (id:Nat):c0c id Q .ret S=Q .ret S:=rfl
theorem c1u (id i:Nat):c0c id Q (.exit i) S=if i=id then Q .normal S else Q (.exit i) S:=rfl
theorem o1l (i:Nat):xc P B (.exit i) S Q=Q (.exit i) S:=rfl
theorem s1u :xc P B .ret S Q=Q .ret S:=rfl
theorem o1e :xc P B .skip S Q=Q .normal S:=rfl
theorem o1k (x:Code):xc P B (.loop x) S Q=t1h P B x S Q:=rfl
theorem c1r (t:Bool) (x y:Code):r1n (some (.w (.one (.pl (.b t))))) P B x y S Q=((t=true→xc P B x S Q)∧(t=false→xc P B y S Q)):=rfl
theorem o1o (id:Nat) (l:Array Oper):xc P B (.region id l true) S Q=t1i P B id l S Q:=rfl
theorem Yv :Bq P B ds [] S K=K S:=rfl
theorem h0g (dst:Option Tmp) (op:Op) (ty:TypeId) (pos:String) (after:Array Edge):
  Bq P B ds (⟨dst,op,ty,pos,after,none⟩::r) S K=if a0o op=true then Ey P B ⟨dst,op,ty,pos,after,none⟩ S ds r K else Wv (Lj P B.nt ⟨dst,op,ty,pos,after,none⟩ S) P B ds r K:=by
 simp only [Bq,Ey,q1u]
 split
 ·rfl
 ·unfold Wv;rfl
theorem i1w (dst:Option Tmp) (op:Op) (ty:TypeId) (pos:String) (after:Array Edge) (g:Nat×Bool):
  Bq P B ds (⟨dst,op,ty,pos,after,some g⟩::r) S K=Fx (Uq S ds g.1 g.2) g.1 g.2 P B ds ⟨dst,op,ty,pos,after,some g⟩ r S K:=by
 simp only [Bq,Ey,Fx,Wv];rfl
theorem o1j (S':St):Wv (some S') P B ds r K=Bq P B ds r S' K:=rfl
theorem Yw (c want:Bool) (j:Nat) (o:Oper):Fx (some c) j want P B ds o r S K=((c=want→Bq P B ds (⟨o.dst,o.op,o.type,o.pos,o.after,none⟩::r) (m0w S ds j want) K)∧(c=(!want)→Wv ((m0w S ds j (!want)).put B.nt o.dst (.tup [])) P B ds r K)):=rfl
theorem s1v (nt n:Nat) (v:V) (e:List (Nat×V)) (m:List (Nat×Ob)) (h:n<nt):St.put nt (some n) v ⟨e,m⟩=some ⟨(n,v)::e,m⟩:=by simp [St.put,h]
theorem o1i (nt:Nat) (v:V):St.put nt none v S=some S:=rfl
end
def o1s (P:Program) (rs:List ResultVar) (R:V→List (Nat×Ob)→Prop):Exit→St→Prop
 | .normal,S| .ret,S=>match k1f P S rs with
  |some v=>R v S.mem
  |none=>False
 |_,_=>False
def m1w (x:Option V) (m:List (Nat×Ob)) (R:V→List (Nat×Ob)→Prop):Prop:=
 match x with
 |some v=>R v m
 |none=>False
theorem o1m (P:Program) (rs:List ResultVar) (R:V→List (Nat×Ob)→Prop) (S:St):o1s P rs R .ret S=m1w (k1f P S rs) S.mem R:=rfl
theorem o1n (P:Program) (rs:List ResultVar) (R:V→List (Nat×Ob)→Prop) (S:St):o1s P rs R .normal S=m1w (k1f P S rs) S.mem R:=rfl
theorem i1v (v:V) (m:List (Nat×Ob)) (R:V→List (Nat×Ob)→Prop):m1w (some v) m R=R v m:=rfl
end Go.Sy
namespace Go.Sy
def goV (x:Option V) (dst:Option Tmp) (P:Program) (B:Base) (ds:List (Option Tmp)) (r:List Oper) (S:St) (K:St→Prop):Prop:=
 match x with
 |some v=>match dst with
  |some n=>if n<B.nt then Bq P B ds r ⟨(n,v)::S.env,S.mem⟩ K else False
  |none=>Bq P B ds r S K
 |none=>False
def goA (x:Option (V×Ob)) (dst:Option Tmp) (P:Program) (B:Base) (ds:List (Option Tmp)) (r:List Oper) (S:St) (K:St→Prop):Prop:=
 match dst with
 |some n=>if fresh n S=true then match x with
   |some y=>if n<B.nt then Bq P B ds r ⟨(n,y.1)::S.env,(n,y.2)::S.mem⟩ K else False
   |none=>False
  else False
 |none=>False
def goS (x:Option (V×St)) (dst:Option Tmp) (P:Program) (B:Base) (ds:List (Option Tmp)) (r:List Oper) (K:St→Prop):Prop:=
 match x with
 |some y=>match dst with
  |some n=>if n<B.nt then Bq P B ds r ⟨(n,y.1)::y.2.env,y.2.mem⟩ K else False
  |none=>Bq P B ds r y.2 K
 |none=>False
def b2 (x y:Option V) (f:V→V→Option V):Option V:=
 match x,y with
 |some u,some v=>f u v
 |_,_=>none
theorem p1m (u v:V) (f:V→V→Option V):b2 (some u) (some v) f=f u v:=rfl
def b3 (c x y:Option V):Option V:=
 match c,x,y with
 |some (.w (.one (.pl (.b b)))),some u,some v=>some (h0e b u v)
 |_,_,_=>none
theorem p1l (b:Bool) (u v:V):b3 (some (.w (.one (.pl (.b b))))) (some u) (some v)=some (h0e b u v):=rfl
section
variable {P:Program} {B:Base} {S:St} {K:St→Prop} {ds:List (Option Tmp)} {r:List Oper} {dst:Option Tmp} {ty:TypeId} {pos:String} {af:Array Edge}
theorem g1w (v:V) (n:Nat) (e:List (Nat×V)) (m:List (Nat×Ob)):goV (some v) (some n) P B ds r ⟨e,m⟩ K=if n<B.nt then Bq P B ds r ⟨(n,v)::e,m⟩ K else False:=rfl
theorem n0o (v:V):goV (some v) none P B ds r S K=Bq P B ds r S K:=rfl
theorem g1y (n:Nat) (v:V) (o:Ob) (e:List (Nat×V)) (m:List (Nat×Ob)):goA (some (v,o)) (some n) P B ds r ⟨e,m⟩ K=if fresh n ⟨e,m⟩=true then if n<B.nt then Bq P B ds r ⟨(n,v)::e,(n,o)::m⟩ K else False else False:=rfl
theorem g1x (v:V) (n:Nat) (e:List (Nat×V)) (m:List (Nat×Ob)):goS (some (v,⟨e,m⟩)) (some n) P B ds r K=if n<B.nt then Bq P B ds r ⟨(n,v)::e,m⟩ K else False:=rfl
theorem Rz {op:Op} (h0:a0o op=false) (hs:Lj P B.nt ⟨dst,op,ty,pos,af,none⟩ S=match Fw P S op with
  |some v=>S.put B.nt dst v
  |none=>none):
  Bq P B ds (⟨dst,op,ty,pos,af,none⟩::r) S K=goV (Fw P S op) dst P B ds r S K:=by
 rw [h0g,h0,hs]
 simp only [Bool.false_eq_true,if_false]
 unfold goV Wv
 cases Fw P S op with
 |none=>rfl
 |some v=>
  cases dst with
  |none=>rfl
  |some n=>simp only [St.put];by_cases hn:n<B.nt<;>simp [hn]
theorem m1m (x:Operand):Bq P B ds (⟨dst,.move x,ty,pos,af,none⟩::r) S K=goV (S.get x) dst P B ds r S K:=by
 have hs:Lj P B.nt ⟨dst,.move x,ty,pos,af,none⟩ S=match Fw P S (.move x) with
  |some v=>S.put B.nt dst v
  |none=>none:=by
  simp only [Lj]
  cases Fw P S (.move x) with
  |some v=>rfl
  |none=>cases dst with
   |none=>rfl
   |some k=>simp [Ij]
 rw [Rz rfl hs]
 first|rfl|(congr 1;unfold Fw;simp;done)|(congr 1;simp only [Fw,b2,b3];first|rfl|(split<;>simp_all))
theorem a1s (x:Operand):Bq P B ds (⟨dst,.assign x,ty,pos,af,none⟩::r) S K=goV (S.get x) dst P B ds r S K:=by
 have hs:Lj P B.nt ⟨dst,.assign x,ty,pos,af,none⟩ S=match Fw P S (.assign x) with
  |some v=>S.put B.nt dst v
  |none=>none:=by
  simp only [Lj]
  cases Fw P S (.assign x) with
  |some v=>rfl
  |none=>cases dst with
   |none=>rfl
   |some k=>simp [Ij]
 rw [Rz rfl hs]
 first|rfl|(congr 1;unfold Fw;simp;done)|(congr 1;simp only [Fw,b2,b3];first|rfl|(split<;>simp_all))
theorem m1l (c x y:Operand):Bq P B ds (⟨dst,.pick c x y,ty,pos,af,none⟩::r) S K=goV (b3 (S.get c) (S.get x) (S.get y)) dst P B ds r S K:=by
 have hs:Lj P B.nt ⟨dst,.pick c x y,ty,pos,af,none⟩ S=match Fw P S (.pick c x y) with
  |some v=>S.put B.nt dst v
  |none=>none:=by
  simp only [Lj]
  cases Fw P S (.pick c x y) with
  |some v=>rfl
  |none=>cases dst with
   |none=>rfl
   |some k=>simp [Ij]
 rw [Rz rfl hs]
 first|rfl|(congr 1;unfold Fw;simp;done)|(congr 1;simp only [Fw,b2,b3];first|rfl|(split<;>simp_all))
theorem f1x (t:TypeId) (ps:List (Nat×Operand)):Bq P B ds (⟨dst,.build t ps.toArray,ty,pos,af,none⟩::r) S K=goV (h0c P S t ps) dst P B ds r S K:=by
 have hs:Lj P B.nt ⟨dst,.build t ps.toArray,ty,pos,af,none⟩ S=match Fw P S (.build t ps.toArray) with
  |some v=>S.put B.nt dst v
  |none=>none:=by
  simp only [Lj]
  cases Fw P S (.build t ps.toArray) with
  |some v=>rfl
  |none=>cases dst with
   |none=>rfl
   |some k=>simp [Ij]
 rw [Rz rfl hs]
 first|rfl|(congr 1;unfold Fw;simp;done)|(congr 1;simp only [Fw,b2,b3];first|rfl|(split<;>simp_all))
theorem m1o (t:TypeId) (x:Operand):Bq P B ds (⟨dst,.load t x,ty,pos,af,none⟩::r) S K=goV ((S.get x).bind (h0f P S t)) dst P B ds r S K:=by
 have hs:Lj P B.nt ⟨dst,.load t x,ty,pos,af,none⟩ S=match Fw P S (.load t x) with
  |some v=>S.put B.nt dst v
  |none=>none:=by
  simp only [Lj]
  cases Fw P S (.load t x) with
  |some v=>rfl
  |none=>cases dst with
   |none=>rfl
   |some k=>simp [Ij]
 rw [Rz rfl hs]
 first|rfl|(congr 1;unfold Fw;simp;done)|(congr 1;simp only [Fw,b2,b3];first|rfl|(split<;>simp_all))
theorem f1y (op:BinOp) (t t2:TypeId) (x y:Operand):Bq P B ds (⟨dst,.binOp op t x y t2,ty,pos,af,none⟩::r) S K=goV (b2 (S.get x) (S.get y) (Mj P op t)) dst P B ds r S K:=by
 have hs:Lj P B.nt ⟨dst,.binOp op t x y t2,ty,pos,af,none⟩ S=match Fw P S (.binOp op t x y t2) with
  |some v=>S.put B.nt dst v
  |none=>none:=by
  simp only [Lj]
  cases Fw P S (.binOp op t x y t2) with
  |some v=>rfl
  |none=>cases dst with
   |none=>rfl
   |some k=>simp [Ij]
 rw [Rz rfl hs]
 first|rfl|(congr 1;unfold Fw;simp;done)|(congr 1;simp only [Fw,b2,b3];first|rfl|(split<;>simp_all))
theorem m1k (op:UnOp) (t:TypeId) (x:Operand):Bq P B ds (⟨dst,.unOp op t x,ty,pos,af,none⟩::r) S K=goV ((S.get x).bind (unV op)) dst P B ds r S K:=by
 have hs:Lj P B.nt ⟨dst,.unOp op t x,ty,pos,af,none⟩ S=match Fw P S (.unOp op t x) with
  |some v=>S.put B.nt dst v
  |none=>none:=by
  simp only [Lj]
  cases Fw P S (.unOp op t x) with
  |some v=>rfl
  |none=>cases dst with
   |none=>rfl
   |some k=>simp [Ij]
 rw [Rz rfl hs]
 first|rfl|(congr 1;unfold Fw;simp;done)|(congr 1;simp only [Fw,b2,b3];first|rfl|(split<;>simp_all))
theorem p0l (t:TypeId) (x:Operand) (f:Nat):Bq P B ds (⟨dst,.fieldAddr t x f,ty,pos,af,none⟩::r) S K=goV ((S.get x).bind (g0y P t f)) dst P B ds r S K:=by
 have hs:Lj P B.nt ⟨dst,.fieldAddr t x f,ty,pos,af,none⟩ S=match Fw P S (.fieldAddr t x f) with
  |some v=>S.put B.nt dst v
  |none=>none:=by
  simp only [Lj]
  cases Fw P S (.fieldAddr t x f) with
  |some v=>rfl
  |none=>cases dst with
   |none=>rfl
   |some k=>simp [Ij]
 rw [Rz rfl hs]
 first|rfl|(congr 1;unfold Fw;simp;done)|(congr 1;simp only [Fw,b2,b3];first|rfl|(split<;>simp_all))
theorem p0k (t:TypeId) (x i:Operand):Bq P B ds (⟨dst,.indexAddr t x i,ty,pos,af,none⟩::r) S K=goV (b2 (S.get x) (S.get i) (Pz P t)) dst P B ds r S K:=by
 have hs:Lj P B.nt ⟨dst,.indexAddr t x i,ty,pos,af,none⟩ S=match Fw P S (.indexAddr t x i) with
  |some v=>S.put B.nt dst v
  |none=>none:=by
  simp only [Lj]
  cases Fw P S (.indexAddr t x i) with
  |some v=>rfl
  |none=>cases dst with
   |none=>rfl
   |some k=>simp [Ij]
 rw [Rz rfl hs]
 first|rfl|(congr 1;unfold Fw;simp;done)|(congr 1;simp only [Fw,b2,b3];first|rfl|(split<;>simp_all))
theorem f1v (t:TypeId) (x i:Operand):Bq P B ds (⟨dst,.index t x i,ty,pos,af,none⟩::r) S K=goV (b2 (S.get x) (S.get i) (j0i P t)) dst P B ds r S K:=by
 have hs:Lj P B.nt ⟨dst,.index t x i,ty,pos,af,none⟩ S=match Fw P S (.index t x i) with
  |some v=>S.put B.nt dst v
  |none=>none:=by
  simp only [Lj]
  cases Fw P S (.index t x i) with
  |some v=>rfl
  |none=>cases dst with
   |none=>rfl
   |some k=>simp [Ij]
 rw [Rz rfl hs]
 first|rfl|(congr 1;unfold Fw;simp;done)|(congr 1;simp only [Fw,b2,b3];first|rfl|(split<;>simp_all))
theorem w0o (x:Operand) (i:Nat):Bq P B ds (⟨dst,.extract x i,ty,pos,af,none⟩::r) S K=goV ((S.get x).bind fun v=>c0r v i) dst P B ds r S K:=by
 have hs:Lj P B.nt ⟨dst,.extract x i,ty,pos,af,none⟩ S=match Fw P S (.extract x i) with
  |some v=>S.put B.nt dst v
  |none=>none:=by
  simp only [Lj]
  cases Fw P S (.extract x i) with
  |some v=>rfl
  |none=>cases dst with
   |none=>rfl
   |some k=>simp [Ij]
 rw [Rz rfl hs]
 first|rfl|(congr 1;unfold Fw;simp;done)|(congr 1;simp only [Fw,b2,b3];first|rfl|(split<;>simp_all))
theorem f1u (t:TypeId) (x:Operand) (lo hi mx:Option Operand):Bq P B ds (⟨dst,.slice t x lo hi mx,ty,pos,af,none⟩::r) S K=goV (Fw P S (.slice t x lo hi mx)) dst P B ds r S K:=by
 refine Rz rfl ?_
 simp only [Lj]
 cases Fw P S (.slice t x lo hi mx) with
 |some v=>rfl
 |none=>cases dst with
  |none=>rfl
  |some k=>simp [Ij]
theorem r0y (f:Fn) (a b:Array Operand):Bq P B ds (⟨dst,.makeFunc f a b,ty,pos,af,none⟩::r) S K=goV (Fw P S (.makeFunc f a b)) dst P B ds r S K:=by
 refine Rz rfl ?_
 simp only [Lj]
 cases Fw P S (.makeFunc f a b) with
 |some v=>rfl
 |none=>cases dst with
  |none=>rfl
  |some k=>simp [Ij]
theorem r1h (x:Operand) (t:TypeId):Bq P B ds (⟨dst,.call ⟨.builtin .len,#[x],#[t]⟩,ty,pos,af,none⟩::r) S K=goV ((S.get x).bind (b1f P S t)) dst P B ds r S K:=by
 rw [h0g,show a0o (.call ⟨.builtin .len,#[x],#[t]⟩)=false from rfl]
 simp only [Lj,Bool.false_eq_true,if_false]
 unfold goV Wv
 cases (S.get x).bind (b1f P S t) with
 |none=>rfl
 |some v=>
  cases dst with
  |none=>rfl
  |some n=>simp only [St.put];by_cases hn:n<B.nt<;>simp [hn]
@[go_sem] theorem t1q (b:Nat) (t:TypeId):b1f P S t (.w (.one (.pl (.val (.map (some b))))))=match P.underlying t,look S.mem (mp0+b) with
  |some (.map _ _),some ⟨.m l,[]⟩=>some (.w (.one (.pl (.i l.length))))
  |_,_=>none:=rfl
@[go_sem] theorem v1h (t:TypeId) (e:Bool) (s:Nat) (rows:List (List PL)):b1f P S t (.w (.one (.pl (.R e s rows))))=w0s P t (.w (.one (.pl (.R e s rows)))):=rfl
@[go_sem] theorem v1e (t:TypeId) (k:Nat) (p:Path) (n s:Nat):b1f P S t (.w (.one (.s k p n s)))=w0s P t (.w (.one (.s k p n s))):=rfl
@[go_sem] theorem t1p (t:TypeId) (s:List UInt8):b1f P S t (.w (.one (.pl (.str s))))=w0s P t (.w (.one (.pl (.str s)))):=rfl
@[go_sem] theorem t1r (t:TypeId) (cs:List L):b1f P S t (.w (.agg cs))=w0s P t (.w (.agg cs)):=rfl
@[go_sem] theorem v1f (t:TypeId) (cs:List PL) (p:Path):b1f P S t (.w (.one (.pl (.q cs p))))=w0s P t (.w (.one (.pl (.q cs p)))):=rfl
@[go_sem] theorem v1g (t:TypeId) (k:Nat) (p:Path):b1f P S t (.w (.one (.p k p)))=w0s P t (.w (.one (.p k p))):=rfl
theorem i0a {op:Op} (h0:a0o op=false) (hs:Lj P B.nt ⟨dst,op,ty,pos,af,none⟩ S=match dst with
   |some k=>if fresh k S=true then
     match Ij P k S op with
     |some r=>St.put B.nt (some k) r.1 ⟨S.env,(k,r.2)::S.mem⟩
     |none=>none
    else none
   |none=>none):
  Bq P B ds (⟨dst,op,ty,pos,af,none⟩::r) S K=goA (Ij P (dst.getD 0) S op) dst P B ds r S K:=by
 rw [h0g,h0,hs]
 simp only [Bool.false_eq_true,if_false]
 unfold goA Wv
 cases dst with
 |none=>rfl
 |some n=>
  simp only [Option.getD_some]
  by_cases hf:fresh n S=true
  ·simp only [hf,if_true]
   cases Ij P n S op with
   |none=>rfl
   |some y=>simp only [St.put];by_cases hn:n<B.nt<;>simp [hn]
  ·simp only [hf,Bool.false_eq_true,if_false]
theorem f1z (t:TypeId):Bq P B ds (⟨dst,.alloc t,ty,pos,af,none⟩::r) S K=goA ((Ik P t).map fun cs=>(.w (.one (.p (dst.getD 0) [])),⟨false,cs⟩)) dst P B ds r S K:=i0a rfl rfl
def v1n (k:Nat) (x:Option V):Option (V×Ob):=
 match x with
 |some (.w v)=>some (.w (.one (.p k [])),⟨false,v.cells⟩)
 |_=>none
theorem d1m (k:Nat) (v:W):v1n k (some (.w v))=some (.w (.one (.p k [])),⟨false,v.cells⟩):=rfl
theorem r1i (t:TypeId) (x:Operand):Bq P B ds (⟨dst,.box t x,ty,pos,af,none⟩::r) S K=goA (v1n (dst.getD 0) (S.get x)) dst P B ds r S K:=i0a rfl rfl
theorem n0g (t:TypeId) (n:Nat) (ps:List (Nat×Operand)):Bq P B ds (⟨dst,.buildSlice t n ps.toArray,ty,pos,af,none⟩::r) S K=goA (Ij P (dst.getD 0) S (.buildSlice t n ps.toArray)) dst P B ds r S K:=i0a rfl rfl
def appG (P:Program) (k:Nat) (S:St) (t tx:TypeId) (x y:Option V):Option (V×St):=
 match x,y with
 |some u,some v=>a0j P k S t tx u v
 |_,_=>none
theorem e1i (k:Nat) (t tx:TypeId) (u v:V):appG P k S t tx (some u) (some v)=a0j P k S t tx u v:=rfl
theorem a1t (x y:Operand) (t tx:TypeId) (k:Nat):Bq P B ds (⟨some k,.call ⟨.builtin .append,#[x,y],#[t,tx]⟩,ty,pos,af,none⟩::r) S K=goS (appG P k S t tx (S.get x) (S.get y)) (some k) P B ds r K:=by
 rw [h0g]
 simp only [a0o,Lj,Bool.false_eq_true,if_false]
 unfold goS appG
 cases S.get x with
 |none=>rfl
 |some u=>
  cases S.get y with
  |none=>rfl
  |some v=>
   simp only
   cases a0j P k S t tx u v with
   |none=>rfl
   |some q=>simp only [St.put];by_cases hn:k<B.nt<;>simp [hn,Wv]
def stG (P:Program) (S:St) (t:TypeId) (x y:Option V):Option St:=
 match x,y with
 |some u,some v=>g0q P S t u v
 |_,_=>none
theorem e1z (t:TypeId) (u v:V):stG P S t (some u) (some v)=g0q P S t u v:=rfl
theorem f1t (t:TypeId) (x y:Operand):Bq P B ds (⟨none,.store t x y,ty,pos,af,none⟩::r) S K=Wv (stG P S t (S.get x) (S.get y)) P B ds r K:=by
 rw [h0g]
 simp only [a0o,Lj,Bool.false_eq_true,if_false]
 unfold stG
 cases S.get x with
 |none=>rfl
 |some u=>cases S.get y<;>rfl
theorem m1q (f:Operand) (args:Array Operand) (ts:Array TypeId):Bq P B ds (⟨dst,.call ⟨.value f,args,ts⟩,ty,pos,af,none⟩::r) S K=Ey P B ⟨dst,.call ⟨.value f,args,ts⟩,ty,pos,af,none⟩ S ds r K:=by
 rw [h0g];rfl
def cvG (x:Option V) (y:Option (V×Ob)) (dst:Option Tmp) (P:Program) (B:Base) (ds:List (Option Tmp)) (r:List Oper) (S:St) (K:St→Prop):Prop:=
 match x with
 |some v=>goV (some v) dst P B ds r S K
 |none=>goA y dst P B ds r S K
theorem j1j (v:V) (y:Option (V×Ob)):cvG (some v) y dst P B ds r S K=goV (some v) dst P B ds r S K:=rfl
theorem j1k (y:Option (V×Ob)):cvG none y dst P B ds r S K=goA y dst P B ds r S K:=rfl
theorem w0p (s t:TypeId) (x:Operand):Bq P B ds (⟨dst,.convert s t x,ty,pos,af,none⟩::r) S K=
  cvG ((S.get x).bind (j0y P S s t)) (Ij P (dst.getD 0) S (.convert s t x)) dst P B ds r S K:=by
 unfold cvG
 cases h:(S.get x).bind (j0y P S s t) with
 |some v=>
  rw [h0g]
  simp only [a0o,Lj,Fw,Bool.false_eq_true,if_false,h]
  unfold goV Wv
  cases dst with
  |none=>rfl
  |some n=>simp only [St.put];by_cases hn:n<B.nt<;>simp [hn]
 |none=>
  simp only
  refine i0a rfl ?_
  first|(simp only [Lj,Fw,h];done)|(simp only [Lj,Fw,h];rfl)
theorem o1a (t:Tmp):S.get (.tmp t)=look S.env t:=rfl
theorem c1b (c:Value):S.get (.const c)=(lit c).map .w:=rfl
theorem g1z (f:FuncId):S.get (.func f)=some (.w (.one (.fn f []))):=rfl
theorem u1r (n:Int):lit (.int .i64 n)=some (.one (.pl (.i n))):=rfl
theorem u1s (b:Bool):lit (.bool b)=some (.one (.pl (.b b))):=rfl
theorem s1c (n:Int):lit (.int .u8 n)=if 0≤n∧n<256 then some (.one (.pl (.u8 (UInt8.ofNat n.toNat)))) else none:=by
 simp only [lit,f0k];split<;>rfl
theorem n1q :lit (.slice none 0 0)=some (.one (.pl (.R true 1 []))):=rfl
theorem n1p (s:ByteArray):lit (.string s)=if s.size≤65536 then some (.one (.pl (.str s.data.toList))) else none:=by
 simp only [lit,f0k];split<;>rfl
theorem b1d {α:Type} (m n:Nat) (v:α) (e:List (Nat×α)):look ((m,v)::e) n=if n=m then some v else look e n:=rfl
end
theorem x0w (P:Program) (t:TypeId) (x y:UInt8):Mj P .add t (.w (.one (.pl (.u8 x)))) (.w (.one (.pl (.u8 y))))=some (.w (.one (.pl (.u8 (x+y))))):=rfl
theorem x0l (P:Program) (t:TypeId) (x y:UInt8):Mj P .sub t (.w (.one (.pl (.u8 x)))) (.w (.one (.pl (.u8 y))))=some (.w (.one (.pl (.u8 (x-y))))):=rfl
theorem x0p (P:Program) (t:TypeId) (x y:UInt8):Mj P .mul t (.w (.one (.pl (.u8 x)))) (.w (.one (.pl (.u8 y))))=some (.w (.one (.pl (.u8 (x*y))))):=rfl
theorem x0v (P:Program) (t:TypeId) (x y:UInt8):Mj P .and t (.w (.one (.pl (.u8 x)))) (.w (.one (.pl (.u8 y))))=some (.w (.one (.pl (.u8 (x&&&y))))):=rfl
theorem d1v (P:Program) (t:TypeId) (x y:UInt8):Mj P .or t (.w (.one (.pl (.u8 x)))) (.w (.one (.pl (.u8 y))))=some (.w (.one (.pl (.u8 (x|||y))))):=rfl
theorem x0k (P:Program) (t:TypeId) (x y:UInt8):Mj P .xor t (.w (.one (.pl (.u8 x)))) (.w (.one (.pl (.u8 y))))=some (.w (.one (.pl (.u8 (x^^^y))))):=rfl
theorem n0y (P:Program) (t:TypeId) (x y:UInt8):Mj P .andNot t (.w (.one (.pl (.u8 x)))) (.w (.one (.pl (.u8 y))))=some (.w (.one (.pl (.u8 (x&&&~~~y))))):=rfl
theorem x0u (P:Program) (t:TypeId) (x y:UInt8):Mj P .eql t (.w (.one (.pl (.u8 x)))) (.w (.one (.pl (.u8 y))))=some (.w (.one (.pl (.b (decide (x=y)))))):=rfl
theorem x0o (P:Program) (t:TypeId) (x y:UInt8):Mj P .neq t (.w (.one (.pl (.u8 x)))) (.w (.one (.pl (.u8 y))))=some (.w (.one (.pl (.b (!decide (x=y)))))):=rfl
theorem x0q (P:Program) (t:TypeId) (x y:UInt8):Mj P .lss t (.w (.one (.pl (.u8 x)))) (.w (.one (.pl (.u8 y))))=some (.w (.one (.pl (.b (decide (x<y)))))):=rfl
theorem x0r (P:Program) (t:TypeId) (x y:UInt8):Mj P .leq t (.w (.one (.pl (.u8 x)))) (.w (.one (.pl (.u8 y))))=some (.w (.one (.pl (.b (decide (x≤y)))))):=rfl
theorem x0s (P:Program) (t:TypeId) (x y:UInt8):Mj P .gtr t (.w (.one (.pl (.u8 x)))) (.w (.one (.pl (.u8 y))))=some (.w (.one (.pl (.b (decide (y<x)))))):=rfl
theorem x0t (P:Program) (t:TypeId) (x y:UInt8):Mj P .geq t (.w (.one (.pl (.u8 x)))) (.w (.one (.pl (.u8 y))))=some (.w (.one (.pl (.b (decide (y≤x)))))):=rfl
theorem t0t (P:Program) (t:TypeId) (x y:UInt32):Mj P .add t (.w (.one (.pl (.u32 x)))) (.w (.one (.pl (.u32 y))))=some (.w (.one (.pl (.u32 (x+y))))):=rfl
theorem s0v (P:Program) (t:TypeId) (x y:UInt32):Mj P .sub t (.w (.one (.pl (.u32 x)))) (.w (.one (.pl (.u32 y))))=some (.w (.one (.pl (.u32 (x-y))))):=rfl
theorem t0a (P:Program) (t:TypeId) (x y:UInt32):Mj P .mul t (.w (.one (.pl (.u32 x)))) (.w (.one (.pl (.u32 y))))=some (.w (.one (.pl (.u32 (x*y))))):=rfl
theorem t0r (P:Program) (t:TypeId) (x y:UInt32):Mj P .and t (.w (.one (.pl (.u32 x)))) (.w (.one (.pl (.u32 y))))=some (.w (.one (.pl (.u32 (x&&&y))))):=rfl
theorem x0n (P:Program) (t:TypeId) (x y:UInt32):Mj P .or t (.w (.one (.pl (.u32 x)))) (.w (.one (.pl (.u32 y))))=some (.w (.one (.pl (.u32 (x|||y))))):=rfl
theorem s0t (P:Program) (t:TypeId) (x y:UInt32):Mj P .xor t (.w (.one (.pl (.u32 x)))) (.w (.one (.pl (.u32 y))))=some (.w (.one (.pl (.u32 (x^^^y))))):=rfl
theorem k0v (P:Program) (t:TypeId) (x y:UInt32):Mj P .andNot t (.w (.one (.pl (.u32 x)))) (.w (.one (.pl (.u32 y))))=some (.w (.one (.pl (.u32 (x&&&~~~y))))):=rfl
theorem t0o (P:Program) (t:TypeId) (x y:UInt32):Mj P .eql t (.w (.one (.pl (.u32 x)))) (.w (.one (.pl (.u32 y))))=some (.w (.one (.pl (.b (decide (x=y)))))):=rfl
theorem s0x (P:Program) (t:TypeId) (x y:UInt32):Mj P .neq t (.w (.one (.pl (.u32 x)))) (.w (.one (.pl (.u32 y))))=some (.w (.one (.pl (.b (!decide (x=y)))))):=rfl
theorem t0c (P:Program) (t:TypeId) (x y:UInt32):Mj P .lss t (.w (.one (.pl (.u32 x)))) (.w (.one (.pl (.u32 y))))=some (.w (.one (.pl (.b (decide (x<y)))))):=rfl
theorem t0f (P:Program) (t:TypeId) (x y:UInt32):Mj P .leq t (.w (.one (.pl (.u32 x)))) (.w (.one (.pl (.u32 y))))=some (.w (.one (.pl (.b (decide (x≤y)))))):=rfl
theorem t0i (P:Program) (t:TypeId) (x y:UInt32):Mj P .gtr t (.w (.one (.pl (.u32 x)))) (.w (.one (.pl (.u32 y))))=some (.w (.one (.pl (.b (decide (y<x)))))):=rfl
theorem t0l (P:Program) (t:TypeId) (x y:UInt32):Mj P .geq t (.w (.one (.pl (.u32 x)))) (.w (.one (.pl (.u32 y))))=some (.w (.one (.pl (.b (decide (y≤x)))))):=rfl
theorem t0s (P:Program) (t:TypeId) (x y:UInt64):Mj P .add t (.w (.one (.pl (.u64 x)))) (.w (.one (.pl (.u64 y))))=some (.w (.one (.pl (.u64 (x+y))))):=rfl
theorem s0u (P:Program) (t:TypeId) (x y:UInt64):Mj P .sub t (.w (.one (.pl (.u64 x)))) (.w (.one (.pl (.u64 y))))=some (.w (.one (.pl (.u64 (x-y))))):=rfl
theorem s0z (P:Program) (t:TypeId) (x y:UInt64):Mj P .mul t (.w (.one (.pl (.u64 x)))) (.w (.one (.pl (.u64 y))))=some (.w (.one (.pl (.u64 (x*y))))):=rfl
theorem t0q (P:Program) (t:TypeId) (x y:UInt64):Mj P .and t (.w (.one (.pl (.u64 x)))) (.w (.one (.pl (.u64 y))))=some (.w (.one (.pl (.u64 (x&&&y))))):=rfl
theorem x0m (P:Program) (t:TypeId) (x y:UInt64):Mj P .or t (.w (.one (.pl (.u64 x)))) (.w (.one (.pl (.u64 y))))=some (.w (.one (.pl (.u64 (x|||y))))):=rfl
theorem s0s (P:Program) (t:TypeId) (x y:UInt64):Mj P .xor t (.w (.one (.pl (.u64 x)))) (.w (.one (.pl (.u64 y))))=some (.w (.one (.pl (.u64 (x^^^y))))):=rfl
theorem k0u (P:Program) (t:TypeId) (x y:UInt64):Mj P .andNot t (.w (.one (.pl (.u64 x)))) (.w (.one (.pl (.u64 y))))=some (.w (.one (.pl (.u64 (x&&&~~~y))))):=rfl
theorem t0n (P:Program) (t:TypeId) (x y:UInt64):Mj P .eql t (.w (.one (.pl (.u64 x)))) (.w (.one (.pl (.u64 y))))=some (.w (.one (.pl (.b (decide (x=y)))))):=rfl
theorem s0w (P:Program) (t:TypeId) (x y:UInt64):Mj P .neq t (.w (.one (.pl (.u64 x)))) (.w (.one (.pl (.u64 y))))=some (.w (.one (.pl (.b (!decide (x=y)))))):=rfl
theorem t0b (P:Program) (t:TypeId) (x y:UInt64):Mj P .lss t (.w (.one (.pl (.u64 x)))) (.w (.one (.pl (.u64 y))))=some (.w (.one (.pl (.b (decide (x<y)))))):=rfl
theorem t0e (P:Program) (t:TypeId) (x y:UInt64):Mj P .leq t (.w (.one (.pl (.u64 x)))) (.w (.one (.pl (.u64 y))))=some (.w (.one (.pl (.b (decide (x≤y)))))):=rfl
theorem t0h (P:Program) (t:TypeId) (x y:UInt64):Mj P .gtr t (.w (.one (.pl (.u64 x)))) (.w (.one (.pl (.u64 y))))=some (.w (.one (.pl (.b (decide (y<x)))))):=rfl
theorem t0k (P:Program) (t:TypeId) (x y:UInt64):Mj P .geq t (.w (.one (.pl (.u64 x)))) (.w (.one (.pl (.u64 y))))=some (.w (.one (.pl (.b (decide (y≤x)))))):=rfl
theorem e1e (P:Program) (t:TypeId) (x y:Int):Mj P .add t (.w (.one (.pl (.i x)))) (.w (.one (.pl (.i y))))=some (.w (.one (.pl (.i (Go.RowKit.wrap64 (x+y)))))):=rfl
theorem d1r (P:Program) (t:TypeId) (x y:Int):Mj P .sub t (.w (.one (.pl (.i x)))) (.w (.one (.pl (.i y))))=some (.w (.one (.pl (.i (Go.RowKit.wrap64 (x-y)))))):=rfl
theorem d1x (P:Program) (t:TypeId) (x y:Int):Mj P .mul t (.w (.one (.pl (.i x)))) (.w (.one (.pl (.i y))))=some (.w (.one (.pl (.i (Go.RowKit.wrap64 (x*y)))))):=rfl
theorem e1d (P:Program) (t:TypeId) (x y:Int):Mj P .and t (.w (.one (.pl (.i x)))) (.w (.one (.pl (.i y))))=some (.w (.one (.pl (.i (v1k x y))))):=rfl
theorem j1v (P:Program) (t:TypeId) (x y:Int):Mj P .or t (.w (.one (.pl (.i x)))) (.w (.one (.pl (.i y))))=some (.w (.one (.pl (.i (ior x y))))):=rfl
theorem d1q (P:Program) (t:TypeId) (x y:Int):Mj P .xor t (.w (.one (.pl (.i x)))) (.w (.one (.pl (.i y))))=some (.w (.one (.pl (.i (t1t x y))))):=rfl
theorem q0p (P:Program) (t:TypeId) (x y:Int):Mj P .andNot t (.w (.one (.pl (.i x)))) (.w (.one (.pl (.i y))))=some (.w (.one (.pl (.i (b1v x y))))):=rfl
theorem e1c (P:Program) (t:TypeId) (x y:Int):Mj P .eql t (.w (.one (.pl (.i x)))) (.w (.one (.pl (.i y))))=some (.w (.one (.pl (.b (decide (x=y)))))):=rfl
theorem d1w (P:Program) (t:TypeId) (x y:Int):Mj P .neq t (.w (.one (.pl (.i x)))) (.w (.one (.pl (.i y))))=some (.w (.one (.pl (.b (!decide (x=y)))))):=rfl
theorem d1y (P:Program) (t:TypeId) (x y:Int):Mj P .lss t (.w (.one (.pl (.i x)))) (.w (.one (.pl (.i y))))=some (.w (.one (.pl (.b (decide (x<y)))))):=rfl
theorem d1z (P:Program) (t:TypeId) (x y:Int):Mj P .leq t (.w (.one (.pl (.i x)))) (.w (.one (.pl (.i y))))=some (.w (.one (.pl (.b (decide (x≤y)))))):=rfl
theorem e1a (P:Program) (t:TypeId) (x y:Int):Mj P .gtr t (.w (.one (.pl (.i x)))) (.w (.one (.pl (.i y))))=some (.w (.one (.pl (.b (decide (y<x)))))):=rfl
theorem e1b (P:Program) (t:TypeId) (x y:Int):Mj P .geq t (.w (.one (.pl (.i x)))) (.w (.one (.pl (.i y))))=some (.w (.one (.pl (.b (decide (y≤x)))))):=rfl
theorem d1t (P:Program) (t:TypeId) (x y:Int) (h:¬y=0):Mj P .quo t (.w (.one (.pl (.i x)))) (.w (.one (.pl (.i y))))=some (.w (.one (.pl (.i (Go.RowKit.wrap64 (x.tdiv y)))))):=by simp [Mj,k0h,h]
theorem d1s (P:Program) (t:TypeId) (x y:Int) (h:¬y=0):Mj P .rem t (.w (.one (.pl (.i x)))) (.w (.one (.pl (.i y))))=some (.w (.one (.pl (.i (x.tmod y))))):=by simp [Mj,k0h,h]
theorem t0p (P:Program) (t:TypeId) (x y:List UInt8):Mj P .eql t (.w (.one (.pl (.str x)))) (.w (.one (.pl (.str y))))=some (.w (.one (.pl (.b (decide (x=y)))))):=rfl
theorem s0y (P:Program) (t:TypeId) (x y:List UInt8):Mj P .neq t (.w (.one (.pl (.str x)))) (.w (.one (.pl (.str y))))=some (.w (.one (.pl (.b (!decide (x=y)))))):=rfl
theorem t0d (P:Program) (t:TypeId) (x y:List UInt8):Mj P .lss t (.w (.one (.pl (.str x)))) (.w (.one (.pl (.str y))))=some (.w (.one (.pl (.b (Op.bytesLess x y))))):=rfl
theorem t0g (P:Program) (t:TypeId) (x y:List UInt8):Mj P .leq t (.w (.one (.pl (.str x)))) (.w (.one (.pl (.str y))))=some (.w (.one (.pl (.b (Op.bytesLess x y||decide (x=y)))))):=rfl
theorem t0j (P:Program) (t:TypeId) (x y:List UInt8):Mj P .gtr t (.w (.one (.pl (.str x)))) (.w (.one (.pl (.str y))))=some (.w (.one (.pl (.b (!(Op.bytesLess x y||decide (x=y))))))):=rfl
theorem t0m (P:Program) (t:TypeId) (x y:List UInt8):Mj P .geq t (.w (.one (.pl (.str x)))) (.w (.one (.pl (.str y))))=some (.w (.one (.pl (.b (!Op.bytesLess x y))))):=rfl
theorem d0t (P:Program) (t:TypeId) (x y:List UInt8) (h:x.length+y.length≤maxLen):Mj P .add t (.w (.one (.pl (.str x)))) (.w (.one (.pl (.str y))))=some (.w (.one (.pl (.str (x++y))))):=by simp [Mj,h]
theorem r1e (c p q:Bool):h0e c (.w (.one (.pl (.b p)))) (.w (.one (.pl (.b q))))=.w (.one (.pl (.b (bif c then p else q)))):=rfl
theorem a1q (x y:V):h0e true x y=x:=by
 unfold h0e;split<;>rfl
theorem w0l (x y:V):h0e false x y=y:=by
 unfold h0e;split<;>rfl
attribute [go_sem] s1t o1g o1f o1h i1x c1t c1s c1u o1l s1u o1e o1k c1r o1o Yv i1w o1j Yw s1v o1i o1m o1n i1v m1m a1s m1l f1x m1o f1y m1k p0l p0k f1v w0o f1u r0y r1h f1z r1i n0g a1t f1t m1q w0p g1w n0o g1y j1j j1k g1x p1m p1l d1m e1i e1z o1a c1b g1z u1r u1s s1c n1q n1p b1d a1q w0l r1e x0w x0l x0p x0v d1v x0k n0y x0u x0o x0q x0r x0s x0t t0t s0v t0a t0r x0n s0t k0v t0o s0x t0c t0f t0i t0l t0s s0u s0z t0q x0m s0s k0u t0n s0w t0b t0e t0h t0k e1e d1r d1x e1d j1v d1q q0p e1c d1w d1y d1z e1a e1b d1t d1s t0p s0y t0d t0g t0j t0m d0t
attribute [go_sem] c0v g0n k1f r0q q1v a0o Uq m0w fresh r0f p0v Ob.has V.has W.has L.has W.cells
end Go.Sy
namespace Go.Sy
section
variable {P:Program} {B:Base} {S:St} {Q:Exit→St→Prop}
theorem Bj {x y:Code} (h: ∀ (N:St→Prop) (M:Exit→St→Prop),(∀ S',HT P B y S' Q→N S')→(∀ e S',Q e S'→M e S')→HT P B x S (i0h N M)):HT P B (.seq x y) S Q:=
 HT.seq (h _ Q (fun _ h=>h) (fun _ _ h=>h))
theorem Aq {id:Nat} {l:List Oper} (h: ∀ K:St→Prop,(∀ S',Q .normal S'→K S')→Bq P B (c0v l) l S K):HT P B (.region id l.toArray false) S Q:=by
 refine HT.region ?_
 have:=h (Q .normal) fun _ h=>h
 rw [g0h] at this
 simpa using this
theorem k1v {c:Operand} {x y:Code} {t:Bool} (hc:S.get c=some (.w (.one (.pl (.b t))))) (ht:t=true→HT P B x S Q) (hf:t=false→HT P B y S Q):HT P B (.cond c x y) S Q:=HT.cond hc ht hf
theorem Bw {id:Nat} {x:Code} (h: ∀ M:Exit→St→Prop,(∀ S',Q .normal S'→M .normal S')→(∀ S',Q .normal S'→M (.exit id) S')→(∀ S',Q .ret S'→M .ret S')→(∀ i S',i≠id→Q (.exit i) S'→M (.exit i) S')→HT P B x S M):HT P B (.block id x) S Q:=by
 refine HT.block (h _ (fun _ h=>h) (fun _ h=>?_) (fun _ h=>h) (fun i S' hi h=>?_))
 ·simp only [c0c,if_true];exact h
 ·simp only [c0c,if_neg hi];exact h
theorem Cq (h:Q .ret S):HT P B .ret S Q:=HT.ret h
theorem Bv (h:Q .normal S):HT P B .skip S Q:=HT.skip h
theorem Iw {i:Nat} (h:Q (.exit i) S):HT P B (.exit i) S Q:=HT.exit h
end
theorem Ct.k {P:Program} {f:FuncId} {fn:Func} {c:Code} {args:List V} {R:V→List (Nat×Ob)→Prop} {nt:Nat} {rs:List ResultVar} (hf:P.funcs[f]? =some fn) (hb:fn.body=some c) (hnt:fn.ntmps=nt) (hrs:fn.results.toList=rs) (hn:args.length≤nt)
  (h: ∀ (w0:World) (ro:Ro),HT P ⟨w0,fun _=>False,nt,ro,fun _=>none⟩ c ⟨g0n 0 args,[]⟩ (o1s P rs R)):Ct P f args R:=by
 subst hnt;subst hrs
 refine Ct.of hf hb hn fun w0 ro=>?_
 exact (h w0 ro).mono fun e S hq=>by cases e<;>exact hq
end Go.Sy
namespace Go.Sy
mutual
theorem PL.den_mono {ro ro':Ro} (h: ∀ b o y,ro b o=some y→ro' b o=some y): ∀ {x:PL} {y:Value},x.den ro y→x.den ro' y
 | .u8 _,_,hd=>by rw [PL.den] at hd ⊢;exact hd
 | .u32 _,_,hd=>by rw [PL.den] at hd ⊢;exact hd
 | .u64 _,_,hd=>by rw [PL.den] at hd ⊢;exact hd
 | .i _,_,hd=>by rw [PL.den] at hd ⊢;exact hd
 | .b _,_,hd=>by rw [PL.den] at hd ⊢;exact hd
 | .str _,_,hd=>by rw [PL.den] at hd ⊢;exact hd
 | .val _,_,hd=>by rw [PL.den] at hd ⊢;exact hd
 | .u,_,hd=>by rw [PL.den] at hd ⊢;exact hd
 | .q cells path,_,hd=>by
  rw [PL.den] at hd ⊢
  obtain ⟨blk,off,e,hat⟩:=hd
  exact ⟨blk,off,e,PL.denAt_mono h hat⟩
 | .R ex sz rows,_,hd=>by
  rw [PL.den] at hd ⊢
  rcases hd with hd|⟨blk,off,cap,e,h1,h2,h3,hr⟩|hd
  ·exact .inl hd
  ·exact .inr (.inl ⟨blk,off,cap,e,h1,h2,h3,PL.denRows_mono h hr⟩)
  ·exact .inr (.inr hd)
theorem PL.denAt_mono {ro ro':Ro} (h: ∀ b o y,ro b o=some y→ro' b o=some y): ∀ {blk:Nat} {cs:List PL} {off:Nat},PL.denAt ro blk cs off→PL.denAt ro' blk cs off
 |_,[],_,_=>by rw [PL.denAt];trivial
 |_,c::cs,_,hd=>by
  rw [PL.denAt] at hd ⊢
  obtain ⟨⟨y,hy,hc⟩,hr⟩:=hd
  exact ⟨⟨y,h _ _ _ hy,PL.den_mono h hc⟩,PL.denAt_mono h hr⟩
theorem PL.denRows_mono {ro ro':Ro} (h: ∀ b o y,ro b o=some y→ro' b o=some y): ∀ {blk sz:Nat} {rs:List (List PL)} {off:Nat},PL.denRows ro blk sz rs off→PL.denRows ro' blk sz rs off
 |_,_,[],_,_=>by rw [PL.denRows];trivial
 |_,_,r::rs,_,hd=>by
  rw [PL.denRows] at hd ⊢
  exact ⟨hd.1,PL.denAt_mono h hd.2.1,PL.denRows_mono h hd.2.2⟩
end
def k0x :List L→Option (List PL)
 | []=>some []
 | .pl x::r=>(k0x r).map (x:: ·)
 |_=>none
def chunks (sz:Nat):Nat→List PL→List (List PL)
 |0,_=>[]
 |n+1,c=>c.take sz::chunks sz n (c.drop sz)
theorem Zy : ∀ c:List PL,k0x (pls c)=some c
 | []=>rfl
 |x::r=>by simp only [pls,List.map_cons,k0x];rw [show List.map L.pl r=pls r from rfl,Zy r];rfl
theorem i0f : ∀ {cs:List L} {c:List PL},k0x cs=some c→cs=pls c
 | [],c,h=>by simp only [k0x] at h;cases h;rfl
 |x::r,c,h=>by
  unfold k0x at h
  split at h
  ·rename_i e;cases e
  ·rename_i y r' e
   cases e
   cases hu:k0x r with
   |none=>simp [hu] at h
   |some c'=>simp only [hu,Option.map_some,Option.some.injEq] at h;subst h;rw [i0f hu];rfl
  ·cases h
def f0o (S:St):L→Option L
 | .pl x=>some (.pl x)
 | .s k path len sz=>match look S.mem k with
  |some o=>if pok o.cells.length path∧psz o.cells.length path=len*sz then (k0x (rd o.cells path)).map fun c=>.pl (.R false sz (chunks sz len c)) else none
  |none=>none
 | .fn f []=>some (.fn f [])
 |_=>none
def a0y (S:St):List L→Option (List L)
 | []=>some []
 |l::r=>match f0o S l,a0y S r with
  |some x,some xs=>some (x::xs)
  |_,_=>none
def o0c (S:St):V→Option V
 | .w (.one l)=>(f0o S l).map fun x=>.w (.one x)
 | .w (.agg cs)=>(a0y S cs).map fun x=>.w (.agg x)
 |_=>none
def Nk (S:St):List Operand→Option (List V)
 | []=>some []
 |x::r=>match (S.get x).bind (o0c S),Nk S r with
  |some v,some vs=>some (v::vs)
  |_,_=>none
def Va.all (d:Va) (w:World):Va:={d with ro:=fun b o=>w.cell? ⟨b,o,none⟩}
theorem d0s {d:Va} {w:World} {blk:Nat} (hro: ∀ b o y,d.ro b o=some y→w.cell? ⟨b,o,none⟩=some y): ∀ {c:List PL} {vals:List Value} {off:Nat},Fv (L.den d) (pls c) vals→Jy w blk off vals→PL.denAt (d.all w).ro blk c off
 | [],_,_,_,_=>by rw [PL.denAt];trivial
 |x::c,vals,off,h,hc=>by
  cases h with
  |cons h1 h2=>
   rename_i y m
   rw [PL.denAt]
   refine ⟨⟨y,hc 0 y rfl,PL.den_mono hro h1⟩,d0s hro h2 (fun j v hv=>?_)⟩
   have:=hc (j+1) v (by simpa using hv)
   rwa [show off+(j+1)=off+1+j from by omega] at this
theorem Ow {ro:Ro} {blk sz:Nat}: ∀ {n:Nat} {c:List PL} {off:Nat},PL.denAt ro blk c off→c.length=n*sz→PL.denRows ro blk sz (chunks sz n c) off
 |0,c,off,_,_=>by rw [chunks,PL.denRows];trivial
 |n+1,c,off,h,hl=>by
  rw [Nat.add_mul,Nat.one_mul] at hl
  rw [chunks,PL.denRows]
  have key: ∀ {c:List PL} {off:Nat} (m:Nat),PL.denAt ro blk c off→m≤c.length→PL.denAt ro blk (c.take m) off∧PL.denAt ro blk (c.drop m) (off+m):=by
   intro c
   induction c with
   |nil=>intro off m h hm;simp at hm;subst hm;simpa using h
   |cons x c ih=>
    intro off m h hm
    cases m with
    |zero=>simp [PL.denAt];rw [PL.denAt] at h;exact h
    |succ m=>
     rw [PL.denAt] at h
     obtain ⟨h1,h2⟩:=ih m h.2 (by simpa using hm)
     simp only [List.take_succ_cons,List.drop_succ_cons]
     rw [PL.denAt]
     exact ⟨⟨h.1,h1⟩,by rw [show off+(m+1)=off+1+m from by omega];exact h2⟩
  obtain ⟨h1,h2⟩:=key sz h (by omega)
  exact ⟨by simp;omega,h1,Ow h2 (by simp;omega)⟩
theorem Jz (sz:Nat): ∀ (n:Nat) (c:List PL),(chunks sz n c).length=n
 |0,_=>rfl
 |n+1,c=>by simp [chunks,Jz sz n]
theorem u0a {B:Base} {d:Va} {S:St} {a:Act} {w:World} (h:Sim B d S a w) {l x:L} {y:Value} (hv:f0o S l=some x) (hd:l.den d y):x.den (d.all w) y:=by
 unfold f0o at hv
 split at hv<;>try (cases hv;done)
 ·cases hv;exact PL.den_mono h.ro hd
 ·rename_i k path len sz
  split at hv<;>try (cases hv;done)
  rename_i o hk
  split at hv<;>try (cases hv;done)
  rename_i hc
  obtain ⟨hp,hps⟩:=hc
  cases hu:k0x (rd o.cells path) with
  |none=>simp [hu] at hv
  |some c=>
   simp only [hu,Option.map_some,Option.some.injEq] at hv;subst hv
   obtain ⟨vals,hvd,hcell,hl⟩:=h.readObj hk hp
   have hcl:=Xk o.cells hp
   rw [i0f hu] at hvd hcl
   rw [Yz,hps] at hcl
   obtain ⟨oo,cap,rfl,hlc,hcm,ho,_⟩:=hd
   show PL.den _ _ _
   rw [PL.den]
   right;left
   refine ⟨d.at_ k,oo,cap,by rw [Jz],by rw [Jz];exact hlc,hcm,fun e=>(by cases e),?_⟩
   refine Ow ?_ hcl
   rcases ho with ho|rfl
   ·have hlen:len=0:=by omega
    rw [hlen,Nat.zero_mul] at hcl
    have:=List.eq_nil_of_length_eq_zero hcl
    subst this;rw [PL.denAt];trivial
   ·exact d0s h.ro hvd hcell
 ·cases hv;exact hd
theorem o0d {B:Base} {d:Va} {S:St} {a:Act} {w:World} (h:Sim B d S a w): ∀ {cs xs:List L} {vs:List Value},a0y S cs=some xs→Fv (L.den d) cs vs→Fv (L.den (d.all w)) xs vs
 | [],xs,vs,hv,hd=>by cases hd;simp only [a0y] at hv;cases hv;exact .nil
 |l::r,xs,vs,hv,hd=>by
  cases hd with
  |cons h1 h2=>
   simp only [a0y] at hv
   cases e1:f0o S l with
   |none=>simp [e1] at hv
   |some x=>
    cases e2:a0y S r with
    |none=>simp [e1,e2] at hv
    |some xs'=>simp only [e1,e2,Option.some.injEq] at hv;subst hv;exact .cons (u0a h e1 h1) (o0d h e2 h2)
theorem e1q {B:Base} {d:Va} {S:St} {a:Act} {w:World} (h:Sim B d S a w) {v x:V} {y:Value} (hv:o0c S v=some x) (hd:v.den d y):x.den (d.all w) y:=by
 unfold o0c at hv
 split at hv<;>try (cases hv;done)
 ·rename_i l
  cases e:f0o S l with
  |none=>simp [e] at hv
  |some z=>simp only [e,Option.map_some,Option.some.injEq] at hv;subst hv;exact u0a h e hd
 ·rename_i cs
  cases e:a0y S cs with
  |none=>simp [e] at hv
  |some z=>
   simp only [e,Option.map_some,Option.some.injEq] at hv;subst hv
   obtain ⟨vs,rfl,hall⟩:=hd
   exact ⟨vs,rfl,o0d h e hall⟩
theorem d0x {B:Base} {d:Va} {S:St} {a:Act} {w:World} (h:Sim B d S a w): ∀ {xs:List Operand} {vs:List V},Nk S xs=some vs→Fv (V.den (d.all w)) vs (xs.map a.eval)
 | [],vs,hv=>by simp only [Nk] at hv;cases hv;exact .nil
 |x::r,vs,hv=>by
  simp only [Nk] at hv
  cases e1:(S.get x).bind (o0c S) with
  |none=>simp [e1] at hv
  |some v=>
   cases e2:Nk S r with
   |none=>simp [e1,e2] at hv
   |some us=>
    simp only [e1,e2,Option.some.injEq] at hv;subst hv
    obtain ⟨u,hu,hv⟩:=bind_some e1
    exact .cons (e1q h hv (h.get hu)) (d0x h e2)
def Pj :L→Bool
 | .pl (.u8 _)| .pl (.u32 _)| .pl (.u64 _)| .pl (.i _)| .pl (.b _)| .pl (.str _)| .pl (.val _)| .pl .u| .pl (.R _ _ [])=>true
 |_=>false
theorem d0i {d d':Va} {l:L} {y:Value} (h:Pj l=true) (hd:l.den d y):l.den d' y:=by
 unfold Pj at h
 split at h<;>first|(cases h;done)|(rw [L.den,PL.den] at hd ⊢;exact hd)|(rw [L.den,PL.den] at hd ⊢;simpa only [PL.denRows] using hd)
theorem l0c {d d':Va}: ∀ {cs:List L} {vs:List Value},cs.all Pj=true→Fv (L.den d) cs vs→Fv (L.den d') cs vs
 |_,_,_,.nil=>.nil
 |_,_,h,.cons h1 h2=>by
  simp only [List.all_cons,Bool.and_eq_true] at h
  exact .cons (d0i h.1 h1) (l0c h.2 h2)
theorem Sim.stay {B:Base} {d:Va} {S:St} {a:Act} {w w':World} (h:Sim B d S a w) (hold: ∀ b,b<w.heap.size→w'.heap[b]? =w.heap[b]?) (hsz:w.heap.size≤w'.heap.size) (hos:w'.os=w.os) (ht:w'.tape=w.tape) (ho:w'.output=w.output):Sim B d S a w':=by
 refine ⟨h.defers,h.nt,h.env,?_,h.inj,h.own,?_,h.old,hos.trans h.os,ht.trans h.tape,ho.trans h.output,Nat.le_trans h.size hsz,?_,h.gat,h.glob,h.fix,h.fxn,fun b l hb=>(h.mp b l hb).of (hold b (h.mp b l hb).lt)⟩
 ·intro k o hk hkl
  obtain ⟨vals,spare,ty,fr,hh,rest⟩:=h.mem k o hk hkl
  have hlt:=h.mem_lt (k:=k) (by rw [hk];rfl) hkl
  exact ⟨vals,spare,ty,fr,by rw [hold _ hlt];exact hh,rest⟩
 ·intro b o y hy
  have hr:=h.ro b o y hy
  have:=b0y hr
  simp only [World.cell?] at hr ⊢
  rw [hold b this];exact hr
 ·intro b hb hm
  rw [hold b (by have:=h.size;omega)];exact h.block b hb hm
end Go.Sy
namespace Go.Sy
def L.ren (f:Nat→Nat):L→L
 | .pl x=>.pl x
 | .p k path=>.p (f k) path
 | .s k path len sz=>.s (f k) path len sz
 | .fn g caps=>.fn g (caps.map f)
def W.ren (f:Nat→Nat):W→W
 | .one l=>.one (l.ren f)
 | .agg cs=>.agg (cs.map (L.ren f))
def V.ren (f:Nat→Nat):V→V
 | .w x=>.w (x.ren f)
 | .tup xs=>.tup (xs.map (W.ren f))
 | .any=>.any
def p1o (m:List (Nat×Ob)):L→Bool
 | .pl x=>Pj (.pl x)
 | .p k _=>(look m k).isSome
 | .s k _ _ _=>(look m k).isSome
 | .fn _ []=>true
 |_=>false
def i0s (m:List (Nat×Ob)):W→Bool
 | .one l=>p1o m l
 | .agg cs=>cs.all (p1o m)
def b0e (m:List (Nat×Ob)):V→Bool
 | .w x=>i0s m x
 | .tup xs=>xs.all (i0s m)
 | .any=>true
theorem u0n {d d':Va} {f:Nat→Nat} {m:List (Nat×Ob)} (hd': ∀ k,(look m k).isSome=true→d'.at_ (f k)=d.at_ k∧d'.size (f k)=d.size k) {l:L} {y:Value} (h:p1o m l=true) (hd:l.den d y):(l.ren f).den d' y:=by
 unfold p1o at h
 split at h<;>try (cases h;done)
 ·exact d0i h hd
 ·rename_i k path
  simp only [L.ren,L.den] at*
  rw [(hd' k h).1];exact hd
 ·rename_i k path len sz
  simp only [L.ren,L.den] at*
  rw [(hd' k h).1,(hd' k h).2];exact hd
 ·exact hd
theorem l0k {d d':Va} {f:Nat→Nat} {m:List (Nat×Ob)} (hd': ∀ k,(look m k).isSome=true→d'.at_ (f k)=d.at_ k∧d'.size (f k)=d.size k) {x:W} {y:Value} (h:i0s m x=true) (hd:x.den d y):(x.ren f).den d' y:=by
 cases x with
 |one l=>exact u0n hd' h hd
 |agg cs=>
  obtain ⟨vs,rfl,hv⟩:=hd
  refine ⟨vs,rfl,?_⟩
  simp only [i0s,List.all_eq_true] at h
  exact Fv.map_left (hv.mono fun x y hx hr=>u0n hd' (h x hx) hr)
theorem l0m {d d':Va} {f:Nat→Nat} {m:List (Nat×Ob)} (hd': ∀ k,(look m k).isSome=true→d'.at_ (f k)=d.at_ k∧d'.size (f k)=d.size k) {x:V} {y:Value} (h:b0e m x=true) (hd:x.den d y):(x.ren f).den d' y:=by
 cases x with
 |w x=>exact l0k hd' h hd
 |tup xs=>
  obtain ⟨vs,rfl,hv⟩:=hd
  refine ⟨vs,rfl,?_⟩
  simp only [b0e,List.all_eq_true] at h
  exact Fv.map_left (hv.mono fun x y hx hr=>l0k hd' (h x hx) hr)
 |any=>trivial
def adopt (f:Nat→Nat):List (Nat×Ob)→List (Nat×Ob)→List (Nat×Ob)
 | [],m=>m
 |x::r,m=>(f x.1,x.2)::adopt f r m
def Vx (f:Nat→Nat) (e:List (Nat×V)):List (Nat×Ob)→List (Nat×Ob)→Bool
 | [],_=>true
 |x::r,m=>x.2.cells.all Pj&&decide (x.1<500000)&&fresh (f x.1) ⟨e,adopt f r m⟩&& !(look (adopt f r m) (f x.1)).isSome&& !(look r x.1).isSome&&Vx f e r m
theorem m0o {f:Nat→Nat} {e:List (Nat×V)} {m:List (Nat×Ob)} {k:Nat}: ∀ {l:List (Nat×Ob)},Vx f e l m=true→(look l k).isSome=true→k<px0
 | [],_,h=>by cases h
 |x::r,h,hk=>by
  simp only [Vx,Bool.and_eq_true,decide_eq_true_eq] at h
  simp only [look] at hk
  split at hk
  ·rename_i e;subst e;exact h.1.1.1.1.2
  ·exact m0o h.2 hk
theorem Wj {cs:List L} (h:cs.all Pj=true) (k:Nat):cs.any (L.has k)=false:=by
 simp only [List.any_eq_false,List.all_eq_true] at*
 intro x hx
 have:=h x hx
 cases x<;>simp_all [Pj,L.has]
theorem o0a {B B':Base} {d':Va} {a a':Act} {w w':World} {f:Nat→Nat} {e:List (Nat×V)} {m0:List (Nat×Ob)} {S':St} (hc:Sim B' d' S' a' w') (hw0:B'.w0=w) (hmay: ∀ b,¬B'.may b) (hsz:B.w0.heap.size≤w.heap.size) (hroB:B'.w0.heap.size≤w'.heap.size):
  ∀ (l:List (Nat×Ob)),(∀ k o,look l k=some o→look S'.mem k=some o)→∀ (d:Va),Sim B d ⟨e,m0⟩ a w'→(∀ b o y,d.ro b o=some y→b<w.heap.size)→(∀ j,(look m0 j).isSome=true→j<gl0→d.at_ j<w.heap.size)→Vx f e l m0=true→
   ∃ d2,Sim B d2 ⟨e,adopt f l m0⟩ a w'∧(∀ k,(look l k).isSome=true→d2.at_ (f k)=d'.at_ k∧d2.size (f k)=d'.size k)∧(∀ j,(look (adopt f l m0) j).isSome=true→j<gl0→(∃ k,(look l k).isSome=true∧d2.at_ j=d'.at_ k)∨d2.at_ j<w.heap.size)∧d2.ro=d.ro
 | [],_,d,h,_,hm,_=>⟨d,h,fun k hk=>(by cases hk),fun j hj hl=>.inr (hm j hj hl),rfl⟩
 |x::r,hl,d,h,hro,hm,hok=>by
  simp only [Vx,Bool.and_eq_true,Bool.not_eq_true'] at hok
  obtain ⟨⟨⟨⟨⟨hst,hxl⟩,hf⟩,hnew⟩,hdup⟩,hr⟩:=hok
  have hxl:x.1<gl0:=Nat.lt_trans (of_decide_eq_true hxl) Tv
  have hx:look S'.mem x.1=some x.2:=hl x.1 x.2 (by simp [look])
  obtain ⟨d1,h1,hk1,hj1,hro1⟩:=o0a hc hw0 hmay hsz hroB r (fun k o hk=>hl k o (by
   simp only [look]
   split
   ·rename_i e;subst e;rw [hk] at hdup;cases hdup
   ·exact hk)) d h hro hm hr
  obtain ⟨vals,spare,ty,fr,hh,hfr,hd,hs,hlen⟩:=hc.mem x.1 x.2 hx hxl
  have hown:=(hc.own x.1 (by rw [hx];rfl) hxl).2
  have hge:w.heap.size≤d'.at_ x.1:=by
   rcases hown with h2|h2
   ·rw [hw0] at h2;exact h2
   ·exact (hmay _ h2.2).elim
  have hf':=b0s hf
  have hfl:=e0w hf
  have hne: ∀ j,(look (adopt f r m0) j).isSome=true→j<gl0→d1.at_ j≠d'.at_ x.1:=by
   intro j hj hjl he
   rcases hj1 j hj hjl with ⟨k,hk,hk2⟩|hlt
   ·rw [he] at hk2
    have hkS:(look S'.mem k).isSome=true:=by
     cases ho:look r k with
     |none=>simp [ho] at hk
     |some o=>
      have:=hl k o (by
       simp only [look]
       split
       ·rename_i e;subst e;rw [ho] at hdup;cases hdup
       ·exact ho)
      rw [this];rfl
    have:=hc.inj x.1 k (by rw [hx];rfl) hkS hxl (Nat.lt_trans (m0o hr hk) Tv) hk2
    subst this
    rw [hdup] at hk;cases hk
   ·omega
  refine ⟨d1.set (f x.1) (d'.at_ x.1) (d'.size x.1),?_,?_,?_,?_⟩
  ·refine ⟨h1.defers,h1.nt,?_,?_,?_,?_,?_,?_,h1.os,h1.tape,h1.output,h1.size,h1.block,?_,?_,?_,h1.fxn,fun b l hb=>?_⟩
   ·intro n v hv
    obtain ⟨y,hy,hd⟩:=h1.env n v hv
    exact ⟨y,hy,V.den_set hd (Rk hf'.1 hv)⟩
   ·intro k o ho hkl
    simp only [adopt,look] at ho
    split at ho
    ·rename_i e;cases ho;subst e
     exact ⟨vals,spare,ty,fr,by rw [Va.set_at];exact hh,hfr,l0c hst hd,hs,by rw [Va.set_size];exact hlen⟩
    ·rename_i e
     obtain ⟨vs,sp,ty',fr',hh',hfr',hd',hs',hl'⟩:=h1.mem k o ho hkl
     obtain ⟨e1,e2⟩:=d1.set_other (d'.at_ x.1) (d'.size x.1) e
     exact ⟨vs,sp,ty',fr',by rw [e1];exact hh',hfr',i0b hd' (Yx hf'.2 ho),hs',by rw [e2];exact hl'⟩
   ·intro k1 k2 h2 h3 hl1 hl2 he
    simp only [adopt,look] at h2 h3
    by_cases e1:k1=f x.1<;>by_cases e2:k2=f x.1
    ·rw [e1,e2]
    ·exfalso
     rw [if_neg e2] at h3
     rw [e1,Va.set_at,(d1.set_other _ _ e2).1] at he
     exact hne k2 h3 hl2 he.symm
    ·exfalso
     rw [if_neg e1] at h2
     rw [e2,Va.set_at,(d1.set_other _ _ e1).1] at he
     exact hne k1 h2 hl1 he
    ·rw [if_neg e1] at h2;rw [if_neg e2] at h3
     rw [(d1.set_other _ _ e1).1,(d1.set_other _ _ e2).1] at he
     exact h1.inj _ _ h2 h3 hl1 hl2 he
   ·intro k hk hkl
    simp only [adopt,look] at hk
    by_cases e:k=f x.1
    ·subst e
     rw [Va.set_at]
     refine ⟨fun o=>?_,.inl (by omega)⟩
     show d1.ro _ _=none
     rw [hro1]
     cases hq:d.ro (d'.at_ x.1) o with
     |none=>rfl
     |some y=>have:=hro _ _ _ hq;omega
    ·rw [if_neg e] at hk
     rw [(d1.set_other _ _ e).1]
     exact h1.own k hk hkl
   ·exact h1.ro
   ·exact h1.old
   ·intro k hk
    have hne:k≠f x.1:=by intro e;subst e;exact absurd (Nat.lt_trans hfl Tv) (by omega)
    rw [(d1.set_other _ _ hne).1];exact h1.gat k hk
   ·intro k o ho hk
    have hne:k≠f x.1:=by intro e;subst e;exact absurd (Nat.lt_trans hfl Tv) (by omega)
    simp only [adopt,look,if_neg hne] at ho
    rw [(d1.set_other _ _ hne).2];exact h1.glob k o ho hk
   ·intro k o p ho hp hkl
    have hge:=h1.fxn k p hp
    have hne:k≠f x.1:=by intro e;subst e;omega
    simp only [adopt,look,if_neg hne] at ho
    rw [(d1.set_other _ _ hne).1,(d1.set_other _ _ hne).2];exact h1.fix k o p ho hp hkl
   ·simp only [adopt,look] at hb
    rw [if_neg (show mp0+b≠f x.1 by show 2000000+b≠f x.1;have:f x.1<500000:=hfl;omega)] at hb
    exact h1.mp b l hb
  ·intro k hk
   simp only [look] at hk
   by_cases e:k=x.1
   ·subst e;exact ⟨Va.set_at _ _ _ _,Va.set_size _ _ _ _⟩
   ·rw [if_neg e] at hk
    have hne2:f k≠f x.1:=by
     intro he
     have hjk:(look (adopt f r m0) (f k)).isSome=true:=by
      have: ∀ {r:List (Nat×Ob)},(look r k).isSome=true→(look (adopt f r m0) (f k)).isSome=true:=by
       intro r
       induction r with
       |nil=>intro h;cases h
       |cons z r ih=>
        intro h
        simp only [adopt,look] at h ⊢
        split
        ·rfl
        ·rename_i e2
         split at h
         ·rename_i e3;subst e3;exact absurd rfl e2
         ·exact ih h
      exact this hk
     rw [he,hnew] at hjk;cases hjk
    obtain ⟨e1,e2⟩:=d1.set_other (d'.at_ x.1) (d'.size x.1) hne2
    rw [e1,e2];exact hk1 k hk
  ·intro j hj hjl
   simp only [adopt,look] at hj
   by_cases e:j=f x.1
   ·subst e
    left;exact ⟨x.1,by simp [look],Va.set_at _ _ _ _⟩
   ·rw [if_neg e] at hj
    rw [(d1.set_other _ _ e).1]
    rcases hj1 j hj hjl with ⟨k,hk,hk2⟩|hlt
    ·left
     refine ⟨k,?_,hk2⟩
     simp only [look];split
     ·rfl
     ·exact hk
    ·exact .inr hlt
  ·exact hro1
theorem Cz {P:Program} {B:Base} {S:St} {K:St→Prop} {dst:Option Tmp} {ty:TypeId} {pos:String} {af:Array Edge} {f:FuncId} {args:List Operand} {ts:Array TypeId} {ds:List (Option Tmp)} {r:List Oper} {vs:List V} {R:V→List (Nat×Ob)→Prop}
  (nm:Nat→Nat) (hgo: ∀ vals w,(callFunc f vals).run P w=.ok (.enter f vals) w) (hargs:Nk S args=some vs) (hc:Ct P f vs R)
  (hK: ∀ v m,R v m→b0e m v=true∧Vx nm S.env m S.mem=true∧(match dst with
   |some n=>n<B.nt∧Bq P B ds r ⟨(n,v.ren nm)::S.env,adopt nm m S.mem⟩ K
   |none=>Bq P B ds r ⟨S.env,adopt nm m S.mem⟩ K)):
  Ey P B ⟨dst,.call ⟨.value (.func f),args.toArray,ts⟩,ty,pos,af,none⟩ S ds r K:=by
 intro d a w h next Q hn
 have hrun:(execOp a.eval ⟨dst,.call ⟨.value (.func f),args.toArray,ts⟩,ty,pos,af,none⟩).run P w=.ok (.enter f (args.map a.eval).toArray) w:=by
  simp [execOp,resolve,Deferred.ofValue,Act.eval,invoke,hgo]
 unfold Oper.wp
 rw [hrun,Oper.upon_enter]
 have hda:=d0x h hargs
 refine (hc w (d.all w) (args.map a.eval).toArray (fun b o y hy=>hy) h.gat (by simpa using hda)).mono ?_
 rintro e w' ⟨y,v,d',m',rfl,hR,hvd,a2,hmem⟩
 obtain ⟨hok,had,hk⟩:=hK v m' hR
 have hst:=h.stay (w':=w') (fun b hb=>hmem.block b hb (fun x=>x)) hmem.size hmem.os hmem.tape hmem.output
 obtain ⟨d2,hs2,hk2,_,hro2⟩:=o0a (e:=S.env) (m0:=S.mem) (f:=nm) (w:=w) hmem rfl (fun b hb=>hb) h.size hmem.size m' (fun k o hk=>hk) d hst (fun b o y hy=>b0y (h.ro b o y hy)) (fun j hj hl=>h.mem_lt hj hl) had
 have hvd2:=l0m (f:=nm) hk2 hok hvd
 cases dst with
 |none=>exact hn _ _ _ _ hk hs2
 |some n=>exact hn _ _ _ _ hk.2 (hs2.put hk.1 hvd2)
end Go.Sy
namespace Go.Sy
attribute [go_sem] reduceIte Option.getD_some Option.map_some Option.bind_some Bool.or_false Bool.false_or Bool.not_false Bool.not_true List.any_nil List.any_cons Nat.reduceEqDiff reduceCtorEq Nat.reduceLT Nat.reduceLeDiff Nat.reduceBEq Nat.reduceAdd Bool.false_eq_true and_self and_true true_and ne_eq not_false_eq_true List.length_cons List.length_nil List.drop_zero List.drop_succ_cons List.take_succ_cons List.take_zero List.getElem?_toArray List.getElem?_cons_zero List.getElem?_cons_succ forall_const decide_eq_true_eq decide_eq_false_iff_not Bool.cond_true Bool.cond_false imp_self false_implies List.take_nil List.drop_nil Nat.le_refl Nat.zero_add beq_self_eq_true g0y h0f mkW pok psz rd win w0s m0w j0y true_or or_true or_false false_or V.ren W.ren L.ren adopt unV Bool.not_eq_true' Bool.not_eq_false'
theorem Ct.plain {P:Program} {f:FuncId} {args:List V} {R:V→List (Nat×Ob)→Prop} {T:V→Prop} (h:Ct P f args R) (hR: ∀ v m,R v m→T v):Ct P f args fun v m=>T v∧m=[]:=by
 intro w d vals hro hg ha
 refine (h w d vals hro hg ha).mono ?_
 rintro e w' ⟨y,v,d',m',he,hr,hd,a,hs⟩
 refine ⟨y,v,d',[],he,⟨hR v m' hr,rfl⟩,hd,a,?_⟩
 exact ⟨hs.defers,hs.nt,fun n v hv=>(by cases hv),fun k o hk=>(by cases hk),fun k k' h1=>(by cases h1),fun k h1=>(by cases h1),hs.ro,hs.old,hs.os,hs.tape,hs.output,hs.size,hs.block,hs.gat,fun k o hk=>(by cases hk),fun k o p hk=>(by cases hk),hs.fxn,fun b l hb=>(by cases hb)⟩
end Go.Sy
