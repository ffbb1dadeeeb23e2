/- Walks and what they compute. CONDITIONS: those that each theorem names. -/
import Derived.Test.YtlmbdhfkdhjcfaaDoorvE3
import Derived.Test.YtlmbdhfkdhjcfaaDoorvS3
set_option linter.unusedVariables false
set_option linter.unusedSimpArgs false
namespace Go.Sy
theorem n0l {l:List UInt32} {i:Nat} (h:i<l.length):List.take 1 (List.drop i (Lv l))=[.pl (.u32 (l.getD i 0))]:=by
 rw [List.drop_eq_getElem_cons (by simpa [Lv] using h),List.take_succ_cons,List.take_zero]
 simp [Lv,List.getD,List.getElem?_eq_getElem h]
theorem d1b (l:List UInt32):(Lv l).length=l.length:=by simp [Lv]
theorem w1v (k:Nat) (l:List UInt32):(Lv l).any (L.has k)=false:=by
 rw [List.any_eq_false]
 intro x hx
 obtain ⟨y,_,rfl⟩:=List.mem_map.mp hx
 simp [L.has]
theorem d1a {q:List UInt32} {j:Nat} (x:UInt32) (h:j<q.length):List.take j (Lv q)++[L.pl (PL.u32 x)]++List.drop (j+1) (Lv q)=Lv (q.set j x):=by
 rw [List.set_eq_take_append_cons_drop,if_pos h];simp [Lv]
theorem w1t (l:List UInt32):Lv l=pls (l.map PL.u32):=by simp [Lv,pls]
theorem c2a (vw:Bool) (S:St) (hd:Hand) (l:List UInt32):Fw vw S hd (Lv l)=some (Lv l):=by rw [w1t];exact i0u vw S hd _
theorem w1u (vw:Bool) (m:List (Nat×Ob)) (l:List UInt32):(Lv l).all (Mw vw m)=true:=by
 simp only [Lv,List.all_eq_true,List.mem_map]
 rintro x ⟨y,_,rfl⟩
 simp [Mw,Pq]
theorem w1s (f:Nat→Nat) (l:List UInt32):(Lv l).map (L.ren f)=Lv l:=by simp [Lv,L.ren]
attribute [go_sem] w1v c2a w1u w1s d1b
def j1h (q:List UInt32) (a b:Nat) (x:UInt32):List UInt32:=q.set a (q.getD a 0+(q.getD b 0+x))
def b2h (q:List UInt32) (c d:Nat):List UInt32:=q.set c (q.getD c 0+q.getD d 0)
def p1z (r:UInt32→Nat→UInt32) (q:List UInt32) (d a k:Nat):List UInt32:=q.set d (r (q.getD d 0^^^q.getD a 0) k)
theorem h0f (q:List UInt32) (a b:Nat) (x:UInt32):(j1h q a b x).length=q.length:=List.length_set
theorem k0g (q:List UInt32) (a b:Nat):(b2h q a b).length=q.length:=List.length_set
theorem j0q (r:UInt32→Nat→UInt32) (q:List UInt32) (d a k:Nat):(p1z r q d a k).length=q.length:=List.length_set
theorem w1w {q:List UInt32} {a b:Nat} {x:UInt32} (h:a<q.length):List.take a (Lv q)++[L.pl (PL.u32 (q.getD a 0+(q.getD b 0+x)))]++List.drop (a+1) (Lv q)=Lv (j1h q a b x):=d1a _ h
theorem c2b {q:List UInt32} {a b:Nat} (h:a<q.length):List.take a (Lv q)++[L.pl (PL.u32 (q.getD a 0+q.getD b 0))]++List.drop (a+1) (Lv q)=Lv (b2h q a b):=d1a _ h
theorem b2z {r:UInt32→Nat→UInt32} {q:List UInt32} {d a k:Nat} (h:d<q.length):List.take d (Lv q)++[L.pl (PL.u32 (r (q.getD d 0^^^q.getD a 0) k))]++List.drop (d+1) (Lv q)=Lv (p1z r q d a k):=d1a _ h
theorem uqr {q:List UInt32} {c r:Nat} (h:c<4) (hq:q.length=16) (hr:r+4≤16):List.take 1 (List.drop c (List.take 4 (List.drop r (Lv q))))=[.pl (.u32 (q.getD (r+c) 0))]:=by
 have e:Lv q=(Lv q):=rfl
 rw [List.drop_take,List.drop_drop,List.take_take,show min 1 (4-c)=1 from by omega]
 exact n0l (by omega)
theorem d2t {q:List UInt32} {c:Nat} (h:c<4) (hq:q.length=16):List.take 1 (List.drop c (List.take 4 (Lv q)))=[.pl (.u32 (q.getD c 0))]:=by
 have:=uqr (r:=0) h hq (by decide)
 rwa [List.drop_zero,Nat.zero_add] at this
theorem d2s {q:List UInt32} {c:Nat} (h:c<4) (hq:q.length=16):List.take 1 (List.drop c (List.take 4 (List.drop 4 (Lv q))))=[.pl (.u32 (q.getD (4+c) 0))]:=uqr h hq (by decide)
theorem d2r {q:List UInt32} {c:Nat} (h:c<4) (hq:q.length=16):List.take 1 (List.drop c (List.take 4 (List.drop 8 (Lv q))))=[.pl (.u32 (q.getD (8+c) 0))]:=uqr h hq (by decide)
theorem w1r {q:List UInt32} {c:Nat} (h:c<4) (hq:q.length=16):List.take 1 (List.drop c (List.take 4 (List.drop 12 (Lv q))))=[.pl (.u32 (q.getD (12+c) 0))]:=uqr h hq (by decide)
theorem r1e {α:Type} {q:List α} {c r:Nat} (x:α) (h:c<4) (hr:r+4≤q.length):List.take r q++(List.take c (List.take 4 (List.drop r q))++[x]++List.drop (c+1) (List.take 4 (List.drop r q)))++List.drop (r+4) q=q.set (r+c) x:=by
 have e1:List.take c (List.take 4 (List.drop r q))=List.take c (List.drop r q):=by rw [List.take_take,show min c 4=c from by omega]
 have e2:List.drop (c+1) (List.take 4 (List.drop r q))++List.drop (r+4) q=List.drop (r+c+1) q:=by
  have:=List.take_append_drop (4-(c+1)) (List.drop (c+1) (List.drop r q))
  rw [List.drop_take,←List.drop_drop (i:=4) (j:=r)]
  rw [List.drop_drop,List.drop_drop] at this
  rw [List.drop_drop,List.drop_drop]
  rw [show r+(c+1)+(4-(c+1))=r+4 from by omega,show r+(c+1)=r+c+1 from by omega] at this
  rw [show r+(c+1)=r+c+1 from by omega]
  exact this
 rw [e1,List.set_eq_take_append_cons_drop,if_pos (by omega),List.take_add]
 simp only [List.append_assoc,List.cons_append,List.nil_append,e2]
theorem uqs {q:List UInt32} {c r:Nat} (x:UInt32) (h:c<4) (hq:q.length=16) (hr:r+4≤16):List.take r (Lv q)++(List.take c (List.take 4 (List.drop r (Lv q)))++[L.pl (PL.u32 x)]++List.drop (c+1) (List.take 4 (List.drop r (Lv q))))++List.drop (r+4) (Lv q)=Lv (q.set (r+c) x):=by
 rw [r1e _ h (by rw [d1b,hq];exact hr)]
 simp [Lv,List.map_set]
theorem d2q {q:List UInt32} {c:Nat} {x:UInt32} (h:c<4) (hq:q.length=16):List.take c (List.take 4 (Lv q))++[L.pl (PL.u32 x)]++List.drop (c+1) (List.take 4 (Lv q))++List.drop 4 (Lv q)=Lv (q.set c x):=by
 have:=uqs (r:=0) x h hq (by decide)
 rwa [List.take_zero,List.nil_append,List.drop_zero,Nat.zero_add,Nat.zero_add] at this
theorem d2p {q:List UInt32} {c:Nat} {x:UInt32} (h:c<4) (hq:q.length=16):List.take 4 (Lv q)++(List.take c (List.take 4 (List.drop 4 (Lv q)))++[L.pl (PL.u32 x)]++List.drop (c+1) (List.take 4 (List.drop 4 (Lv q))))++List.drop 8 (Lv q)=Lv (q.set (4+c) x):=uqs (r:=4) x h hq (by decide)
theorem d2o {q:List UInt32} {c:Nat} {x:UInt32} (h:c<4) (hq:q.length=16):List.take 8 (Lv q)++(List.take c (List.take 4 (List.drop 8 (Lv q)))++[L.pl (PL.u32 x)]++List.drop (c+1) (List.take 4 (List.drop 8 (Lv q))))++List.drop 12 (Lv q)=Lv (q.set (8+c) x):=uqs (r:=8) x h hq (by decide)
theorem w1q {q:List UInt32} {c:Nat} {x:UInt32} (h:c<4) (hq:q.length=16):List.take 12 (Lv q)++(List.take c (List.take 4 (List.drop 12 (Lv q)))++[L.pl (PL.u32 x)]++List.drop (c+1) (List.take 4 (List.drop 12 (Lv q))))=Lv (q.set (12+c) x):=by
 have:=uqs (r:=12) x h hq (by decide)
 have e:List.drop (12+4) (Lv q)=[]:=List.drop_of_length_le (by rw [d1b,hq];decide)
 rwa [e,List.append_nil] at this
theorem fold_add (q:List UInt32) (a b:Nat) (x:UInt32):q.set a (q.getD a 0+(q.getD b 0+x))=j1h q a b x:=rfl
theorem g1w (q:List UInt32) (a b:Nat):q.set a (q.getD a 0+q.getD b 0)=b2h q a b:=rfl
theorem g1v (r:UInt32→Nat→UInt32) (q:List UInt32) (d a k:Nat):q.set d (r (q.getD d 0^^^q.getD a 0) k)=p1z r q d a k:=rfl
theorem g1f (a:Nat):(0:Int)≤((a:Nat):Int):=Int.natCast_nonneg a
theorem m1o {a:Nat} (h:a<16):((a:Nat):Int)<16:=by omega
theorem o0v {a:Int} {n:Nat} (h:a=(n:Int)) (hn:n≤9223372036854775807):Go.RowKit.wrap64 a=(n:Int):=by subst h;exact w64 (by omega)
theorem wl4 {i:Nat} (h:i<16):Go.RowKit.wrap64 (4+((i:Nat):Int))=((4+i:Nat):Int):=o0v (by omega) (by omega)
theorem wl8 {i:Nat} (h:i<16):Go.RowKit.wrap64 (8+((i:Nat):Int))=((8+i:Nat):Int):=o0v (by omega) (by omega)
theorem wl9 {i:Nat} (h:i<16):Go.RowKit.wrap64 (9+((i:Nat):Int))=((9+i:Nat):Int):=o0v (by omega) (by omega)
theorem d2n {i:Nat} (h:i<16):Go.RowKit.wrap64 (12+((i:Nat):Int))=((12+i:Nat):Int):=o0v (by omega) (by omega)
theorem wp1 {i:Nat} (h:i<16):Go.RowKit.wrap64 (((i:Nat):Int)+1)=((i+1:Nat):Int):=o0v (by omega) (by omega)
theorem wp2 {i:Nat} (h:i<16):Go.RowKit.wrap64 (((i:Nat):Int)+2)=((i+2:Nat):Int):=o0v (by omega) (by omega)
theorem wp3 {i:Nat} (h:i<16):Go.RowKit.wrap64 (((i:Nat):Int)+3)=((i+3:Nat):Int):=o0v (by omega) (by omega)
theorem wz0 {i:Nat} (h:i<100):Go.RowKit.wrap64 (0+((i:Nat):Int))=((i:Nat):Int):=o0v (by omega) (by omega)
theorem wt2 {i:Nat} (h:i<16):Go.RowKit.wrap64 (2*((i:Nat):Int))=((2*i:Nat):Int):=o0v (by omega) (by omega)
theorem tm4 (n:Nat):Int.tmod ((n:Nat):Int) 4=((n%4:Nat):Int):=rfl
theorem lt4 {n:Nat}:n%4<16:=by omega
end Go.Sy
namespace Go.Sy
namespace Bk
open Go.Proofs
attribute [local irreducible] Dv HT Cz Px onC onE onO onG goV goA goS Qx Dw
def ma1 (a b x:UInt32):UInt32:=a+(b+x)
def md1 (a b d x:UInt32):UInt32:=Ow (d^^^ma1 a b x) 16
def mc1 (a b c d x:UInt32):UInt32:=c+md1 a b d x
def mb1 (a b c d x:UInt32):UInt32:=Ow (b^^^mc1 a b c d x) 20
def mA (a b c d x y:UInt32):UInt32:=ma1 a b x+(mb1 a b c d x+y)
def mD (a b c d x y:UInt32):UInt32:=Ow (md1 a b d x^^^mA a b c d x y) 24
def mC (a b c d x y:UInt32):UInt32:=mc1 a b c d x+mD a b c d x y
def mB (a b c d x y:UInt32):UInt32:=Ow (mb1 a b c d x^^^mC a b c d x y) 25
def m0t (q:List UInt32) (a b c d:Nat) (x y:UInt32):List UInt32:=p1z Ow (b2h (p1z Ow (j1h (p1z Ow (b2h (p1z Ow (j1h q a b x) d a 16) c d) b c 20) a b y) d a 24) c d) b c 25
theorem p0u (q:List UInt32) (a b c d:Nat) (x y:UInt32):(m0t q a b c d x y).length=q.length:=by simp only [m0t,j0q,k0g,h0f]
set_option maxHeartbeats 1600000 in
set_option maxRecDepth 100000 in
theorem c2z (q:List UInt32) (hq:q.length=16) (a b c d:Nat) (ha:a<16) (hb:b<16) (hc:c<16) (hd:d<16) (x y:UInt32):
 CtM Tryd.prog 84 [.w (.one (.pl (.i (a:Int)))),.w (.one (.pl (.i (b:Int)))),.w (.one (.pl (.i (c:Int)))),.w (.one (.pl (.i (d:Int)))),.w (.one (.pl (.u32 x))),.w (.one (.pl (.u32 y))),.w (.one (.p 500000 []))] [(500000,⟨false,Lv q⟩)] (fun v m=>v=.tup []∧m=[(500000,⟨false,Lv (m0t q a b c d x y)⟩)]):=by
 have ia:=m1o ha
 have ja:a+1≤16:=ha
 have ib:=m1o hb
 have jb:b+1≤16:=hb
 have ic:=m1o hc
 have jc:c+1≤16:=hc
 have id:=m1o hd
 have jd:d+1≤16:=hd
 have F0:=And.intro hq<|And.intro ha<|And.intro ia<|And.intro ja<|And.intro hb<|And.intro ib<|And.intro jb<|And.intro hc<|And.intro ic<|And.intro jc<|And.intro hd<|And.intro id<|And.intro jd<|And.intro g1f<|And.intro @n0l<|And.intro @w1w<|And.intro @c2b<|And.intro (@b2z Ow)<|And.intro h0f<|And.intro k0g<|And.intro j0q<|m0t.eq_1
 have cq:=And.intro (fun x=>Ct.cv (r1i x))<|And.intro (fun x=>Ct.cv (r1h x))<|And.intro (fun x=>Ct.cv (r1g x))<|And.intro (fun x=>Ct.cv (r1f x))<|trivial
 have zF:FG [13,14,15,16,17,18,19,20,21,22,23,24,25,26,27,28,29,30,31,32,33,34,35,36,37,38,39,40,41,42,43,44,45,46,47,48,49,50,51,52,53,54,55,56,57,58,59,60,61,62,63,64,65,66,67,68,69,70,71,72,73,74,75,76,77,78,79,80,81,82,83,84,85,86,87,88]:=trivial
 have zd0:DR 0 [13,14,15,16,17,18,19,20,21,22] [0,1,3,0,8,24,0,120,255,511,1023] []:=trivial
 have zd1:DR 1 [23,24,25,26,27,28,29,30,31,32] [0,0,2,6,0,16,48,126,254,511,1023] []:=trivial
 have zd2:DR 2 [33,34,35,36,37,38,39,40] [0,1,3,0,8,24,63,127,255] []:=trivial
 have zd3:DR 3 [41,42,43,44,45,46,47,48,49,50] [0,0,2,6,0,16,48,126,254,511,1023] []:=trivial
 have zd4:DR 4 [51,52,53,54,55,56,57,58,59,60] [0,1,3,0,8,24,0,120,255,511,1023] []:=trivial
 have zd5:DR 5 [61,62,63,64,65,66,67,68,69,70] [0,0,2,6,0,16,48,126,254,511,1023] []:=trivial
 have zd6:DR 6 [71,72,73,74,75,76,77,78] [0,1,3,0,8,24,63,127,255] []:=trivial
 have zd7:DR 7 [79,80,81,82,83,84,85,86,87,88] [0,0,2,6,0,16,48,126,254,511,1023] []:=trivial
 exact CtM.run2 Tryd.func84 rfl Tryd.ntmps84 Tryd.results84
theorem z1u (q:List UInt32) (hq:q.length=16) (a b c d:Nat) (ha:a<16) (hb:b<16) (hc:c<16) (hd:d<16) (x y:UInt32):CtM Tryd.prog 84 ([.w (.one (.pl (.i (a:Int)))),.w (.one (.pl (.i (b:Int)))),.w (.one (.pl (.i (c:Int)))),.w (.one (.pl (.i (d:Int)))),.w (.one (.pl (.u32 x))),.w (.one (.pl (.u32 y)))]++[500000].map fun k=>.w (.one (.p k []))) [(500000,⟨false,Lv q⟩)] (fun v m=>v=.tup []∧m=[(500000,⟨false,Lv (m0t q a b c d x y)⟩)]):=c2z q hq a b c d ha hb hc hd x y
theorem p1k (x0 x1 x2 x3 x4 x5 x6 x7 x8 x9 x10 x11 x12 x13 x14 x15 x y:UInt32):m0t [x0,x1,x2,x3,x4,x5,x6,x7,x8,x9,x10,x11,x12,x13,x14,x15] 0 4 8 12 x y=[(mA x0 x4 x8 x12 x y),x1,x2,x3,(mB x0 x4 x8 x12 x y),x5,x6,x7,(mC x0 x4 x8 x12 x y),x9,x10,x11,(mD x0 x4 x8 x12 x y),x13,x14,x15]:=rfl
theorem p1j (x0 x1 x2 x3 x4 x5 x6 x7 x8 x9 x10 x11 x12 x13 x14 x15 x y:UInt32):m0t [x0,x1,x2,x3,x4,x5,x6,x7,x8,x9,x10,x11,x12,x13,x14,x15] 1 5 9 13 x y=[x0,(mA x1 x5 x9 x13 x y),x2,x3,x4,(mB x1 x5 x9 x13 x y),x6,x7,x8,(mC x1 x5 x9 x13 x y),x10,x11,x12,(mD x1 x5 x9 x13 x y),x14,x15]:=rfl
theorem p1i (x0 x1 x2 x3 x4 x5 x6 x7 x8 x9 x10 x11 x12 x13 x14 x15 x y:UInt32):m0t [x0,x1,x2,x3,x4,x5,x6,x7,x8,x9,x10,x11,x12,x13,x14,x15] 2 6 10 14 x y=[x0,x1,(mA x2 x6 x10 x14 x y),x3,x4,x5,(mB x2 x6 x10 x14 x y),x7,x8,x9,(mC x2 x6 x10 x14 x y),x11,x12,x13,(mD x2 x6 x10 x14 x y),x15]:=rfl
theorem p1h (x0 x1 x2 x3 x4 x5 x6 x7 x8 x9 x10 x11 x12 x13 x14 x15 x y:UInt32):m0t [x0,x1,x2,x3,x4,x5,x6,x7,x8,x9,x10,x11,x12,x13,x14,x15] 3 7 11 15 x y=[x0,x1,x2,(mA x3 x7 x11 x15 x y),x4,x5,x6,(mB x3 x7 x11 x15 x y),x8,x9,x10,(mC x3 x7 x11 x15 x y),x12,x13,x14,(mD x3 x7 x11 x15 x y)]:=rfl
theorem z1y (x0 x1 x2 x3 x4 x5 x6 x7 x8 x9 x10 x11 x12 x13 x14 x15 x y:UInt32):m0t [x0,x1,x2,x3,x4,x5,x6,x7,x8,x9,x10,x11,x12,x13,x14,x15] 0 5 10 15 x y=[(mA x0 x5 x10 x15 x y),x1,x2,x3,x4,(mB x0 x5 x10 x15 x y),x6,x7,x8,x9,(mC x0 x5 x10 x15 x y),x11,x12,x13,x14,(mD x0 x5 x10 x15 x y)]:=rfl
theorem z1x (x0 x1 x2 x3 x4 x5 x6 x7 x8 x9 x10 x11 x12 x13 x14 x15 x y:UInt32):m0t [x0,x1,x2,x3,x4,x5,x6,x7,x8,x9,x10,x11,x12,x13,x14,x15] 1 6 11 12 x y=[x0,(mA x1 x6 x11 x12 x y),x2,x3,x4,x5,(mB x1 x6 x11 x12 x y),x7,x8,x9,x10,(mC x1 x6 x11 x12 x y),(mD x1 x6 x11 x12 x y),x13,x14,x15]:=rfl
theorem z1w (x0 x1 x2 x3 x4 x5 x6 x7 x8 x9 x10 x11 x12 x13 x14 x15 x y:UInt32):m0t [x0,x1,x2,x3,x4,x5,x6,x7,x8,x9,x10,x11,x12,x13,x14,x15] 2 7 8 13 x y=[x0,x1,(mA x2 x7 x8 x13 x y),x3,x4,x5,x6,(mB x2 x7 x8 x13 x y),(mC x2 x7 x8 x13 x y),x9,x10,x11,x12,(mD x2 x7 x8 x13 x y),x14,x15]:=rfl
theorem z1v (x0 x1 x2 x3 x4 x5 x6 x7 x8 x9 x10 x11 x12 x13 x14 x15 x y:UInt32):m0t [x0,x1,x2,x3,x4,x5,x6,x7,x8,x9,x10,x11,x12,x13,x14,x15] 3 4 9 14 x y=[x0,x1,x2,(mA x3 x4 x9 x14 x y),(mB x3 x4 x9 x14 x y),x5,x6,x7,x8,(mC x3 x4 x9 x14 x y),x10,x11,x12,x13,(mD x3 x4 x9 x14 x y),x15]:=rfl
end Bk
end Go.Sy
