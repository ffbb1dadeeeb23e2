/- Walks and what they compute. CONDITIONS: those that each theorem names. -/
import Derived.Test.YtlngaojnfcaagaaDoorvE3
import Derived.Test.YtlngaojnfcaagaaDoorvS3
set_option linter.unusedVariables false
set_option linter.unusedSimpArgs false
set_option maxHeartbeats 3200000
set_option maxRecDepth 100000
namespace Go.Sy
theorem l0w {l:List UInt32} {i:Nat} (h:i<l.length):List.take 1 (List.drop i (Jq l))=[.pl (.u32 (l.getD i 0))]:=by
 rw [List.drop_eq_getElem_cons (by simpa [Jq] using h),List.take_succ_cons,List.take_zero]
 simp [Jq,List.getD,List.getElem?_eq_getElem h]
theorem z0j (l:List UInt32):(Jq l).length=l.length:=by simp [Jq]
theorem z1a (k:Nat) (l:List UInt32):(Jq l).any (L.has k)=false:=by
 rw [List.any_eq_false]
 intro x hx
 obtain ⟨y,_,rfl⟩:=List.mem_map.mp hx
 simp [L.has]
theorem e1l {q:List UInt32} {j:Nat} (x:UInt32) (h:j<q.length):List.take j (Jq q)++[L.pl (PL.u32 x)]++List.drop (j+1) (Jq q)=Jq (q.set j x):=by
 rw [List.set_eq_take_append_cons_drop,if_pos h];simp [Jq]
theorem y1y (l:List UInt32):Jq l=pls (l.map PL.u32):=by simp [Jq,pls]
theorem d2o (vw:Bool) (S:St) (hd:Hand) (l:List UInt32):Hz vw S hd (Jq l)=some (Jq l):=by rw [y1y];exact k0d vw S hd _
theorem y1z (vw:Bool) (m:List (Nat×Ob)) (l:List UInt32):(Jq l).all (Qx vw m)=true:=by
 simp only [Jq,List.all_eq_true,List.mem_map]
 rintro x ⟨y,_,rfl⟩
 simp [Qx,Rz]
theorem y1x (f:Nat→Nat) (l:List UInt32):(Jq l).map (L.ren f)=Jq l:=by simp [Jq,L.ren]
attribute [go_sem] z1a d2o y1z y1x z0j
def l1k (q:List UInt32) (a b:Nat) (x:UInt32):List UInt32:=q.set a (q.getD a 0+(q.getD b 0+x))
def y1p (q:List UInt32) (c d:Nat):List UInt32:=q.set c (q.getD c 0+q.getD d 0)
def r1f (r:UInt32→Nat→UInt32) (q:List UInt32) (d a k:Nat):List UInt32:=q.set d (r (q.getD d 0^^^q.getD a 0) k)
theorem i0o (q:List UInt32) (a b:Nat) (x:UInt32):(l1k q a b x).length=q.length:=List.length_set
theorem f0i (q:List UInt32) (a b:Nat):(y1p q a b).length=q.length:=List.length_set
theorem e0q (r:UInt32→Nat→UInt32) (q:List UInt32) (d a k:Nat):(r1f r q d a k).length=q.length:=List.length_set
theorem z1b {q:List UInt32} {a b:Nat} {x:UInt32} (h:a<q.length):List.take a (Jq q)++[L.pl (PL.u32 (q.getD a 0+(q.getD b 0+x)))]++List.drop (a+1) (Jq q)=Jq (l1k q a b x):=e1l _ h
theorem z1c {q:List UInt32} {a b:Nat} (h:a<q.length):List.take a (Jq q)++[L.pl (PL.u32 (q.getD a 0+q.getD b 0))]++List.drop (a+1) (Jq q)=Jq (y1p q a b):=e1l _ h
theorem y1w {r:UInt32→Nat→UInt32} {q:List UInt32} {d a k:Nat} (h:d<q.length):List.take d (Jq q)++[L.pl (PL.u32 (r (q.getD d 0^^^q.getD a 0) k))]++List.drop (d+1) (Jq q)=Jq (r1f r q d a k):=e1l _ h
theorem uqr {q:List UInt32} {c r:Nat} (h:c<4) (hq:q.length=16) (hr:r+4≤16):List.take 1 (List.drop c (List.take 4 (List.drop r (Jq q))))=[.pl (.u32 (q.getD (r+c) 0))]:=by
 have e:Jq q=(Jq q):=rfl
 rw [List.drop_take,List.drop_drop,List.take_take,show min 1 (4-c)=1 from by omega]
 exact l0w (by omega)
theorem f2b {q:List UInt32} {c:Nat} (h:c<4) (hq:q.length=16):List.take 1 (List.drop c (List.take 4 (Jq q)))=[.pl (.u32 (q.getD c 0))]:=by
 have:=uqr (r:=0) h hq (by decide)
 rwa [List.drop_zero,Nat.zero_add] at this
theorem f2a {q:List UInt32} {c:Nat} (h:c<4) (hq:q.length=16):List.take 1 (List.drop c (List.take 4 (List.drop 4 (Jq q))))=[.pl (.u32 (q.getD (4+c) 0))]:=uqr h hq (by decide)
theorem e2z {q:List UInt32} {c:Nat} (h:c<4) (hq:q.length=16):List.take 1 (List.drop c (List.take 4 (List.drop 8 (Jq q))))=[.pl (.u32 (q.getD (8+c) 0))]:=uqr h hq (by decide)
theorem y1v {q:List UInt32} {c:Nat} (h:c<4) (hq:q.length=16):List.take 1 (List.drop c (List.take 4 (List.drop 12 (Jq q))))=[.pl (.u32 (q.getD (12+c) 0))]:=uqr h hq (by decide)
theorem t1n {α:Type} {q:List α} {c r:Nat} (x:α) (h:c<4) (hr:r+4≤q.length):List.take r q++(List.take c (List.take 4 (List.drop r q))++[x]++List.drop (c+1) (List.take 4 (List.drop r q)))++List.drop (r+4) q=q.set (r+c) x:=by
 have e1:List.take c (List.take 4 (List.drop r q))=List.take c (List.drop r q):=by rw [List.take_take,show min c 4=c from by omega]
 have e2:List.drop (c+1) (List.take 4 (List.drop r q))++List.drop (r+4) q=List.drop (r+c+1) q:=by
  have:=List.take_append_drop (4-(c+1)) (List.drop (c+1) (List.drop r q))
  rw [List.drop_take,←List.drop_drop (i:=4) (j:=r)]
  rw [List.drop_drop,List.drop_drop] at this
  rw [List.drop_drop,List.drop_drop]
  rw [show r+(c+1)+(4-(c+1))=r+4 from by omega,show r+(c+1)=r+c+1 from by omega] at this
  rw [show r+(c+1)=r+c+1 from by omega]
  exact this
 rw [e1,List.set_eq_take_append_cons_drop,if_pos (by omega),List.take_add]
 simp only [List.append_assoc,List.cons_append,List.nil_append,e2]
theorem uqs {q:List UInt32} {c r:Nat} (x:UInt32) (h:c<4) (hq:q.length=16) (hr:r+4≤16):List.take r (Jq q)++(List.take c (List.take 4 (List.drop r (Jq q)))++[L.pl (PL.u32 x)]++List.drop (c+1) (List.take 4 (List.drop r (Jq q))))++List.drop (r+4) (Jq q)=Jq (q.set (r+c) x):=by
 rw [t1n _ h (by rw [z0j,hq];exact hr)]
 simp [Jq,List.map_set]
theorem e2y {q:List UInt32} {c:Nat} {x:UInt32} (h:c<4) (hq:q.length=16):List.take c (List.take 4 (Jq q))++[L.pl (PL.u32 x)]++List.drop (c+1) (List.take 4 (Jq q))++List.drop 4 (Jq q)=Jq (q.set c x):=by
 have:=uqs (r:=0) x h hq (by decide)
 rwa [List.take_zero,List.nil_append,List.drop_zero,Nat.zero_add,Nat.zero_add] at this
theorem e2x {q:List UInt32} {c:Nat} {x:UInt32} (h:c<4) (hq:q.length=16):List.take 4 (Jq q)++(List.take c (List.take 4 (List.drop 4 (Jq q)))++[L.pl (PL.u32 x)]++List.drop (c+1) (List.take 4 (List.drop 4 (Jq q))))++List.drop 8 (Jq q)=Jq (q.set (4+c) x):=uqs (r:=4) x h hq (by decide)
theorem e2w {q:List UInt32} {c:Nat} {x:UInt32} (h:c<4) (hq:q.length=16):List.take 8 (Jq q)++(List.take c (List.take 4 (List.drop 8 (Jq q)))++[L.pl (PL.u32 x)]++List.drop (c+1) (List.take 4 (List.drop 8 (Jq q))))++List.drop 12 (Jq q)=Jq (q.set (8+c) x):=uqs (r:=8) x h hq (by decide)
theorem y1u {q:List UInt32} {c:Nat} {x:UInt32} (h:c<4) (hq:q.length=16):List.take 12 (Jq q)++(List.take c (List.take 4 (List.drop 12 (Jq q)))++[L.pl (PL.u32 x)]++List.drop (c+1) (List.take 4 (List.drop 12 (Jq q))))=Jq (q.set (12+c) x):=by
 have:=uqs (r:=12) x h hq (by decide)
 have e:List.drop (12+4) (Jq q)=[]:=List.drop_of_length_le (by rw [z0j,hq];decide)
 rwa [e,List.append_nil] at this
theorem fold_add (q:List UInt32) (a b:Nat) (x:UInt32):q.set a (q.getD a 0+(q.getD b 0+x))=l1k q a b x:=rfl
theorem j1e (q:List UInt32) (a b:Nat):q.set a (q.getD a 0+q.getD b 0)=y1p q a b:=rfl
theorem j1d (r:UInt32→Nat→UInt32) (q:List UInt32) (d a k:Nat):q.set d (r (q.getD d 0^^^q.getD a 0) k)=r1f r q d a k:=rfl
theorem u0l (a:Nat):(0:Int)≤((a:Nat):Int):=Int.natCast_nonneg a
theorem w0t {a:Nat} (h:a<16):((a:Nat):Int)<16:=by omega
theorem q0d {a:Int} {n:Nat} (h:a=(n:Int)) (hn:n≤9223372036854775807):Go.RowKit.wrap64 a=(n:Int):=by subst h;exact w64 (by omega)
theorem wl4 {i:Nat} (h:i<16):Go.RowKit.wrap64 (4+((i:Nat):Int))=((4+i:Nat):Int):=q0d (by omega) (by omega)
theorem wl8 {i:Nat} (h:i<16):Go.RowKit.wrap64 (8+((i:Nat):Int))=((8+i:Nat):Int):=q0d (by omega) (by omega)
theorem wl9 {i:Nat} (h:i<16):Go.RowKit.wrap64 (9+((i:Nat):Int))=((9+i:Nat):Int):=q0d (by omega) (by omega)
theorem d2f {i:Nat} (h:i<16):Go.RowKit.wrap64 (12+((i:Nat):Int))=((12+i:Nat):Int):=q0d (by omega) (by omega)
theorem wp1 {i:Nat} (h:i<16):Go.RowKit.wrap64 (((i:Nat):Int)+1)=((i+1:Nat):Int):=q0d (by omega) (by omega)
theorem wp2 {i:Nat} (h:i<16):Go.RowKit.wrap64 (((i:Nat):Int)+2)=((i+2:Nat):Int):=q0d (by omega) (by omega)
theorem wp3 {i:Nat} (h:i<16):Go.RowKit.wrap64 (((i:Nat):Int)+3)=((i+3:Nat):Int):=q0d (by omega) (by omega)
theorem wz0 {i:Nat} (h:i<100):Go.RowKit.wrap64 (0+((i:Nat):Int))=((i:Nat):Int):=q0d (by omega) (by omega)
theorem wt2 {i:Nat} (h:i<16):Go.RowKit.wrap64 (2*((i:Nat):Int))=((2*i:Nat):Int):=q0d (by omega) (by omega)
theorem tm4 (n:Nat):Int.tmod ((n:Nat):Int) 4=((n%4:Nat):Int):=rfl
theorem lt4 {n:Nat}:n%4<16:=by omega
end Go.Sy
namespace Go.Sy
open Go.Proofs
attribute [local irreducible] Fz HT Cw Oj onC onE onO onG goV goA goS Qv Ey
def g0a (q:List UInt32) (a b d k:Nat):List UInt32:=r1f Hy (y1p q a b) d a k
theorem Xk (q:List UInt32) (a b d k:Nat):(g0a q a b d k).length=q.length:=by rw [g0a,e0q,f0i]
theorem z1h (q:List UInt32) (hq:q.length=16) (a b d:Nat) (ha:a<16) (hb:b<16) (hd:d<16) (k:Nat) (hk:k=16∨k=12∨k=8∨k=7):
 CtM Tryd.prog 66 [.w (.one (.pl (.i (a:Int)))),.w (.one (.pl (.i (b:Int)))),.w (.one (.pl (.i (d:Int)))),.w (.one (.pl (.i (k:Int)))),.w (.one (.p 500001 []))] [(500001,⟨false,[.p 500000 []]⟩),(500000,⟨false,Jq q⟩)] (fun v m=>v=.tup []∧m=[(500001,⟨false,[.p 500000 []]⟩),(500000,⟨false,Jq (g0a q a b d k)⟩)]):=by
 have ia:=w0t ha
 have ja:a+1≤16:=ha
 have ib:=w0t hb
 have jb:b+1≤16:=hb
 have id:=w0t hd
 have jd:d+1≤16:=hd
 have rotk:=fun x=>rotl x k hk
 have F0:=And.intro hq<|And.intro ha<|And.intro hb<|And.intro hd<|And.intro ia<|And.intro ib<|And.intro id<|And.intro ja<|And.intro jb<|And.intro jd<|And.intro u0l<|And.intro z0j<|And.intro @l0w<|And.intro @z1c<|And.intro (@y1w Hy)<|And.intro f0i<|And.intro e0q<|g0a.eq_1
 have cq:=And.intro (fun x=>Ct.cv (rotk x))<|trivial
 have zF:FG [9,10,11,12,13,14,15,16,17,18,19,20,21,22,23,24,25,26,27,28,29,30,31,32,33,34,35,36,37,38]:=trivial
 have zd0:DR 0 [9,10,11,12,13,14,15,16,17,18,19,20,21] [0,0,1,7,15,0,0,32,224,480,1023,1,4095,8191] []:=trivial
 have zd1:DR 1 [22,23,24,25,26,27,28,29,30,31,32,33,34,35,36,37,38] [0,0,0,0,4,28,60,0,0,128,896,1920,4092,0,16380,1,65535,131071] []:=trivial
 exact CtM.run2 Tryd.func66 rfl Tryd.ntmps66 Tryd.results66
theorem z0l (q:List UInt32) (hq:q.length=16) (a b d:Nat) (ha:a<16) (hb:b<16) (hd:d<16) (k:Nat) (hk:k=16∨k=12∨k=8∨k=7):CtM Tryd.prog 66 ([.w (.one (.pl (.i (a:Int)))),.w (.one (.pl (.i (b:Int)))),.w (.one (.pl (.i (d:Int)))),.w (.one (.pl (.i (k:Int))))]++[500001].map fun k=>.w (.one (.p k []))) [(500001,⟨false,[.p 500000 []]⟩),(500000,⟨false,Jq q⟩)] (fun v m=>v=.tup []∧m=[(500001,⟨false,[.p 500000 []]⟩),(500000,⟨false,Jq (g0a q a b d k)⟩)]):=z1h q hq a b d ha hb hd k hk
end Go.Sy
namespace Go.Sy
open Go.Proofs
attribute [local irreducible] Fz HT Cw Oj onC onE onO onG goV goA goS Qv Ey
def qd1 (a b d:UInt32):UInt32:=Hy (d^^^(a+b)) 16
def qc1 (a b c d:UInt32):UInt32:=c+qd1 a b d
def qb1 (a b c d:UInt32):UInt32:=Hy (b^^^qc1 a b c d) 12
def qA (a b c d:UInt32):UInt32:=(a+b)+qb1 a b c d
def qD (a b c d:UInt32):UInt32:=Hy (qd1 a b d^^^qA a b c d) 8
def qC (a b c d:UInt32):UInt32:=qc1 a b c d+qD a b c d
def qB (a b c d:UInt32):UInt32:=Hy (qb1 a b c d^^^qC a b c d) 7
def Nq (q:List UInt32) (a b c d:Nat):List UInt32:=g0a (g0a (g0a (g0a q a b d 16) c d b 12) a b d 8) c d b 7
theorem k0a (q:List UInt32) (a b c d:Nat):(Nq q a b c d).length=q.length:=by rw [Nq,Xk,Xk,Xk,Xk]
theorem b1t (q:List UInt32) (hq:q.length=16) (a b c d:Nat) (ha:a<16) (hb:b<16) (hc:c<16) (hd:d<16):
 CtM Tryd.prog 50 [.w (.one (.p 500000 [])),.w (.one (.pl (.i (a:Int)))),.w (.one (.pl (.i (b:Int)))),.w (.one (.pl (.i (c:Int)))),.w (.one (.pl (.i (d:Int))))] [(500000,⟨false,Jq q⟩)] (Told (fun v m=>v=.tup []∧m=[(500000,⟨false,Jq (Nq q a b c d)⟩)])):=by
 skip
 have F0:=And.intro hq<|Nq.eq_1
 have cq:=And.intro (And.intro (CF.mk [5] [(500001,5),(500000,500000)]) (z0l q (by simp only [Xk,hq]) a b d ha hb hd 16 (.inl rfl)))<|And.intro (And.intro (CF.mk [5] [(500001,5),(500000,500000)]) (z0l (g0a q a b d 16) (by simp only [Xk,hq]) c d b hc hd hb 12 (.inr (.inl rfl))))<|And.intro (And.intro (CF.mk [5] [(500001,5),(500000,500000)]) (z0l (g0a (g0a q a b d 16) c d b 12) (by simp only [Xk,hq]) a b d ha hb hd 8 (.inr (.inr (.inl rfl)))))<|And.intro (And.intro (CF.mk [5] [(500001,5),(500000,500000)]) (z0l (g0a (g0a (g0a q a b d 16) c d b 12) a b d 8) (by simp only [Xk,hq]) c d b hc hd hb 7 (.inr (.inr (.inr rfl)))))<|trivial
 have zF:FG [11,12,13,14,15,16,17,18,19,20,21,22,23,24,25,26,27,28,29,30,31]:=trivial
 exact CtM.run2 Tryd.func50 rfl Tryd.ntmps50 Tryd.results50
theorem t0n (q:List UInt32) (hq:q.length=16) (a b c d:Nat) (ha:a<16) (hb:b<16) (hc:c<16) (hd:d<16):CtM Tryd.prog 50 [.w (.one (.p 500000 [])),.w (.one (.pl (.i (a:Int)))),.w (.one (.pl (.i (b:Int)))),.w (.one (.pl (.i (c:Int)))),.w (.one (.pl (.i (d:Int))))] [(500000,⟨false,Jq q⟩)] (fun v m=>v=.tup []∧m=[(500000,⟨false,Jq (Nq q a b c d)⟩)]):=(b1t q hq a b c d ha hb hc hd).told
theorem c1c (x0 x1 x2 x3 x4 x5 x6 x7 x8 x9 x10 x11 x12 x13 x14 x15:UInt32):Nq [x0,x1,x2,x3,x4,x5,x6,x7,x8,x9,x10,x11,x12,x13,x14,x15] 0 4 8 12=[(qA x0 x4 x8 x12),x1,x2,x3,(qB x0 x4 x8 x12),x5,x6,x7,(qC x0 x4 x8 x12),x9,x10,x11,(qD x0 x4 x8 x12),x13,x14,x15]:=rfl
theorem c1b (x0 x1 x2 x3 x4 x5 x6 x7 x8 x9 x10 x11 x12 x13 x14 x15:UInt32):Nq [x0,x1,x2,x3,x4,x5,x6,x7,x8,x9,x10,x11,x12,x13,x14,x15] 1 5 9 13=[x0,(qA x1 x5 x9 x13),x2,x3,x4,(qB x1 x5 x9 x13),x6,x7,x8,(qC x1 x5 x9 x13),x10,x11,x12,(qD x1 x5 x9 x13),x14,x15]:=rfl
theorem b1z (x0 x1 x2 x3 x4 x5 x6 x7 x8 x9 x10 x11 x12 x13 x14 x15:UInt32):Nq [x0,x1,x2,x3,x4,x5,x6,x7,x8,x9,x10,x11,x12,x13,x14,x15] 2 6 10 14=[x0,x1,(qA x2 x6 x10 x14),x3,x4,x5,(qB x2 x6 x10 x14),x7,x8,x9,(qC x2 x6 x10 x14),x11,x12,x13,(qD x2 x6 x10 x14),x15]:=rfl
theorem b1y (x0 x1 x2 x3 x4 x5 x6 x7 x8 x9 x10 x11 x12 x13 x14 x15:UInt32):Nq [x0,x1,x2,x3,x4,x5,x6,x7,x8,x9,x10,x11,x12,x13,x14,x15] 3 7 11 15=[x0,x1,x2,(qA x3 x7 x11 x15),x4,x5,x6,(qB x3 x7 x11 x15),x8,x9,x10,(qC x3 x7 x11 x15),x12,x13,x14,(qD x3 x7 x11 x15)]:=rfl
theorem b1x (x0 x1 x2 x3 x4 x5 x6 x7 x8 x9 x10 x11 x12 x13 x14 x15:UInt32):Nq [x0,x1,x2,x3,x4,x5,x6,x7,x8,x9,x10,x11,x12,x13,x14,x15] 0 5 10 15=[(qA x0 x5 x10 x15),x1,x2,x3,x4,(qB x0 x5 x10 x15),x6,x7,x8,x9,(qC x0 x5 x10 x15),x11,x12,x13,x14,(qD x0 x5 x10 x15)]:=rfl
theorem b1w (x0 x1 x2 x3 x4 x5 x6 x7 x8 x9 x10 x11 x12 x13 x14 x15:UInt32):Nq [x0,x1,x2,x3,x4,x5,x6,x7,x8,x9,x10,x11,x12,x13,x14,x15] 1 6 11 12=[x0,(qA x1 x6 x11 x12),x2,x3,x4,x5,(qB x1 x6 x11 x12),x7,x8,x9,x10,(qC x1 x6 x11 x12),(qD x1 x6 x11 x12),x13,x14,x15]:=rfl
theorem b1v (x0 x1 x2 x3 x4 x5 x6 x7 x8 x9 x10 x11 x12 x13 x14 x15:UInt32):Nq [x0,x1,x2,x3,x4,x5,x6,x7,x8,x9,x10,x11,x12,x13,x14,x15] 2 7 8 13=[x0,x1,(qA x2 x7 x8 x13),x3,x4,x5,x6,(qB x2 x7 x8 x13),(qC x2 x7 x8 x13),x9,x10,x11,x12,(qD x2 x7 x8 x13),x14,x15]:=rfl
theorem b1u (x0 x1 x2 x3 x4 x5 x6 x7 x8 x9 x10 x11 x12 x13 x14 x15:UInt32):Nq [x0,x1,x2,x3,x4,x5,x6,x7,x8,x9,x10,x11,x12,x13,x14,x15] 3 4 9 14=[x0,x1,x2,(qA x3 x4 x9 x14),(qB x3 x4 x9 x14),x5,x6,x7,x8,(qC x3 x4 x9 x14),x10,x11,x12,x13,(qD x3 x4 x9 x14),x15]:=rfl
def n0n (q:List UInt32):Nat→List UInt32
 |0=>q
 |i+1=>Nq (n0n q i) i (4+i) (8+i) (12+i)
def n0h (q:List UInt32):Nat→List UInt32
 |0=>q
 |i+1=>Nq (n0h q i) i (4+(i+1)%4) (8+(i+2)%4) (12+(i+3)%4)
theorem n0m (q:List UInt32): ∀ i,(n0n q i).length=q.length
 |0=>rfl
 |i+1=>by rw [n0n,k0a,n0m q i]
theorem u0w (q:List UInt32): ∀ i,(n0h q i).length=q.length
 |0=>rfl
 |i+1=>by rw [n0h,k0a,u0w q i]
end Go.Sy
namespace Go.Sy
open Go.Proofs
attribute [local irreducible] Fz HT Cw Oj onC onE onO onG goV goA goS Qv Ey
structure W16 where
 x0:UInt32
 x1:UInt32
 x2:UInt32
 x3:UInt32
 x4:UInt32
 x5:UInt32
 x6:UInt32
 x7:UInt32
 x8:UInt32
 x9:UInt32
 x10:UInt32
 x11:UInt32
 x12:UInt32
 x13:UInt32
 x14:UInt32
 x15:UInt32
def W16.l (w:W16):List UInt32:=[w.x0,w.x1,w.x2,w.x3,w.x4,w.x5,w.x6,w.x7,w.x8,w.x9,w.x10,w.x11,w.x12,w.x13,w.x14,w.x15]
def W16.ls (w:W16):List L:=[.pl (.u32 w.x0),.pl (.u32 w.x1),.pl (.u32 w.x2),.pl (.u32 w.x3),.pl (.u32 w.x4),.pl (.u32 w.x5),.pl (.u32 w.x6),.pl (.u32 w.x7),.pl (.u32 w.x8),.pl (.u32 w.x9),.pl (.u32 w.x10),.pl (.u32 w.x11),.pl (.u32 w.x12),.pl (.u32 w.x13),.pl (.u32 w.x14),.pl (.u32 w.x15)]
theorem W16.ls_l (w:W16):w.ls=Jq w.l:=rfl
theorem W16.l_len (w:W16):w.l.length=16:=rfl
def W16.col (w:W16):W16:=⟨(qA w.x0 w.x4 w.x8 w.x12),(qA w.x1 w.x5 w.x9 w.x13),(qA w.x2 w.x6 w.x10 w.x14),(qA w.x3 w.x7 w.x11 w.x15),(qB w.x0 w.x4 w.x8 w.x12),(qB w.x1 w.x5 w.x9 w.x13),(qB w.x2 w.x6 w.x10 w.x14),(qB w.x3 w.x7 w.x11 w.x15),(qC w.x0 w.x4 w.x8 w.x12),(qC w.x1 w.x5 w.x9 w.x13),(qC w.x2 w.x6 w.x10 w.x14),(qC w.x3 w.x7 w.x11 w.x15),(qD w.x0 w.x4 w.x8 w.x12),(qD w.x1 w.x5 w.x9 w.x13),(qD w.x2 w.x6 w.x10 w.x14),(qD w.x3 w.x7 w.x11 w.x15)⟩
def W16.diag (w:W16):W16:=⟨(qA w.x0 w.x5 w.x10 w.x15),(qA w.x1 w.x6 w.x11 w.x12),(qA w.x2 w.x7 w.x8 w.x13),(qA w.x3 w.x4 w.x9 w.x14),(qB w.x3 w.x4 w.x9 w.x14),(qB w.x0 w.x5 w.x10 w.x15),(qB w.x1 w.x6 w.x11 w.x12),(qB w.x2 w.x7 w.x8 w.x13),(qC w.x2 w.x7 w.x8 w.x13),(qC w.x3 w.x4 w.x9 w.x14),(qC w.x0 w.x5 w.x10 w.x15),(qC w.x1 w.x6 w.x11 w.x12),(qD w.x1 w.x6 w.x11 w.x12),(qD w.x2 w.x7 w.x8 w.x13),(qD w.x3 w.x4 w.x9 w.x14),(qD w.x0 w.x5 w.x10 w.x15)⟩
theorem l0p (w:W16):n0n w.l 4=w.col.l:=by
 simp only [n0n,W16.l,Nat.zero_add,Nat.reduceAdd,c1c,c1b,b1z,b1y];rfl
theorem n0g (w:W16):n0h w.l 4=w.diag.l:=by
 simp only [n0h,W16.l,Nat.zero_add,Nat.reduceAdd,Nat.reduceMod,b1x,b1w,b1v,b1u];rfl
def Zy :Nat→W16→W16
 |0,w=>w
 |k+1,w=>(Zy k w).col.diag
def z0a :List UInt32→List UInt32→List UInt8
 |a::l,b::k=>Mk (a+b).toUInt64 4++z0a l k
 |_,_=>[]
def Yq (w:W16):List UInt8:=z0a (Zy 10 w).l w.l
def d0i (key:List UInt8) (counter:UInt32) (nonce:List UInt8):W16:=⟨1634760805,857760878,2036477234,1797285236,d0g (key.drop 0),d0g (key.drop 4),d0g (key.drop 8),d0g (key.drop 12),d0g (key.drop 16),d0g (key.drop 20),d0g (key.drop 24),d0g (key.drop 28),counter,d0g (nonce.drop 0),d0g (nonce.drop 4),d0g (nonce.drop 8)⟩
theorem l0s : ∀ (a b:List UInt32),a.length=b.length→(z0a a b).length=4*a.length
 | [],[],_=>rfl
 | [],_::_,h=>by simp at h
 |_::_,[],h=>by simp at h
 |a::l,b::k,h=>by
  simp only [z0a,List.length_append,Av,List.length_cons,l0s l k (by simpa using h)];omega
theorem a0b (w:W16):(Yq w).length=64:=l0s _ _ rfl
theorem c0f {l:List UInt32} {i:Nat} (h:i<l.length):List.take 1 (List.drop i (Jq l))=[.pl (.u32 (l.getD i 0))]:=by
 rw [List.drop_eq_getElem_cons (by simpa [Jq] using h),List.take_succ_cons,List.take_zero]
 simp [Jq,List.getD,List.getElem?_eq_getElem h]
theorem a0e (l:List UInt32):(Jq l).length=l.length:=by simp [Jq]
theorem q0f (k:Nat) (l:List UInt32):(Jq l).any (L.has k)=false:=by
 rw [List.any_eq_false]
 intro x hx
 obtain ⟨y,_,rfl⟩:=List.mem_map.mp hx
 simp [L.has]
theorem l0d (k:Nat) (l:List UInt32):(Jq l).map (Sz k)=Jq l:=by simp only [Jq,List.map_map];rfl
theorem h1t (k:Nat) (w:W16):w.ls.any (L.has k)=false:=by rw [W16.ls_l];exact q0f k _
theorem w0q (k:Nat) (w:W16):w.ls.map (Sz k)=w.ls:=by rw [W16.ls_l];exact l0d k _
attribute [go_sem] q0f l0d h1t w0q
theorem c0q {l:List UInt32} {j:Nat} (h:j<l.length):l.drop j=l.getD j 0::l.drop (j+1):=by
 rw [List.drop_eq_getElem_cons h];congr 1;simp [List.getD,List.getElem?_eq_getElem h]
theorem m0h {q:List UInt8} {j:Nat} (x:UInt8) (h:j<q.length):Aq (List.take j q)++[L.pl (PL.u8 x)]++Aq (List.drop (j+1) q)=Aq (q.set j x):=by
 rw [List.set_eq_take_append_cons_drop,if_pos h];simp [Aq]
theorem e2k (x:UInt32):Mk x.toUInt64 4=[(a0f x 0).toUInt8,(a0f x 8).toUInt8,(a0f x 16).toUInt8,(a0f x 24).toUInt8]:=by
 have e: ∀ y:UInt64,(y/256).toNat=y.toNat/256:=fun y=>by rw [UInt64.toNat_div];rfl
 have hx:=x.toNat_lt
 have s: ∀ k:Nat,(a0f x k).toNat=x.toNat/2 ^ k:=fun k=>by
  have h2:x.toNat/2 ^ k≤x.toNat:=Nat.div_le_self _ _
  simp only [a0f,UInt32.toNat_ofNat']
  exact Nat.mod_eq_of_lt (by omega)
 have g: ∀ (y:UInt32) (n:Nat),y.toNat=n→UInt8.ofNat n=y.toUInt8:=fun y n h=>by
  apply UInt8.toNat_inj.mp
  rw [←h,UInt8.toNat_ofNat',UInt32.toNat_toUInt8]
 simp only [Mk,List.cons.injEq,and_true]
 refine ⟨?_,?_,?_,?_⟩
 all_goals refine g _ _ ?_
 all_goals simp only [s,e,UInt32.toNat_toUInt64,Nat.div_div_eq_div_mul]
 all_goals simp
theorem set4 {q:List UInt8} {j:Nat} (h:j+4≤q.length) (a b c d:UInt8):((((q.set j a).set (j+1) b).set (j+2) c).set (j+3) d).take (j+4)=q.take j++[a,b,c,d]:=by
 apply List.ext_getElem
 · simp;omega
 · intro i h1 h2
   simp only [List.length_take,List.length_set] at h1
   rw [List.getElem_take]
   simp only [List.getElem_set]
   rcases Nat.lt_or_ge i j with g|g
   · rw [if_neg (by omega),if_neg (by omega),if_neg (by omega),if_neg (by omega),List.getElem_append_left (by simp;omega),List.getElem_take]
   · rw [List.getElem_append_right (by simp;omega)]
     have hj:(q.take j).length=j:=by rw [List.length_take];omega
     have:i=j∨i=j+1∨i=j+2∨i=j+3:=by omega
     rcases this with rfl|rfl|rfl|rfl
     all_goals simp [hj]
theorem block_ (key:List UInt8) (hk:key.length=32) (counter:UInt32) (nonce:List UInt8) (hn:nonce.length=12):
 Ct Tryd.prog 36 [.w (.agg (Aq key)),.w (.one (.pl (.u32 counter))),.w (.agg (Aq nonce))] (fun v m=>v=.w (.agg (Aq (Yq (d0i key counter nonce))))):=by
 obtain ⟨Wi,hW⟩: ∃ Wi,d0i key counter nonce=Wi:=⟨_,rfl⟩
 rw [hW]
 have F0:=And.intro hk<|And.intro hn<|And.intro @Ew<|And.intro (@List.length_drop UInt8)<|(@List.length_take UInt8)
 refine Ct.k Tryd.func36 rfl Tryd.ntmps36 (congrArg Array.toList Tryd.results36) (by simp) fun w0 ro=>?_
 refine Dx fun zZ zhZ=>?_
 iterate 249 first
  |(refine Dj (x:=.seq (.region 3 _ _) _) [8,20,21,22,23,24,25,26,27,28,29] ?_;simp only [go_sem,St.forget,fgt];refine Hw fun zN zM zhN zhM=>?_)
  |(refine Dj (x:=.seq (.region 8 _ _) _) [9,31,32,33,34,35,36,37,38,39,40] ?_;simp only [go_sem,St.forget,fgt];refine Hw fun zN zM zhN zhM=>?_)
  |refine Hw fun zN zM zhN zhM=>?_
  |refine zhK _ ?_
  |(refine zhN _ ?_;clear zhN zhM)
  |(refine Dz fun zK zhK=>?_;simp only [go_sem,F0,Int.reduceTMod];(repeat' (first|apply And.intro|intro _)))
  |(refine Cv fun zK zhK=>?_;simp only [go_sem,F0,Int.reduceTMod];(repeat' (first|apply And.intro|intro _)))
  |refine Cx fun zB zbn zbx zbr zbi=>?_
  |refine Cq ?_
  |(refine zbn _ ?_;clear zbn zbx zbr zbi)
  |(refine zhM _ _ ?_;clear zhN zhM)
  |refine Fx ?_
  |(refine zbx _ ?_;clear zbn zbx zbr zbi)
  |refine Fw (x:=.seq (.region 3 _ _) _) 9 ?_
  |refine Fw (x:=.seq (.region 8 _ _) _) 4 ?_
  |((all_goals refine Cy (fun k=>k) (fun _ _=>rfl) (by first|rfl|(simp only [go_sem,F0,Int.reduceTMod]<;>rfl)) ((d2n _ (by first|(simp [hk];done)|(simp [hn];done)|(simp only [List.length_drop,List.length_take,hk,hn];omega)) _).plain fun _ _ h=>h) ?_);(all_goals (rintro v m ⟨hR,hm⟩;subst hR;subst hm));(all_goals refine And.intro (by first|rfl|simp only [go_sem,F0,Int.reduceTMod]) (And.intro (by first|rfl|simp only [go_sem,F0,Int.reduceTMod]) ?_));(all_goals simp only [go_sem,F0,Int.reduceTMod]);(all_goals repeat' (first|apply And.intro|intro _)))
  |refine Bq fun zN zM zhN zhM=>?_
  |(refine Bz ?_ ?_;focus (first|rfl|(simp [go_sem,F0,Int.reduceTMod];done)))
  |(refine Bj ?_ ?_;focus (first|rfl|(simp [go_sem,F0,Int.reduceTMod];done)))
 refine Fq [0,1,2,3,5,8,9,17,18,19,20,21,22,23,24,25,26,27,28,29,30,31,32,33,34,35,36,37,38,39,40,41] ?_
 simp only [Gz,Gj,Fj,List.contains_cons,List.contains_nil,Nat.reduceBEq,beq_self_eq_true,Bool.or_false,Bool.or_true,Bool.true_or,Bool.false_or,Bool.false_eq_true,reduceIte]
 refine Ik (fun y=>[(42,.w (.one (.pl (.i ((y.1:Nat):Int)))))]) (fun y=>[(7,⟨false,(Zy y.1 Wi).ls⟩)]) (fun y=>10-y.1) (⟨0,Nat.zero_le _⟩:{y:Nat//y≤10}) ?_ ?_ ?_
 · (simp only [go_sem,leX,List.cons_append,List.nil_append];try simp)
 · (simp only [Zy,go_sem,leX,List.cons_append,List.nil_append];first|done|rfl|(subst hW;simp [Zy,d0i,W16.ls,leX,look];done))
 intro ⟨k,hk9⟩ zN zM zhN zhM
 simp only [List.cons_append,List.nil_append]
 have yN0:=zhN
 rcases Nat.lt_or_ge k 10 with hlt|hge
 · have hcq:((k:Nat):Int)<10:=by omega
   have hs1:Go.RowKit.wrap64 (((k:Nat):Int)+1)=((k+1:Nat):Int):=Kv (by omega) (by omega)
   obtain ⟨q,hq⟩: ∃ q,Zy k Wi=q:=⟨_,rfl⟩
   simp only [hq,W16.ls_l]
   have F0:=And.intro hcq<|And.intro hs1<|F0
   iterate 12 first
    |(refine Dz fun zK zhK=>?_;simp only [go_sem,F0,Int.reduceTMod];(repeat' (first|apply And.intro|intro _)))
    |refine zhK _ ?_
    |refine Cx fun zB zbn zbx zbr zbi=>?_
    |refine Cq ?_
    |(refine zhN _ ?_;clear zhN zhM)
    |refine Bq fun zN zM zhN zhM=>?_
    |(refine Bz ?_ ?_;focus (first|rfl|(simp [go_sem,F0,Int.reduceTMod];done)))
   refine Fq [0,1,2,3,5,8,9,17,18,19,20,21,22,23,24,25,26,27,28,29,30,31,32,33,34,35,36,37,38,39,40,41,43] ?_
   simp only [Gz,Gj,Fj,List.contains_cons,List.contains_nil,Nat.reduceBEq,beq_self_eq_true,Bool.or_false,Bool.or_true,Bool.true_or,Bool.false_or,Bool.false_eq_true,reduceIte]
   refine Ik (fun y=>[(44,.w (.one (.pl (.i ((y.1:Nat):Int)))))]) (fun y=>[(7,⟨false,Jq (n0n q.l y.1)⟩)]) (fun y=>4-y.1) (⟨0,Nat.zero_le _⟩:{y:Nat//y≤4}) ?_ ?_ ?_
   · (simp only [go_sem,leX,List.cons_append,List.nil_append,F0];try simp)
   · (simp only [go_sem,leX,n0n,List.cons_append,List.nil_append,F0];try simp)
   intro yy zN zM zhN zhM
   simp only [List.cons_append,List.nil_append]
   have yN1:=zhN
   obtain ⟨i,hi4⟩:=yy
   rcases Nat.lt_or_eq_of_le hi4 with hli|rfl
   · have hcq:((i:Nat):Int)<4:=by omega
     have hi16:i<16:=by omega
     obtain ⟨s,hs⟩: ∃ s,n0n q.l i=s:=⟨_,rfl⟩
     have hsl:s.length=16:=by rw [←hs,n0m];exact rfl
     have hfin:n0n q.l (i+1)=Nq s i (4+i) (8+i) (12+i):=by rw [n0n,hs]
     have hz:=t0n s hsl i (4+i) (8+i) (12+i) (by omega) (by omega) (by omega) (by omega)
     simp only [hs]
     have F0:=And.intro hcq<|And.intro u0l<|And.intro hfin<|And.intro hsl<|And.intro (wl4 hi16)<|And.intro (wl8 hi16)<|And.intro (d2f hi16)<|And.intro (wp1 hi16)<|F0
     have cq:=And.intro (CtM.ch [(500000,7)] (hz))<|trivial
     have zL:=fun S2=>yN1 ⟨i+1,hli⟩ S2 (by exact Nat.sub_lt_sub_left hli (Nat.lt_succ_self i))
     exact HT.run2
   · obtain ⟨c,hc⟩: ∃ c,n0n q.l 4=c:=⟨_,rfl⟩
     have hcl:c.length=16:=by rw [←hc,n0m];rfl
     have hcc:=(l0p q).symm.trans hc
     simp only [hc]
     iterate 12 first
      |(refine Dz fun zK zhK=>?_;simp only [go_sem,F0,Int.reduceTMod];(repeat' (first|apply And.intro|intro _)))
      |refine zhK _ ?_
      |(refine zhM _ _ ?_;clear zhN zhM)
      |refine Fx ?_
      |(refine zbx _ ?_;clear zbn zbx zbr zbi)
      |(refine zhN _ ?_;clear zhN zhM)
      |refine Cx fun zB zbn zbx zbr zbi=>?_
      |refine Bq fun zN zM zhN zhM=>?_
      |(refine Bj ?_ ?_;focus (first|rfl|(simp [go_sem,F0,Int.reduceTMod];done)))
     refine Fq [0,1,2,3,5,8,9,11,17,18,19,20,21,22,23,24,25,26,27,28,29,30,31,32,33,34,35,36,37,38,39,40,41,43,44,45,46,47,48,49,50,51,52,53,54,55] ?_
     simp only [Gz,Gj,Fj,List.contains_cons,List.contains_nil,Nat.reduceBEq,beq_self_eq_true,Bool.or_false,Bool.or_true,Bool.true_or,Bool.false_or,Bool.false_eq_true,reduceIte]
     refine Ik (fun y=>[(56,.w (.one (.pl (.i ((y.1:Nat):Int)))))]) (fun y=>[(7,⟨false,Jq (n0h c y.1)⟩)]) (fun y=>4-y.1) (⟨0,Nat.zero_le _⟩:{y:Nat//y≤4}) ?_ ?_ ?_
     · (simp only [go_sem,leX,List.cons_append,List.nil_append,F0];try simp)
     · (simp only [go_sem,leX,n0h,List.cons_append,List.nil_append,F0];try simp)
     intro yy zN zM zhN zhM
     simp only [List.cons_append,List.nil_append]
     have yN2:=zhN
     obtain ⟨i,hi4⟩:=yy
     rcases Nat.lt_or_eq_of_le hi4 with hli|rfl
     · have hcq:((i:Nat):Int)<4:=by omega
       have hi16:i<16:=by omega
       obtain ⟨s,hs⟩: ∃ s,n0h c i=s:=⟨_,rfl⟩
       have hsl:s.length=16:=by rw [←hs,u0w];exact hcl
       have hfin:n0h c (i+1)=Nq s i (4+(i+1)%4) (8+(i+2)%4) (12+(i+3)%4):=by rw [n0h,hs]
       have hz:=t0n s hsl i (4+(i+1)%4) (8+(i+2)%4) (12+(i+3)%4) (by omega) (by omega) (by omega) (by omega)
       simp only [hs]
       have F0:=And.intro hcq<|And.intro u0l<|And.intro hfin<|And.intro hsl<|And.intro (wp1 hi16)<|And.intro (wp2 hi16)<|And.intro (wp3 hi16)<|And.intro tm4<|And.intro (wl4 (lt4 (n:=i+1)))<|And.intro (wl8 (lt4 (n:=i+2)))<|And.intro (d2f (lt4 (n:=i+3)))<|F0
       have cq:=And.intro (CtM.ch [(500000,7)] (hz))<|trivial
       have zL:=fun S2=>yN2 ⟨i+1,hli⟩ S2 (by exact Nat.sub_lt_sub_left hli (Nat.lt_succ_self i))
       exact HT.run2
     · have hfin:(Zy (k+1) Wi).ls=Jq (n0h c 4):=by rw [Zy,hq,W16.ls_l,←n0g,hcc]
       have F0:=And.intro hfin<|F0
       have zL:=fun S2=>yN0 ⟨k+1,hlt⟩ S2 (by (exact Nat.sub_lt_sub_left hlt (Nat.lt_succ_self k)))
       exact HT.w
 · obtain rfl:k=10:=by omega
   have hcq:¬((10:Nat):Int)<10:=by omega
   obtain ⟨v,hv⟩: ∃ v,Zy 10 Wi=v:=⟨_,rfl⟩
   simp only [hv]
   have F0:=And.intro hcq<|F0
   iterate 15 first
    |(refine Dz fun zK zhK=>?_;simp only [go_sem,F0,Int.reduceTMod];(repeat' (first|apply And.intro|intro _)))
    |refine zhK _ ?_
    |(refine zhM _ _ ?_;clear zhN zhM)
    |refine Fx ?_
    |(refine zbx _ ?_;clear zbn zbx zbr zbi)
    |(refine zhN _ ?_;clear zhN zhM)
    |refine Cx fun zB zbn zbx zbr zbi=>?_
    |refine Bq fun zN zM zhN zhM=>?_
    |(refine Bj ?_ ?_;focus (first|rfl|(simp [go_sem,F0,Int.reduceTMod];done)))
   refine Fq [0,1,2,3,5,8,9,11,12,17,18,19,20,21,22,23,24,25,26,27,28,29,30,31,32,33,34,35,36,37,38,39,40,41,42,43,44,45,46,47,48,49,50,51,52,53,54,55,56,57,58,59,60,61,62,63,64,65,66,67,68,69,70,71,72,73,74] ?_
   simp only [Gz,Gj,Fj,List.contains_cons,List.contains_nil,Nat.reduceBEq,beq_self_eq_true,Bool.or_false,Bool.or_true,Bool.true_or,Bool.false_or,Bool.false_eq_true,reduceIte]
   refine Ik (fun y=>[(75,.w (.one (.pl (.i ((y.1.1:Nat):Int)))))]) (fun y=>[(7,⟨false,Jq v.l⟩),(10,⟨false,Jq Wi.l⟩),(13,⟨false,Aq y.1.2⟩)]) (fun y=>16-y.1.1) (⟨(0,List.replicate 64 0),Nat.zero_le _,by simp,by simp⟩:{y:Nat×List UInt8//y.1≤16∧y.2.length=64∧y.2.take (4*y.1)++z0a (v.l.drop y.1) (Wi.l.drop y.1)=z0a v.l Wi.l}) ?_ ?_ ?_
   · (simp only [go_sem,leX,List.cons_append,List.nil_append];try simp)
   · (simp only [go_sem,leX,List.cons_append,List.nil_append];first|done|rfl|(subst hW;simp [W16.ls,W16.l,Jq,d0i,leX,look];done))
   intro yy zN zM zhN zhM
   simp only [List.cons_append,List.nil_append]
   have yN1:=zhN
   obtain ⟨⟨i,q⟩,hi,hq,hz⟩:=yy
   simp only at hi hq hz
   have hvl:v.l.length=16:=rfl
   have hwl:Wi.l.length=16:=rfl
   rcases Nat.lt_or_ge i 16 with hlt|hge
   · obtain ⟨a,ha⟩: ∃ a,v.l.getD i 0=a:=⟨_,rfl⟩
     obtain ⟨b,hb⟩: ∃ b,Wi.l.getD i 0=b:=⟨_,rfl⟩
     have h1:=c0f (l:=v.l) (i:=i) (by omega)
     have h2:=c0f (l:=Wi.l) (i:=i) (by omega)
     rw [ha] at h1
     rw [hb] at h2
     have hda:=c0q (l:=v.l) (j:=i) (by omega)
     have hdb:=c0q (l:=Wi.l) (j:=i) (by omega)
     rw [ha] at hda
     rw [hb] at hdb
     rw [hda,hdb,z0a,e2k] at hz
     have hl1:=a0e v.l
     have hl2:=a0e Wi.l
     rw [hvl] at hl1
     rw [hwl] at hl2
     have hcq:((i:Nat):Int)<16:=by omega
     have hc0:(0:Int)≤((i:Nat):Int):=by omega
     have hk2:i+1≤16:=by omega
     obtain ⟨b0,hb0⟩: ∃ x,(a0f (a+b) 0).toUInt8=x:=⟨_,rfl⟩
     obtain ⟨b1,hb1⟩: ∃ x,(a0f (a+b) 8).toUInt8=x:=⟨_,rfl⟩
     obtain ⟨b2,hb2⟩: ∃ x,(a0f (a+b) 16).toUInt8=x:=⟨_,rfl⟩
     obtain ⟨b3,hb3⟩: ∃ x,(a0f (a+b) 24).toUInt8=x:=⟨_,rfl⟩
     rw [hb0,hb1,hb2,hb3] at hz
     obtain ⟨r1,hr1⟩: ∃ r,q.set (4*i) b0=r:=⟨_,rfl⟩
     obtain ⟨r2,hr2⟩: ∃ r,r1.set (4*i+1) b1=r:=⟨_,rfl⟩
     obtain ⟨r3,hr3⟩: ∃ r,r2.set (4*i+2) b2=r:=⟨_,rfl⟩
     obtain ⟨r4,hr4⟩: ∃ r,r3.set (4*i+3) b3=r:=⟨_,rfl⟩
     have g1:r1.length=64:=by rw [←hr1];simp [hq]
     have g2:r2.length=64:=by rw [←hr2];simp [g1]
     have g3:r3.length=64:=by rw [←hr3];simp [g2]
     have g4:r4.length=64:=by rw [←hr4];simp [g3]
     have p0:=m0h (q:=q) (j:=4*i) b0 (by omega)
     have p1:=m0h (q:=r1) (j:=4*i+1) b1 (by omega)
     have p2:=m0h (q:=r2) (j:=4*i+2) b2 (by omega)
     have p3:=m0h (q:=r3) (j:=4*i+3) b3 (by omega)
     rw [hr1] at p0
     rw [hr2] at p1
     rw [hr3] at p2
     rw [hr4] at p3
     have n1:r4.take (4*(i+1))++z0a (v.l.drop (i+1)) (Wi.l.drop (i+1))=z0a v.l Wi.l:=by
      have:=set4 (q:=q) (j:=4*i) (by omega) b0 b1 b2 b3
      rw [hr1,hr2,hr3,hr4] at this
      rw [←hz,Nat.mul_add,this,List.append_assoc]
     have d0:(0:Int)≤((4*i:Nat):Int)∧((4*i:Nat):Int)<64∧(0:Int)≤((4*i+1:Nat):Int)∧((4*i+1:Nat):Int)<64∧(0:Int)≤((4*i+2:Nat):Int)∧((4*i+2:Nat):Int)<64∧(0:Int)≤((4*i+3:Nat):Int)∧((4*i+3:Nat):Int)<64:=by omega
     have d1:4*i+1≤64∧4*i+1+1≤64∧4*i+2+1≤64∧4*i+3+1≤64:=by omega
     obtain ⟨hs1,hw8,hw4,hw5,hw6,hw7⟩:Go.RowKit.wrap64 (((i:Nat):Int)+1)=((i+1:Nat):Int)∧Go.RowKit.wrap64 (((4*i:Nat):Int)+0)=((4*i:Nat):Int)∧Go.RowKit.wrap64 (4*((i:Nat):Int))=((4*i:Nat):Int)∧Go.RowKit.wrap64 (((4*i:Nat):Int)+1)=((4*i+1:Nat):Int)∧Go.RowKit.wrap64 (((4*i:Nat):Int)+2)=((4*i+2:Nat):Int)∧Go.RowKit.wrap64 (((4*i:Nat):Int)+3)=((4*i+3:Nat):Int):=⟨Kv (by omega) (by omega),Kv (by omega) (by omega),Kv (by omega) (by omega),Kv (by omega) (by omega),Kv (by omega) (by omega),Kv (by omega) (by omega)⟩
     have F0:=And.intro h1<|And.intro h2<|And.intro hl1<|And.intro hl2<|And.intro hcq<|And.intro hc0<|And.intro hk2<|And.intro hb0<|And.intro hb1<|And.intro hb2<|And.intro hb3<|And.intro hq<|And.intro g1<|And.intro g2<|And.intro g3<|And.intro g4<|And.intro p0<|And.intro p1<|And.intro p2<|And.intro p3<|And.intro d0<|And.intro d1<|And.intro hs1<|And.intro hw4<|And.intro hw5<|And.intro hw6<|And.intro hw7<|And.intro hw8<|F0
     iterate 101 first
      |(refine Dj (x:=.seq (.region 32 _ _) _) [16,86,87,88,89,90,91,92,93,94,95,96,97,98] ?_;simp only [go_sem,St.forget,fgt];refine Hw fun zN zM zhN zhM=>?_)
      |refine Hw fun zN zM zhN zhM=>?_
      |refine zhK _ ?_
      |(refine zhN _ ?_;clear zhN zhM)
      |(refine Dz fun zK zhK=>?_;simp only [go_sem,F0,Int.reduceTMod];(repeat' (first|apply And.intro|intro _)))
      |(refine Cv fun zK zhK=>?_;simp only [go_sem,F0,Int.reduceTMod];(repeat' (first|apply And.intro|intro _)))
      |refine Cx fun zB zbn zbx zbr zbi=>?_
      |refine Cq ?_
      |(refine zbn _ ?_;clear zbn zbx zbr zbi)
      |(refine zhM _ _ ?_;clear zhN zhM)
      |(refine d0c (id:=30) [78,79,80,81,82,83,84,15] [0,1,3,0,8,24,63,127] [] mixed (by kernel_rfl) (by simp only [go_sem]) fun zK zhK=>?_;simp only [go_sem,F0,Int.reduceTMod];(repeat' (first|apply And.intro|intro _)))
      |refine zhK _ _ trivial ?_
      |refine Fw (x:=.seq (.region 32 _ _) _) 5 ?_
      |refine Fx ?_
      |(refine zbx _ ?_;clear zbn zbx zbr zbi)
      |refine Bq fun zN zM zhN zhM=>?_
      |(refine Bz ?_ ?_;focus (first|rfl|(simp [go_sem,F0,Int.reduceTMod];done)))
      |(refine Bj ?_ ?_;focus (first|rfl|(simp [go_sem,F0,Int.reduceTMod];done)))
     refine zhN ⟨(i+1,r4),hlt,g4,n1⟩ _ ?_ ?_ ?_
     · (exact Nat.sub_lt_sub_left hlt (Nat.lt_succ_self i))
     · (simp only [go_sem,leX,List.cons_append,List.nil_append];try simp)
     · (simp only [go_sem,leX,List.cons_append,List.nil_append];try simp)
   · obtain rfl:i=16:=by omega
     have hcq:¬((16:Nat):Int)<16:=by omega
     have hfin:q=Yq Wi:=by
      rw [Yq,hv,←hz,List.drop_of_length_le (by omega),List.take_of_length_le (by omega)];simp [z0a]
     have F0:=And.intro hcq<|And.intro hq<|F0
     have zE:=congrArg (fun x=>V.w (W.agg (Aq x))) hfin
     exact HT.w
end Go.Sy
namespace Go.Sy
open Go.Proofs
attribute [local irreducible] Fz HT Cw Oj onC onE onO onG goV goA goS Qv Ey
def W16.sh (w:W16):W16:=⟨w.x0,w.x1,w.x2,w.x3,w.x5,w.x6,w.x7,w.x4,w.x10,w.x11,w.x8,w.x9,w.x15,w.x12,w.x13,w.x14⟩
def W16.unsh (w:W16):W16:=⟨w.x0,w.x1,w.x2,w.x3,w.x7,w.x4,w.x5,w.x6,w.x10,w.x11,w.x8,w.x9,w.x13,w.x14,w.x15,w.x12⟩
theorem w0c (w:W16):w.sh.col.unsh=w.diag:=rfl
theorem a2f (x0 x1 x2 x3 x4 x5 x6 x7 x8 x9 x10 x11 x12 x13 x14 x15:UInt32):
 Ct Tryd.prog 58 [.w (.agg [.pl (.u32 x0),.pl (.u32 x1),.pl (.u32 x2),.pl (.u32 x3),.pl (.u32 x4),.pl (.u32 x5),.pl (.u32 x6),.pl (.u32 x7),.pl (.u32 x8),.pl (.u32 x9),.pl (.u32 x10),.pl (.u32 x11),.pl (.u32 x12),.pl (.u32 x13),.pl (.u32 x14),.pl (.u32 x15)])] (fun v m=>v=.w (.agg (⟨x0,x1,x2,x3,x4,x5,x6,x7,x8,x9,x10,x11,x12,x13,x14,x15⟩:W16).col.ls)):=by
 refine Ct.k Tryd.func58 rfl Tryd.ntmps58 (congrArg Array.toList Tryd.results58) (by simp) fun w0 ro=>?_
 refine Dx fun zZ zhZ=>?_
 iterate 181 first
  |(refine Dj (x:=.seq (.region 2 _ _) _) [3,4,5,6,7,9,10,11,12,13,14,15,16,17,18,19,20,21,22,23,24,25,26,27,28,29,30,31,32,33,34,35,36,37,38,39,40,41,42,43,44,45,46,47,48,49,50,51,52,53,54,55,56,57,58,59,60,61,62,63,64,65,66,67,68,69,70,71] ?_;simp only [go_sem,St.forget,fgt];refine Hw fun zN zM zhN zhM=>?_)
  |refine Hw fun zN zM zhN zhM=>?_
  |refine zhK _ ?_
  |(refine Dz fun zK zhK=>?_;simp only [go_sem,Int.toNat_one];(repeat' (first|apply And.intro|intro _)))
  |(refine zhN _ ?_;clear zhN zhM)
  |(refine Cv fun zK zhK=>?_;simp only [go_sem,Int.toNat_one];(repeat' (first|apply And.intro|intro _)))
  |refine Cx fun zB zbn zbx zbr zbi=>?_
  |refine Cq ?_
  |(refine d0c (id:=4) [11,12,13,14,15,16,17,18,19,20,21,22,23,24,25,26,4,5,6,7] [0,0,3,7,0,0,48,112,0,0,768,1792,0,0,12288,28672,15,65791,200703,524287] [] mixed (by kernel_rfl) (by simp only [go_sem]) fun zK zhK=>?_;simp only [go_sem,Int.toNat_one];(repeat' (first|apply And.intro|intro _)))
  |refine zhK _ _ trivial ?_
  |(refine zbn _ ?_;clear zbn zbx zbr zbi)
  |(refine zhM _ _ ?_;clear zhN zhM)
  |refine Fw (x:=.seq (.region 2 _ _) _) 5 ?_
  |refine Fx ?_
  |(refine zbx _ ?_;clear zbn zbx zbr zbi)
  |refine Ck ?_
  |(refine zhZ _ _ ?_;simp only [go_sem,Int.toNat_one];(all_goals (rfl)))
  |((all_goals refine Cy (fun k=>k) (fun _ _=>rfl) (by first|rfl|(simp only [go_sem,Int.toNat_one]<;>rfl)) ((m0q _).plain fun _ _ h=>h) ?_);(all_goals (rintro v m ⟨hR,hm⟩;subst hR;subst hm));(all_goals refine And.intro (by first|rfl|simp only [go_sem,Int.toNat_one]) (And.intro (by first|rfl|simp only [go_sem,Int.toNat_one]) ?_));(all_goals simp only [go_sem,Int.toNat_one]);(all_goals repeat' (first|apply And.intro|intro _)))
  |((all_goals refine Cy (fun k=>k) (fun _ _=>rfl) (by first|rfl|(simp only [go_sem,Int.toNat_one]<;>rfl)) ((i1h _).plain fun _ _ h=>h) ?_);(all_goals (rintro v m ⟨hR,hm⟩;subst hR;subst hm));(all_goals refine And.intro (by first|rfl|simp only [go_sem,Int.toNat_one]) (And.intro (by first|rfl|simp only [go_sem,Int.toNat_one]) ?_));(all_goals simp only [go_sem,Int.toNat_one]);(all_goals repeat' (first|apply And.intro|intro _)))
  |((all_goals refine Cy (fun k=>k) (fun _ _=>rfl) (by first|rfl|(simp only [go_sem,Int.toNat_one]<;>rfl)) ((r1x _).plain fun _ _ h=>h) ?_);(all_goals (rintro v m ⟨hR,hm⟩;subst hR;subst hm));(all_goals refine And.intro (by first|rfl|simp only [go_sem,Int.toNat_one]) (And.intro (by first|rfl|simp only [go_sem,Int.toNat_one]) ?_));(all_goals simp only [go_sem,Int.toNat_one]);(all_goals repeat' (first|apply And.intro|intro _)))
  |((all_goals refine Cy (fun k=>k) (fun _ _=>rfl) (by first|rfl|(simp only [go_sem,Int.toNat_one]<;>rfl)) ((r1y _).plain fun _ _ h=>h) ?_);(all_goals (rintro v m ⟨hR,hm⟩;subst hR;subst hm));(all_goals refine And.intro (by first|rfl|simp only [go_sem,Int.toNat_one]) (And.intro (by first|rfl|simp only [go_sem,Int.toNat_one]) ?_));(all_goals simp only [go_sem,Int.toNat_one]);(all_goals repeat' (first|apply And.intro|intro _)))
  |refine Bq fun zN zM zhN zhM=>?_
  |(refine Bz ?_ ?_;focus (first|rfl|(simp [go_sem,Int.toNat_one];done)))
  |(refine Bj ?_ ?_;focus (first|rfl|(simp [go_sem,Int.toNat_one];done)))
theorem m0b (x0 x1 x2 x3 x4 x5 x6 x7 x8 x9 x10 x11 x12 x13 x14 x15:UInt32):
 Ct Tryd.prog 57 [.w (.agg [.pl (.u32 x0),.pl (.u32 x1),.pl (.u32 x2),.pl (.u32 x3),.pl (.u32 x4),.pl (.u32 x5),.pl (.u32 x6),.pl (.u32 x7),.pl (.u32 x8),.pl (.u32 x9),.pl (.u32 x10),.pl (.u32 x11),.pl (.u32 x12),.pl (.u32 x13),.pl (.u32 x14),.pl (.u32 x15)]),.w (.one (.pl (.i 1)))] (fun v m=>v=.w (.agg (⟨x0,x1,x2,x3,x4,x5,x6,x7,x8,x9,x10,x11,x12,x13,x14,x15⟩:W16).sh.ls)):=by
 refine Ct.k Tryd.func57 rfl Tryd.ntmps57 (congrArg Array.toList Tryd.results57) (by simp) fun w0 ro=>?_
 refine Dx fun zZ zhZ=>?_
 iterate 427 first
  |(refine Dj (x:=.seq (.region 6 _ _) _) [7,12,13,14,15,16,17,18,19,20,21,22,23,24,25,26,27,28,29] ?_;simp only [go_sem,St.forget,fgt];refine Hw fun zN zM zhN zhM=>?_)
  |(refine Dj (x:=.seq (.region 3 _ _) _) [6,7,9,10,11,12,13,14,15,16,17,18,19,20,21,22,23,24,25,26,27,28,29,30] ?_;simp only [go_sem,St.forget,fgt];refine Hw fun zN zM zhN zhM=>?_)
  |refine Hw fun zN zM zhN zhM=>?_
  |refine zhK _ ?_
  |(refine zhN _ ?_;clear zhN zhM)
  |(refine Dz fun zK zhK=>?_;simp only [go_sem,Int.reduceTMod,Int.toNat_one,Int.mul_zero];(repeat' (first|apply And.intro|intro _)))
  |refine Cx fun zB zbn zbx zbr zbi=>?_
  |refine Cq ?_
  |(refine zbn _ ?_;clear zbn zbx zbr zbi)
  |(refine Cv fun zK zhK=>?_;simp only [go_sem,Int.reduceTMod,Int.toNat_one,Int.mul_zero];(repeat' (first|apply And.intro|intro _)))
  |(refine Kk (id:=8) [14,15,16,17,18,19,20,21,22,23,24,25,26,27,28] [0,0,0,0,8,0,0,96,248,504,4,2044,4092,1,16383,32767] [] mixed (by kernel_rfl) (by simp only [go_sem]) fun zK zhK=>?_;simp only [go_sem,Int.reduceTMod,Int.toNat_one,Int.mul_zero];(repeat' (first|apply And.intro|intro _)))
  |refine zhK _ _ trivial ?_
  |(refine zhM _ _ ?_;clear zhN zhM)
  |refine Fx ?_
  |(refine zbx _ ?_;clear zbn zbx zbr zbi)
  |refine Fw (x:=.seq (.region 6 _ _) _) 5 ?_
  |refine Fw (x:=.seq (.region 3 _ _) _) 5 ?_
  |refine Ck ?_
  |(refine zhZ _ _ ?_;simp only [go_sem,Int.reduceTMod,Int.toNat_one,Int.mul_zero];(all_goals (rfl)))
  |refine Bq fun zN zM zhN zhM=>?_
  |(refine Bz ?_ ?_;focus (first|rfl|(simp [go_sem,Int.reduceTMod,Int.toNat_one,Int.mul_zero];done)))
  |(refine Bj ?_ ?_;focus (first|rfl|(simp [go_sem,Int.reduceTMod,Int.toNat_one,Int.mul_zero];done)))
theorem m0a (x0 x1 x2 x3 x4 x5 x6 x7 x8 x9 x10 x11 x12 x13 x14 x15:UInt32):
 Ct Tryd.prog 57 [.w (.agg [.pl (.u32 x0),.pl (.u32 x1),.pl (.u32 x2),.pl (.u32 x3),.pl (.u32 x4),.pl (.u32 x5),.pl (.u32 x6),.pl (.u32 x7),.pl (.u32 x8),.pl (.u32 x9),.pl (.u32 x10),.pl (.u32 x11),.pl (.u32 x12),.pl (.u32 x13),.pl (.u32 x14),.pl (.u32 x15)]),.w (.one (.pl (.i (-1))))] (fun v m=>v=.w (.agg (⟨x0,x1,x2,x3,x4,x5,x6,x7,x8,x9,x10,x11,x12,x13,x14,x15⟩:W16).unsh.ls)):=by
 refine Ct.k Tryd.func57 rfl Tryd.ntmps57 (congrArg Array.toList Tryd.results57) (by simp) fun w0 ro=>?_
 refine Dx fun zZ zhZ=>?_
 iterate 427 first
  |(refine Dj (x:=.seq (.region 6 _ _) _) [7,12,13,14,15,16,17,18,19,20,21,22,23,24,25,26,27,28,29] ?_;simp only [go_sem,St.forget,fgt];refine Hw fun zN zM zhN zhM=>?_)
  |(refine Dj (x:=.seq (.region 3 _ _) _) [6,7,9,10,11,12,13,14,15,16,17,18,19,20,21,22,23,24,25,26,27,28,29,30] ?_;simp only [go_sem,St.forget,fgt];refine Hw fun zN zM zhN zhM=>?_)
  |refine Hw fun zN zM zhN zhM=>?_
  |refine zhK _ ?_
  |(refine zhN _ ?_;clear zhN zhM)
  |(refine Dz fun zK zhK=>?_;simp only [go_sem,Int.reduceTMod,Int.toNat_one,Int.mul_zero];(repeat' (first|apply And.intro|intro _)))
  |refine Cx fun zB zbn zbx zbr zbi=>?_
  |refine Cq ?_
  |(refine zbn _ ?_;clear zbn zbx zbr zbi)
  |(refine Cv fun zK zhK=>?_;simp only [go_sem,Int.reduceTMod,Int.toNat_one,Int.mul_zero];(repeat' (first|apply And.intro|intro _)))
  |(refine Kk (id:=8) [14,15,16,17,18,19,20,21,22,23,24,25,26,27,28] [0,0,0,0,8,0,0,96,248,504,4,2044,4092,1,16383,32767] [] mixed (by kernel_rfl) (by simp only [go_sem]) fun zK zhK=>?_;simp only [go_sem,Int.reduceTMod,Int.toNat_one,Int.mul_zero];(repeat' (first|apply And.intro|intro _)))
  |refine zhK _ _ trivial ?_
  |(refine zhM _ _ ?_;clear zhN zhM)
  |refine Fx ?_
  |(refine zbx _ ?_;clear zbn zbx zbr zbi)
  |refine Fw (x:=.seq (.region 6 _ _) _) 5 ?_
  |refine Fw (x:=.seq (.region 3 _ _) _) 5 ?_
  |refine Ck ?_
  |(refine zhZ _ _ ?_;simp only [go_sem,Int.reduceTMod,Int.toNat_one,Int.mul_zero];(all_goals (rfl)))
  |refine Bq fun zN zM zhN zhM=>?_
  |(refine Bz ?_ ?_;focus (first|rfl|(simp [go_sem,Int.reduceTMod,Int.toNat_one,Int.mul_zero];done)))
  |(refine Bj ?_ ?_;focus (first|rfl|(simp [go_sem,Int.reduceTMod,Int.toNat_one,Int.mul_zero];done)))
theorem z0w (w:W16):Ct Tryd.prog 58 [.w (.agg w.ls)] (fun v m=>v=.w (.agg w.col.ls)):=a2f w.x0 w.x1 w.x2 w.x3 w.x4 w.x5 w.x6 w.x7 w.x8 w.x9 w.x10 w.x11 w.x12 w.x13 w.x14 w.x15
theorem b1j (w:W16):Ct Tryd.prog 57 [.w (.agg w.ls),.w (.one (.pl (.i 1)))] (fun v m=>v=.w (.agg w.sh.ls)):=m0b w.x0 w.x1 w.x2 w.x3 w.x4 w.x5 w.x6 w.x7 w.x8 w.x9 w.x10 w.x11 w.x12 w.x13 w.x14 w.x15
theorem s0k (w:W16):Ct Tryd.prog 57 [.w (.agg w.ls),.w (.one (.pl (.i (-1))))] (fun v m=>v=.w (.agg w.unsh.ls)):=m0a w.x0 w.x1 w.x2 w.x3 w.x4 w.x5 w.x6 w.x7 w.x8 w.x9 w.x10 w.x11 w.x12 w.x13 w.x14 w.x15
end Go.Sy
namespace Go.Sy
open Go.Proofs
attribute [local irreducible] Fz HT Cw Oj onC onE onO onG goV goA goS Qv Ey
def d2h (al:List UInt8):W16:=⟨(lev ((al.drop 0).take 4)).toUInt32,(lev ((al.drop 4).take 4)).toUInt32,(lev ((al.drop 8).take 4)).toUInt32,(lev ((al.drop 12).take 4)).toUInt32,(lev ((al.drop 16).take 4)).toUInt32,(lev ((al.drop 20).take 4)).toUInt32,(lev ((al.drop 24).take 4)).toUInt32,(lev ((al.drop 28).take 4)).toUInt32,(lev ((al.drop 32).take 4)).toUInt32,(lev ((al.drop 36).take 4)).toUInt32,(lev ((al.drop 40).take 4)).toUInt32,(lev ((al.drop 44).take 4)).toUInt32,(lev ((al.drop 48).take 4)).toUInt32,(lev ((al.drop 52).take 4)).toUInt32,(lev ((al.drop 56).take 4)).toUInt32,(lev ((al.drop 60).take 4)).toUInt32⟩
theorem s0f {l:List UInt8} (h:4≤l.length):(lev (l.take 4)).toUInt32=d0g l:=by
 match l,h with
 |a::b::c::d::r,_=>
  have ha:=a.toNat_lt
  have hb:=b.toNat_lt
  have hc:=c.toNat_lt
  have hd:=d.toNat_lt
  have s: ∀ (x:UInt8) (k:Nat),k≤24→(Qq x.toUInt32 k).toNat=x.toNat*2 ^ k:=fun x k hk=>by
   have hx:=x.toNat_lt
   have h2:2 ^ k≤2 ^ 24:=Nat.pow_le_pow_right (by decide) hk
   have h3:x.toNat*2 ^ k≤255*2 ^ 24:=Nat.mul_le_mul (by omega) h2
   simp only [Qq,UInt32.toNat_ofNat',UInt8.toNat_toUInt32]
   exact Nat.mod_eq_of_lt (by omega)
  have o1:(a.toUInt32|||Qq b.toUInt32 8).toNat=a.toNat+b.toNat*256:=by
   rw [UInt32.toNat_or,s b 8 (by decide),UInt8.toNat_toUInt32,Nat.or_comm,Nat.mul_comm,←Nat.two_pow_add_eq_or_of_lt (i:=8) ha];omega
  have o2:(a.toUInt32|||Qq b.toUInt32 8|||Qq c.toUInt32 16).toNat=a.toNat+b.toNat*256+c.toNat*65536:=by
   rw [UInt32.toNat_or,s c 16 (by decide),o1,Nat.or_comm,Nat.mul_comm,←Nat.two_pow_add_eq_or_of_lt (i:=16) (by omega)];omega
  have o3:(a.toUInt32|||Qq b.toUInt32 8|||Qq c.toUInt32 16|||Qq d.toUInt32 24).toNat=a.toNat+b.toNat*256+c.toNat*65536+d.toNat*16777216:=by
   rw [UInt32.toNat_or,s d 24 (by decide),o2,Nat.or_comm,Nat.mul_comm,←Nat.two_pow_add_eq_or_of_lt (i:=24) (by omega)];omega
  apply UInt32.toNat_inj.mp
  show _=(a.toUInt32|||Qq b.toUInt32 8|||Qq c.toUInt32 16|||Qq d.toUInt32 24).toNat
  rw [o3,UInt64.toNat_toUInt32]
  show (lev [a,b,c,d]).toNat%_=_
  rw [Rx (by simp)]
  simp only [leN];omega
theorem h1u (c:UInt32):(lev (Mk c.toUInt64 4)).toUInt32=c:=by
 apply UInt32.toNat_inj.mp
 have h:=c.toNat_lt
 rw [UInt64.toNat_toUInt32,Rx (by rw [Av];decide),h0m,UInt32.toNat_toUInt64]
 have e:(256:Nat) ^ 4=4294967296:=rfl
 rw [e];omega
theorem g1j (key:List UInt8) (hk:key.length=32) (c:UInt32) (nonce:List UInt8) (hn:nonce.length=12):d2h (101::120::112::97::110::100::32::51::50::45::98::121::116::101::32::107::(key++Mk c.toUInt64 4++nonce))=d0i key c nonce:=by
 have lc:(Mk c.toUInt64 4).length=4:=Av _ _
 have hd: ∀ j,j≤28→(lev (((key++Mk c.toUInt64 4++nonce).drop j).take 4)).toUInt32=d0g (key.drop j):=fun j hj=>by
  rw [List.append_assoc,List.drop_append_of_le_length (by omega),List.take_append_of_le_length (by rw [List.length_drop];omega),s0f (by rw [List.length_drop];omega)]
 have h32:(key++Mk c.toUInt64 4++nonce).drop 32=Mk c.toUInt64 4++nonce:=by rw [List.append_assoc,List.drop_left' hk]
 have hcn:(lev (((key++Mk c.toUInt64 4++nonce).drop 32).take 4)).toUInt32=c:=by rw [h32,List.take_left' lc,h1u]
 have hno: ∀ j,j≤8→(lev (((key++Mk c.toUInt64 4++nonce).drop (36+j)).take 4)).toUInt32=d0g (nonce.drop j):=fun j hj=>by
  have:(key++Mk c.toUInt64 4++nonce).drop (36+j)=nonce.drop j:=by
   rw [←List.drop_drop,List.drop_left' (by rw [List.length_append,hk,lc])]
  rw [this,s0f (by rw [List.length_drop];omega)]
 generalize key++Mk c.toUInt64 4++nonce=r at*
 have e4: ∀ k,List.drop (16+k) (101::120::112::97::110::100::32::51::50::45::98::121::116::101::32::107::r)=List.drop k r:=fun k=>by rw [←List.drop_drop];rfl
 simp only [d2h,d0i,W16.mk.injEq]
 refine ⟨rfl,rfl,rfl,rfl,?_,?_,?_,?_,?_,?_,?_,?_,?_,?_,?_,?_⟩
 · rw [show 16=16+0 from rfl,e4];exact hd 0 (by decide)
 · rw [show 20=16+4 from rfl,e4];exact hd 4 (by decide)
 · rw [show 24=16+8 from rfl,e4];exact hd 8 (by decide)
 · rw [show 28=16+12 from rfl,e4];exact hd 12 (by decide)
 · rw [show 32=16+16 from rfl,e4];exact hd 16 (by decide)
 · rw [show 36=16+20 from rfl,e4];exact hd 20 (by decide)
 · rw [show 40=16+24 from rfl,e4];exact hd 24 (by decide)
 · rw [show 44=16+28 from rfl,e4];exact hd 28 (by decide)
 · rw [show 48=16+32 from rfl,e4];exact hcn
 · rw [show 52=16+36 from rfl,e4];exact hno 0 (by decide)
 · rw [show 56=16+40 from rfl,e4];exact hno 4 (by decide)
 · rw [show 60=16+44 from rfl,e4];exact hno 8 (by decide)
theorem b1b (key:List UInt8) (hk:key.length=32) (counter:UInt32) (nonce:List UInt8) (hn:nonce.length=12):
 Ct Tryd.prog 42 [.w (.agg (Aq key)),.w (.one (.pl (.u32 counter))),.w (.agg (Aq nonce))] (fun v m=>v=.w (.agg (Aq (Yq (d0i key counter nonce))))):=by
 obtain ⟨al,hal⟩: ∃ al,101::120::112::97::110::100::32::51::50::45::98::121::116::101::32::107::(key++Mk counter.toUInt64 4++nonce)=al:=⟨_,rfl⟩
 obtain ⟨Wi,hW⟩: ∃ Wi,d0i key counter nonce=Wi:=⟨_,rfl⟩
 rw [hW]
 have hrW:=g1j key hk counter nonce hn
 rw [hal,hW] at hrW
 have hll:al.length=64:=by rw [←hal];simp [Av,hk,hn]
 have F0:=And.intro hk<|And.intro hn<|And.intro hal<|hll
 refine Ct.k Tryd.func42 rfl Tryd.ntmps42 (congrArg Array.toList Tryd.results42) (by simp) fun w0 ro=>?_
 refine Dx fun zZ zhZ=>?_
 iterate 332 first
  |(refine Dj (x:=.seq (.region 4 _ _) _) [9,25,26,27,28,29,30,31,32,33,34,35,36,37,38,39,40,41,42] ?_;simp only [go_sem,St.forget,fgt];refine Hw fun zN zM zhN zhM=>?_)
  |refine Hw fun zN zM zhN zhM=>?_
  |refine zhK _ ?_
  |(refine zhN _ ?_;clear zhN zhM)
  |(refine Dz fun zK zhK=>?_;simp only [go_sem,Av,Int.reduceTMod,Int.reduceTDiv,Int.toNat_one,F0];(repeat' (first|apply And.intro|intro _)))
  |refine Cx fun zB zbn zbx zbr zbi=>?_
  |refine zhK _ _ trivial ?_
  |refine Cq ?_
  |(refine Kk (id:=6) [27,28,29,30,31,32,33,34,35,36,37,38,39,40,41] [0,1,0,4,0,0,32,0,128,384,1008,2032,4080,3,16383,32767] [] mixed (by kernel_rfl) (by simp only [go_sem]) fun zK zhK=>?_;simp only [go_sem,Av,Int.reduceTMod,Int.reduceTDiv,Int.toNat_one,F0];(repeat' (first|apply And.intro|intro _)))
  |(refine zbn _ ?_;clear zbn zbx zbr zbi)
  |(refine Cv fun zK zhK=>?_;simp only [go_sem,Av,Int.reduceTMod,Int.reduceTDiv,Int.toNat_one,F0];(repeat' (first|apply And.intro|intro _)))
  |(refine zhM _ _ ?_;clear zhN zhM)
  |(refine d0c (id:=1) [14,15,16,17,18,19,20,21,22,23,7] [0,1,3,0,8,24,63,0,128,511,1023] [] mixed (by kernel_rfl) (by simp only [go_sem]) fun zK zhK=>?_;simp only [go_sem,Av,Int.reduceTMod,Int.reduceTDiv,Int.toNat_one,F0];(repeat' (first|apply And.intro|intro _)))
  |refine Fw (x:=.seq (.region 4 _ _) _) 17 ?_
  |refine Fx ?_
  |(refine zbx _ ?_;clear zbn zbx zbr zbi)
  |((all_goals refine Dv (fun k=>k) _ [] (fun _ _=>rfl) (by first|rfl|(simp only [go_sem,Av,Int.reduceTMod,Int.reduceTDiv,Int.toNat_one,F0]<;>rfl)) ((m0l _ (by first|(simp [List.length_take,List.length_drop];done)|(simp [List.length_take,List.length_drop];omega))).plain fun _ _ h=>h) ?_ ?_);(all_goals try (refine And.intro ?_ (And.intro ?_ (And.intro ?_ ?_))<;>first|rfl|simp only [go_sem]));(all_goals simp only [go_sem,Av,Int.reduceTMod,Int.reduceTDiv,Int.toNat_one,F0]);(all_goals repeat' (first|apply And.intro|intro _)))
  |((all_goals refine Dv (fun k=>k) _ [] (fun _ _=>rfl) (by first|rfl|(simp only [go_sem,Av,Int.reduceTMod,Int.reduceTDiv,Int.toNat_one,F0]<;>rfl)) ((e1e _ 4 (by decide)).plain fun _ _ h=>h) ?_ ?_);(all_goals try (refine And.intro ?_ (And.intro ?_ (And.intro ?_ ?_))<;>first|rfl|simp only [go_sem]));(all_goals simp only [go_sem,Av,Int.reduceTMod,Int.reduceTDiv,Int.toNat_one,F0]);(all_goals repeat' (first|apply And.intro|intro _)))
  |refine Bq fun zN zM zhN zhM=>?_
  |(refine Bz ?_ ?_;focus (first|rfl|(simp [go_sem,Av,Int.reduceTMod,Int.reduceTDiv,Int.toNat_one,F0];done)))
  |(refine Bj ?_ ?_;focus (first|rfl|(simp [go_sem,Av,Int.reduceTMod,Int.reduceTDiv,Int.toNat_one,F0];done)))
 refine Fq [0,1,2,3,5,7,9,14,15,16,17,18,19,20,21,22,23,24,25,26,27,28,29,30,31,32,33,34,35,36,37,38,39,40,41,42,43] ?_
 simp only [Gz,Gj,Fj,List.contains_cons,List.contains_nil,Nat.reduceBEq,beq_self_eq_true,Bool.or_false,Bool.or_true,Bool.true_or,Bool.false_or,Bool.false_eq_true,reduceIte]
 refine Ik (fun y=>[(44,.w (.one (.pl (.i ((y.1:Nat):Int)))))]) (fun y=>[(10,⟨false,(Zy y.1 Wi).ls⟩)]) (fun y=>10-y.1) (⟨0,Nat.zero_le _⟩:{y:Nat//y≤10}) ?_ ?_ ?_
 · (simp only [go_sem,leX,List.cons_append,List.nil_append];try simp)
 · (simp only [Zy,go_sem,leX,List.cons_append,List.nil_append];first|done|rfl|(rw [←hrW];simp [Zy,d2h,W16.ls,leX,look];done))
 intro ⟨k,hk9⟩ zN zM zhN zhM
 simp only [List.cons_append,List.nil_append]
 rcases Nat.lt_or_ge k 10 with hlt|hge
 · have hcq:((k:Nat):Int)<10:=by omega
   have hs1:Go.RowKit.wrap64 (((k:Nat):Int)+1)=((k+1:Nat):Int):=Kv (by omega) (by omega)
   obtain ⟨v,hv⟩: ∃ v,Zy k Wi=v:=⟨_,rfl⟩
   have hdg:=w0c v.col
   simp only [hv]
   refine Dz fun zK zhK=>?_
   simp only [go_sem,Av,Int.reduceTMod,Int.reduceTDiv,Int.toNat_one,F0,W16.ls,hcq,hs1]
   repeat' (first|apply And.intro|intro _)
   refine zhK _ ?_
   refine Bq fun zN zM zhN zhM=>?_
   (refine Bz ?_ ?_;focus (first|rfl|(simp [go_sem,Av,Int.reduceTMod,Int.reduceTDiv,Int.toNat_one,F0,W16.ls,hcq,hs1];done)))
   refine Cq ?_
   refine zhN _ ?_;clear zhN zhM
   refine Bq fun zN zM zhN zhM=>?_
   refine Cx fun zB zbn zbx zbr zbi=>?_
   refine Cv fun zK zhK=>?_
   simp only [go_sem,Av,Int.reduceTMod,Int.reduceTDiv,Int.toNat_one,F0,W16.ls,hcq,hs1]
   repeat' (first|apply And.intro|intro _)
   all_goals (refine Cy (fun k=>k) (fun _ _=>rfl) ?_ ((z0w v).plain fun _ _ h=>h) ?_;focus (first|rfl|(simp only [go_sem,Av,Int.reduceTMod,Int.reduceTDiv,Int.toNat_one,F0,W16.ls,hcq,hs1]<;>rfl)))
   all_goals (rintro v m ⟨hR,hm⟩;subst hR;subst hm)
   all_goals refine And.intro (by first|rfl|simp only [go_sem,Av,Int.reduceTMod,Int.reduceTDiv,Int.toNat_one,F0,W16.ls,hcq,hs1]) (And.intro (by first|rfl|simp only [go_sem,Av,Int.reduceTMod,Int.reduceTDiv,Int.toNat_one,F0,W16.ls,hcq,hs1]) ?_)
   all_goals simp only [go_sem,Av,Int.reduceTMod,Int.reduceTDiv,Int.toNat_one,F0,W16.ls,hcq,hs1]
   all_goals repeat' (first|apply And.intro|intro _)
   all_goals (refine Cy (fun k=>k) (fun _ _=>rfl) ?_ ((b1j v.col).plain fun _ _ h=>h) ?_;focus (first|rfl|(simp only [go_sem,Av,Int.reduceTMod,Int.reduceTDiv,Int.toNat_one,F0,W16.ls,hcq,hs1]<;>rfl)))
   all_goals (rintro v m ⟨hR,hm⟩;subst hR;subst hm)
   all_goals refine And.intro (by first|rfl|simp only [go_sem,Av,Int.reduceTMod,Int.reduceTDiv,Int.toNat_one,F0,W16.ls,hcq,hs1]) (And.intro (by first|rfl|simp only [go_sem,Av,Int.reduceTMod,Int.reduceTDiv,Int.toNat_one,F0,W16.ls,hcq,hs1]) ?_)
   all_goals simp only [go_sem,Av,Int.reduceTMod,Int.reduceTDiv,Int.toNat_one,F0,W16.ls,hcq,hs1]
   all_goals repeat' (first|apply And.intro|intro _)
   all_goals (refine Cy (fun k=>k) (fun _ _=>rfl) ?_ ((z0w v.col.sh).plain fun _ _ h=>h) ?_;focus (first|rfl|(simp only [go_sem,Av,Int.reduceTMod,Int.reduceTDiv,Int.toNat_one,F0,W16.ls,hcq,hs1]<;>rfl)))
   all_goals (rintro v m ⟨hR,hm⟩;subst hR;subst hm)
   all_goals refine And.intro (by first|rfl|simp only [go_sem,Av,Int.reduceTMod,Int.reduceTDiv,Int.toNat_one,F0,W16.ls,hcq,hs1]) (And.intro (by first|rfl|simp only [go_sem,Av,Int.reduceTMod,Int.reduceTDiv,Int.toNat_one,F0,W16.ls,hcq,hs1]) ?_)
   all_goals simp only [go_sem,Av,Int.reduceTMod,Int.reduceTDiv,Int.toNat_one,F0,W16.ls,hcq,hs1]
   all_goals repeat' (first|apply And.intro|intro _)
   all_goals (refine Cy (fun k=>k) (fun _ _=>rfl) ?_ ((s0k v.col.sh.col).plain fun _ _ h=>h) ?_;focus (first|rfl|(simp only [go_sem,Av,Int.reduceTMod,Int.reduceTDiv,Int.toNat_one,F0,W16.ls,hcq,hs1]<;>rfl)))
   all_goals (rintro v m ⟨hR,hm⟩;subst hR;subst hm)
   all_goals refine And.intro (by first|rfl|simp only [go_sem,Av,Int.reduceTMod,Int.reduceTDiv,Int.toNat_one,F0,W16.ls,hcq,hs1]) (And.intro (by first|rfl|simp only [go_sem,Av,Int.reduceTMod,Int.reduceTDiv,Int.toNat_one,F0,W16.ls,hcq,hs1]) ?_)
   all_goals simp only [go_sem,Av,Int.reduceTMod,Int.reduceTDiv,Int.toNat_one,F0,W16.ls,hcq,hs1]
   all_goals repeat' (first|apply And.intro|intro _)
   refine zhK _ ?_
   refine zbn _ ?_;clear zbn zbx zbr zbi
   refine zhN _ ?_;clear zhN zhM
   refine Cv fun zK zhK=>?_
   simp only [go_sem,Av,Int.reduceTMod,Int.reduceTDiv,Int.toNat_one,F0,W16.ls,hcq,hs1]
   repeat' (first|apply And.intro|intro _)
   refine zhK _ ?_
   refine zhN ⟨k+1,hlt⟩ _ ?_ ?_ ?_
   · (exact Nat.sub_lt_sub_left hlt (Nat.lt_succ_self k))
   · (simp only [go_sem,leX,List.cons_append,List.nil_append];try simp)
   · (simp only [Zy,hv,go_sem,leX,List.cons_append,List.nil_append];first|done|rfl|(simp [Zy,hv,leX,look];done))
 · obtain rfl:k=10:=by omega
   have hcq:¬((10:Nat):Int)<10:=by omega
   obtain ⟨v,hv⟩: ∃ v,Zy 10 Wi=v:=⟨_,rfl⟩
   simp only [hv]
   iterate 15 first
    |(refine Dz fun zK zhK=>?_;simp only [go_sem,Av,Int.reduceTMod,Int.reduceTDiv,Int.toNat_one,F0,hcq];(repeat' (first|apply And.intro|intro _)))
    |refine zhK _ ?_
    |(refine zhM _ _ ?_;clear zhN zhM)
    |refine Fx ?_
    |(refine zbx _ ?_;clear zbn zbx zbr zbi)
    |(refine zhN _ ?_;clear zhN zhM)
    |refine Cx fun zB zbn zbx zbr zbi=>?_
    |refine Bq fun zN zM zhN zhM=>?_
    |(refine Bj ?_ ?_;focus (first|rfl|(simp [go_sem,Av,Int.reduceTMod,Int.reduceTDiv,Int.toNat_one,F0,hcq];done)))
   refine Fq [0,1,2,3,5,7,9,14,15,16,17,18,19,20,21,22,23,24,25,26,27,28,29,30,31,32,33,34,35,36,37,38,39,40,41,42,43,44,45,46,47,48,49,50,51] ?_
   simp only [Gz,Gj,Fj,List.contains_cons,List.contains_nil,Nat.reduceBEq,beq_self_eq_true,Bool.or_false,Bool.or_true,Bool.true_or,Bool.false_or,Bool.false_eq_true,reduceIte]
   refine Ik (fun y=>[(52,.w (.one (.pl (.i ((y.1.1:Nat):Int))))),(11,.w (.one (.pl (.str y.1.2))))]) (fun y=>[(10,⟨false,Jq v.l⟩),(8,⟨false,Jq Wi.l⟩)]) (fun y=>16-y.1.1) (⟨(0,[]),Nat.zero_le _,rfl,by simp⟩:{y:Nat×List UInt8//y.1≤16∧y.2.length=4*y.1∧y.2++z0a (v.l.drop y.1) (Wi.l.drop y.1)=z0a v.l Wi.l}) ?_ ?_ ?_
   · (simp only [go_sem,leX,List.cons_append,List.nil_append];try simp)
   · (simp only [go_sem,leX,List.cons_append,List.nil_append];first|done|rfl|(rw [←hrW];simp [W16.ls,W16.l,Jq,d2h,leX,look];done))
   intro yy zN zM zhN zhM
   simp only [List.cons_append,List.nil_append]
   obtain ⟨⟨i,q⟩,hi,hq,hz⟩:=yy
   simp only at hi hq hz
   have hvl:v.l.length=16:=rfl
   have hwl:Wi.l.length=16:=rfl
   rcases Nat.lt_or_ge i 16 with hlt|hge
   · obtain ⟨a,ha⟩: ∃ a,v.l.getD i 0=a:=⟨_,rfl⟩
     obtain ⟨b,hb⟩: ∃ b,Wi.l.getD i 0=b:=⟨_,rfl⟩
     have hl1:=a0e v.l
     have hl2:=a0e Wi.l
     rw [hvl] at hl1
     rw [hwl] at hl2
     have hij:i/4*4+i%4=i:=by omega
     have two: ∀ l:List UInt32,l.length=16→List.take 1 (List.drop (i%4) (List.take 4 (List.drop (i/4*4) (Jq l))))=[.pl (.u32 (l.getD i 0))]:=fun l hl=>by
      rw [List.drop_take,List.take_take,List.drop_drop,hij,Nat.min_eq_left (by omega),c0f (by omega)]
     have h1:=two v.l hvl
     have h2:=two Wi.l hwl
     rw [ha] at h1
     rw [hb] at h2
     have hda:=c0q (l:=v.l) (j:=i) (by omega)
     have hdb:=c0q (l:=Wi.l) (j:=i) (by omega)
     rw [ha] at hda
     rw [hb] at hdb
     rw [hda,hdb,z0a] at hz
     have hcq:((i:Nat):Int)<16:=by omega
     have htd:((i:Nat):Int).tdiv 4=((i/4:Nat):Int):=rfl
     have htm:((i:Nat):Int).tmod 4=((i%4:Nat):Int):=rfl
     have d0:(0:Int)≤((i/4:Nat):Int)∧((i/4:Nat):Int)<4∧(0:Int)≤((i%4:Nat):Int)∧((i%4:Nat):Int)<4:=by omega
     have d1:i/4*4+4≤16∧i%4+1≤4:=by omega
     have hml:q.length+4≤9223372036854775807:=by omega
     obtain ⟨hs1,hw4⟩:Go.RowKit.wrap64 (((i:Nat):Int)+1)=((i+1:Nat):Int)∧Go.RowKit.wrap64 (((i/4:Nat):Int))=((i/4:Nat):Int):=⟨Kv (by omega) (by omega),Kv rfl (by omega)⟩
     have F156:=And.intro h1<|And.intro h2<|And.intro hl1<|And.intro hl2<|And.intro hcq<|And.intro htd<|And.intro htm<|And.intro d0<|And.intro d1<|And.intro hml<|And.intro hs1<|hw4
     refine Dz fun zK zhK=>?_
     simp only [go_sem,Av,Int.reduceTMod,Int.reduceTDiv,Int.toNat_one,F0,hcq,F156]
     repeat' (first|apply And.intro|intro _)
     refine zhK _ ?_
     refine Bq fun zN zM zhN zhM=>?_
     (refine Bz ?_ ?_;focus (first|rfl|(simp [go_sem,Av,Int.reduceTMod,Int.reduceTDiv,Int.toNat_one,F0,hcq,F156];done)))
     refine Cq ?_
     refine zhN _ ?_;clear zhN zhM
     refine Bq fun zN zM zhN zhM=>?_
     refine Cx fun zB zbn zbx zbr zbi=>?_
     refine Dz fun zK zhK=>?_
     simp only [go_sem,Av,Int.reduceTMod,Int.reduceTDiv,Int.toNat_one,F0,hcq,F156]
     repeat' (first|apply And.intro|intro _)
     refine zhK _ ?_
     refine Kk (id:=17) [55,56,57,58,59,60,61,62,63,64,65,66,67,68,69,70,71,72,73,11] [0,0,2,0,8,6,62,126,0,256,0,1024,768,7936,16128,32766,65534,131070,262143,524287] [] mixed (by kernel_rfl) (by simp only [go_sem]) fun zK zhK=>?_
     simp only [go_sem,Av,Int.reduceTMod,Int.reduceTDiv,Int.toNat_one,F0,hcq,F156]
     repeat' (first|apply And.intro|intro _)
     all_goals refine Dv (fun k=>k) _ [] (fun _ _=>rfl) (by first|rfl|(simp only [go_sem,Av,Int.reduceTMod,Int.reduceTDiv,Int.toNat_one,F0,hcq,F156]<;>rfl)) ((e1e _ 4 (by decide)).plain fun _ _ h=>h) ?_ ?_
     all_goals try (refine And.intro ?_ (And.intro ?_ (And.intro ?_ ?_))<;>first|rfl|simp only [go_sem])
     all_goals simp only [go_sem,Av,Int.reduceTMod,Int.reduceTDiv,Int.toNat_one,F0,hcq,F156]
     all_goals repeat' (first|apply And.intro|intro _)
     refine zhK _ _ trivial ?_
     refine zbn _ ?_;clear zbn zbx zbr zbi
     refine zhN _ ?_;clear zhN zhM
     refine Cv fun zK zhK=>?_
     simp only [go_sem,Av,Int.reduceTMod,Int.reduceTDiv,Int.toNat_one,F0,hcq,F156]
     repeat' (first|apply And.intro|intro _)
     refine zhK _ ?_
     refine zhN ⟨(i+1,q++Mk (a+b).toUInt64 4),hlt,by simp [Av,hq,Nat.mul_add],by rw [←hz,List.append_assoc]⟩ _ ?_ ?_ ?_
     · (exact Nat.sub_lt_sub_left hlt (Nat.lt_succ_self i))
     · (simp only [go_sem,leX,List.cons_append,List.nil_append];try simp)
     · (simp only [go_sem,leX,List.cons_append,List.nil_append];try simp)
   · obtain rfl:i=16:=by omega
     have hcq:¬((16:Nat):Int)<16:=by omega
     have hfin:q=Yq Wi:=by
      rw [Yq,hv,←hz,List.drop_of_length_le (by omega)];simp [z0a]
     have hq64:q.length=64:=by omega
     have htk:List.take 64 q=q:=List.take_of_length_le (by omega)
     have hdr:List.drop 64 (List.replicate 64 (0:UInt8))=[]:=rfl
     have hmi:min 64 64=64:=rfl
     have F163:=And.intro hcq<|And.intro hq64<|And.intro htk<|And.intro hdr<|hmi
     refine Dz fun zK zhK=>?_
     simp only [go_sem,Av,Int.reduceTMod,Int.reduceTDiv,Int.toNat_one,F0,hcq,F163]
     repeat' (first|apply And.intro|intro _)
     refine zhK _ ?_
     refine Bq fun zN zM zhN zhM=>?_
     (refine Bj ?_ ?_;focus (first|rfl|(simp [go_sem,Av,Int.reduceTMod,Int.reduceTDiv,Int.toNat_one,F0,hcq,F163];done)))
     refine Fx ?_
     refine zhM _ _ ?_;clear zhN zhM
     refine zhM _ _ ?_;clear zhN zhM
     refine zbx _ ?_;clear zbn zbx zbr zbi
     refine zhN _ ?_;clear zhN zhM
     refine Dz fun zK zhK=>?_
     simp only [go_sem,Av,Int.reduceTMod,Int.reduceTDiv,Int.toNat_one,F0,hcq,F163]
     repeat' (first|apply And.intro|intro _)
     refine zhK _ ?_
     refine Bq fun zN zM zhN zhM=>?_
     refine s0n (id:=20) [75,76,77] (by simp only [go_sem]) fun zK zhK=>?_
     simp only [go_sem,Av,Int.reduceTMod,Int.reduceTDiv,Int.toNat_one,F0,hcq,F163]
     repeat' (first|apply And.intro|intro _)
     refine zhK _ _ ?_
     refine zhN _ ?_;clear zhN zhM
     refine Dz fun zK zhK=>?_
     simp only [go_sem,Av,Int.reduceTMod,Int.reduceTDiv,Int.toNat_one,F0,hcq,F163]
     repeat' (first|apply And.intro|intro _)
     refine zhK _ ?_
     refine Ck ?_
     refine zhZ _ _ ?_
     simp only [go_sem,Av,Int.reduceTMod,Int.reduceTDiv,Int.toNat_one,F0,hcq,F163]
     all_goals (first|(rw [hfin];done)|(rw [hfin];rfl))
end Go.Sy
namespace Go.Sy
open Go.Proofs
attribute [local irreducible] Fz HT Cw Oj onC onE onO onG goV goA goS Qv Ey
def e0r (f:Nat→UInt8):Nat→List UInt8→List UInt8
 |_,[]=>[]
 |n,x::l=>(x^^^f n)::e0r f (n+1) l
theorem Oz (f:Nat→UInt8): ∀ (l:List UInt8) (n:Nat),(e0r f n l).length=l.length
 | [],_=>rfl
 |x::l,n=>by simp [e0r,Oz f l]
theorem z0b (f:Nat→UInt8): ∀ (l:List UInt8) (n i:Nat),i<l.length→(e0r f n l)[i]? =some (l.getD i 0^^^f (n+i))
 | [],_,i,h=>by simp at h
 |x::l,n,0,h=>by simp [e0r]
 |x::l,n,i+1,h=>by
  simp only [e0r,List.getElem?_cons_succ]
  rw [z0b f l (n+1) i (by simpa using h)]
  simp only [List.getD_cons_succ]
  rw [show n+1+i=n+(i+1) from by omega]
theorem f0x (f:Nat→UInt8): ∀ (a b:List UInt8) (n:Nat),e0r f n (a++b)=e0r f n a++e0r f (n+a.length) b
 | [],b,n=>by simp [e0r]
 |x::a,b,n=>by
  simp only [List.cons_append,e0r,f0x f a b,List.length_cons]
  rw [show n+1+a.length=n+(a.length+1) from by omega]
def d0w (f:Nat→UInt8) (b:List UInt8) (i:Nat):List UInt8:=(e0r f 0 b).take i++b.drop i
theorem a0r {f:Nat→UInt8} {b:List UInt8} {i:Nat} (h:i≤b.length):(d0w f b i).length=b.length:=by
 simp only [d0w,List.length_append,List.length_take,List.length_drop,Oz];omega
theorem p0f (f:Nat→UInt8) (b:List UInt8):d0w f b 0=b:=by simp [d0w]
theorem g1y (f:Nat→UInt8) (b:List UInt8):d0w f b b.length=e0r f 0 b:=by
 rw [d0w,List.drop_length,List.append_nil,List.take_of_length_le (by rw [Oz];exact Nat.le_refl _)]
theorem g1x {f:Nat→UInt8} {b:List UInt8} {i:Nat} (h:i<b.length):(d0w f b i).getD i 0=b.getD i 0:=by
 have ht:((e0r f 0 b).take i).length=i:=by rw [List.length_take,Oz];omega
 rw [d0w,List.getD,List.getElem?_append_right (by omega),ht,Nat.sub_self,List.getElem?_drop,Nat.add_zero];rfl
theorem g1w {f:Nat→UInt8} {b:List UInt8} {i:Nat} (h:i<b.length):(d0w f b i).set i (b.getD i 0^^^f i)=d0w f b (i+1):=by
 have ht:((e0r f 0 b).take i).length=i:=by rw [List.length_take,Oz];omega
 have hx:=z0b f b 0 i h
 rw [Nat.zero_add] at hx
 obtain ⟨hlt,e⟩:=List.getElem?_eq_some_iff.mp hx
 rw [d0w,d0w,List.set_append_right _ _ (by omega),ht,Nat.sub_self,List.drop_eq_getElem_cons h,List.set_cons_zero,List.take_succ_eq_append_getElem hlt,e]
 simp
theorem Ux {q:List UInt8} {i:Nat} (h:i<q.length):List.take 1 (List.drop i q)=[q.getD i 0]:=by
 rw [List.drop_eq_getElem_cons h,List.take_succ_cons,List.take_zero]
 simp [List.getD,List.getElem?_eq_getElem h]
theorem Dq (x:UInt8):Aq [x]=[.pl (.u8 x)]:=rfl
def ksB (key:List UInt8) (counter:UInt32) (nonce:List UInt8) (i:Nat):UInt8:=(Yq (d0i key (counter+UInt32.ofNat (i/64)) nonce)).getD (i%64) 0
def d0b (key:List UInt8) (counter:UInt32) (nonce b:List UInt8):List UInt8:=e0r (ksB key counter nonce) 0 b
def byV (bs:List UInt8) (e:Int) (v:V) (m:List (Nat×Ob)):Prop:=v=.tup [.one (.pl (.R false 1 (Aw bs))),.one (.pl (.i e))]∧m=[]
theorem k1b {a a':L} {b:W} (h: ∀ d y,a.den d y→a'.den d y) (d:Va) (y:Value) (hv:(V.tup [.one a,b]).den d y):(V.tup [.one a',b]).den d y:=by
 obtain ⟨vs,rfl,hv⟩:=hv
 refine ⟨vs,rfl,?_⟩
 generalize vs.toList=l at hv
 cases hv with
 |cons h1 h2=>exact .cons (h d _ h1) h2
theorem a0a {ex:Bool} {sz:Nat} {rows:List (List PL)} (d:Va) (y:Value) (h:(L.pl (.R ex sz rows)).den d y):(L.pl (.R false sz rows)).den d y:=by
 simp only [L.den] at h ⊢
 rw [PL.den] at h ⊢
 rcases h with h|⟨blk,off,cap,h1,h2,h3,h4,h5⟩|⟨a,cap,h1,h2,h3,h4⟩
 · exact .inl h
 · exact .inr (.inl ⟨blk,off,cap,h1,h2,h3,fun h=>(by cases h),h5⟩)
 · exact .inr (.inr ⟨a,cap,h1,h2,h3,fun h=>(by cases h)⟩)
theorem b0y {e:Int} {m:List (Nat×Ob)} {sz:Nat} {ex:Bool}:Told (byV [] e) (.tup [.one (.pl (.R ex sz [])),.one (.pl (.i e))]) m:=
 Vz (k1b (a':=.pl (.R false 1 (Aw []))) fun d y h=>a0a d y (e0n h)) (told_plain rfl ⟨rfl,rfl⟩)
theorem k1c {e:Int} {m:List (Nat×Ob)} {ex:Bool} (l:List UInt8):Told (byV l e) (.tup [.one (.pl (.R ex 1 (Aw l))),.one (.pl (.i e))]) m:=
 Vz (k1b fun d y h=>a0a d y h) (told_plain rfl ⟨rfl,rfl⟩)
theorem k1d {k n:Nat} {e:Int} {m:List (Nat×Ob)} {b:Bool} {l:List UInt8} (hk:look m k=some ⟨b,Aq l⟩) (hn:n=l.length) (hlt:k<500000:=by decide):Told (byV l e) (.tup [.one (.s k [] n 1),.one (.pl (.i e))]) m:=by
 refine b0f k (l.map .u8) (by rw [hk,Yy]) hlt ?_
 simp only [o0o,List.map_cons,List.map_nil,k0s,b0h hn,l0h]
 exact told_plain rfl ⟨rfl,rfl⟩
def byO (l:List UInt8) (e:Int) (v:V) (m:List (Nat×Ob)):Prop:=v=.tup [.one (.s 0 [] l.length 1),.one (.pl (.i e))]∧m=[(0,⟨true,Aq l⟩)]
theorem f0h {m:List (Nat×Ob)} {j n:Nat} {e:Int} {l:List UInt8} (hn:n=l.length) (h:look m j=some ⟨true,Aq l⟩) (hj:j<500000:=by decide):Told (byO l e) (.tup [.one (.s j [] n 1),.one (.pl (.i e))]) m:=
 Yz ⟨only j,.tup [.one (.s 0 [] l.length 1),.one (.pl (.i e))],[(0,⟨true,Aq l⟩)],by rw [hn];rfl,b0e h hj,rfl,rfl⟩
theorem z1u (key:List UInt8) (hk:key.length=32) (counter:UInt32) (nonce:List UInt8) (hn:nonce.length=12) (b:List UInt8) (ex:Bool) (hb:¬1600<b.length) (ho:64*(4294967296-counter.toNat)<b.length):
 Ct Tryd.prog 25 [.w (.agg (Aq key)),.w (.one (.pl (.u32 counter))),.w (.agg (Aq nonce)),.w (.one (.pl (.R ex 1 (Aw b))))] (Told (byV [] 11)):=by
 have h1:¬(1600:Int)<((b.length:Nat):Int):=by omega
 have hc:=counter.toNat_lt
 have htd:((b.length+63:Nat):Int).tdiv 64=(((b.length+63)/64:Nat):Int):=rfl
 have hlt:(((4294967296-counter.toNat:Nat):Int)<(((b.length+63)/64:Nat):Int)):=by omega
 have hl2:((64*(4294967296-counter.toNat):Nat):Int)<((b.length:Nat):Int):=by omega
 obtain ⟨hw1,hw2,hw3,hw4⟩:Go.RowKit.wrap64 (((b.length:Nat):Int)+63)=((b.length+63:Nat):Int)∧Go.RowKit.wrap64 (4294967296-((counter.toNat:Nat):Int))=((4294967296-counter.toNat:Nat):Int)∧Go.RowKit.wrap64 ((((b.length+63)/64:Nat):Int))=(((b.length+63)/64:Nat):Int)∧Go.RowKit.wrap64 (64*((4294967296-counter.toNat:Nat):Int))=((64*(4294967296-counter.toNat):Nat):Int):=⟨Kv (by omega) (by omega),Kv (by omega) (by omega),Kv rfl (by omega),Kv (by omega) (by omega)⟩
 have F0:=And.intro hk<|And.intro hn<|And.intro h1<|And.intro htd<|And.intro hlt<|And.intro hl2<|And.intro hw1<|And.intro hw2<|And.intro hw3<|hw4
 refine Ct.k Tryd.func25 rfl Tryd.ntmps25 (congrArg Array.toList Tryd.results25) (by simp) fun w0 ro=>?_
 refine Dx fun zZ zhZ=>?_
 iterate 17 first
  |(refine Dz fun zK zhK=>?_;simp only [go_sem,F0];(repeat' (first|apply And.intro|intro _)))
  |refine zhK _ ?_
  |refine Cq ?_
  |(refine zhN _ ?_;clear zhN zhM)
  |refine Ck ?_
  |(refine zhM _ _ ?_;clear zhN zhM)
  |(refine zhZ _ _ ?_;simp only [go_sem,F0];(all_goals (exact b0y)))
  |refine Bq fun zN zM zhN zhM=>?_
  |(refine Bj ?_ ?_;focus (first|rfl|(simp [go_sem,F0];done)))
  |(refine Bz ?_ ?_;focus (first|rfl|(simp [go_sem,F0];done)))
theorem q0j (key:List UInt8) (hk:key.length=32) (counter:UInt32) (nonce:List UInt8) (hn:nonce.length=12) (b:List UInt8) (ex:Bool) (hb:¬1600<b.length) (ho:¬64*(4294967296-counter.toNat)<b.length):
 Ct Tryd.prog 25 [.w (.agg (Aq key)),.w (.one (.pl (.u32 counter))),.w (.agg (Aq nonce)),.w (.one (.pl (.R ex 1 (Aw b))))] (Told (byO (d0b key counter nonce b) 0)):=by
 obtain ⟨f,hf⟩: ∃ f,ksB key counter nonce=f:=⟨_,rfl⟩
 have hcap:b.length≤140737488355328:=by omega
 have h1:¬(1600:Int)<((b.length:Nat):Int):=by omega
 have hc:=counter.toNat_lt
 have htd:((b.length+63:Nat):Int).tdiv 64=(((b.length+63)/64:Nat):Int):=rfl
 have hlt:¬(((4294967296-counter.toNat:Nat):Int)<(((b.length+63)/64:Nat):Int)):=by omega
 have hl2:¬((64*(4294967296-counter.toNat):Nat):Int)<((b.length:Nat):Int):=by omega
 obtain ⟨hw1,hw2,hw3,hw4⟩:Go.RowKit.wrap64 (((b.length:Nat):Int)+63)=((b.length+63:Nat):Int)∧Go.RowKit.wrap64 (4294967296-((counter.toNat:Nat):Int))=((4294967296-counter.toNat:Nat):Int)∧Go.RowKit.wrap64 ((((b.length+63)/64:Nat):Int))=(((b.length+63)/64:Nat):Int)∧Go.RowKit.wrap64 (64*((4294967296-counter.toNat:Nat):Int))=((64*(4294967296-counter.toNat):Nat):Int):=⟨Kv (by omega) (by omega),Kv (by omega) (by omega),Kv rfl (by omega),Kv (by omega) (by omega)⟩
 have F0:=And.intro hk<|And.intro hn<|And.intro h1<|And.intro htd<|And.intro hlt<|And.intro hl2<|And.intro hw1<|And.intro hw2<|And.intro hw3<|And.intro hw4<|hcap
 refine Ct.k Tryd.func25 rfl Tryd.ntmps25 (congrArg Array.toList Tryd.results25) (by simp) fun w0 ro=>?_
 refine Dx fun zZ zhZ=>?_
 iterate 20 first
  |(refine Dz fun zK zhK=>?_;simp only [go_sem,Nat.zero_add,F0];(repeat' (first|apply And.intro|intro _)))
  |refine zhK _ ?_
  |refine Cq ?_
  |(refine zhN _ ?_;clear zhN zhM)
  |refine Cx fun zB zbn zbx zbr zbi=>?_
  |refine Bq fun zN zM zhN zhM=>?_
  |(refine Bj ?_ ?_;focus (first|rfl|(simp [go_sem,Nat.zero_add,F0];done)))
 refine Fq [0,2,3,14,15,16,17,18,19,20,21,22,23,24,25,26,27] ?_
 simp only [Gz,Gj,Fj,List.contains_cons,List.contains_nil,Nat.reduceBEq,beq_self_eq_true,Bool.or_false,Bool.or_true,Bool.true_or,Bool.false_or,Bool.false_eq_true,reduceIte]
 refine Ik (fun y=>[(11,.w (.one (.pl (.i ((64*y.1:Nat):Int)))))]) (fun y=>[(25,⟨true,Aq (d0w f b (min (64*y.1) b.length))⟩)]) (fun y=>b.length-64*y.1) (⟨0,Nat.zero_le _⟩:{y:Nat//y≤26}) ?_ ?_ ?_
 · (simp only [go_sem,leX,List.cons_append,List.nil_append];try simp)
 · (simp only [p0f,Nat.mul_zero,Nat.zero_min,go_sem,leX,List.cons_append,List.nil_append];try simp [p0f])
 intro ⟨j,hj⟩ zN zM zhN zhM
 simp only [List.cons_append,List.nil_append]
 rcases Nat.lt_or_ge (64*j) b.length with hlt1|hge1
 · have hmj:min (64*j) b.length=64*j:=by clear hw1 hw2 hw3 hw4 F0;omega
   have hpl0:=a0r (f:=f) (b:=b) (i:=64*j) (by clear hw1 hw2 hw3 hw4 F0;omega)
   simp only [hmj]
   have hcq:((64*j:Nat):Int)<((b.length:Nat):Int):=by clear hw1 hw2 hw3 hw4 F0;omega
   obtain ⟨kb,hkb⟩: ∃ kb,Yq (d0i key (counter+UInt32.ofNat j) nonce)=kb:=⟨_,rfl⟩
   have hkl:kb.length=64:=by rw [←hkb];exact a0b _
   have htd2:((64*j:Nat):Int).tdiv 64=((j:Nat):Int):=by rw [show ((64*j:Nat):Int).tdiv 64=((64*j/64:Nat):Int) from rfl];omega
   have hu:UInt32.ofNat (((j:Nat):Int)%4294967296).toNat=UInt32.ofNat j:=by rw [show (((j:Nat):Int)%4294967296).toNat=j from by clear hw1 hw2 hw3 hw4 F0;omega]
   obtain ⟨hw7,hw8⟩:Go.RowKit.wrap64 ((j:Nat):Int)=((j:Nat):Int)∧True:=⟨Kv rfl (by clear hw1 hw2 hw3 hw4 F0;omega),trivial⟩
   have FA:=And.intro hpl0<|And.intro hcq<|And.intro hkl<|And.intro htd2<|And.intro hu<|And.intro hkb<|hw7
   iterate 14 first
    |(refine Dz fun zK zhK=>?_;simp only [go_sem,Nat.zero_add,F0,FA];(repeat' (first|apply And.intro|intro _)))
    |refine zhK _ ?_
    |refine Cx fun zB zbn zbx zbr zbi=>?_
    |refine Cq ?_
    |(refine zhN _ ?_;clear zhN zhM)
    |((all_goals (refine Cy (fun k=>k) (fun _ _=>rfl) ?_ ((block_ key hk (counter+UInt32.ofNat j) nonce hn).plain fun _ _ h=>h) ?_;focus (first|rfl|(simp only [go_sem,Nat.zero_add,F0,FA]<;>rfl))));(all_goals (rintro v m ⟨hR,hm⟩;subst hR;subst hm));(all_goals refine And.intro (by first|rfl|simp only [go_sem,Nat.zero_add,F0,FA]) (And.intro (by first|rfl|simp only [go_sem,Nat.zero_add,F0,FA]) ?_));(all_goals simp only [go_sem,Nat.zero_add,F0,FA]);(all_goals repeat' (first|apply And.intro|intro _)))
    |refine Bq fun zN zM zhN zhM=>?_
    |(refine Bz ?_ ?_;focus (first|rfl|(simp [go_sem,Nat.zero_add,F0,FA];done)))
   refine Ik (fun y=>[(13,.w (.one (.pl (.i ((y.1:Nat):Int)))))]) (fun y=>[(25,⟨true,Aq (d0w f b y.1)⟩)]) (fun y=>64*j+64-y.1) (⟨64*j,Nat.le_refl _,by clear hw1 hw2 hw3 hw4 F0 hw7 FA;omega⟩:{y:Nat//64*j≤y∧y≤min (64*j+64) b.length}) ?_ ?_ ?_
   · (simp only [go_sem,leX,List.cons_append,List.nil_append];try simp)
   · (simp only [hmj,go_sem,leX,List.cons_append,List.nil_append];try simp)
   intro ⟨i,hi1,hi2⟩ zN zM zhN zhM
   simp only [List.cons_append,List.nil_append]
   rcases Nat.lt_or_ge i (min (64*j+64) b.length) with hlt2|hge2
   · have hib:i<b.length:=by clear hw1 hw2 hw3 hw4 F0 hw7 FA;omega
     have hpl:=a0r (f:=f) (b:=b) (i:=i) (by clear hw1 hw2 hw3 hw4 F0 hw7 FA;omega)
     have h1':=Ux (q:=d0w f b i) (i:=i) (by clear hw1 hw2 hw3 hw4 F0 hw7 FA;omega)
     rw [g1x hib] at h1'
     have h2':=Ux (q:=kb) (i:=i-64*j) (by clear hw1 hw2 hw3 hw4 F0 hw7 FA;omega)
     have hfi:kb.getD (i-64*j) 0=f i:=by
      rw [←hf,←hkb,ksB,show i/64=j from by clear hw1 hw2 hw3 hw4 F0 hw7 FA;omega,show i%64=i-64*j from by clear hw1 hw2 hw3 hw4 F0 hw7 FA;omega]
     rw [hfi] at h2'
     have hps:=g1w (f:=f) hib
     have hput:=m0h (q:=d0w f b i) (j:=i) (b.getD i 0^^^f i) (by clear hw1 hw2 hw3 hw4 F0 hw7 FA;omega)
     rw [hps] at hput
     have hcq2:((i:Nat):Int)<((min (64*j+64) b.length:Nat):Int):=by clear hw1 hw2 hw3 hw4 F0 hw7 FA;omega
     have hmn:(if ((b.length:Nat):Int)<((64*j+64:Nat):Int) then ((b.length:Nat):Int) else ((64*j+64:Nat):Int))=((min (64*j+64) b.length:Nat):Int):=by clear hw1 hw2 hw3 hw4 F0 hw7 FA;split<;>omega
     have d0:(0:Int)≤((i:Nat):Int)∧((i:Nat):Int)<((b.length:Nat):Int)∧(0:Int)≤((i-64*j:Nat):Int)∧((i-64*j:Nat):Int)<64:=by clear hw1 hw2 hw3 hw4 F0 hw7 FA;omega
     have d1:i+1≤b.length∧i-64*j+1≤64:=by clear hw1 hw2 hw3 hw4 F0 hw7 FA;omega
     obtain ⟨hs1,hw5,hw6⟩:Go.RowKit.wrap64 (((i:Nat):Int)+1)=((i+1:Nat):Int)∧Go.RowKit.wrap64 (((64*j:Nat):Int)+64)=((64*j+64:Nat):Int)∧Go.RowKit.wrap64 (((i:Nat):Int)-((64*j:Nat):Int))=((i-64*j:Nat):Int):=⟨Kv (by clear hw1 hw2 hw3 hw4 F0 hw7 FA;omega) (by clear hw1 hw2 hw3 hw4 F0 hw7 FA;omega),Kv (by clear hw1 hw2 hw3 hw4 F0 hw7 FA;omega) (by clear hw1 hw2 hw3 hw4 F0 hw7 FA;omega),Kv (by clear hw1 hw2 hw3 hw4 F0 hw7 FA;omega) (by clear hw1 hw2 hw3 hw4 F0 hw7 FA;omega)⟩
     have FB:=And.intro hpl<|And.intro hput<|And.intro hcq2<|And.intro hmn<|And.intro d0<|And.intro d1<|And.intro hs1<|And.intro hw5<|hw6
     refine Bq fun zN zM zhN zhM=>?_
     refine Dz fun zK zhK=>?_
     simp only [go_sem,Nat.zero_add,F0,FA,h1',h2',hkl,Dq,FB]
     repeat' (first|apply And.intro|intro _)
     refine zhK _ ?_
     (refine Bz ?_ ?_;focus (first|rfl|(simp [go_sem,Nat.zero_add,F0,FA,h1',h2',hkl,Dq,FB];done)))
     refine Cq ?_
     refine zhN _ ?_;clear zhN zhM
     refine Bq fun zN zM zhN zhM=>?_
     refine Cx fun zB zbn zbx zbr zbi=>?_
     refine Kk (id:=13) [52,53,54,55,56,57,58,59,60,61,62] [0,0,3,7,0,0,48,112,240,511,1023,2047] [] mixed (by kernel_rfl) (by simp only [go_sem]) fun zK zhK=>?_
     simp only [go_sem,Nat.zero_add,F0,FA,h1',h2',hkl,Dq,FB]
     repeat' (first|apply And.intro|intro _)
     refine zhK _ _ trivial ?_
     refine zbn _ ?_;clear zbn zbx zbr zbi
     refine zhN _ ?_;clear zhN zhM
     refine Cv fun zK zhK=>?_
     simp only [go_sem,Nat.zero_add,F0,FA,h1',h2',hkl,Dq,FB]
     repeat' (first|apply And.intro|intro _)
     refine zhK _ ?_
     refine zhN ⟨i+1,Nat.le_succ_of_le hi1,hlt2⟩ _ ?_ ?_ ?_
     · (exact Nat.sub_lt_sub_left (Nat.lt_of_lt_of_le hlt2 (Nat.min_le_left _ _)) (Nat.lt_succ_self i))
     · (simp only [go_sem,leX,List.cons_append,List.nil_append];try simp)
     · (simp only [go_sem,leX,List.cons_append,List.nil_append];try simp)
   · obtain rfl:i=min (64*j+64) b.length:=by clear hw1 hw2 hw3 hw4 F0 hw7 FA;omega
     have hpl:=a0r (f:=f) (b:=b) (i:=min (64*j+64) b.length) (by clear hw1 hw2 hw3 hw4 F0 hw7 FA;omega)
     have hcq2:¬((min (64*j+64) b.length:Nat):Int)<((min (64*j+64) b.length:Nat):Int):=by clear hw1 hw2 hw3 hw4 F0 hw7 FA;omega
     have hmn:(if ((b.length:Nat):Int)<((64*j+64:Nat):Int) then ((b.length:Nat):Int) else ((64*j+64:Nat):Int))=((min (64*j+64) b.length:Nat):Int):=by clear hw1 hw2 hw3 hw4 F0 hw7 FA;split<;>omega
     have hjn:64*(j+1)=64*j+64:=by clear hw1 hw2 hw3 hw4 F0 hw7 FA;omega
     have hjd:b.length-64*(j+1)<b.length-64*j:=by clear hw1 hw2 hw3 hw4 F0 hw7 FA;omega
     obtain ⟨hw5,hw6⟩:Go.RowKit.wrap64 (((64*j:Nat):Int)+64)=((64*j+64:Nat):Int)∧True:=⟨Kv (by clear hw1 hw2 hw3 hw4 F0 hw7 FA;omega) (by clear hw1 hw2 hw3 hw4 F0 hw7 FA;omega),trivial⟩
     have FB:=And.intro hpl<|And.intro hcq2<|And.intro hmn<|hw5
     refine Bq fun zN zM zhN zhM=>?_
     refine Dz fun zK zhK=>?_
     simp only [go_sem,Nat.zero_add,F0,FA,FB]
     repeat' (first|apply And.intro|intro _)
     refine zhK _ ?_
     (refine Bj ?_ ?_;focus (first|rfl|(simp [go_sem,Nat.zero_add,F0,FA,FB];done)))
     refine Fx ?_
     refine zhM _ _ ?_;clear zhN zhM
     refine zhM _ _ ?_;clear zhN zhM
     refine zbx _ ?_;clear zbn zbx zbr zbi
     refine zbn _ ?_;clear zbn zbx zbr zbi
     refine zhN _ ?_;clear zhN zhM
     refine Cv fun zK zhK=>?_
     simp only [go_sem,Nat.zero_add,F0,FA,FB]
     repeat' (first|apply And.intro|intro _)
     refine zhK _ ?_
     refine zhN ⟨j+1,by clear hw1 hw2 hw3 hw4 F0 hw7 FA;omega⟩ _ ?_ ?_ ?_
     · (exact hjd)
     · (simp only [hjn,go_sem,leX,List.cons_append,List.nil_append];try simp)
     · (simp only [hjn,go_sem,leX,List.cons_append,List.nil_append];try simp)
 · have hmj:min (64*j) b.length=b.length:=by clear hw1 hw2 hw3 hw4 F0;omega
   have hpl0:=a0r (f:=f) (b:=b) (i:=b.length) (Nat.le_refl _)
   simp only [hmj]
   have hcq:¬((64*j:Nat):Int)<((b.length:Nat):Int):=by clear hw1 hw2 hw3 hw4 F0;omega
   have hfin:d0w f b b.length=d0b key counter nonce b:=by rw [g1y,d0b,hf]
   iterate 13 first
    |(refine Dz fun zK zhK=>?_;simp only [go_sem,Nat.zero_add,F0,hpl0,hcq];(repeat' (first|apply And.intro|intro _)))
    |refine zhK _ ?_
    |(refine zhM _ _ ?_;clear zhN zhM)
    |refine Fx ?_
    |(refine zbx _ ?_;clear zbn zbx zbr zbi)
    |(refine zhN _ ?_;clear zhN zhM)
    |refine Ck ?_
    |(refine zhZ _ _ ?_;simp only [go_sem,Nat.zero_add,F0,hpl0,hcq];(all_goals (rw [hfin];exact f0h (by simp [d0b,Oz]) (by simp [look]))))
    |refine Bq fun zN zM zhN zhM=>?_
    |(refine Bj ?_ ?_;focus (first|rfl|(simp [go_sem,Nat.zero_add,F0,hpl0,hcq];done)))
end Go.Sy
namespace Go.Sy
open Go.Proofs
attribute [local irreducible] Fz HT Cw Oj onC onE onO onG goV goA goS Qv Ey
def byW (bs:List UInt8) (v:V) (m:List (Nat×Ob)):Prop:=v=.w (.one (.pl (.R false 1 (Aw bs))))∧m=[]
def e2t (l:List UInt8) (v:V) (m:List (Nat×Ob)):Prop:=v=.w (.one (.s 0 [] l.length 1))∧m=[(0,⟨true,Aq l⟩)]
theorem v0f {m:List (Nat×Ob)} {j n:Nat} {l:List UInt8} (hn:n=l.length) (h:look m j=some ⟨true,Aq l⟩) (hj:j<500000:=by decide):Told (e2t l) (.w (.one (.s j [] n 1))) m:=by
 refine Yz ⟨only j,.w (.one (.s 0 [] l.length 1)),[(0,⟨true,Aq l⟩)],?_,b0e h hj,rfl,rfl⟩
 rw [hn];rfl
theorem x1w {m:List (Nat×Ob)} {sz:Nat} {ex:Bool}:Told (byW []) (.w (.one (.pl (.R ex sz [])))) m:=
 Vz (v':=.w (.one (.pl (.R false 1 (Aw []))))) (fun d y h=>a0a d y (e0n h)) (told_plain rfl ⟨rfl,rfl⟩)
theorem x1v {k n:Nat} {m:List (Nat×Ob)} {b:Bool} {l:List UInt8} (hk:look m k=some ⟨b,Aq l⟩) (hn:n=l.length) (hlt:k<500000:=by decide):Told (byW l) (.w (.one (.s k [] n 1))) m:=by
 refine b0f k (l.map .u8) (by rw [hk,Yy]) hlt ?_
 simp only [o0o,k0s,b0h hn]
 exact told_plain rfl ⟨rfl,rfl⟩
def bV (j:Nat) (l:List UInt8):V:=if l=[] then .w (.one (.pl (.R true 1 []))) else .w (.one (.s j [] l.length 1))
def bM (j:Nat) (l:List UInt8):List (Nat×Ob):=if l=[] then [] else [(j,⟨true,Aq l⟩)]
theorem k1x (j:Nat):bV j []=.w (.one (.pl (.R true 1 []))):=if_pos rfl
theorem l1a (j:Nat):bM j []=[]:=if_pos rfl
theorem q1y (j:Nat) {l:List UInt8} (h:l≠[]):bV j l=.w (.one (.s j [] l.length 1)):=if_neg h
theorem k1z (j:Nat) {l:List UInt8} (h:l≠[]):bM j l=[(j,⟨true,Aq l⟩)]:=if_neg h
theorem y0u (j:Nat) (l:List UInt8) (p:UInt8):bV j (l++[p])=.w (.one (.s j [] (l.length+1) 1)):=by rw [q1y j (by simp)];simp
theorem s1h (j:Nat) (p:UInt8):bV j [p]=.w (.one (.s j [] 1 1)):=y0u j [] p
theorem s1i (j:Nat) (p:UInt8):bM j [p]=[(j,⟨true,Aq [p]⟩)]:=k1z j (by simp)
theorem k1y (j:Nat) (l:List UInt8) (p:UInt8):bM j (l++[p])=[(j,⟨true,Aq (l++[p])⟩)]:=k1z j (by simp)
theorem s0e (f:Nat→UInt8) {c:List UInt8} {n k:Nat} (h:k<c.length):e0r f n (c.take (k+1))=e0r f n (c.take k)++[c.getD k 0^^^f (n+k)]:=by
 have e:c.take (k+1)=c.take k++[c.getD k 0]:=by
  rw [List.take_succ_eq_append_getElem h];simp [List.getD,List.getElem?_eq_getElem h]
 rw [e,f0x,List.length_take,Nat.min_eq_left (by omega)];rfl
theorem z0c (f:Nat→UInt8) (b:List UInt8) (n k:Nat) (h:k≤b.length-n):e0r f n ((b.drop n).take k)++e0r f (n+k) (b.drop (n+k))=e0r f n (b.drop n):=by
 conv=>rhs;rw [←List.take_append_drop k (b.drop n)]
 rw [f0x,List.length_take,List.length_drop,Nat.min_eq_left h,List.drop_drop]
theorem q0c (f:Nat→UInt8) (b:List UInt8) (n:Nat) (h:b.length≤n):e0r f n (b.drop n)=[]:=by rw [List.drop_of_length_le h];rfl
theorem z0x (key:List UInt8) (hk:key.length=32) (counter:UInt32) (nonce:List UInt8) (hn:nonce.length=12) (b:List UInt8) (ex:Bool) (hb:¬1600<b.length) (j:Nat) (hj:b.length≤64*j):
 Ct Tryd.prog 45 [.w (.agg (Aq key)),.w (.one (.pl (.u32 counter))),.w (.agg (Aq nonce)),.w (.one (.pl (.R ex 1 (Aw b)))),.w (.one (.pl (.i (64*j:Nat))))] (Told (byW (e0r (ksB key counter nonce) (64*j) (b.drop (64*j))))):=by
 have h1:((b.length:Nat):Int)≤((64*j:Nat):Int):=by omega
 have hx:=q0c (ksB key counter nonce) b (64*j) hj
 have F0:=And.intro hk<|And.intro hn<|h1
 refine Ct.k Tryd.func45 rfl Tryd.ntmps45 (congrArg Array.toList Tryd.results45) (by simp) fun w0 ro=>?_
 refine Dx fun zZ zhZ=>?_
 iterate 11 first
  |(refine Dz fun zK zhK=>?_;simp only [go_sem,F0];(repeat' (first|apply And.intro|intro _)))
  |refine zhK _ ?_
  |refine Ck ?_
  |(refine zhM _ _ ?_;clear zhN zhM)
  |(refine zhZ _ _ ?_;simp only [go_sem,F0];(all_goals (rw [hx];exact x1w)))
  |refine Bq fun zN zM zhN zhM=>?_
  |(refine Bz ?_ ?_;focus (first|rfl|(simp [go_sem,F0];done)))
theorem g1f (key:List UInt8) (hk:key.length=32) (counter:UInt32) (nonce:List UInt8) (hn:nonce.length=12) (b:List UInt8) (ex:Bool) (hb:¬1600<b.length) (j:Nat) (hj:64*j<b.length) (ih:Ct Tryd.prog 45 [.w (.agg (Aq key)),.w (.one (.pl (.u32 counter))),.w (.agg (Aq nonce)),.w (.one (.pl (.R ex 1 (Aw b)))),.w (.one (.pl (.i (64*(j+1):Nat))))] (byW (e0r (ksB key counter nonce) (64*(j+1)) (b.drop (64*(j+1)))))):
 Ct Tryd.prog 45 [.w (.agg (Aq key)),.w (.one (.pl (.u32 counter))),.w (.agg (Aq nonce)),.w (.one (.pl (.R ex 1 (Aw b)))),.w (.one (.pl (.i (64*j:Nat))))] (Told (e2t (e0r (ksB key counter nonce) (64*j) (b.drop (64*j))))):=by
 obtain ⟨f,hf⟩: ∃ f,ksB key counter nonce=f:=⟨_,rfl⟩
 rw [hf] at ih ⊢
 obtain ⟨kb,hkb⟩: ∃ kb,Yq (d0i key (counter+UInt32.ofNat j) nonce)=kb:=⟨_,rfl⟩
 have hkl:kb.length=64:=by rw [←hkb];exact a0b _
 have htd2:((64*j:Nat):Int).tdiv 64=((j:Nat):Int):=by rw [show ((64*j:Nat):Int).tdiv 64=((64*j/64:Nat):Int) from rfl];omega
 have hu:UInt32.ofNat (((j:Nat):Int)%4294967296).toNat=UInt32.ofNat j:=by rw [show (((j:Nat):Int)%4294967296).toNat=j from by omega]
 have hcq:¬((b.length:Nat):Int)≤((64*j:Nat):Int):=by omega
 have hw7:Go.RowKit.wrap64 ((j:Nat):Int)=((j:Nat):Int):=Kv rfl (by omega)
 have F0:=And.intro hk<|And.intro hn<|And.intro hkl<|And.intro htd2<|And.intro hu<|And.intro hkb<|And.intro hcq<|hw7
 refine Ct.k Tryd.func45 rfl Tryd.ntmps45 (congrArg Array.toList Tryd.results45) (by simp) fun w0 ro=>?_
 refine Dx fun zZ zhZ=>?_
 iterate 17 first
  |(refine Dz fun zK zhK=>?_;simp only [go_sem,Nat.zero_add,F0];(repeat' (first|apply And.intro|intro _)))
  |refine zhK _ ?_
  |refine Cq ?_
  |(refine zhN _ ?_;clear zhN zhM)
  |refine Cx fun zB zbn zbx zbr zbi=>?_
  |((all_goals (refine Cy (fun k=>k) (fun _ _=>rfl) ?_ ((b1b key hk (counter+UInt32.ofNat j) nonce hn).plain fun _ _ h=>h) ?_;focus (first|rfl|(simp only [go_sem,Nat.zero_add,F0]<;>rfl))));(all_goals (rintro v m ⟨hR,hm⟩;subst hR;subst hm));(all_goals refine And.intro (by first|rfl|simp only [go_sem,Nat.zero_add,F0]) (And.intro (by first|rfl|simp only [go_sem,Nat.zero_add,F0]) ?_));(all_goals simp only [go_sem,Nat.zero_add,F0]);(all_goals repeat' (first|apply And.intro|intro _)))
  |refine Bq fun zN zM zhN zhM=>?_
  |(refine Bj ?_ ?_;focus (first|rfl|(simp [go_sem,Nat.zero_add,F0];done)))
 refine Fq [0,2,14,15,16,17,18,19,20,21,22,23,24,25,26] ?_
 simp only [Gz,Gj,Fj,List.contains_cons,List.contains_nil,Nat.reduceBEq,beq_self_eq_true,Bool.or_false,Bool.or_true,Bool.true_or,Bool.false_or,Bool.false_eq_true,reduceIte]
 refine Ik (fun y=>[(13,.w (.one (.pl (.i ((y.1.1:Nat):Int))))),(12,bV 51 y.1.2)]) (fun y=>bM 51 y.1.2) (fun y=>64*j+64-y.1.1) (⟨(64*j,[]),Nat.le_refl _,by clear hw7 F0;omega,by simp [e0r],by simp⟩:{y:Nat×List UInt8//64*j≤y.1∧y.1≤min (64*j+64) b.length∧y.2=e0r f (64*j) ((b.drop (64*j)).take (y.1-64*j))∧y.2.length=y.1-64*j}) ?_ ?_ ?_
 · (simp only [k1x,go_sem,leX,List.cons_append,List.nil_append];try simp [k1x])
 · (simp only [l1a,go_sem,leX,List.cons_append,List.nil_append];try simp [l1a])
 intro yy zN zM zhN zhM
 simp only [List.cons_append,List.nil_append]
 obtain ⟨⟨i,l⟩,h1,h2,h3,h4⟩:=yy
 simp only at h1 h2 h3 h4
 have hd:(i<b.length∧i<64*j+64∧l=[])∨(i<b.length∧i<64*j+64∧l≠[])∨(i=b.length∧l≠[])∨(i<b.length∧i=64*j+64∧l≠[]):=by
  have hne:i=64*j∨l≠[]:=by
   by_cases h:l=[]
   · subst h;simp at h4;exact .inl (by clear hw7 F0;omega)
   · exact .inr h
  by_cases g:l=[]
  · have:i=64*j:=hne.resolve_right (fun h=>h g)
    exact .inl ⟨by clear hw7 F0;omega,by clear hw7 F0;omega,g⟩
  · by_cases g2:i<b.length
    · by_cases g3:i<64*j+64
      · exact .inr (.inl ⟨g2,g3,g⟩)
      · exact .inr (.inr (.inr ⟨g2,by clear hw7 F0;omega,g⟩))
    · exact .inr (.inr (.inl ⟨by clear hw7 F0;omega,g⟩))
 rcases hd with ⟨hA,hB,rfl⟩|⟨hA,hB,hl0⟩|⟨rfl,hl0⟩|⟨hA,rfl,hl0⟩
 · simp only [k1x,l1a,List.cons_append,List.nil_append]
   have hi0:i=64*j:=by
    have:=h4
    simp only [List.length_nil] at this
    clear hw7 F0
    omega
   have h1':=Iw hA
   have h2':=Ux (q:=kb) (i:=i-64*j) (by clear hw7 F0;omega)
   have hfi:kb.getD (i-64*j) 0=f i:=by
    rw [←hf,←hkb,ksB,show i/64=j from by clear hw7 F0;omega,show i%64=i-64*j from by clear hw7 F0;omega]
   rw [hfi] at h2'
   have hsn:=s0e f (c:=b.drop (64*j)) (n:=64*j) (k:=i-64*j) (by rw [List.length_drop];omega)
   have hbg:(b.drop (64*j)).getD (i-64*j) 0=b.getD i 0:=by
    rw [List.getD,List.getElem?_drop,show 64*j+(i-64*j)=i from by clear hw7 F0;omega];rfl
   rw [hbg,show 64*j+(i-64*j)=i from by clear hw7 F0;omega,←h3,show i-64*j+1=i+1-64*j from by clear hw7 F0;omega] at hsn
   have hcA:((i:Nat):Int)<((b.length:Nat):Int):=by clear hw7 F0;omega
   have hcB:((i:Nat):Int)<((64*j+64:Nat):Int):=by clear hw7 F0;omega
   have d0:(0:Int)≤((i:Nat):Int)∧(0:Int)≤((i-64*j:Nat):Int)∧((i-64*j:Nat):Int)<64:=by clear hw7 F0;omega
   have d1:i-64*j+1≤64:=by clear hw7 F0;omega
   have hcap:([]:List UInt8).length+1≤140737488355328:=by clear hw7 F0;omega
   have n4:([]++[b.getD i 0^^^f i]).length=i+1-64*j:=by rw [List.length_append,List.length_cons,List.length_nil];omega
   have n1:64*j≤i+1:=by clear hw7 F0;omega
   have n2:i+1≤min (64*j+64) b.length:=by clear hw7 F0;omega
   have nd:64*j+64-(i+1)<64*j+64-i:=by clear hw7 F0;omega
   obtain ⟨hs1,hw5,hw6⟩:Go.RowKit.wrap64 (((i:Nat):Int)+1)=((i+1:Nat):Int)∧Go.RowKit.wrap64 (((64*j:Nat):Int)+64)=((64*j+64:Nat):Int)∧Go.RowKit.wrap64 (((i:Nat):Int)-((64*j:Nat):Int))=((i-64*j:Nat):Int):=⟨Kv (by clear hw7 F0;omega) (by clear hw7 F0;omega),Kv (by clear hw7 F0;omega) (by clear hw7 F0;omega),Kv (by clear hw7 F0;omega) (by clear hw7 F0;omega)⟩
   have FB:=And.intro hcA<|And.intro hcB<|And.intro d0<|And.intro d1<|And.intro hcap<|And.intro hs1<|And.intro hw5<|hw6
   refine Bq fun zN zM zhN zhM=>?_
   refine Dz fun zK zhK=>?_
   simp only [go_sem,Nat.zero_add,F0,h1',h2',hkl,Dq,FB]
   repeat' (first|apply And.intro|intro _)
   refine zhK _ ?_
   (refine Bz ?_ ?_;focus (first|rfl|(simp [go_sem,Nat.zero_add,F0,h1',h2',hkl,Dq,FB];done)))
   refine Cq ?_
   refine zhN _ ?_;clear zhN zhM
   refine Bq fun zN zM zhN zhM=>?_
   refine Cx fun zB zbn zbx zbr zbi=>?_
   refine Kk (id:=8) [39,40,41,42,43,44,45,46,47,48,49,50,51,12] [0,0,0,6,14,0,0,96,224,480,1022,2046,4095,8191] [] mixed (by kernel_rfl) (by simp only [go_sem]) fun zK zhK=>?_
   simp only [go_sem,Nat.zero_add,F0,h1',h2',hkl,Dq,FB]
   repeat' (first|apply And.intro|intro _)
   refine zhK _ _ trivial ?_
   refine zbn _ ?_;clear zbn zbx zbr zbi
   refine zhN _ ?_;clear zhN zhM
   refine Cv fun zK zhK=>?_
   simp only [go_sem,Nat.zero_add,F0,h1',h2',hkl,Dq,FB]
   repeat' (first|apply And.intro|intro _)
   refine zhK _ ?_
   refine zhN ⟨(i+1,[]++[b.getD i 0^^^f i]),n1,n2,hsn.symm,n4⟩ _ ?_ ?_ ?_
   · (exact nd)
   · (simp only [y0u,go_sem,leX,List.cons_append,List.nil_append];try simp [s1h])
   · (simp only [k1y,go_sem,leX,List.cons_append,List.nil_append];try simp [s1i,Aq,pls,leX,look])
 · simp only [q1y _ hl0,k1z _ hl0,List.cons_append,List.nil_append]
   have h1':=Iw hA
   have h2':=Ux (q:=kb) (i:=i-64*j) (by clear hw7 F0;omega)
   have hfi:kb.getD (i-64*j) 0=f i:=by
    rw [←hf,←hkb,ksB,show i/64=j from by clear hw7 F0;omega,show i%64=i-64*j from by clear hw7 F0;omega]
   rw [hfi] at h2'
   have hsn:=s0e f (c:=b.drop (64*j)) (n:=64*j) (k:=i-64*j) (by rw [List.length_drop];omega)
   have hbg:(b.drop (64*j)).getD (i-64*j) 0=b.getD i 0:=by
    rw [List.getD,List.getElem?_drop,show 64*j+(i-64*j)=i from by clear hw7 F0;omega];rfl
   rw [hbg,show 64*j+(i-64*j)=i from by clear hw7 F0;omega,←h3,show i-64*j+1=i+1-64*j from by clear hw7 F0;omega] at hsn
   have hcA:((i:Nat):Int)<((b.length:Nat):Int):=by clear hw7 F0;omega
   have hcB:((i:Nat):Int)<((64*j+64:Nat):Int):=by clear hw7 F0;omega
   have d0:(0:Int)≤((i:Nat):Int)∧(0:Int)≤((i-64*j:Nat):Int)∧((i-64*j:Nat):Int)<64:=by clear hw7 F0;omega
   have d1:i-64*j+1≤64:=by clear hw7 F0;omega
   have hcap:l.length+1≤140737488355328:=by clear hw7 F0;omega
   have n4:(l++[b.getD i 0^^^f i]).length=i+1-64*j:=by rw [List.length_append,List.length_cons,List.length_nil];omega
   have n1:64*j≤i+1:=by clear hw7 F0;omega
   have n2:i+1≤min (64*j+64) b.length:=by clear hw7 F0;omega
   have nd:64*j+64-(i+1)<64*j+64-i:=by clear hw7 F0;omega
   obtain ⟨hs1,hw5,hw6⟩:Go.RowKit.wrap64 (((i:Nat):Int)+1)=((i+1:Nat):Int)∧Go.RowKit.wrap64 (((64*j:Nat):Int)+64)=((64*j+64:Nat):Int)∧Go.RowKit.wrap64 (((i:Nat):Int)-((64*j:Nat):Int))=((i-64*j:Nat):Int):=⟨Kv (by clear hw7 F0;omega) (by clear hw7 F0;omega),Kv (by clear hw7 F0;omega) (by clear hw7 F0;omega),Kv (by clear hw7 F0;omega) (by clear hw7 F0;omega)⟩
   have FB:=And.intro hcA<|And.intro hcB<|And.intro d0<|And.intro d1<|And.intro hcap<|And.intro hs1<|And.intro hw5<|hw6
   refine Bq fun zN zM zhN zhM=>?_
   refine Dz fun zK zhK=>?_
   simp only [go_sem,Nat.zero_add,F0,h1',h2',hkl,Dq,FB]
   repeat' (first|apply And.intro|intro _)
   refine zhK _ ?_
   (refine Bz ?_ ?_;focus (first|rfl|(simp [go_sem,Nat.zero_add,F0,h1',h2',hkl,Dq,FB];done)))
   refine Cq ?_
   refine zhN _ ?_;clear zhN zhM
   refine Bq fun zN zM zhN zhM=>?_
   refine Cx fun zB zbn zbx zbr zbi=>?_
   refine Kk (id:=8) [39,40,41,42,43,44,45,46,47,48,49,50,12] [0,0,0,6,14,0,0,96,224,480,1022,2046,4095,8191] [] mixed (by kernel_rfl) (by simp only [go_sem]) fun zK zhK=>?_
   simp only [go_sem,Nat.zero_add,F0,h1',h2',hkl,Dq,FB]
   repeat' (first|apply And.intro|intro _)
   refine zhK _ _ trivial ?_
   refine zbn _ ?_;clear zbn zbx zbr zbi
   refine zhN _ ?_;clear zhN zhM
   refine Cv fun zK zhK=>?_
   simp only [go_sem,Nat.zero_add,F0,h1',h2',hkl,Dq,FB]
   repeat' (first|apply And.intro|intro _)
   refine zhK _ ?_
   refine zhN ⟨(i+1,l++[b.getD i 0^^^f i]),n1,n2,hsn.symm,n4⟩ _ ?_ ?_ ?_
   · (exact nd)
   · (simp only [y0u,go_sem,leX,List.cons_append,List.nil_append];try simp [s1h])
   · (simp only [k1y,go_sem,leX,List.cons_append,List.nil_append];try simp [s1i,Aq,pls,leX,look])
 · simp only [q1y _ hl0,k1z _ hl0,List.cons_append,List.nil_append]
   have hcut:=z0c f b (64*j) (b.length-64*j) (by clear hw7 F0;omega)
   have hrest:l++e0r f (64*(j+1)) (b.drop (64*(j+1)))=e0r f (64*j) (b.drop (64*j)):=by
    rw [←hcut,←h3];congr 1
    rw [q0c f b (64*(j+1)) (by clear hw7 F0;omega),show 64*j+(b.length-64*j)=b.length from by clear hw7 F0;omega,q0c f b b.length (Nat.le_refl _)]
   obtain ⟨r,hr⟩: ∃ r,e0r f (64*(j+1)) (b.drop (64*(j+1)))=r:=⟨_,rfl⟩
   have hrl:r.length≤1600:=by rw [←hr,Oz,List.length_drop];omega
   have hll:l.length≤1600:=by clear hw7 F0;omega
   rw [hr] at hrest ih
   have hjn:64*(j+1)=64*j+64:=by clear hw7 F0;omega
   rw [hjn] at ih
   have hcap2:l.length+r.length≤140737488355328:=by clear hw7 F0;omega
   have hcap3:l.length≤140737488355328:=by clear hw7 F0;omega
   have hcA:¬((b.length:Nat):Int)<((b.length:Nat):Int):=by clear hw7 F0;omega
   obtain ⟨hw5,hw6⟩:Go.RowKit.wrap64 (((64*j:Nat):Int)+64)=((64*j+64:Nat):Int)∧True:=⟨Kv (by clear hw7 F0;omega) (by clear hw7 F0;omega),trivial⟩
   have FB:=And.intro hcA<|And.intro hcap2<|And.intro hcap3<|hw5
   refine Bq fun zN zM zhN zhM=>?_
   refine Dz fun zK zhK=>?_
   simp only [go_sem,Nat.zero_add,F0,FB]
   repeat' (first|apply And.intro|intro _)
   refine zhK _ ?_
   (refine Bj ?_ ?_;focus (first|rfl|(simp [go_sem,Nat.zero_add,F0,FB];done)))
   refine Fx ?_
   refine zhM _ _ ?_;clear zhN zhM
   refine zhM _ _ ?_;clear zhN zhM
   refine zbx _ ?_;clear zbn zbx zbr zbi
   refine zhN _ ?_;clear zhN zhM
   refine Dz fun zK zhK=>?_
   simp only [go_sem,Nat.zero_add,F0,FB]
   repeat' (first|apply And.intro|intro _)
   all_goals (refine Dy false [] (fun k=>k) (fun _ _=>rfl) ?_ (by decide) ?_ (ih).hands ?_;iterate 2 (focus (first|rfl|(simp only [go_sem,Nat.zero_add,F0,FB]<;>first|done|rfl|simp))))
   all_goals (rintro v m ⟨hR,hm⟩;subst hR;subst hm)
   all_goals (refine And.intro ?_ (And.intro ?_ (And.intro ?_ ?_));iterate 3 (focus (first|rfl|(simp only [go_sem,Nat.zero_add,F0,FB];done)|(simp [go_sem,look,Nat.zero_add,F0,FB];done))))
   all_goals (try simp only [go_sem,Nat.zero_add,F0,FB])
   all_goals (try simp only [go_sem,Nat.zero_add,F0,FB])
   all_goals repeat' (first|apply And.intro|intro _)
   refine zhK _ ?_
   refine Ck ?_
   refine zhZ _ _ ?_
   simp only [go_sem,Nat.zero_add,F0,FB]
   all_goals (rw [←hrest];exact v0f (by simp) (by simp [look,Aq]))
 · simp only [q1y _ hl0,k1z _ hl0,List.cons_append,List.nil_append]
   have hcut:=z0c f b (64*j) ((64*j+64)-64*j) (by clear hw7 F0;omega)
   have hrest:l++e0r f (64*(j+1)) (b.drop (64*(j+1)))=e0r f (64*j) (b.drop (64*j)):=by
    rw [←hcut,←h3];congr 1
    rw [show 64*j+(64*j+64-64*j)=64*(j+1) from by clear hw7 F0;omega]
   obtain ⟨r,hr⟩: ∃ r,e0r f (64*(j+1)) (b.drop (64*(j+1)))=r:=⟨_,rfl⟩
   have hrl:r.length≤1600:=by rw [←hr,Oz,List.length_drop];omega
   have hll:l.length≤1600:=by clear hw7 F0;omega
   rw [hr] at hrest ih
   have hjn:64*(j+1)=64*j+64:=by clear hw7 F0;omega
   rw [hjn] at ih
   have hcap2:l.length+r.length≤140737488355328:=by clear hw7 F0;omega
   have hcap3:l.length≤140737488355328:=by clear hw7 F0;omega
   have hcA:((64*j+64:Nat):Int)<((b.length:Nat):Int):=by clear hw7 F0;omega
   have hcB:¬((64*j+64:Nat):Int)<((64*j+64:Nat):Int):=by clear hw7 F0;omega
   obtain ⟨hw5,hw6⟩:Go.RowKit.wrap64 (((64*j:Nat):Int)+64)=((64*j+64:Nat):Int)∧True:=⟨Kv (by clear hw7 F0;omega) (by clear hw7 F0;omega),trivial⟩
   have FB:=And.intro hcA<|And.intro hcB<|And.intro hcap2<|And.intro hcap3<|hw5
   refine Bq fun zN zM zhN zhM=>?_
   refine Dz fun zK zhK=>?_
   simp only [go_sem,Nat.zero_add,F0,FB]
   repeat' (first|apply And.intro|intro _)
   refine zhK _ ?_
   (refine Bj ?_ ?_;focus (first|rfl|(simp [go_sem,Nat.zero_add,F0,FB];done)))
   refine Fx ?_
   refine zhM _ _ ?_;clear zhN zhM
   refine zhM _ _ ?_;clear zhN zhM
   refine zbx _ ?_;clear zbn zbx zbr zbi
   refine zhN _ ?_;clear zhN zhM
   refine Dz fun zK zhK=>?_
   simp only [go_sem,Nat.zero_add,F0,FB]
   repeat' (first|apply And.intro|intro _)
   all_goals (refine Dy false [] (fun k=>k) (fun _ _=>rfl) ?_ (by decide) ?_ (ih).hands ?_;iterate 2 (focus (first|rfl|(simp only [go_sem,Nat.zero_add,F0,FB]<;>first|done|rfl|simp))))
   all_goals (rintro v m ⟨hR,hm⟩;subst hR;subst hm)
   all_goals (refine And.intro ?_ (And.intro ?_ (And.intro ?_ ?_));iterate 3 (focus (first|rfl|(simp only [go_sem,Nat.zero_add,F0,FB];done)|(simp [go_sem,look,Nat.zero_add,F0,FB];done))))
   all_goals (try simp only [go_sem,Nat.zero_add,F0,FB])
   all_goals (try simp only [go_sem,Nat.zero_add,F0,FB])
   all_goals repeat' (first|apply And.intro|intro _)
   refine zhK _ ?_
   refine Ck ?_
   refine zhZ _ _ ?_
   simp only [go_sem,Nat.zero_add,F0,FB]
   all_goals (rw [←hrest];exact v0f (by simp) (by simp [look,Aq]))
theorem a2k (key:List UInt8) (hk:key.length=32) (counter:UInt32) (nonce:List UInt8) (hn:nonce.length=12) (b:List UInt8) (ex:Bool) (hb:¬1600<b.length): ∀ (n j:Nat),b.length≤64*j+n→Ct Tryd.prog 45 [.w (.agg (Aq key)),.w (.one (.pl (.u32 counter))),.w (.agg (Aq nonce)),.w (.one (.pl (.R ex 1 (Aw b)))),.w (.one (.pl (.i (64*j:Nat))))] (byW (e0r (ksB key counter nonce) (64*j) (b.drop (64*j)))):=by
 intro n
 induction n with
 |zero=>intro j h;exact (z0x key hk counter nonce hn b ex hb j (by omega)).told
 |succ n ih=>
  intro j h
  rcases Nat.lt_or_ge (64*j) b.length with h1|h1
  · exact ((g1f key hk counter nonce hn b ex hb j h1 (ih (j+1) (by omega))).told.mono fun v m ⟨hv,hm⟩=>by subst hv;subst hm;exact x1v (b:=true) rfl rfl).told
  · exact (z0x key hk counter nonce hn b ex hb j h1).told
theorem a2j (key:List UInt8) (hk:key.length=32) (counter:UInt32) (nonce:List UInt8) (hn:nonce.length=12) (b:List UInt8) (ex:Bool) (hb:¬1600<b.length):Ct Tryd.prog 45 [.w (.agg (Aq key)),.w (.one (.pl (.u32 counter))),.w (.agg (Aq nonce)),.w (.one (.pl (.R ex 1 (Aw b)))),.w (.one (.pl (.i 0)))] (byW (d0b key counter nonce b)):=by
 have h:=a2k key hk counter nonce hn b ex hb b.length 0 (by omega)
 simp only [Nat.mul_zero,List.drop_zero] at h
 exact h
theorem n1n (key:List UInt8) (hk:key.length=32) (counter:UInt32) (nonce:List UInt8) (hn:nonce.length=12) (b:List UInt8) (ex:Bool) (hb:¬1600<b.length) (h0:0<b.length):Ct Tryd.prog 45 [.w (.agg (Aq key)),.w (.one (.pl (.u32 counter))),.w (.agg (Aq nonce)),.w (.one (.pl (.R ex 1 (Aw b)))),.w (.one (.pl (.i 0)))] (e2t (d0b key counter nonce b)):=
 (g1f key hk counter nonce hn b ex hb 0 h0 (a2k key hk counter nonce hn b ex hb b.length 1 (by omega))).told
theorem v0y (key:List UInt8) (hk:key.length=32) (counter:UInt32) (nonce:List UInt8) (hn:nonce.length=12) (b:List UInt8) (ex:Bool) (hb:¬1600<b.length) (ho:¬64*(4294967296-counter.toNat)<b.length):
 Ct Tryd.prog 31 [.w (.agg (Aq key)),.w (.one (.pl (.u32 counter))),.w (.agg (Aq nonce)),.w (.one (.pl (.R ex 1 (Aw b))))] (Told (byV (d0b key counter nonce b) 0)):=by
 have h1:¬(1600:Int)<((b.length:Nat):Int):=by omega
 have hc:=counter.toNat_lt
 have htd:((b.length+63:Nat):Int).tdiv 64=(((b.length+63)/64:Nat):Int):=rfl
 have hlt:¬(((4294967296-counter.toNat:Nat):Int)<(((b.length+63)/64:Nat):Int)):=by omega
 have hl2:¬((64*(4294967296-counter.toNat):Nat):Int)<((b.length:Nat):Int):=by omega
 obtain ⟨hw1,hw2,hw3,hw4⟩:Go.RowKit.wrap64 (((b.length:Nat):Int)+63)=((b.length+63:Nat):Int)∧Go.RowKit.wrap64 (4294967296-((counter.toNat:Nat):Int))=((4294967296-counter.toNat:Nat):Int)∧Go.RowKit.wrap64 ((((b.length+63)/64:Nat):Int))=(((b.length+63)/64:Nat):Int)∧Go.RowKit.wrap64 (64*((4294967296-counter.toNat:Nat):Int))=((64*(4294967296-counter.toNat):Nat):Int):=⟨Kv (by omega) (by omega),Kv (by omega) (by omega),Kv rfl (by omega),Kv (by omega) (by omega)⟩
 have F0:=And.intro hk<|And.intro hn<|And.intro h1<|And.intro htd<|And.intro hlt<|And.intro hl2<|And.intro hw1<|And.intro hw2<|And.intro hw3<|hw4
 refine Ct.k Tryd.func31 rfl Tryd.ntmps31 (congrArg Array.toList Tryd.results31) (by simp) fun w0 ro=>?_
 refine Dx fun zZ zhZ=>?_
 iterate 19 first
  |(refine Dz fun zK zhK=>?_;simp only [go_sem,F0];(repeat' (first|apply And.intro|intro _)))
  |refine zhK _ ?_
  |refine Cq ?_
  |(refine zhN _ ?_;clear zhN zhM)
  |refine Ck ?_
  |(refine zhZ _ _ ?_;simp only [go_sem,F0];(all_goals (exact k1c _)))
  |((all_goals (refine Dy false [] (fun k=>k) (fun _ _=>rfl) ?_ (by decide) ?_ (a2j key hk counter nonce hn b ex hb).hands ?_;iterate 2 (focus (first|rfl|(simp only [go_sem,F0]<;>first|done|rfl|simp)))));(all_goals (rintro v m ⟨hR,hm⟩;subst hR;subst hm));(all_goals (refine And.intro ?_ (And.intro ?_ (And.intro ?_ ?_));iterate 3 (focus (first|rfl|(simp only [go_sem,F0];done)|(simp [go_sem,look,F0];done)))));(all_goals (try simp only [go_sem,F0]));(all_goals (try simp only [go_sem,F0]));(all_goals repeat' (first|apply And.intro|intro _)))
  |refine Bq fun zN zM zhN zhM=>?_
  |(refine Bj ?_ ?_;focus (first|rfl|(simp [go_sem,F0];done)))
theorem m1h (key:List UInt8) (hk:key.length=32) (counter:UInt32) (nonce:List UInt8) (hn:nonce.length=12) (b:List UInt8) (ex:Bool) (hb:¬1600<b.length) (ho:¬64*(4294967296-counter.toNat)<b.length) (h0:0<b.length):
 Ct Tryd.prog 31 [.w (.agg (Aq key)),.w (.one (.pl (.u32 counter))),.w (.agg (Aq nonce)),.w (.one (.pl (.R ex 1 (Aw b))))] (Told (byO (d0b key counter nonce b) 0)):=by
 have h1:¬(1600:Int)<((b.length:Nat):Int):=by omega
 have hc:=counter.toNat_lt
 have htd:((b.length+63:Nat):Int).tdiv 64=(((b.length+63)/64:Nat):Int):=rfl
 have hlt:¬(((4294967296-counter.toNat:Nat):Int)<(((b.length+63)/64:Nat):Int)):=by omega
 have hl2:¬((64*(4294967296-counter.toNat):Nat):Int)<((b.length:Nat):Int):=by omega
 obtain ⟨hw1,hw2,hw3,hw4⟩:Go.RowKit.wrap64 (((b.length:Nat):Int)+63)=((b.length+63:Nat):Int)∧Go.RowKit.wrap64 (4294967296-((counter.toNat:Nat):Int))=((4294967296-counter.toNat:Nat):Int)∧Go.RowKit.wrap64 ((((b.length+63)/64:Nat):Int))=(((b.length+63)/64:Nat):Int)∧Go.RowKit.wrap64 (64*((4294967296-counter.toNat:Nat):Int))=((64*(4294967296-counter.toNat):Nat):Int):=⟨Kv (by omega) (by omega),Kv (by omega) (by omega),Kv rfl (by omega),Kv (by omega) (by omega)⟩
 have hsl:(d0b key counter nonce b).length=b.length:=Oz _ _ _
 have F0:=And.intro hk<|And.intro hn<|And.intro h1<|And.intro htd<|And.intro hlt<|And.intro hl2<|And.intro hw1<|And.intro hw2<|And.intro hw3<|hw4
 refine Ct.k Tryd.func31 rfl Tryd.ntmps31 (congrArg Array.toList Tryd.results31) (by simp) fun w0 ro=>?_
 refine Dx fun zZ zhZ=>?_
 iterate 19 first
  |(refine Dz fun zK zhK=>?_;simp only [go_sem,F0];(repeat' (first|apply And.intro|intro _)))
  |refine zhK _ ?_
  |refine Cq ?_
  |(refine zhN _ ?_;clear zhN zhM)
  |refine Ck ?_
  |(refine zhZ _ _ ?_;simp only [go_sem,F0];(all_goals (exact f0h (by simp) (by simp [look]))))
  |((all_goals (refine Dy false [] (fun _=>20) (fun _ _=>rfl) ?_ (by decide) ?_ (n1n key hk counter nonce hn b ex hb h0).hands ?_;iterate 2 (focus (first|rfl|(simp only [go_sem,F0]<;>first|done|rfl|simp)))));(all_goals (rintro v m ⟨hR,hm⟩;subst hR;subst hm));(all_goals (refine And.intro ?_ (And.intro ?_ (And.intro ?_ ?_));iterate 3 (focus (first|rfl|(simp only [go_sem,F0];done)|(simp [go_sem,look,F0];done)))));(all_goals (try simp only [go_sem,F0]));(all_goals (try simp only [go_sem,F0]));(all_goals repeat' (first|apply And.intro|intro _)))
  |refine Bq fun zN zM zhN zhM=>?_
  |(refine Bj ?_ ?_;focus (first|rfl|(simp [go_sem,F0];done)))
theorem w0d (e1 e2:Bool) (r1 r2:List UInt8):
 Ct Tryd.prog 7 [.w (.one (.pl (.R e1 1 (Aw r1)))),.w (.one (.pl (.R e2 1 (Aw r2))))] (fun v m=>v=.w (.one (.pl (.b (decide (r1=r2)))))):=by
 refine Ct.k Tryd.func7 rfl Tryd.ntmps7 (congrArg Array.toList Tryd.results7) (by simp) fun w0 ro=>?_
 refine Dx fun zZ zhZ=>?_
 iterate 6 first
  |(refine Dz fun zK zhK=>?_;simp only [go_sem];(repeat' (first|apply And.intro|intro _)))
  |refine zhK _ ?_
  |refine Ck ?_
  |(refine zhZ _ _ ?_;simp only [go_sem];(all_goals rfl))
end Go.Sy
