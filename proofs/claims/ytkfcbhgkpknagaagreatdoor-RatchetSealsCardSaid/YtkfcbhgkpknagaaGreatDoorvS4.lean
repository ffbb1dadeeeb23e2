/- Walks and what they compute. CONDITIONS: those that each theorem names. -/
import Derived.Test.YtkfcbhgkpknagaaGreatDoorvE3
import Derived.Test.YtkfcbhgkpknagaaGreatDoorvS3
import Derived.Test.YtkfcbhgkpknagaaGreatDoorvS1
import Derived.Test.YtkfcbhgkpknagaaGreatDoorvS2
import Derived.Test.YtkfcbhgkpknagaaGreatDoorvE4
set_option linter.unusedVariables false
set_option linter.unusedSimpArgs false
set_option maxHeartbeats 3200000
set_option maxRecDepth 100000
namespace Go.Sy
theorem o0m {l:List UInt32} {i:Nat} (h:i<l.length):List.take 1 (List.drop i (Jy l))=[.pl (.u32 (l.getD i 0))]:=by
 rw [xM (by simpa [Jy] using h),wE,wH]
 simp [Jy,List.getD,yO h]
theorem f1i (l:List UInt32):(Jy l).length=l.length:=by simp [Jy]
theorem j2s (k:Nat) (l:List UInt32):(Jy l).any (L.has k)=false:=by
 rw [xC]
 intro x hx
 obtain ⟨y,_,rfl⟩:=xG.mp hx
 simp [L.has]
theorem l1u {q:List UInt32} {j:Nat} (x:UInt32) (h:j<q.length):List.take j (Jy q)++[L.pl (PL.u32 x)]++List.drop (j+1) (Jy q)=Jy (q.set j x):=by
 rw [uJ,if_pos h];simp [Jy]
theorem j2q (l:List UInt32):Jy l=pls (l.map PL.u32):=by simp [Jy,pls]
theorem p2u (vw:Bool) (S:St) (hd:Hand) (l:List UInt32):Dq vw S hd (Jy l)=some (Jy l):=by rw [j2q];exact m0l vw S hd _
theorem j2r (vw:Bool) (m:List (Nat×Ob)) (l:List UInt32):(Jy l).all (Nk vw m)=true:=by
 simp only [Jy,yJ,xG]
 rintro x ⟨y,_,rfl⟩
 simp [Nk,Ry]
theorem j2p (f:Nat→Nat) (l:List UInt32):(Jy l).map (L.ren f)=Jy l:=by simp [Jy,L.ren]
attribute [go_sem] j2s p2u j2r j2p f1i
def t1k (q:List UInt32) (a b:Nat) (x:UInt32):List UInt32:=q.set a (q.getD a 0+(q.getD b 0+x))
def j2h (q:List UInt32) (c d:Nat):List UInt32:=q.set c (q.getD c 0+q.getD d 0)
def a2b (r:UInt32→Nat→UInt32) (q:List UInt32) (d a k:Nat):List UInt32:=q.set d (r (q.getD d 0^^^q.getD a 0) k)
theorem k0s (q:List UInt32) (a b:Nat) (x:UInt32):(t1k q a b x).length=q.length:=List.length_set
theorem g0q (q:List UInt32) (a b:Nat):(j2h q a b).length=q.length:=List.length_set
theorem f0x (r:UInt32→Nat→UInt32) (q:List UInt32) (d a k:Nat):(a2b r q d a k).length=q.length:=List.length_set
theorem j2t {q:List UInt32} {a b:Nat} {x:UInt32} (h:a<q.length):List.take a (Jy q)++[L.pl (PL.u32 (q.getD a 0+(q.getD b 0+x)))]++List.drop (a+1) (Jy q)=Jy (t1k q a b x):=l1u _ h
theorem j2u {q:List UInt32} {a b:Nat} (h:a<q.length):List.take a (Jy q)++[L.pl (PL.u32 (q.getD a 0+q.getD b 0))]++List.drop (a+1) (Jy q)=Jy (j2h q a b):=l1u _ h
theorem j2o {r:UInt32→Nat→UInt32} {q:List UInt32} {d a k:Nat} (h:d<q.length):List.take d (Jy q)++[L.pl (PL.u32 (r (q.getD d 0^^^q.getD a 0) k))]++List.drop (d+1) (Jy q)=Jy (a2b r q d a k):=l1u _ h
theorem uqr {q:List UInt32} {c r:Nat} (h:c<4) (hq:q.length=16) (hr:r+4≤16):List.take 1 (List.drop c (List.take 4 (List.drop r (Jy q))))=[.pl (.u32 (q.getD (r+c) 0))]:=by
 have e:Jy q=(Jy q):=rfl
 rw [List.drop_take,wO,List.take_take,show min 1 (4-c)=1 from by omega]
 exact o0m (by omega)
theorem r2v {q:List UInt32} {c:Nat} (h:c<4) (hq:q.length=16):List.take 1 (List.drop c (List.take 4 (Jy q)))=[.pl (.u32 (q.getD c 0))]:=by
 have:=uqr (r:=0) h hq (by decide)
 rwa [vR,xV] at this
theorem r2u {q:List UInt32} {c:Nat} (h:c<4) (hq:q.length=16):List.take 1 (List.drop c (List.take 4 (List.drop 4 (Jy q))))=[.pl (.u32 (q.getD (4+c) 0))]:=uqr h hq (by decide)
theorem r2t {q:List UInt32} {c:Nat} (h:c<4) (hq:q.length=16):List.take 1 (List.drop c (List.take 4 (List.drop 8 (Jy q))))=[.pl (.u32 (q.getD (8+c) 0))]:=uqr h hq (by decide)
theorem j2n {q:List UInt32} {c:Nat} (h:c<4) (hq:q.length=16):List.take 1 (List.drop c (List.take 4 (List.drop 12 (Jy q))))=[.pl (.u32 (q.getD (12+c) 0))]:=uqr h hq (by decide)
theorem d2a {α:Type} {q:List α} {c r:Nat} (x:α) (h:c<4) (hr:r+4≤q.length):List.take r q++(List.take c (List.take 4 (List.drop r q))++[x]++List.drop (c+1) (List.take 4 (List.drop r q)))++List.drop (r+4) q=q.set (r+c) x:=by
 have e1:List.take c (List.take 4 (List.drop r q))=List.take c (List.drop r q):=by rw [List.take_take,show min c 4=c from by omega]
 have e2:List.drop (c+1) (List.take 4 (List.drop r q))++List.drop (r+4) q=List.drop (r+c+1) q:=by
  have:=wS (4-(c+1)) (List.drop (c+1) (List.drop r q))
  rw [List.drop_take,←wO (i:=4) (j:=r)]
  rw [wO,wO] at this
  rw [wO,wO]
  rw [show r+(c+1)+(4-(c+1))=r+4 from by omega,show r+(c+1)=r+c+1 from by omega] at this
  rw [show r+(c+1)=r+c+1 from by omega]
  exact this
 rw [e1,uJ,if_pos (by omega),List.take_add]
 simp only [wM,yB,yC,e2]
theorem uqs {q:List UInt32} {c r:Nat} (x:UInt32) (h:c<4) (hq:q.length=16) (hr:r+4≤16):List.take r (Jy q)++(List.take c (List.take 4 (List.drop r (Jy q)))++[L.pl (PL.u32 x)]++List.drop (c+1) (List.take 4 (List.drop r (Jy q))))++List.drop (r+4) (Jy q)=Jy (q.set (r+c) x):=by
 rw [d2a _ h (by rw [f1i,hq];exact hr)]
 simp [Jy,List.map_set]
theorem r2s {q:List UInt32} {c:Nat} {x:UInt32} (h:c<4) (hq:q.length=16):List.take c (List.take 4 (Jy q))++[L.pl (PL.u32 x)]++List.drop (c+1) (List.take 4 (Jy q))++List.drop 4 (Jy q)=Jy (q.set c x):=by
 have:=uqs (r:=0) x h hq (by decide)
 rwa [wH,yC,vR,xV,xV] at this
theorem r2r {q:List UInt32} {c:Nat} {x:UInt32} (h:c<4) (hq:q.length=16):List.take 4 (Jy q)++(List.take c (List.take 4 (List.drop 4 (Jy q)))++[L.pl (PL.u32 x)]++List.drop (c+1) (List.take 4 (List.drop 4 (Jy q))))++List.drop 8 (Jy q)=Jy (q.set (4+c) x):=uqs (r:=4) x h hq (by decide)
theorem r2q {q:List UInt32} {c:Nat} {x:UInt32} (h:c<4) (hq:q.length=16):List.take 8 (Jy q)++(List.take c (List.take 4 (List.drop 8 (Jy q)))++[L.pl (PL.u32 x)]++List.drop (c+1) (List.take 4 (List.drop 8 (Jy q))))++List.drop 12 (Jy q)=Jy (q.set (8+c) x):=uqs (r:=8) x h hq (by decide)
theorem j2m {q:List UInt32} {c:Nat} {x:UInt32} (h:c<4) (hq:q.length=16):List.take 12 (Jy q)++(List.take c (List.take 4 (List.drop 12 (Jy q)))++[L.pl (PL.u32 x)]++List.drop (c+1) (List.take 4 (List.drop 12 (Jy q))))=Jy (q.set (12+c) x):=by
 have:=uqs (r:=12) x h hq (by decide)
 have e:List.drop (12+4) (Jy q)=[]:=xY (by rw [f1i,hq];decide)
 rwa [e,wY] at this
theorem fold_add (q:List UInt32) (a b:Nat) (x:UInt32):q.set a (q.getD a 0+(q.getD b 0+x))=t1k q a b x:=rfl
theorem q1t (q:List UInt32) (a b:Nat):q.set a (q.getD a 0+q.getD b 0)=j2h q a b:=rfl
theorem q1s (r:UInt32→Nat→UInt32) (q:List UInt32) (d a k:Nat):q.set d (r (q.getD d 0^^^q.getD a 0) k)=a2b r q d a k:=rfl
theorem z0o (a:Nat):(0:Int)≤((a:Nat):Int):=Int.natCast_nonneg a
theorem c1m {a:Nat} (h:a<16):((a:Nat):Int)<16:=by omega
theorem t0w {a:Int} {n:Nat} (h:a=(n:Int)) (hn:n≤9223372036854775807):Go.RowKit.wrap64 a=(n:Int):=by subst h;exact w64 (by omega)
theorem wl4 {i:Nat} (h:i<16):Go.RowKit.wrap64 (4+((i:Nat):Int))=((4+i:Nat):Int):=t0w (by omega) (by omega)
theorem wl8 {i:Nat} (h:i<16):Go.RowKit.wrap64 (8+((i:Nat):Int))=((8+i:Nat):Int):=t0w (by omega) (by omega)
theorem wl9 {i:Nat} (h:i<16):Go.RowKit.wrap64 (9+((i:Nat):Int))=((9+i:Nat):Int):=t0w (by omega) (by omega)
theorem p2d {i:Nat} (h:i<16):Go.RowKit.wrap64 (12+((i:Nat):Int))=((12+i:Nat):Int):=t0w (by omega) (by omega)
theorem wp1 {i:Nat} (h:i<16):Go.RowKit.wrap64 (((i:Nat):Int)+1)=((i+1:Nat):Int):=t0w (by omega) (by omega)
theorem wp2 {i:Nat} (h:i<16):Go.RowKit.wrap64 (((i:Nat):Int)+2)=((i+2:Nat):Int):=t0w (by omega) (by omega)
theorem wp3 {i:Nat} (h:i<16):Go.RowKit.wrap64 (((i:Nat):Int)+3)=((i+3:Nat):Int):=t0w (by omega) (by omega)
theorem wz0 {i:Nat} (h:i<100):Go.RowKit.wrap64 (0+((i:Nat):Int))=((i:Nat):Int):=t0w (by omega) (by omega)
theorem wt2 {i:Nat} (h:i<16):Go.RowKit.wrap64 (2*((i:Nat):Int))=((2*i:Nat):Int):=t0w (by omega) (by omega)
theorem tm4 (n:Nat):Int.tmod ((n:Nat):Int) 4=((n%4:Nat):Int):=rfl
theorem lt4 {n:Nat}:n%4<16:=by omega
end Go.Sy
namespace Go.Sy
namespace Bk
open Go.Proofs
attribute [local irreducible] Bw HT Aj Jk onC onE onO onG goV goA goS Lx Bz
def ma1 (a b x:UInt32):UInt32:=a+(b+x)
def md1 (a b d x:UInt32):UInt32:=Kq (d^^^ma1 a b x) 16
def mc1 (a b c d x:UInt32):UInt32:=c+md1 a b d x
def mb1 (a b c d x:UInt32):UInt32:=Kq (b^^^mc1 a b c d x) 20
def mA (a b c d x y:UInt32):UInt32:=ma1 a b x+(mb1 a b c d x+y)
def mD (a b c d x y:UInt32):UInt32:=Kq (md1 a b d x^^^mA a b c d x y) 24
def mC (a b c d x y:UInt32):UInt32:=mc1 a b c d x+mD a b c d x y
def mB (a b c d x y:UInt32):UInt32:=Kq (mb1 a b c d x^^^mC a b c d x y) 25
def r0i (q:List UInt32) (a b c d:Nat) (x y:UInt32):List UInt32:=a2b Kq (j2h (a2b Kq (t1k (a2b Kq (j2h (a2b Kq (t1k q a b x) d a 16) c d) b c 20) a b y) d a 24) c d) b c 25
theorem v0e (q:List UInt32) (a b c d:Nat) (x y:UInt32):(r0i q a b c d x y).length=q.length:=by simp only [r0i,f0x,g0q,k0s]
theorem q2t (q:List UInt32) (hq:q.length=16) (a b c d:Nat) (ha:a<16) (hb:b<16) (hc:c<16) (hd:d<16) (x y:UInt32):
 CtM Tryz.prog 132 [.w (.one (.pl (.i (a:Int)))),.w (.one (.pl (.i (b:Int)))),.w (.one (.pl (.i (c:Int)))),.w (.one (.pl (.i (d:Int)))),.w (.one (.pl (.u32 x))),.w (.one (.pl (.u32 y))),.w (.one (.p 500000 []))] [(500000,⟨false,Jy q⟩)] (fun v m=>v=.tup []∧m=[(500000,⟨false,Jy (r0i q a b c d x y)⟩)]):=by
 have ia:=c1m ha
 have ja:a+1≤16:=ha
 have ib:=c1m hb
 have jb:b+1≤16:=hb
 have ic:=c1m hc
 have jc:c+1≤16:=hc
 have id:=c1m hd
 have jd:d+1≤16:=hd
 have F0:=yA hq<|yA ha<|yA ia<|yA ja<|yA hb<|yA ib<|yA jb<|yA hc<|yA ic<|yA jc<|yA hd<|yA id<|yA jd<|yA z0o<|yA @o0m<|yA @j2t<|yA @j2u<|yA (@j2o Kq)<|yA k0s<|yA g0q<|yA f0x<|r0i.eq_1
 have cq:=yA (fun x=>Ct.cv (b1q x))<|yA (fun x=>Ct.cv (d2e x))<|yA (fun x=>Ct.cv (d2d x))<|yA (fun x=>Ct.cv (d2c x))<|trivial
 have zF:FG [13,14,15,16,17,18,19,20,21,22,23,24,25,26,27,28,29,30,31,32,33,34,35,36,37,38,39,40,41,42,43,44,45,46,47,48,49,50,51,52,53,54,55,56,57,58,59,60,61,62,63,64,65,66,67,68,69,70,71,72,73,74,75,76,77,78,79,80,81,82,83,84,85,86,87,88]:=trivial
 have zd0:DR 0 [13,14,15,16,17,18,19,20,21,22] [0,1,3,0,8,24,0,120,255,511,1023] []:=trivial
 have zd1:DR 1 [23,24,25,26,27,28,29,30,31,32] [0,0,2,6,0,16,48,126,254,511,1023] []:=trivial
 have zd2:DR 2 [33,34,35,36,37,38,39,40] [0,1,3,0,8,24,63,127,255] []:=trivial
 have zd3:DR 3 [41,42,43,44,45,46,47,48,49,50] [0,0,2,6,0,16,48,126,254,511,1023] []:=trivial
 have zd4:DR 4 [51,52,53,54,55,56,57,58,59,60] [0,1,3,0,8,24,0,120,255,511,1023] []:=trivial
 have zd5:DR 5 [61,62,63,64,65,66,67,68,69,70] [0,0,2,6,0,16,48,126,254,511,1023] []:=trivial
 have zd6:DR 6 [71,72,73,74,75,76,77,78] [0,1,3,0,8,24,63,127,255] []:=trivial
 have zd7:DR 7 [79,80,81,82,83,84,85,86,87,88] [0,0,2,6,0,16,48,126,254,511,1023] []:=trivial
 exact CtM.run2 Tryz.func132 rfl Tryz.ntmps132 Tryz.results132
theorem n2d (q:List UInt32) (hq:q.length=16) (a b c d:Nat) (ha:a<16) (hb:b<16) (hc:c<16) (hd:d<16) (x y:UInt32):CtM Tryz.prog 132 ([.w (.one (.pl (.i (a:Int)))),.w (.one (.pl (.i (b:Int)))),.w (.one (.pl (.i (c:Int)))),.w (.one (.pl (.i (d:Int)))),.w (.one (.pl (.u32 x))),.w (.one (.pl (.u32 y)))]++[500000].map fun k=>.w (.one (.p k []))) [(500000,⟨false,Jy q⟩)] (fun v m=>v=.tup []∧m=[(500000,⟨false,Jy (r0i q a b c d x y)⟩)]):=q2t q hq a b c d ha hb hc hd x y
theorem a2w (x0 x1 x2 x3 x4 x5 x6 x7 x8 x9 x10 x11 x12 x13 x14 x15 x y:UInt32):r0i [x0,x1,x2,x3,x4,x5,x6,x7,x8,x9,x10,x11,x12,x13,x14,x15] 0 4 8 12 x y=[(mA x0 x4 x8 x12 x y),x1,x2,x3,(mB x0 x4 x8 x12 x y),x5,x6,x7,(mC x0 x4 x8 x12 x y),x9,x10,x11,(mD x0 x4 x8 x12 x y),x13,x14,x15]:=rfl
theorem a2v (x0 x1 x2 x3 x4 x5 x6 x7 x8 x9 x10 x11 x12 x13 x14 x15 x y:UInt32):r0i [x0,x1,x2,x3,x4,x5,x6,x7,x8,x9,x10,x11,x12,x13,x14,x15] 1 5 9 13 x y=[x0,(mA x1 x5 x9 x13 x y),x2,x3,x4,(mB x1 x5 x9 x13 x y),x6,x7,x8,(mC x1 x5 x9 x13 x y),x10,x11,x12,(mD x1 x5 x9 x13 x y),x14,x15]:=rfl
theorem a2u (x0 x1 x2 x3 x4 x5 x6 x7 x8 x9 x10 x11 x12 x13 x14 x15 x y:UInt32):r0i [x0,x1,x2,x3,x4,x5,x6,x7,x8,x9,x10,x11,x12,x13,x14,x15] 2 6 10 14 x y=[x0,x1,(mA x2 x6 x10 x14 x y),x3,x4,x5,(mB x2 x6 x10 x14 x y),x7,x8,x9,(mC x2 x6 x10 x14 x y),x11,x12,x13,(mD x2 x6 x10 x14 x y),x15]:=rfl
theorem a2t (x0 x1 x2 x3 x4 x5 x6 x7 x8 x9 x10 x11 x12 x13 x14 x15 x y:UInt32):r0i [x0,x1,x2,x3,x4,x5,x6,x7,x8,x9,x10,x11,x12,x13,x14,x15] 3 7 11 15 x y=[x0,x1,x2,(mA x3 x7 x11 x15 x y),x4,x5,x6,(mB x3 x7 x11 x15 x y),x8,x9,x10,(mC x3 x7 x11 x15 x y),x12,x13,x14,(mD x3 x7 x11 x15 x y)]:=rfl
theorem n2h (x0 x1 x2 x3 x4 x5 x6 x7 x8 x9 x10 x11 x12 x13 x14 x15 x y:UInt32):r0i [x0,x1,x2,x3,x4,x5,x6,x7,x8,x9,x10,x11,x12,x13,x14,x15] 0 5 10 15 x y=[(mA x0 x5 x10 x15 x y),x1,x2,x3,x4,(mB x0 x5 x10 x15 x y),x6,x7,x8,x9,(mC x0 x5 x10 x15 x y),x11,x12,x13,x14,(mD x0 x5 x10 x15 x y)]:=rfl
theorem n2g (x0 x1 x2 x3 x4 x5 x6 x7 x8 x9 x10 x11 x12 x13 x14 x15 x y:UInt32):r0i [x0,x1,x2,x3,x4,x5,x6,x7,x8,x9,x10,x11,x12,x13,x14,x15] 1 6 11 12 x y=[x0,(mA x1 x6 x11 x12 x y),x2,x3,x4,x5,(mB x1 x6 x11 x12 x y),x7,x8,x9,x10,(mC x1 x6 x11 x12 x y),(mD x1 x6 x11 x12 x y),x13,x14,x15]:=rfl
theorem n2f (x0 x1 x2 x3 x4 x5 x6 x7 x8 x9 x10 x11 x12 x13 x14 x15 x y:UInt32):r0i [x0,x1,x2,x3,x4,x5,x6,x7,x8,x9,x10,x11,x12,x13,x14,x15] 2 7 8 13 x y=[x0,x1,(mA x2 x7 x8 x13 x y),x3,x4,x5,x6,(mB x2 x7 x8 x13 x y),(mC x2 x7 x8 x13 x y),x9,x10,x11,x12,(mD x2 x7 x8 x13 x y),x14,x15]:=rfl
theorem n2e (x0 x1 x2 x3 x4 x5 x6 x7 x8 x9 x10 x11 x12 x13 x14 x15 x y:UInt32):r0i [x0,x1,x2,x3,x4,x5,x6,x7,x8,x9,x10,x11,x12,x13,x14,x15] 3 4 9 14 x y=[x0,x1,x2,(mA x3 x4 x9 x14 x y),(mB x3 x4 x9 x14 x y),x5,x6,x7,x8,(mC x3 x4 x9 x14 x y),x10,x11,x12,x13,(mD x3 x4 x9 x14 x y),x15]:=rfl
end Bk
end Go.Sy
namespace Go.Sy
namespace Bk
open Go.Proofs
attribute [local irreducible] Bw HT Aj Jk onC onE onO onG goV goA goS Lx Bz
def w0o (b:List UInt8) (k:Nat):UInt32:=(lev ((b.drop (4*k)).take 4)).toUInt32
theorem u0e {x:UInt32} {b:UInt8} (h:x.toNat<16777216):(Rx x 8|||b.toUInt32).toNat=x.toNat*256+b.toNat:=by
 have hb:=b.toNat_lt
 have s:(Rx x 8).toNat=x.toNat*2 ^ 8:=by
  simp only [Rx,UInt32.toNat_ofNat']
  exact yN (by omega)
 rw [UInt32.toNat_or,s,UInt8.toNat_toUInt32,vF,←Nat.two_pow_add_eq_or_of_lt (i:=8) hb]
theorem t1v {b0 b1 b2 b3:UInt8}:Rx (Rx (Rx (Rx 0 8|||b3.toUInt32) 8|||b2.toUInt32) 8|||b1.toUInt32) 8|||b0.toUInt32=(lev [b0,b1,b2,b3]).toUInt32:=by
 have h0:=b0.toNat_lt
 have h1:=b1.toNat_lt
 have h2:=b2.toNat_lt
 have h3:=b3.toNat_lt
 have e0:((0:UInt32)).toNat=0:=rfl
 have e3:=u0e (x:=0) (b:=b3) (by rw [e0];decide)
 have e2:=u0e (x:=Rx 0 8|||b3.toUInt32) (b:=b2) (by rw [e3,e0];omega)
 have e1:=u0e (x:=Rx (Rx 0 8|||b3.toUInt32) 8|||b2.toUInt32) (b:=b1) (by rw [e2,e3,e0];omega)
 have ee:=u0e (x:=Rx (Rx (Rx 0 8|||b3.toUInt32) 8|||b2.toUInt32) 8|||b1.toUInt32) (b:=b0) (by rw [e1,e2,e3,e0];omega)
 apply UInt32.toNat_inj.mp
 rw [ee,e1,e2,e3,e0,UInt64.toNat_toUInt32]
 rw [Sq (by simp)]
 simp only [leN];omega
theorem p2w {l:List UInt8} {j:Nat} (h:j+4≤l.length):(l.drop j).take 4=[l.getD j 0,l.getD (j+1) 0,l.getD (j+2) 0,l.getD (j+3) 0]:=by
 rw [drop_cons (by omega),drop_cons (l:=l) (j:=j+1) (by omega),drop_cons (l:=l) (j:=j+1+1) (by omega),drop_cons (l:=l) (j:=j+1+1+1) (by omega)]
 rfl
theorem Lv {q:List UInt8} {i:Nat} (h:i<q.length):List.take 1 (List.drop i q)=[q.getD i 0]:=by
 rw [xM h,wE,wH]
 simp [List.getD,yO h]
theorem Fj (x:UInt8):Az [x]=[.pl (.u8 x)]:=rfl
theorem d0e {l:List UInt32} {i:Nat} (h:i<l.length):List.take 1 (List.drop i (Jy l))=[.pl (.u32 (l.getD i 0))]:=by
 rw [xM (by simpa [Jy] using h),wE,wH]
 simp [Jy,List.getD,yO h]
theorem a0t (l:List UInt32):(Jy l).length=l.length:=by simp [Jy]
theorem t0z (k:Nat) (l:List UInt32):(Jy l).any (L.has k)=false:=by
 rw [xC]
 intro x hx
 obtain ⟨y,_,rfl⟩:=xG.mp hx
 simp [L.has]
theorem n0o (k:Nat) (l:List UInt32):(Jy l).map (Uq k)=Jy l:=by simp only [Jy,List.map_map];rfl
theorem j0a {q:List UInt32} {j:Nat} (x:UInt32) (h:j<q.length):List.take j (Jy q)++[L.pl (PL.u32 x)]++List.drop (j+1) (Jy q)=Jy (q.set j x):=by
 rw [uJ,if_pos h];simp [Jy]
theorem Nv {q:List UInt32} {i j:Nat} {x:UInt32} (h:i<q.length):(q.set i x).getD j 0=if i=j then x else q.getD j 0:=by
 simp only [List.getD,List.getElem?_set]
 split
 ·rename_i e;subst e;simp [h]
 rfl
structure W16 where
 x0:UInt32
 x1:UInt32
 x2:UInt32
 x3:UInt32
 x4:UInt32
 x5:UInt32
 x6:UInt32
 x7:UInt32
 x8:UInt32
 x9:UInt32
 x10:UInt32
 x11:UInt32
 x12:UInt32
 x13:UInt32
 x14:UInt32
 x15:UInt32
def W16.ls (w:W16):List L:=[.pl (.u32 w.x0),.pl (.u32 w.x1),.pl (.u32 w.x2),.pl (.u32 w.x3),.pl (.u32 w.x4),.pl (.u32 w.x5),.pl (.u32 w.x6),.pl (.u32 w.x7),.pl (.u32 w.x8),.pl (.u32 w.x9),.pl (.u32 w.x10),.pl (.u32 w.x11),.pl (.u32 w.x12),.pl (.u32 w.x13),.pl (.u32 w.x14),.pl (.u32 w.x15)]
def W16.l (w:W16):List UInt32:=[w.x0,w.x1,w.x2,w.x3,w.x4,w.x5,w.x6,w.x7,w.x8,w.x9,w.x10,w.x11,w.x12,w.x13,w.x14,w.x15]
theorem W16.ls_l (w:W16):w.ls=Jy w.l:=rfl
theorem W16.l_len (w:W16):w.l.length=16:=rfl
theorem p1g (k:Nat) (w:W16):w.ls.any (L.has k)=false:=by simp [W16.ls,L.has]
theorem c1i (k:Nat) (w:W16):w.ls.map (Uq k)=w.ls:=rfl
theorem w1m (k:Nat):j0h.any (L.has k)=false:=by
 rw [xC]
 intro x hx
 obtain ⟨y,_,rfl⟩:=xG.mp hx
 simp [L.has]
attribute [go_sem] t0z n0o p1g c1i w1m
def W16.col (y:Nat→UInt32) (w:W16):W16:=⟨(mA w.x0 w.x4 w.x8 w.x12 (y 0) (y 1)),(mA w.x1 w.x5 w.x9 w.x13 (y 2) (y 3)),(mA w.x2 w.x6 w.x10 w.x14 (y 4) (y 5)),(mA w.x3 w.x7 w.x11 w.x15 (y 6) (y 7)),(mB w.x0 w.x4 w.x8 w.x12 (y 0) (y 1)),(mB w.x1 w.x5 w.x9 w.x13 (y 2) (y 3)),(mB w.x2 w.x6 w.x10 w.x14 (y 4) (y 5)),(mB w.x3 w.x7 w.x11 w.x15 (y 6) (y 7)),(mC w.x0 w.x4 w.x8 w.x12 (y 0) (y 1)),(mC w.x1 w.x5 w.x9 w.x13 (y 2) (y 3)),(mC w.x2 w.x6 w.x10 w.x14 (y 4) (y 5)),(mC w.x3 w.x7 w.x11 w.x15 (y 6) (y 7)),(mD w.x0 w.x4 w.x8 w.x12 (y 0) (y 1)),(mD w.x1 w.x5 w.x9 w.x13 (y 2) (y 3)),(mD w.x2 w.x6 w.x10 w.x14 (y 4) (y 5)),(mD w.x3 w.x7 w.x11 w.x15 (y 6) (y 7))⟩
def W16.diag (y:Nat→UInt32) (w:W16):W16:=⟨(mA w.x0 w.x5 w.x10 w.x15 (y 8) (y 9)),(mA w.x1 w.x6 w.x11 w.x12 (y 10) (y 11)),(mA w.x2 w.x7 w.x8 w.x13 (y 12) (y 13)),(mA w.x3 w.x4 w.x9 w.x14 (y 14) (y 15)),(mB w.x3 w.x4 w.x9 w.x14 (y 14) (y 15)),(mB w.x0 w.x5 w.x10 w.x15 (y 8) (y 9)),(mB w.x1 w.x6 w.x11 w.x12 (y 10) (y 11)),(mB w.x2 w.x7 w.x8 w.x13 (y 12) (y 13)),(mC w.x2 w.x7 w.x8 w.x13 (y 12) (y 13)),(mC w.x3 w.x4 w.x9 w.x14 (y 14) (y 15)),(mC w.x0 w.x5 w.x10 w.x15 (y 8) (y 9)),(mC w.x1 w.x6 w.x11 w.x12 (y 10) (y 11)),(mD w.x1 w.x6 w.x11 w.x12 (y 10) (y 11)),(mD w.x2 w.x7 w.x8 w.x13 (y 12) (y 13)),(mD w.x3 w.x4 w.x9 w.x14 (y 14) (y 15)),(mD w.x0 w.x5 w.x10 w.x15 (y 8) (y 9))⟩
def d0j (b:List UInt8) (r i:Nat):UInt32:=w0o b (g0v r i)
def a0k (b:List UInt8):Nat→W16→W16
 |0,w=>w
 |k+1,w=>((a0k b k w).col (d0j b k)).diag (d0j b k)
def g0w (b:List UInt8) (k:Nat) (q:List UInt32):Nat→List UInt32
 |0=>q
 |i+1=>r0i (g0w b k q i) i (4+i) (8+i) (12+i) (d0j b k (2*i)) (d0j b k (2*i+1))
def q0k (b:List UInt8) (k:Nat) (q:List UInt32):Nat→List UInt32
 |0=>q
 |i+1=>r0i (q0k b k q i) i (4+(i+1)%4) (8+(i+2)%4) (12+(i+3)%4) (d0j b k (8+2*i)) (d0j b k (9+2*i))
theorem k0f (b:List UInt8) (k:Nat) (q:List UInt32): ∀ i,(g0w b k q i).length=q.length
 |0=>rfl
 |i+1=>by rw [g0w,v0e,k0f b k q i]
theorem a1b (b:List UInt8) (k:Nat) (q:List UInt32): ∀ i,(q0k b k q i).length=q.length
 |0=>rfl
 |i+1=>by rw [q0k,v0e,a1b b k q i]
theorem o0g (b:List UInt8) (k:Nat) (w:W16):g0w b k w.l 4=(w.col (d0j b k)).l:=by
 simp only [g0w,W16.l,xV,Nat.mul_zero,vB,Nat.mul_one,Nat.reduceAdd,Nat.reduceMul,a2w,a2v,a2u,a2t];rfl
theorem q0i (b:List UInt8) (k:Nat) (w:W16):q0k b k w.l 4=(w.diag (d0j b k)).l:=by
 simp only [q0k,W16.l,xV,Nat.mul_zero,vB,Nat.mul_one,Nat.reduceAdd,Nat.reduceMul,Nat.reduceMod,n2h,n2g,n2f,n2e];rfl
def i2w (r:Nat):List L:=(List.range 16).map fun i=>L.pl (PL.i ((g0v r i:Nat):Int))
theorem n0v (r:Nat):(i2w r).length=16:=by simp [i2w]
theorem row_one (r:Nat) {i:Nat} (h:i<16):List.take 1 (List.drop i (i2w r))=[L.pl (PL.i ((g0v r i:Nat):Int))]:=by
 rw [xM (by rw [n0v];exact h),wE,wH];simp [i2w]
theorem w1j {r:Nat} (hr:r<10):List.take 16 (List.drop (r*16) j0h)=i2w r:=by rw [e2i hr];rfl
theorem w1l (k r:Nat):(i2w r).any (L.has k)=false:=by
 rw [xC]
 intro x hx
 obtain ⟨y,_,rfl⟩:=xG.mp hx
 simp [L.has]
attribute [go_sem] w1l
structure H8 where
 h0:UInt32
 h1:UInt32
 h2:UInt32
 h3:UInt32
 h4:UInt32
 h5:UInt32
 h6:UInt32
 h7:UInt32
def H8.ls (w:H8):List L:=[.pl (.u32 w.h0),.pl (.u32 w.h1),.pl (.u32 w.h2),.pl (.u32 w.h3),.pl (.u32 w.h4),.pl (.u32 w.h5),.pl (.u32 w.h6),.pl (.u32 w.h7)]
theorem g2i (k:Nat) (w:H8):w.ls.map (Uq k)=w.ls:=rfl
attribute [go_sem] g2i
def n2s (h:H8) (len:Nat) (last:Bool):W16:=⟨h.h0,h.h1,h.h2,h.h3,h.h4,h.h5,h.h6,h.h7,1779033703,3144134277,1013904242,2773480762,1359893119^^^UInt32.ofNat len,2600822924,if last then ~~~528734635 else 528734635,1541459225⟩
def q2k (h:H8) (w:W16):H8:=⟨h.h0^^^(w.x0^^^w.x8),h.h1^^^(w.x1^^^w.x9),h.h2^^^(w.x2^^^w.x10),h.h3^^^(w.x3^^^w.x11),h.h4^^^(w.x4^^^w.x12),h.h5^^^(w.x5^^^w.x13),h.h6^^^(w.x6^^^w.x14),h.h7^^^(w.x7^^^w.x15)⟩
def h0v (h:H8) (b:List UInt8) (len:Nat) (last:Bool):H8:=q2k h (a0k b 10 (n2s h len last))
end Bk
end Go.Sy
namespace Go.Sy
namespace Bk
open Go.Proofs
attribute [local irreducible] Bw HT Aj Jk onC onE onO onG goV goA goS Lx Bz
theorem p0i (l:List UInt8) (hl:l.length≤4096):
 Ct Tryz.prog 96 [.w (.one (.pl (.str l)))] (fun v m=>v=.w (.one (.pl (.u64 (lev l))))):=by
 have hw0:Go.RowKit.wrap64 (((l.length:Nat):Int)-1)=((l.length:Nat):Int)-1:=w64 (by omega)
 have F0:=hw0
 refine Ct.go Tryz.func96 rfl Tryz.ntmps96 Tryz.results96 fun w0 ro zZ zhY=>?_
 refine (fun zX=>goW) ?_
 refine Bv [5,6,7] ?_
 simp only [Bj,Cx,Bq,yI,yK,Nat.reduceBEq,beq_self_eq_true,yS,yV,yY,yT,yE,reduceIte]
 refine Gx (fun y=>[(3,.w (.one (.pl (.u64 (lev (l.drop y.1)))))),(4,.w (.one (.pl (.i (((y.1:Nat):Int)-1)))))]) (fun _=>[]) (fun y=>y.1) (⟨l.length,xL _⟩:{y:Nat//y≤l.length}) ?_ (by (simp only [go_sem,List.drop_length,leX,yB,yC];first|rfl|simp [lev,leN])) (by (simp only [go_sem,leX,yB,yC];try simp))
 intro yy xN0 xM0 xhN0 xhM0
 simp only [yB,yC]
 obtain ⟨j,hj⟩:=yy
 rcases j with _|j
 ·have hc:¬(0:Int)≤((0:Nat):Int)-1:=by omega
  have F0:=yA hc<|F0
  refine (fun zX=>goW) ?_
  refine zhY _ _ ?_
  simp only [go_sem,F0]
  all_goals (simp only [vR])
 have hlt:j<l.length:=by omega
 have hd:=drop_cons hlt
 have hc:(0:Int)≤((j+1:Nat):Int)-1:=by omega
 have hij:((j+1:Nat):Int)-1=((j:Nat):Int):=by omega
 have hc1:(0:Int)≤((j:Nat):Int):=by omega
 have hc2:((j:Nat):Int)<((l.length:Nat):Int):=by omega
 have hg0:=Ik hlt
 have hw:Go.RowKit.wrap64 (((j:Nat):Int)-1)=((j:Nat):Int)-1:=w64 (by omega)
 have hle:lev (l.drop j)=lev (l.drop (j+1))*256+UInt64.ofNat (l.getD j 0).toNat:=by rw [hd];exact (p1m (l.drop (j+1)) _).symm
 have F0:=yA hc<|yA hij<|yA hc1<|yA hc2<|yA hg0<|yA hw<|F0
 refine (fun zX=>goW) ?_
 refine xhN0 ⟨j,by omega⟩ _ ?_ ?_ ?_
 ·(show j<j+1;omega)
 ·(rw [hle];simp only [go_sem,leX,yB,yC];try simp)
 (simp only [go_sem,leX,yB,yC,F0];try simp)
theorem j1l (n:UInt64) (k:Nat) (hk:k≤4096):
 Ct Tryz.prog 37 [.w (.one (.pl (.u64 n))),.w (.one (.pl (.i (k:Int))))] (fun v m=>v=.w (.one (.pl (.str (Mq n k))))):=by
 have F0:=trivial
 refine Ct.go Tryz.func37 rfl Tryz.ntmps37 Tryz.results37 fun w0 ro zZ zhY=>?_
 refine (fun zX=>goW) ?_
 refine Bv [1] ?_
 simp only [Bj,Cx,Bq,yI,yK,Nat.reduceBEq,beq_self_eq_true,yS,yV,yY,yT,yE,reduceIte]
 refine Gx (fun y=>[(0,.w (.one (.pl (.u64 y.1.2.2)))),(5,.w (.one (.pl (.str y.1.2.1)))),(7,.w (.one (.pl (.i ((y.1.1:Nat):Int)))))]) (fun _=>[]) (fun y=>k-y.1.1) (⟨(0,[],n),xA _,rfl,rfl⟩:{y:Nat×List UInt8×UInt64//y.1≤k∧y.2.1.length=y.1∧y.2.1++Mq y.2.2 (k-y.1)=Mq n k}) ?_
 intro yy xN0 xM0 xhN0 xhM0
 simp only [yB,yC]
 obtain ⟨⟨i,s,x⟩,hi,hs,hx⟩:=yy
 rcases yZ i k with hlt|hge
 ·simp only at hi hs hx
  have hc:((i:Nat):Int)<((k:Nat):Int):=by omega
  have hsl:s.length+1≤9223372036854775807:=by omega
  have hz:¬(256:UInt64)=0:=by decide
  have hk1:k-i=(k-(i+1))+1:=by omega
  rw [hk1,Mq] at hx
  have hs1:Go.RowKit.wrap64 (((i:Nat):Int)+1)=((i+1:Nat):Int):=Gy (by omega) (by omega)
  have F0:=yA hc<|yA hsl<|yA hz<|yA hs1<|F0
  have zL:=fun S2=>xhN0 ⟨(i+1,s++[UInt8.ofNat x.toNat],x/256),hlt,by simp [hs],by rw [←hx];simp⟩ S2 (by (clear hs1;show k-(i+1)<k-i;omega))
  exact goW
 simp only at hi hs hx
 have hik:i=k:=by omega
 subst hik
 rw [Nat.sub_self,Mq,wY] at hx
 have hc:¬((i:Nat):Int)<((i:Nat):Int):=by omega
 have F0:=yA hc<|F0
 refine (fun zX=>goW) ?_
 refine zhY _ _ ?_
 simp only [go_sem,F0]
 all_goals (rw [hx])
theorem j2j (b:List UInt8) (hb:b.length=64) (r i:Nat) (hr:r<10) (hi:i<16):
 CtM Tryz.prog 139 [.w (.one (.pl (.i (r:Int)))),.w (.one (.pl (.i (i:Int)))),.w (.one (.p 500000 []))] [(500000,⟨false,[.pl (.str b)]⟩)] (fun v m=>v=.w (.one (.pl (.u32 (d0j b r i))))∧m=[(500000,⟨false,[.pl (.str b)]⟩)]):=by
 obtain ⟨k,hk⟩: ∃ k,g0v r i=k:=⟨_,rfl⟩
 have hkl:=y0t hr hi
 rw [hk] at hkl
 have hu:d0j b r i=(lev ((b.drop (4*k)).take 4)).toUInt32:=by rw [d0j,hk,w0o]
 have hw:Go.RowKit.wrap64 (4*((k:Nat):Int))=((4*k:Nat):Int):=Gy (by omega) (by omega)
 have hw2:Go.RowKit.wrap64 (((4*k:Nat):Int)+4)=((4*k+4:Nat):Int):=Gy (by omega) (by omega)
 have d0:(0:Int)≤((4*k+4:Nat):Int)∧(0:Int)≤((4*k:Nat):Int)∧((4*k:Nat):Int)≤((4*k+4:Nat):Int)∧((4*k+4:Nat):Int)≤64:=by omega
 have d1:4*k≤4*k+4∧4*k+4≤64∧4*k+4-4*k=4:=by omega
 have F0:=yA hb<|yA hk<|yA hw<|yA hw2<|yA d0<|d1
 refine CtM.go Tryz.func139 rfl Tryz.ntmps139 Tryz.results139 fun w0 ro may fx zZ zhY=>?_
 have cq:=yA (Ct.cv (l2y r i hr hi))<|trivial
 have zS:ZS 2:=⟨⟩
 refine (fun zX=>goW) ?_
 refine ⟨?_⟩;clear zS
 refine Lj fun zK zhK=>?_
 simp only [go_sem,F0]
 repeat' (first|apply yA|intro _)
 all_goals refine Cv (fun k=>k) (fun _ _=>rfl) (by first|rfl|(simp only [go_sem,F0]<;>rfl)) ((p0i _ (by first|(simp [yH,yU];done)|(simp only [yH,yU];omega))).plain fun _ _ h=>h) ?_
 all_goals (rintro v m ⟨hR,hm⟩;subst hR;subst hm)
 all_goals refine yA (by first|rfl|simp only [go_sem,F0]) (yA (by first|rfl|simp only [go_sem,F0]) ?_)
 all_goals simp only [go_sem,F0]
 all_goals repeat' (first|apply yA|intro _)
 refine zhK _ ?_
 refine (fun zX=>goW) ?_
 refine zhY _ _ ?_
 simp only [go_sem,F0]
 all_goals (first|exact ⟨by rw [hu],rfl⟩|rw [hu]|(rw [hu];rfl))
theorem e1z (b:List UInt8) (hb:b.length=64) (r i:Nat) (hr:r<10) (hi:i<16):CtM Tryz.prog 139 ([.w (.one (.pl (.i (r:Int)))),.w (.one (.pl (.i (i:Int))))]++[500000].map fun k=>.w (.one (.p k []))) [(500000,⟨false,[.pl (.str b)]⟩)] (fun v m=>v=.w (.one (.pl (.u32 (d0j b r i))))∧m=[(500000,⟨false,[.pl (.str b)]⟩)]):=j2j b hb r i hr hi
def W16.sh (w:W16):W16:=⟨w.x0,w.x1,w.x2,w.x3,w.x5,w.x6,w.x7,w.x4,w.x10,w.x11,w.x8,w.x9,w.x15,w.x12,w.x13,w.x14⟩
def W16.unsh (w:W16):W16:=⟨w.x0,w.x1,w.x2,w.x3,w.x7,w.x4,w.x5,w.x6,w.x10,w.x11,w.x8,w.x9,w.x13,w.x14,w.x15,w.x12⟩
theorem n1e (x0 x1 x2 x3 x4 x5 x6 x7 x8 x9 x10 x11 x12 x13 x14 x15:UInt32):
 Ct Tryz.prog 97 [.w (.agg [.pl (.u32 x0),.pl (.u32 x1),.pl (.u32 x2),.pl (.u32 x3),.pl (.u32 x4),.pl (.u32 x5),.pl (.u32 x6),.pl (.u32 x7),.pl (.u32 x8),.pl (.u32 x9),.pl (.u32 x10),.pl (.u32 x11),.pl (.u32 x12),.pl (.u32 x13),.pl (.u32 x14),.pl (.u32 x15)]),.w (.one (.pl (.i 0)))] (fun v m=>v=.w (.agg (⟨x0,x1,x2,x3,x4,x5,x6,x7,x8,x9,x10,x11,x12,x13,x14,x15⟩:W16).ls)):=by
 have F0:=yA @xB<|@Int.zero_mul
 have zF:FG [9,10,12,13,14,15,16,17,18,19,20,21,22,23,24,25,26,27,28,29,30,31]:=trivial
 have zd0:DQ 8 [14,15,16,17,18,19,20,21,22,23,24,25,26,27,28] [0,0,0,0,8,0,0,96,248,504,4,2044,4092,1,16383,32767] []:=⟨⟩
 have zU:=yA ur<|yA ur<|yA ur<|yA ur<|yA ur<|trivial
 exact Ct.go Tryz.func97 rfl Tryz.ntmps97 Tryz.results97
theorem o0u (x0 x1 x2 x3 x4 x5 x6 x7 x8 x9 x10 x11 x12 x13 x14 x15:UInt32):
 Ct Tryz.prog 97 [.w (.agg [.pl (.u32 x0),.pl (.u32 x1),.pl (.u32 x2),.pl (.u32 x3),.pl (.u32 x4),.pl (.u32 x5),.pl (.u32 x6),.pl (.u32 x7),.pl (.u32 x8),.pl (.u32 x9),.pl (.u32 x10),.pl (.u32 x11),.pl (.u32 x12),.pl (.u32 x13),.pl (.u32 x14),.pl (.u32 x15)]),.w (.one (.pl (.i 1)))] (fun v m=>v=.w (.agg (⟨x0,x1,x2,x3,x4,x5,x6,x7,x8,x9,x10,x11,x12,x13,x14,x15⟩:W16).sh.ls)):=by
 have F0:=yA @xB<|@Int.zero_mul
 have zF:FG [9,10,12,13,14,15,16,17,18,19,20,21,22,23,24,25,26,27,28,29,30,31]:=trivial
 have zd0:DQ 8 [14,15,16,17,18,19,20,21,22,23,24,25,26,27,28] [0,0,0,0,8,0,0,96,248,504,4,2044,4092,1,16383,32767] []:=⟨⟩
 have zU:=yA ur<|yA ur<|yA ur<|yA ur<|yA ur<|trivial
 exact Ct.go Tryz.func97 rfl Tryz.ntmps97 Tryz.results97
theorem o0t (x0 x1 x2 x3 x4 x5 x6 x7 x8 x9 x10 x11 x12 x13 x14 x15:UInt32):
 Ct Tryz.prog 97 [.w (.agg [.pl (.u32 x0),.pl (.u32 x1),.pl (.u32 x2),.pl (.u32 x3),.pl (.u32 x4),.pl (.u32 x5),.pl (.u32 x6),.pl (.u32 x7),.pl (.u32 x8),.pl (.u32 x9),.pl (.u32 x10),.pl (.u32 x11),.pl (.u32 x12),.pl (.u32 x13),.pl (.u32 x14),.pl (.u32 x15)]),.w (.one (.pl (.i (-1))))] (fun v m=>v=.w (.agg (⟨x0,x1,x2,x3,x4,x5,x6,x7,x8,x9,x10,x11,x12,x13,x14,x15⟩:W16).unsh.ls)):=by
 have F0:=yA @xB<|@Int.zero_mul
 have zF:FG [9,10,12,13,14,15,16,17,18,19,20,21,22,23,24,25,26,27,28,29,30,31]:=trivial
 have zd0:DQ 8 [14,15,16,17,18,19,20,21,22,23,24,25,26,27,28] [0,0,0,0,8,0,0,96,248,504,4,2044,4092,1,16383,32767] []:=⟨⟩
 have zU:=yA ur<|yA ur<|yA ur<|yA ur<|yA ur<|trivial
 exact Ct.go Tryz.func97 rfl Tryz.ntmps97 Tryz.results97
end Bk
end Go.Sy
namespace Go.Sy
namespace Rk
open Go.Proofs
attribute [local irreducible] Bw HT Aj Jk onC onE onO onG goV goA goS Lx Bz
def b0x (k:Gz):List PL:=k.peer.map .u8++(.i k.n::k.key.map .u8)
theorem Zv (k:Gz):pls (b0x k)=Az k.peer++(.pl (.i k.n)::Az k.key):=by simp [pls,b0x,Az,Function.comp_def]
theorem Aq {k:Gz} (h:k.ok):(b0x k).length=65:=by simp [b0x,h.1,h.2.1]
theorem Aw (l:List Gz):(l.map b0x).length=l.length:=xO _
theorem getD_map {α β:Type} {f:α→β} {l:List α} {i:Nat} {p:α} {d:β} (h:l[i]? =some p):(l.map f).getD i d=f p:=by
 rw [List.getD_eq_getElem?_getD,vH,h];rfl
theorem Gy {a:Int} {n:Nat} (h:a=(n:Int)) (hn:n≤9223372036854775807):Go.RowKit.wrap64 a=(n:Int):=by subst h;exact w64 (by omega)
theorem g1w {α:Type} {l:List α} {i:Nat} (h:i<l.length): ∃ p,l[i]? =some p:=⟨_,yO h⟩
def rtC (root own peer send:List UInt8) (out:Int) (recv:List UInt8) (inn last:Int) (can hear:Bool) (ks:List Gz):List L:=
 Az root++(Az own++(Az peer++(Az send++(.pl (.i out)::(Az recv++(.pl (.i inn)::.pl (.i last)::.pl (.b can)::.pl (.b hear)::[.pl (.R false 65 (ks.map b0x))]))))))
theorem y1r {p q:List UInt8} (h:p.length=32) (h2:q.length=32):c0d Tryz.prog 23 (Az p) (Az q)=some (decide (p=q)):=by
 rw [ae23 (Sj h) (Sj h2),k0a (h.trans h2.symm)]
theorem z0j (l:List UInt8) (hl:l.length=32):
 Ct Tryz.prog 36 [.w (.agg (Az l))] (fun v m=>v=.w (.one (.pl (.str l)))):=by
 have F0:=hl
 exact Ct.go Tryz.func36 rfl Tryz.ntmps36 Tryz.results36
theorem z0n (n:Int):
 Ct Tryz.prog 30 [.w (.one (.pl (.i n)))] (fun v m=>v=.w (.one (.pl (.b (inN n))))):=by
 refine Ct.k Tryz.func30 rfl Tryz.ntmps30 (congrArg Array.toList Tryz.results30) (by simp) fun w0 ro=>?_
 refine Fw fun zN1 zM1 zhN1 zhM1=>?_
 refine Cw fun zK2 zhK2=>?_
 simp only [go_sem]
 repeat' (first|apply yA|intro _)
 all_goals
  refine zhK2 _ ?_
  refine zhN1 _ ?_
  refine Fw fun zN3 zM3 zhN3 zhM3=>?_
  refine Cw fun zK4 zhK4=>?_
  simp only [go_sem]
  repeat' (first|apply yA|intro _)
  all_goals
   refine zhK4 _ ?_
   refine zhN3 _ ?_
   refine Tk ?_
   simp only [go_sem]
   all_goals (refine congrArg (fun x=>V.w (W.one (L.pl (PL.b x)))) ?_;simp [inN];try omega)
theorem h1y (a:Int):
 Ct Tryz.prog 35 [.w (.one (.pl (.i a))),.w (.one (.pl (.i 1073741824)))] (fun v m=>v=.w (.one (.pl (.b (inN a))))):=by
 refine Ct.k Tryz.func35 rfl Tryz.ntmps35 (congrArg Array.toList Tryz.results35) (by simp) fun w0 ro=>?_
 refine Fw fun zN1 zM1 zhN1 zhM1=>?_
 refine Cw fun zK2 zhK2=>?_
 simp only [go_sem]
 repeat' (first|apply yA|intro _)
 all_goals
  refine zhK2 _ ?_
  refine zhN1 _ ?_
  refine Fw fun zN3 zM3 zhN3 zhM3=>?_
  refine Cw fun zK4 zhK4=>?_
  simp only [go_sem]
  repeat' (first|apply yA|intro _)
  all_goals
   refine zhK4 _ ?_
   refine zhN3 _ ?_
   refine Tk ?_
   simp only [go_sem]
   all_goals (refine congrArg (fun x=>V.w (W.one (L.pl (PL.b x)))) ?_;simp [inN];try omega)
theorem i1o (root own peer send:List UInt8) (out:Int) (recv:List UInt8) (inn last:Int) (can hear:Bool) (ks:List Gz) (hr:root.length=32) (hw:own.length=32) (hp:peer.length=32) (hs:send.length=32) (hv:recv.length=32) (hk: ∀ k∈ks,k.ok) (hb:inN out=false∨(inN out=true∧inN inn=false)∨(inN out=true∧inN inn=true∧inN last=false)∨(inN out=true∧inN inn=true∧inN last=true∧¬ks.length≤12)):
 Ct Tryz.prog 11 [.w (.agg (rtC root own peer send out recv inn last can hear ks))] (fun v m=>v=.w (.one (.pl (.i 9)))):=by
 obtain ⟨x1,e1⟩: ∃ x,inN out=x:=⟨_,rfl⟩
 obtain ⟨x2,e2⟩: ∃ x,inN inn=x:=⟨_,rfl⟩
 obtain ⟨x3,e3⟩: ∃ x,inN last=x:=⟨_,rfl⟩
 obtain ⟨x4,e4⟩: ∃ x,decide ((12:Int)<((ks.length:Nat):Int))=x:=⟨_,rfl⟩
 have h4:x4=true↔¬ks.length≤12:=by rw [←e4];first|(rw [decide_eq_true_eq];omega)|(rw [decide_eq_false_iff_not];omega)
 have hi1:=z0n out
 have hi2:=z0n inn
 have hi3:=z0n last
 rw [e1] at hi1
 rw [e2] at hi2
 rw [e3] at hi3
 rw [e1,e2,e3,←h4] at hb
 rcases hb with rfl|⟨rfl,rfl⟩|⟨rfl,rfl,rfl⟩|⟨rfl,rfl,rfl,rfl⟩
 all_goals
  have F0:=yA hr<|yA hw<|yA hp<|yA hs<|yA hv<|e4
  refine Ct.k Tryz.func11 rfl Tryz.ntmps11 (congrArg Array.toList Tryz.results11) (by simp) fun w0 ro=>?_
  refine b0q fun zZ zhZ=>?_
  refine Lj fun zK zhK=>?_
  simp only [go_sem,rtC,Aw,F0]
  repeat' (first|apply yA|intro _)
  refine zhK _ ?_
  refine Lj fun zK zhK=>?_
  simp only [go_sem,rtC,Aw,F0]
  repeat' (first|apply yA|intro _)
  refine zhK _ ?_
  refine Fw fun zN zM zhN zhM=>?_
  refine Lj fun zK zhK=>?_
  simp only [go_sem,rtC,Aw,F0]
  repeat' (first|apply yA|intro _)
  all_goals refine Qj (fun k=>k) (by first|rfl|simp only [go_sem,rtC,Aw,F0]) (by first|rfl|(simp only [go_sem,a0e,rtC,Aw,F0];rfl)|simp only [go_sem,a0e,rtC,Aw,F0]) (fun _ _=>rfl) (by first|rfl|(simp only [go_sem,rtC,Aw,F0]<;>rfl)) (hi1.plain fun _ _ h=>h) ?_
  all_goals (rintro v m ⟨hR,hm⟩;subst hR;subst hm)
  all_goals refine yA (by first|rfl|simp only [go_sem,rtC,Aw,F0]) (yA (by first|rfl|simp only [go_sem,rtC,Aw,F0]) ?_)
  all_goals simp only [go_sem,rtC,Aw,F0]
  all_goals repeat' (first|apply yA|intro _)
  all_goals (first|(refine Qj (fun k=>k) (by first|rfl|simp only [go_sem,rtC,Aw,F0]) (by first|rfl|(simp only [go_sem,a0e,rtC,Aw,F0];rfl)|simp only [go_sem,a0e,rtC,Aw,F0]) (fun _ _=>rfl) (by first|rfl|(simp only [go_sem,rtC,Aw,F0]<;>rfl)) (hi2.plain fun _ _ h=>h) ?_;all_goals (rintro v m ⟨hR,hm⟩;subst hR;subst hm);all_goals refine yA (by first|rfl|simp only [go_sem,rtC,Aw,F0]) (yA (by first|rfl|simp only [go_sem,rtC,Aw,F0]) ?_);all_goals simp only [go_sem,rtC,Aw,F0];all_goals repeat' (first|apply yA|intro _))|skip)
  all_goals (first|(refine Qj (fun k=>k) (by first|rfl|simp only [go_sem,rtC,Aw,F0]) (by first|rfl|(simp only [go_sem,a0e,rtC,Aw,F0];rfl)|simp only [go_sem,a0e,rtC,Aw,F0]) (fun _ _=>rfl) (by first|rfl|(simp only [go_sem,rtC,Aw,F0]<;>rfl)) (hi3.plain fun _ _ h=>h) ?_;all_goals (rintro v m ⟨hR,hm⟩;subst hR;subst hm);all_goals refine yA (by first|rfl|simp only [go_sem,rtC,Aw,F0]) (yA (by first|rfl|simp only [go_sem,rtC,Aw,F0]) ?_);all_goals simp only [go_sem,rtC,Aw,F0];all_goals repeat' (first|apply yA|intro _))|skip)
  refine zhK _ ?_
  (refine Dw ?_ ?_;focus (first|rfl|(simp [go_sem,rtC,Aw,F0];done)))
  refine Lj fun zK zhK=>?_
  simp only [go_sem,rtC,Aw,F0]
  repeat' (first|apply yA|intro _)
  refine zhK _ ?_
  refine Tk ?_
  refine zhM _ _ ?_;clear zhN zhM
  refine zhZ _ _ ?_
  simp only [go_sem,rtC,Aw,F0]
  all_goals rfl
end Rk
end Go.Sy
namespace Go.Sy
namespace Rk
open Go.Proofs
attribute [local irreducible] Bw HT Aj Jk onC onE onO onG goV goA goS Lx Bz
theorem o0q {l:List Gz} {i j:Nat} {a:Gz} (h:l[j]? =some a) (hj:j<i):(List.take i (l.map b0x)).getD j []=b0x a:=by
 rw [List.getD_eq_getElem?_getD,List.getElem?_take,if_pos hj,vH,h];rfl
theorem b2d (j:Nat):(0:Int)≤((j:Nat):Int):=Int.natCast_nonneg j
theorem z0k {l:List Gz} {i:Nat} (h:i≤l.length):(List.take i (l.map b0x)).length=i:=by simp;omega
theorem n1x (root own peer send:List UInt8) (out:Int) (recv:List UInt8) (inn last:Int) (can hear:Bool) (ks:List Gz) (hr:root.length=32) (hw:own.length=32) (hp:peer.length=32) (hs:send.length=32) (hv:recv.length=32) (hk: ∀ k∈ks,k.ok) (h1:inN out=true) (h2:inN inn=true) (h3:inN last=true) (h4:ks.length≤12):
 Ct Tryz.prog 11 [.w (.agg (rtC root own peer send out recv inn last can hear ks))] (fun v m=>v=.w (.one (.pl (.i (Tv out inn last ks))))):=by
 have e4:decide ((12:Int)<((ks.length:Nat):Int))=false:=decide_eq_false (by omega)
 have hi1:=z0n out
 have hi2:=z0n inn
 have hi3:=z0n last
 rw [h1] at hi1
 rw [h2] at hi2
 rw [h3] at hi3
 have F0:=yA hr<|yA hw<|yA hp<|yA hs<|yA hv<|e4
 refine Ct.k Tryz.func11 rfl Tryz.ntmps11 (congrArg Array.toList Tryz.results11) (by simp) fun w0 ro=>?_
 refine b0q fun zZ zhZ=>?_
 refine Lj fun zK zhK=>?_
 simp only [go_sem,rtC,Aw,Aq,F0]
 repeat' (first|apply yA|intro _)
 refine zhK _ ?_
 refine Lj fun zK zhK=>?_
 simp only [go_sem,rtC,Aw,Aq,F0]
 repeat' (first|apply yA|intro _)
 refine zhK _ ?_
 refine Fw fun zN zM zhN zhM=>?_
 refine Lj fun zK zhK=>?_
 simp only [go_sem,rtC,Aw,Aq,F0]
 repeat' (first|apply yA|intro _)
 all_goals refine Qj (fun k=>k) (by first|rfl|simp only [go_sem,rtC,Aw,Aq,F0]) (by first|rfl|(simp only [go_sem,a0e,rtC,Aw,Aq,F0];rfl)|simp only [go_sem,a0e,rtC,Aw,Aq,F0]) (fun _ _=>rfl) (by first|rfl|(simp only [go_sem,rtC,Aw,Aq,F0]<;>rfl)) (hi1.plain fun _ _ h=>h) ?_
 all_goals (rintro v m ⟨hR,hm⟩;subst hR;subst hm)
 all_goals refine yA (by first|rfl|simp only [go_sem,rtC,Aw,Aq,F0]) (yA (by first|rfl|simp only [go_sem,rtC,Aw,Aq,F0]) ?_)
 all_goals simp only [go_sem,rtC,Aw,Aq,F0]
 all_goals repeat' (first|apply yA|intro _)
 all_goals refine Qj (fun k=>k) (by first|rfl|simp only [go_sem,rtC,Aw,Aq,F0]) (by first|rfl|(simp only [go_sem,a0e,rtC,Aw,Aq,F0];rfl)|simp only [go_sem,a0e,rtC,Aw,Aq,F0]) (fun _ _=>rfl) (by first|rfl|(simp only [go_sem,rtC,Aw,Aq,F0]<;>rfl)) (hi2.plain fun _ _ h=>h) ?_
 all_goals (rintro v m ⟨hR,hm⟩;subst hR;subst hm)
 all_goals refine yA (by first|rfl|simp only [go_sem,rtC,Aw,Aq,F0]) (yA (by first|rfl|simp only [go_sem,rtC,Aw,Aq,F0]) ?_)
 all_goals simp only [go_sem,rtC,Aw,Aq,F0]
 all_goals repeat' (first|apply yA|intro _)
 all_goals refine Qj (fun k=>k) (by first|rfl|simp only [go_sem,rtC,Aw,Aq,F0]) (by first|rfl|(simp only [go_sem,a0e,rtC,Aw,Aq,F0];rfl)|simp only [go_sem,a0e,rtC,Aw,Aq,F0]) (fun _ _=>rfl) (by first|rfl|(simp only [go_sem,rtC,Aw,Aq,F0]<;>rfl)) (hi3.plain fun _ _ h=>h) ?_
 all_goals (rintro v m ⟨hR,hm⟩;subst hR;subst hm)
 all_goals refine yA (by first|rfl|simp only [go_sem,rtC,Aw,Aq,F0]) (yA (by first|rfl|simp only [go_sem,rtC,Aw,Aq,F0]) ?_)
 all_goals simp only [go_sem,rtC,Aw,Aq,F0]
 all_goals repeat' (first|apply yA|intro _)
 refine zhK _ ?_
 (refine Dk ?_ ?_;focus (first|rfl|(simp [go_sem,rtC,Aw,Aq,F0];done)))
 refine Gq ?_
 refine zhN _ ?_;clear zhN zhM
 refine Fw fun zN zM zhN zhM=>?_
 refine Lj fun zK zhK=>?_
 simp only [go_sem,rtC,Aw,Aq,F0]
 repeat' (first|apply yA|intro _)
 refine zhK _ ?_
 refine Cj fun zB zbn zbx zbr zbi=>?_
 refine Bv [0,8,9,10,11,12,13,14,15,16,17,18,19,20,21,22,23,24,25,26,27,28,29,30,31,32,33] ?_
 simp only [Bj,Cx,Bq,yI,yK,Nat.reduceBEq,beq_self_eq_true,yS,yV,yY,yT,yE,reduceIte]
 refine Uw (fun y=>[(36,.w (.one (.pl (.i ((y.1:Nat):Int)))))]) (fun _=>[]) (fun y=>ks.length-y.1) (⟨0,xA _,fun j b hj=>absurd hj (Nat.not_lt_zero _)⟩:{y:Nat//y≤ks.length∧(∀ (j:Nat) (b:Gz),j<y→ks[j]? =some b→inN b.n=true∧∀ (q:Nat) (a:Gz),q<j→ks[q]? =some a→i0y a b=false)}) ?_ ?_ ?_
 ·(simp only [go_sem,leX,yB,yC];try simp)
 ·(simp only [go_sem,leX,yB,yC];try simp)
 intro ⟨i,hi,hg⟩ zN zM zhN zhM
 simp only [yB,yC]
 have hd:(∃ k,i<ks.length∧ks[i]? =some k∧inN k.n=false)∨(∃ k,i<ks.length∧ks[i]? =some k∧inN k.n=true)∨i=ks.length:=by
  rcases yZ i ks.length with hlt|hge
  ·obtain ⟨k,hk0⟩:=g1w hlt
   rcases Bool.eq_false_or_eq_true (inN k.n) with e|e
   ·exact .inr (.inl ⟨k,hlt,hk0,e⟩)
   exact .inl ⟨k,hlt,hk0,e⟩
  exact .inr (.inr (Nat.le_antisymm hi hge))
 rcases hd with ⟨k,hlt,hk0,hin⟩|⟨k,hlt,hk0,hin⟩|rfl
 ·have hkk:=hk k (wF hk0)
  have hpk:=hkk.1
  have hqk:=hkk.2.1
  have hlk:=Aq hkk
  have hgk:=getD_map (f:=b0x) (d:=([]:List PL)) hk0
  have hsk:=Zv k
  have hci:((i:Nat):Int)<((ks.length:Nat):Int):=Int.ofNat_lt.mpr hlt
  have hii:=b2d i
  have hic:=z0n k.n
  rw [hin] at hic
  have hile:((i:Nat):Int)≤((ks.length:Nat):Int):=Int.le_of_lt hci
  have htl:=z0k hi
  have hj12:i≤12:=xR hi h4
  have hsi:Go.RowKit.wrap64 (((i:Nat):Int)+1)=((i+1:Nat):Int):=Gy rfl (xR (Nat.succ_le_succ hj12) (by decide))
  have hfa:Tv out inn last ks=9:=u0b (.inr (.inr (.inr (.inr (.inl ⟨k,wF hk0,hin⟩)))))
  have F8:=yA hpk<|yA hqk<|yA hlk<|yA hgk<|yA hsk<|yA hci<|yA hii<|yA hile<|yA htl<|hsi
  iterate 25 first
   |(refine Lj fun zK zhK=>?_;simp only [go_sem,rtC,Aw,Aq,F0,xJ,F8];(repeat' (first|apply yA|intro _)))
   |refine zhK _ ?_
   |(refine zhM _ _ ?_;clear zhN zhM)
   |(refine zbr _ ?_;clear zbn zbx zbr zbi)
   |refine Gq ?_
   |(refine zhN _ ?_;clear zhN zhM)
   |refine Cj fun zB zbn zbx zbr zbi=>?_
   |refine Tk ?_
   |(refine zhZ _ _ ?_;simp only [go_sem,rtC,Aw,Aq,F0,xJ,F8];(all_goals (rw [hfa])))
   |((all_goals refine Qj (fun k=>k) (by first|rfl|simp only [go_sem,rtC,Aw,Aq,F0,xJ,F8]) (by first|rfl|(simp only [go_sem,a0e,rtC,Aw,Aq,F0,xJ,F8];rfl)|simp only [go_sem,a0e,rtC,Aw,Aq,F0,xJ,F8]) (fun _ _=>rfl) (by first|rfl|(simp only [go_sem,rtC,Aw,Aq,F0,xJ,F8]<;>rfl)) (hic.plain fun _ _ h=>h) ?_);(all_goals (rintro v m ⟨hR,hm⟩;subst hR;subst hm));(all_goals refine yA (by first|rfl|simp only [go_sem,rtC,Aw,Aq,F0,xJ,F8]) (yA (by first|rfl|simp only [go_sem,rtC,Aw,Aq,F0,xJ,F8]) ?_));(all_goals simp only [go_sem,rtC,Aw,Aq,F0,xJ,F8]);(all_goals repeat' (first|apply yA|intro _)))
   |refine Fw fun zN zM zhN zhM=>?_
   |(refine Dw ?_ ?_;focus (first|rfl|(simp [go_sem,rtC,Aw,Aq,F0,xJ,F8];done)))
 ·have hkk:=hk k (wF hk0)
  have hpk:=hkk.1
  have hqk:=hkk.2.1
  have hlk:=Aq hkk
  have hgk:=getD_map (f:=b0x) (d:=([]:List PL)) hk0
  have hsk:=Zv k
  have hci:((i:Nat):Int)<((ks.length:Nat):Int):=Int.ofNat_lt.mpr hlt
  have hii:=b2d i
  have hic:=z0n k.n
  rw [hin] at hic
  have hile:((i:Nat):Int)≤((ks.length:Nat):Int):=Int.le_of_lt hci
  have htl:=z0k hi
  have hj12:i≤12:=xR hi h4
  have hsi:Go.RowKit.wrap64 (((i:Nat):Int)+1)=((i+1:Nat):Int):=Gy rfl (xR (Nat.succ_le_succ hj12) (by decide))
  have F16:=yA hpk<|yA hqk<|yA hlk<|yA hgk<|yA hsk<|yA hci<|yA hii<|yA hile<|yA htl<|hsi
  iterate 20 first
   |(refine Lj fun zK zhK=>?_;simp only [go_sem,rtC,Aw,Aq,F0,xJ,F16];(repeat' (first|apply yA|intro _)))
   |refine zhK _ ?_
   |refine Gq ?_
   |(refine zhN _ ?_;clear zhN zhM)
   |refine Cj fun zB zbn zbx zbr zbi=>?_
   |((all_goals refine Qj (fun k=>k) (by first|rfl|simp only [go_sem,rtC,Aw,Aq,F0,xJ,F16]) (by first|rfl|(simp only [go_sem,a0e,rtC,Aw,Aq,F0,xJ,F16];rfl)|simp only [go_sem,a0e,rtC,Aw,Aq,F0,xJ,F16]) (fun _ _=>rfl) (by first|rfl|(simp only [go_sem,rtC,Aw,Aq,F0,xJ,F16]<;>rfl)) (hic.plain fun _ _ h=>h) ?_);(all_goals (rintro v m ⟨hR,hm⟩;subst hR;subst hm));(all_goals refine yA (by first|rfl|simp only [go_sem,rtC,Aw,Aq,F0,xJ,F16]) (yA (by first|rfl|simp only [go_sem,rtC,Aw,Aq,F0,xJ,F16]) ?_));(all_goals simp only [go_sem,rtC,Aw,Aq,F0,xJ,F16]);(all_goals repeat' (first|apply yA|intro _)))
   |refine Fw fun zN zM zhN zhM=>?_
   |(refine Dw ?_ ?_;focus (first|rfl|(simp [go_sem,rtC,Aw,Aq,F0,xJ,F16];done)))
   |(refine Dk ?_ ?_;focus (first|rfl|(simp [go_sem,rtC,Aw,Aq,F0,xJ,F16];done)))
  refine Uw (fun y=>[(51,.w (.one (.pl (.i ((y.1:Nat):Int)))))]) (fun _=>[]) (fun y=>i-y.1) (⟨0,xA _,fun q a h=>absurd h (Nat.not_lt_zero _)⟩:{y:Nat//y≤i∧∀ (q:Nat) (a:Gz),q<y→ks[q]? =some a→i0y a k=false}) ?_ ?_ ?_
  ·(simp only [go_sem,leX,yB,yC];try simp)
  ·(simp only [go_sem,leX,yB,yC];try simp)
  intro ⟨j,hj,hq⟩ zN zM zhN zhM
  simp only [yB,yC]
  have hd:(∃ a,j<i∧ks[j]? =some a∧a.peer=k.peer∧a.n=k.n)∨(∃ a,j<i∧ks[j]? =some a∧¬a.peer=k.peer)∨(∃ a,j<i∧ks[j]? =some a∧a.peer=k.peer∧¬a.n=k.n)∨j=i:=by
   rcases yZ j i with hlt2|hge2
   ·obtain ⟨a,ha⟩:=g1w (wZ hlt2 hlt)
    by_cases e1:a.peer=k.peer
    ·by_cases e2:a.n=k.n
     ·exact .inl ⟨a,hlt2,ha,e1,e2⟩
     exact .inr (.inr (.inl ⟨a,hlt2,ha,e1,e2⟩))
    exact .inr (.inl ⟨a,hlt2,ha,e1⟩)
   exact .inr (.inr (.inr (Nat.le_antisymm hj hge2)))
  rcases hd with ⟨a,hlt2,ha,e1,e2⟩|⟨a,hlt2,ha,e1⟩|⟨a,hlt2,ha,e1,e2⟩|hji
  ·have hka:=hk a (wF ha)
   have hpa:=hka.1
   have hqa:=hka.2.1
   have hla:=Aq hka
   have hga:=getD_map (f:=b0x) (d:=([]:List PL)) ha
   have hsa:=Zv a
   have hga:=o0q ha hlt2
   have hEq:=y1r hpa hpk
   have hcj:((j:Nat):Int)<((i:Nat):Int):=Int.ofNat_lt.mpr hlt2
   have hij:=b2d j
   have hsj:Go.RowKit.wrap64 (((j:Nat):Int)+1)=((j+1:Nat):Int):=Gy rfl (xR (xR hlt2 hj12) (by decide))
   have hde:decide (a.peer=k.peer)=true:=decide_eq_true e1
   have hdn:decide (a.n=k.n)=true:=decide_eq_true e2
   have hfa:Tv out inn last ks=9:=u0b (.inr (.inr (.inr (.inr (.inr (z1d ha hk0 hlt2 (by simp [i0y,e1,e2])))))))
   have F26:=yA hpa<|yA hqa<|yA hla<|yA hga<|yA hsa<|yA hEq<|yA hcj<|yA hij<|yA hsj<|yA hlt2<|yA hde<|hdn
   iterate 26 first
    |(refine zhM _ _ ?_;clear zhN zhM)
    |(refine Lj fun zK zhK=>?_;simp only [go_sem,rtC,Aw,Aq,F0,xJ,F16,F26];(repeat' (first|apply yA|intro _)))
    |refine zhK _ ?_
    |(refine zbr _ ?_;clear zbn zbx zbr zbi)
    |refine Gq ?_
    |(refine zhN _ ?_;clear zhN zhM)
    |refine Cj fun zB zbn zbx zbr zbi=>?_
    |refine Tk ?_
    |(refine zhZ _ _ ?_;simp only [go_sem,rtC,Aw,Aq,F0,xJ,F16,F26];(all_goals (rw [hfa])))
    |refine Fw fun zN zM zhN zhM=>?_
    |(refine Dw ?_ ?_;focus (first|rfl|(simp [go_sem,rtC,Aw,Aq,F0,xJ,F16,F26];done)))
  ·have hka:=hk a (wF ha)
   have hpa:=hka.1
   have hqa:=hka.2.1
   have hla:=Aq hka
   have hga:=getD_map (f:=b0x) (d:=([]:List PL)) ha
   have hsa:=Zv a
   have hga:=o0q ha hlt2
   have hEq:=y1r hpa hpk
   have hcj:((j:Nat):Int)<((i:Nat):Int):=Int.ofNat_lt.mpr hlt2
   have hij:=b2d j
   have hsj:Go.RowKit.wrap64 (((j:Nat):Int)+1)=((j+1:Nat):Int):=Gy rfl (xR (xR hlt2 hj12) (by decide))
   have hde:decide (a.peer=k.peer)=false:=decide_eq_false e1
   have F33:=yA hpa<|yA hqa<|yA hla<|yA hga<|yA hsa<|yA hEq<|yA hcj<|yA hij<|yA hsj<|yA hlt2<|hde
   iterate 18 first
    |refine zhK _ ?_
    |(refine Lj fun zK zhK=>?_;simp only [go_sem,rtC,Aw,Aq,F0,xJ,F16,F33];(repeat' (first|apply yA|intro _)))
    |refine Gq ?_
    |(refine zhN _ ?_;clear zhN zhM)
    |refine Cj fun zB zbn zbx zbr zbi=>?_
    |(refine zbn _ ?_;clear zbn zbx zbr zbi)
    |(refine Cw fun zK zhK=>?_;simp only [go_sem,rtC,Aw,Aq,F0,xJ,F16,F33];(repeat' (first|apply yA|intro _)))
    |refine Fw fun zN zM zhN zhM=>?_
    |(refine Dw ?_ ?_;focus (first|rfl|(simp [go_sem,rtC,Aw,Aq,F0,xJ,F16,F33];done)))
    |(refine Dk ?_ ?_;focus (first|rfl|(simp [go_sem,rtC,Aw,Aq,F0,xJ,F16,F33];done)))
   refine zhN ⟨j+1,hlt2,fun q b hqj hb=>by rcases wC.mp hqj with h|h;exact hq q b h hb;subst h;rw [ha] at hb;cases hb;simp [i0y,e1]⟩ _ ?_ ?_ ?_
   ·(exact yP hlt2 (yQ j))
   ·(simp only [go_sem,leX,yB,yC];try simp)
   (simp only [go_sem,leX,yB,yC];try simp)
  ·have hka:=hk a (wF ha)
   have hpa:=hka.1
   have hqa:=hka.2.1
   have hla:=Aq hka
   have hga:=getD_map (f:=b0x) (d:=([]:List PL)) ha
   have hsa:=Zv a
   have hga:=o0q ha hlt2
   have hEq:=y1r hpa hpk
   have hcj:((j:Nat):Int)<((i:Nat):Int):=Int.ofNat_lt.mpr hlt2
   have hij:=b2d j
   have hsj:Go.RowKit.wrap64 (((j:Nat):Int)+1)=((j+1:Nat):Int):=Gy rfl (xR (xR hlt2 hj12) (by decide))
   have hde:decide (a.peer=k.peer)=true:=decide_eq_true e1
   have hdn:decide (a.n=k.n)=false:=decide_eq_false e2
   have F40:=yA hpa<|yA hqa<|yA hla<|yA hga<|yA hsa<|yA hEq<|yA hcj<|yA hij<|yA hsj<|yA hlt2<|yA hde<|hdn
   iterate 18 first
    |refine zhK _ ?_
    |(refine Lj fun zK zhK=>?_;simp only [go_sem,rtC,Aw,Aq,F0,xJ,F16,F40];(repeat' (first|apply yA|intro _)))
    |refine Gq ?_
    |(refine zhN _ ?_;clear zhN zhM)
    |refine Cj fun zB zbn zbx zbr zbi=>?_
    |(refine zbn _ ?_;clear zbn zbx zbr zbi)
    |(refine Cw fun zK zhK=>?_;simp only [go_sem,rtC,Aw,Aq,F0,xJ,F16,F40];(repeat' (first|apply yA|intro _)))
    |refine Fw fun zN zM zhN zhM=>?_
    |(refine Dw ?_ ?_;focus (first|rfl|(simp [go_sem,rtC,Aw,Aq,F0,xJ,F16,F40];done)))
    |(refine Dk ?_ ?_;focus (first|rfl|(simp [go_sem,rtC,Aw,Aq,F0,xJ,F16,F40];done)))
   refine zhN ⟨j+1,hlt2,fun q b hqj hb=>by rcases wC.mp hqj with h|h;exact hq q b h hb;subst h;rw [ha] at hb;cases hb;simp [i0y,e2]⟩ _ ?_ ?_ ?_
   ·(exact yP hlt2 (yQ j))
   ·(simp only [go_sem,leX,yB,yC];try simp)
   (simp only [go_sem,leX,yB,yC];try simp)
  obtain rfl:i=j:=hji.symm
  have hcj:¬((i:Nat):Int)<((i:Nat):Int):=Int.lt_irrefl _
  refine Lj fun zK zhK=>?_
  simp only [go_sem,rtC,Aw,Aq,F0,xJ,F16,hcj]
  repeat' (first|apply yA|intro _)
  refine zhK _ ?_
  refine Fw fun zN zM zhN zhM=>?_
  (refine Dk ?_ ?_;focus (first|rfl|(simp [go_sem,rtC,Aw,Aq,F0,xJ,F16,hcj];done)))
  refine Jv ?_
  refine zhM _ _ ?_;clear zhN zhM
  refine zhM _ _ ?_;clear zhN zhM
  refine zbx _ ?_;clear zbn zbx zbr zbi
  refine zbn _ ?_;clear zbn zbx zbr zbi
  refine zhN _ ?_;clear zhN zhM
  refine Cw fun zK zhK=>?_
  simp only [go_sem,rtC,Aw,Aq,F0,xJ,F16,hcj]
  repeat' (first|apply yA|intro _)
  refine zhK _ ?_
  refine zhN ⟨i+1,hlt,fun j2 b hj2 hb=>by rcases wC.mp hj2 with h|h;exact hg j2 b h hb;subst h;rw [hk0] at hb;cases hb;exact ⟨hin,hq⟩⟩ _ ?_ ?_ ?_
  ·(exact yP hlt (yQ _))
  ·(simp only [go_sem,leX,yB,yC];try simp)
  (simp only [go_sem,leX,yB,yC];try simp)
 have hci:¬((ks.length:Nat):Int)<((ks.length:Nat):Int):=Int.lt_irrefl _
 have hfa:Tv out inn last ks=0:=c2c h1 h2 h3 h4 (fun b hb=>by obtain ⟨j,hj,e⟩:=List.getElem_of_mem hb;exact (hg j b hj (by rw [yO hj,e])).1) (h2s fun j b hb=>(hg j b (wL.mp hb).1 hb).2)
 iterate 13 first
  |(refine Lj fun zK zhK=>?_;simp only [go_sem,rtC,Aw,Aq,F0,hci];(repeat' (first|apply yA|intro _)))
  |refine zhK _ ?_
  |(refine zhM _ _ ?_;clear zhN zhM)
  |refine Jv ?_
  |(refine zbx _ ?_;clear zbn zbx zbr zbi)
  |(refine zhN _ ?_;clear zhN zhM)
  |refine Tk ?_
  |(refine zhZ _ _ ?_;simp only [go_sem,rtC,Aw,Aq,F0,hci];(all_goals (rw [hfa])))
  |refine Fw fun zN zM zhN zhM=>?_
  |(refine Dk ?_ ?_;focus (first|rfl|(simp [go_sem,rtC,Aw,Aq,F0,hci];done)))
theorem a1s {out inn last:Int} {ks:List Gz} (h:¬(inN out=true∧inN inn=true∧inN last=true∧ks.length≤12)):(inN out=false∨(inN out=true∧inN inn=false)∨(inN out=true∧inN inn=true∧inN last=false)∨(inN out=true∧inN inn=true∧inN last=true∧¬ks.length≤12))∧Tv out inn last ks=9:=by
 have hb:(inN out=false∨(inN out=true∧inN inn=false)∨(inN out=true∧inN inn=true∧inN last=false)∨(inN out=true∧inN inn=true∧inN last=true∧¬ks.length≤12)):=by
  cases h1:inN out<;>cases h2:inN inn<;>cases h3:inN last<;>simp [h1,h2,h3] at h ⊢
  omega
 refine ⟨hb,u0b ?_⟩
 rcases hb with h|h|h|h
 ·exact .inl h
 ·exact .inr (.inl h.2)
 ·exact .inr (.inr (.inl h.2.2))
 exact .inr (.inr (.inr (.inl h.2.2.2)))
theorem l0h (root own peer send:List UInt8) (out:Int) (recv:List UInt8) (inn last:Int) (can hear:Bool) (ks:List Gz) (hr:root.length=32) (hw:own.length=32) (hp:peer.length=32) (hs:send.length=32) (hv:recv.length=32) (hk: ∀ k∈ks,k.ok):Ct Tryz.prog 11 [.w (.agg (rtC root own peer send out recv inn last can hear ks))] (fun v m=>v=.w (.one (.pl (.i (Tv out inn last ks))))):=by
 by_cases h:inN out=true∧inN inn=true∧inN last=true∧ks.length≤12
 ·exact n1x root own peer send out recv inn last can hear ks hr hw hp hs hv hk h.1 h.2.1 h.2.2.1 h.2.2.2
 rw [(a1s h).2]
 exact i1o root own peer send out recv inn last can hear ks hr hw hp hs hv hk (a1s h).1
end Rk
end Go.Sy
namespace Go.Sy
namespace Rk
open Go.Proofs
attribute [local irreducible] Bw HT Aj Jk onC onE onO onG goV goA goS Lx Bz
theorem l0g (root own peer send:List UInt8) (out:Int) (recv:List UInt8) (inn last:Int) (can hear:Bool) (ks:List Gz) (hr:root.length=32) (hw:own.length=32) (hp:peer.length=32) (hs:send.length=32) (hv:recv.length=32) (hk: ∀ k∈ks,k.ok) (hlen:ks.length≤9223372036854775807):
 Ct Tryz.prog 18 [.w (.agg (rtC root own peer send out recv inn last can hear ks))] (fun v m=>v=.w (.one (.pl (.i (Tv out inn last ks))))):=by
 obtain ⟨x1,e1⟩: ∃ x,inN out=x:=⟨_,rfl⟩
 obtain ⟨x2,e2⟩: ∃ x,inN inn=x:=⟨_,rfl⟩
 obtain ⟨x3,e3⟩: ∃ x,inN last=x:=⟨_,rfl⟩
 obtain ⟨x4,e4⟩: ∃ x,decide (((ks.length:Nat):Int)≤(12:Int))=x:=⟨_,rfl⟩
 have e5:decide (ks.length≤12)=x4:=by rw [←e4];simp only [decide_eq_decide];omega
 obtain ⟨k0,hk0⟩: ∃ b,(inN out&&(inN inn&&(inN last&&decide (ks.length≤12))))=b:=⟨_,rfl⟩
 have hi1:=h1y out
 have hi2:=h1y inn
 have hi3:=h1y last
 have hk1:=hk0
 rw [e1,e2,e3,e5] at hk1
 rw [e1] at hi1
 rw [e2] at hi2
 rw [e3] at hi3
 have hb:(x1=false∧k0=false)∨(x1=true∧x2=false∧k0=false)∨(x1=true∧x2=true∧x3=false∧k0=false)∨(x1=true∧x2=true∧x3=true∧k0=x4):=by
  cases x1<;>cases x2<;>cases x3<;>simp_all
 clear e1 e2 e3 e5 hk1
 rcases hb with ⟨rfl,hz⟩|⟨rfl,rfl,hz⟩|⟨rfl,rfl,rfl,hz⟩|⟨rfl,rfl,rfl,hz⟩
 all_goals
  have F0:=yA hr<|yA hw<|yA hp<|yA hs<|hv
  refine Ct.k Tryz.func18 rfl Tryz.ntmps18 (congrArg Array.toList Tryz.results18) (by simp) fun w0 ro=>?_
  refine b0q fun zZ zhZ=>?_
  iterate 12 first
   |(refine Lj fun zK zhK=>?_;simp only [go_sem,rtC,Aw,F0];(repeat' (first|apply yA|intro _)))
   |refine zhK _ ?_
   |((all_goals (refine mk_k ?_ fun mb hmb=>?_;focus (first|decide|(simp only [go_sem];done))));(all_goals (try simp only [go_sem,h0b,rtC,Aw,F0]));(all_goals repeat' (first|apply yA|intro _)))
   |refine Cj fun zB zbn zbx zbr zbi=>?_
   |((all_goals (refine Cv (fun k=>k) (fun _ _=>rfl) ?_ (hi1.plain fun _ _ h=>h) ?_;focus (first|rfl|(simp only [go_sem,rtC,Aw,F0]<;>rfl))));(all_goals (rintro v m ⟨hR,hm⟩;subst hR;subst hm));(all_goals refine yA (by first|rfl|simp only [go_sem,rtC,Aw,F0]) (yA (by first|rfl|simp only [go_sem,rtC,Aw,F0]) ?_));(all_goals simp only [go_sem,rtC,Aw,F0]);(all_goals repeat' (first|apply yA|intro _));(all_goals (first|((refine Cv (fun k=>k) (fun _ _=>rfl) ?_ (hi2.plain fun _ _ h=>h) ?_;focus (first|rfl|(simp only [go_sem,rtC,Aw,F0]<;>rfl)));all_goals (rintro v m ⟨hR,hm⟩;subst hR;subst hm);all_goals refine yA (by first|rfl|simp only [go_sem,rtC,Aw,F0]) (yA (by first|rfl|simp only [go_sem,rtC,Aw,F0]) ?_);all_goals simp only [go_sem,rtC,Aw,F0];all_goals repeat' (first|apply yA|intro _))|skip));(all_goals (first|((refine Cv (fun k=>k) (fun _ _=>rfl) ?_ (hi3.plain fun _ _ h=>h) ?_;focus (first|rfl|(simp only [go_sem,rtC,Aw,F0]<;>rfl)));all_goals (rintro v m ⟨hR,hm⟩;subst hR;subst hm);all_goals refine yA (by first|rfl|simp only [go_sem,rtC,Aw,F0]) (yA (by first|rfl|simp only [go_sem,rtC,Aw,F0]) ?_);all_goals simp only [go_sem,rtC,Aw,F0];all_goals repeat' (first|apply yA|intro _))|skip)))
   |refine Fw fun zN zM zhN zhM=>?_
  refine Bv [0,7,8,9,10,11,12,13,14,15,16,17,18,19,20,21,22,23,24,25,26,27] ?_
  simp only [Bj,Cx,Bq,yI,yK,Nat.reduceBEq,beq_self_eq_true,yS,yV,yY,yT,yE,reduceIte]
  refine Uw (fun y=>[(3,.w (.one (.pl (.b (okI k0 ks y.1))))),(30,.w (.one (.pl (.i ((y.1:Nat):Int)))))]) (fun y=>[(2000000+mb,⟨.m (n0x (ks.take y.1)),[]⟩)]) (fun y=>ks.length-y.1) (⟨0,xA _⟩:{y:Nat//y≤ks.length}) ?_ ?_ ?_
  ·(simp only [u0z,hz,e4,wH,n0x,List.foldl_nil,go_sem,leX,yB,yC];try simp [u0z];try exact e4)
  ·(simp only [u0z,hz,wH,n0x,List.foldl_nil,go_sem,leX,yB,yC];try simp)
  intro ⟨i,hi⟩ zN zM zhN zhM
  simp only [yB,yC]
  have hd:(∃ k,i<ks.length∧ks[i]? =some k∧okI k0 ks i=false)∨(∃ k x,i<ks.length∧ks[i]? =some k∧okI k0 ks i=true∧inN k.n=x)∨(i=ks.length∧okI k0 ks ks.length=false)∨(i=ks.length∧okI k0 ks ks.length=true∧(n0x ks).length<ks.length)∨(i=ks.length∧okI k0 ks ks.length=true∧¬(n0x ks).length<ks.length):=by
   rcases yZ i ks.length with hlt|hge
   ·obtain ⟨k,hk0⟩:=g1w hlt
    rcases Bool.eq_false_or_eq_true (okI k0 ks i) with e|e
    ·exact .inr (.inl ⟨k,_,hlt,hk0,e,rfl⟩)
    exact .inl ⟨k,hlt,hk0,e⟩
   have hi2:=Nat.le_antisymm hi hge
   rcases Bool.eq_false_or_eq_true (okI k0 ks ks.length) with e|e
   ·by_cases hs:(n0x ks).length<ks.length
    ·exact .inr (.inr (.inr (.inl ⟨hi2,e,hs⟩)))
    exact .inr (.inr (.inr (.inr ⟨hi2,e,hs⟩)))
   exact .inr (.inr (.inl ⟨hi2,e⟩))
  rcases hd with ⟨k,hlt,hkx,hok⟩|⟨k,x,hlt,hkx,hok,hin⟩|⟨rfl,hok⟩|⟨rfl,hok,hsh⟩|⟨rfl,hok,hsh⟩
  ·have hkk:=hk k (wF hkx)
   have hpk:=hkk.1
   have hqk:=hkk.2.1
   have hlk:=Aq hkk
   have hgk:=getD_map (f:=b0x) (d:=([]:List PL)) hkx
   have hsk:=Zv k
   have hci:((i:Nat):Int)<((ks.length:Nat):Int):=Int.ofNat_lt.mpr hlt
   have hii:=b2d i
   have hio:=g1g (k0:=k0) hkx
   have him:=z0h hkx
   rw [r0j] at him
   have hsi:Go.RowKit.wrap64 (((i:Nat):Int)+1)=((i+1:Nat):Int):=Gy rfl (xR hlt hlen)
   have hT:=z0j k.peer hpk
   have hLw:=Bk.j1l (UInt64.ofNat (k.n%18446744073709551616).toNat) 8 (by decide)
   have hLl:=Ay (UInt64.ofNat (k.n%18446744073709551616).toNat) 8
   have F7:=yA hpk<|yA hqk<|yA hlk<|yA hgk<|yA hsk<|yA hci<|yA hii<|yA hsi<|yA hok<|hLl
   refine Lj fun zK zhK=>?_
   simp only [go_sem,rtC,Aw,F0,F7]
   repeat' (first|apply yA|intro _)
   refine zhK _ ?_
   refine Fw fun zN zM zhN zhM=>?_
   (refine Dw ?_ ?_;focus (first|rfl|(simp [go_sem,rtC,Aw,F0,F7];done)))
   refine Gq ?_
   refine zhN _ ?_;clear zhN zhM
   refine Fw fun zN zM zhN zhM=>?_
   refine Cj fun zB zbn zbx zbr zbi=>?_
   refine Lj fun zK zhK=>?_
   simp only [go_sem,rtC,Aw,F0,F7]
   repeat' (first|apply yA|intro _)
   refine zhK _ ?_
   refine Lj fun zK zhK=>?_
   simp only [go_sem,rtC,Aw,F0,F7]
   repeat' (first|apply yA|intro _)
   all_goals (first|((refine Cv (fun k=>k) (fun _ _=>rfl) ?_ (hiu.plain fun _ _ h=>h) ?_;focus (first|rfl|(simp only [go_sem,rtC,Aw,F0,F7]<;>rfl)));all_goals (rintro v m ⟨hR,hm⟩;subst hR;subst hm);all_goals refine yA (by first|rfl|simp only [go_sem,rtC,Aw,F0,F7]) (yA (by first|rfl|simp only [go_sem,rtC,Aw,F0,F7]) ?_);all_goals simp only [go_sem,rtC,Aw,F0,F7];all_goals repeat' (first|apply yA|intro _))|skip)
   refine zhK _ ?_
   refine c1z (id:=7) mixed fun zE zhE=>?_
   refine Ij (p:=0) 9 [40,41,42,43,44,45,46,47,48] [0,0,2,6,0,16,48,126,254,511,1023,2047] [] rfl (by kernel_rfl) rfl (by simp only [go_sem]) fun zR zK zhR zhK=>?_
   simp only [go_sem,rtC,Aw,F0,F7]
   repeat' (first|apply yA|intro _)
   all_goals (refine Ck (fun k=>k) (.w (.one (.pl (.str k.peer)))) [] (fun _ _=>rfl) ?_ (hT.plain fun _ _ h=>h) ?_ ?_;focus (first|rfl|(simp only [go_sem,rtC,Aw,F0,F7]<;>rfl)))
   all_goals try (refine yA ?_ (yA ?_ (yA ?_ ?_))<;>first|rfl|simp only [go_sem])
   all_goals simp only [go_sem,rtC,Aw,F0,F7]
   all_goals repeat' (first|apply yA|intro _)
   all_goals (refine Ck (fun k=>k) (.w (.one (.pl (.str (Mq (UInt64.ofNat (k.n%18446744073709551616).toNat) 8))))) [] (fun _ _=>rfl) ?_ (hLw.plain fun _ _ h=>h) ?_ ?_;focus (first|rfl|(simp only [go_sem,rtC,Aw,F0,F7]<;>rfl)))
   all_goals try (refine yA ?_ (yA ?_ (yA ?_ ?_))<;>first|rfl|simp only [go_sem])
   all_goals simp only [go_sem,rtC,Aw,F0,F7]
   all_goals repeat' (first|apply yA|intro _)
   refine zhK _ _ trivial (zhR _ ?_)
   refine Mx 3 12 rfl (by kernel_rfl) rfl rfl fun zR zhR=>?_
   simp only [go_sem,rtC,Aw,F0,F7]
   repeat' (first|apply yA|intro _)
   all_goals refine s2f Tryz.underlying68 Tryz.underlying9 (by kernel_rfl) ?_
   all_goals (try simp only [go_sem,h0b,rtC,Aw,F0,F7])
   all_goals repeat' (first|apply yA|intro _)
   all_goals refine r2w Tryz.underlying68 Tryz.underlying9 hmb ?_
   all_goals (try simp only [go_sem,h0b,rtC,Aw,F0,F7])
   all_goals repeat' (first|apply yA|intro _)
   refine zhR _ ?_
   refine b0b rfl (zhE _ ?_)
   refine zbn _ ?_;clear zbn zbx zbr zbi
   refine zhN _ ?_;clear zhN zhM
   refine Cw fun zK zhK=>?_
   simp only [go_sem,rtC,Aw,F0,F7]
   repeat' (first|apply yA|intro _)
   refine zhK _ ?_
   refine zhN ⟨i+1,hlt⟩ _ ?_ ?_ ?_
   ·(exact yP hlt (yQ _))
   ·(simp only [hio,hok,wG,go_sem,leX,yB,yC];try simp)
   (simp only [him,go_sem,leX,yB,yC];try simp)
  ·have hkk:=hk k (wF hkx)
   have hpk:=hkk.1
   have hqk:=hkk.2.1
   have hlk:=Aq hkk
   have hgk:=getD_map (f:=b0x) (d:=([]:List PL)) hkx
   have hsk:=Zv k
   have hci:((i:Nat):Int)<((ks.length:Nat):Int):=Int.ofNat_lt.mpr hlt
   have hii:=b2d i
   have hio:=g1g (k0:=k0) hkx
   have him:=z0h hkx
   rw [r0j] at him
   have hsi:Go.RowKit.wrap64 (((i:Nat):Int)+1)=((i+1:Nat):Int):=Gy rfl (xR hlt hlen)
   have hT:=z0j k.peer hpk
   have hLw:=Bk.j1l (UInt64.ofNat (k.n%18446744073709551616).toNat) 8 (by decide)
   have hLl:=Ay (UInt64.ofNat (k.n%18446744073709551616).toNat) 8
   have hiu:=h1y k.n
   rw [hin] at hiu
   have F17:=yA hpk<|yA hqk<|yA hlk<|yA hgk<|yA hsk<|yA hci<|yA hii<|yA hsi<|yA hok<|hLl
   refine Lj fun zK zhK=>?_
   simp only [go_sem,rtC,Aw,F0,F17]
   repeat' (first|apply yA|intro _)
   refine zhK _ ?_
   refine Fw fun zN zM zhN zhM=>?_
   (refine Dw ?_ ?_;focus (first|rfl|(simp [go_sem,rtC,Aw,F0,F17];done)))
   refine Gq ?_
   refine zhN _ ?_;clear zhN zhM
   refine Fw fun zN zM zhN zhM=>?_
   refine Cj fun zB zbn zbx zbr zbi=>?_
   refine Lj fun zK zhK=>?_
   simp only [go_sem,rtC,Aw,F0,F17]
   repeat' (first|apply yA|intro _)
   refine zhK _ ?_
   refine Lj fun zK zhK=>?_
   simp only [go_sem,rtC,Aw,F0,F17]
   repeat' (first|apply yA|intro _)
   all_goals (first|((refine Cv (fun k=>k) (fun _ _=>rfl) ?_ (hiu.plain fun _ _ h=>h) ?_;focus (first|rfl|(simp only [go_sem,rtC,Aw,F0,F17]<;>rfl)));all_goals (rintro v m ⟨hR,hm⟩;subst hR;subst hm);all_goals refine yA (by first|rfl|simp only [go_sem,rtC,Aw,F0,F17]) (yA (by first|rfl|simp only [go_sem,rtC,Aw,F0,F17]) ?_);all_goals simp only [go_sem,rtC,Aw,F0,F17];all_goals repeat' (first|apply yA|intro _))|skip)
   refine zhK _ ?_
   refine c1z (id:=7) mixed fun zE zhE=>?_
   refine Ij (p:=0) 9 [40,41,42,43,44,45,46,47,48] [0,0,2,6,0,16,48,126,254,511,1023,2047] [] rfl (by kernel_rfl) rfl (by simp only [go_sem]) fun zR zK zhR zhK=>?_
   simp only [go_sem,rtC,Aw,F0,F17]
   repeat' (first|apply yA|intro _)
   all_goals (refine Ck (fun k=>k) (.w (.one (.pl (.str k.peer)))) [] (fun _ _=>rfl) ?_ (hT.plain fun _ _ h=>h) ?_ ?_;focus (first|rfl|(simp only [go_sem,rtC,Aw,F0,F17]<;>rfl)))
   all_goals try (refine yA ?_ (yA ?_ (yA ?_ ?_))<;>first|rfl|simp only [go_sem])
   all_goals simp only [go_sem,rtC,Aw,F0,F17]
   all_goals repeat' (first|apply yA|intro _)
   all_goals (refine Ck (fun k=>k) (.w (.one (.pl (.str (Mq (UInt64.ofNat (k.n%18446744073709551616).toNat) 8))))) [] (fun _ _=>rfl) ?_ (hLw.plain fun _ _ h=>h) ?_ ?_;focus (first|rfl|(simp only [go_sem,rtC,Aw,F0,F17]<;>rfl)))
   all_goals try (refine yA ?_ (yA ?_ (yA ?_ ?_))<;>first|rfl|simp only [go_sem])
   all_goals simp only [go_sem,rtC,Aw,F0,F17]
   all_goals repeat' (first|apply yA|intro _)
   refine zhK _ _ trivial (zhR _ ?_)
   refine Mx 3 12 rfl (by kernel_rfl) rfl rfl fun zR zhR=>?_
   simp only [go_sem,rtC,Aw,F0,F17]
   repeat' (first|apply yA|intro _)
   all_goals refine s2f Tryz.underlying68 Tryz.underlying9 (by kernel_rfl) ?_
   all_goals (try simp only [go_sem,h0b,rtC,Aw,F0,F17])
   all_goals repeat' (first|apply yA|intro _)
   all_goals refine r2w Tryz.underlying68 Tryz.underlying9 hmb ?_
   all_goals (try simp only [go_sem,h0b,rtC,Aw,F0,F17])
   all_goals repeat' (first|apply yA|intro _)
   refine zhR _ ?_
   refine b0b rfl (zhE _ ?_)
   refine zbn _ ?_;clear zbn zbx zbr zbi
   refine zhN _ ?_;clear zhN zhM
   refine Cw fun zK zhK=>?_
   simp only [go_sem,rtC,Aw,F0,F17]
   repeat' (first|apply yA|intro _)
   refine zhK _ ?_
   refine zhN ⟨i+1,hlt⟩ _ ?_ ?_ ?_
   ·(exact yP hlt (yQ _))
   ·(simp only [hio,hok,hin,uE,go_sem,leX,yB,yC];try simp)
   (simp only [him,go_sem,leX,yB,yC];try simp)
  ·have hce:¬((ks.length:Nat):Int)<((ks.length:Nat):Int):=Int.lt_irrefl _
   have hfa:=o2d hk0 hok
   iterate 18 first
    |(refine Lj fun zK zhK=>?_;simp only [go_sem,rtC,Aw,F0,hce,hok];(repeat' (first|apply yA|intro _)))
    |refine zhK _ ?_
    |(refine zhM _ _ ?_;clear zhN zhM)
    |refine Jv ?_
    |(refine zbx _ ?_;clear zbn zbx zbr zbi)
    |(refine zhN _ ?_;clear zhN zhM)
    |refine Tk ?_
    |(refine zhZ _ _ ?_;simp only [go_sem,rtC,Aw,F0,hce,hok];(all_goals (rw [hfa])))
    |refine Fw fun zN zM zhN zhM=>?_
    |(refine Dk ?_ ?_;focus (first|rfl|(simp [go_sem,rtC,Aw,F0,hce,hok];done)))
    |(refine Dw ?_ ?_;focus (first|rfl|(simp [go_sem,rtC,Aw,F0,hce,hok];done)))
  ·have hce:¬((ks.length:Nat):Int)<((ks.length:Nat):Int):=Int.lt_irrefl _
   have hfa:=z0w hk0 hk hok
   rw [if_pos hsh] at hfa
   have hsh2:(((n0x ks).length:Nat):Int)<((ks.length:Nat):Int):=Int.ofNat_lt.mpr hsh
   have F32:=yA hce<|yA hok<|hsh2
   iterate 18 first
    |(refine Lj fun zK zhK=>?_;simp only [go_sem,rtC,Aw,F0,wK,Tryz.underlying68,F32];(repeat' (first|apply yA|intro _)))
    |refine zhK _ ?_
    |(refine zhM _ _ ?_;clear zhN zhM)
    |refine Jv ?_
    |(refine zbx _ ?_;clear zbn zbx zbr zbi)
    |(refine zhN _ ?_;clear zhN zhM)
    |refine Tk ?_
    |(refine zhZ _ _ ?_;simp only [go_sem,rtC,Aw,F0,wK,Tryz.underlying68,F32];(all_goals (rw [hfa])))
    |refine Fw fun zN zM zhN zhM=>?_
    |(refine Dk ?_ ?_;focus (first|rfl|(simp [go_sem,rtC,Aw,F0,wK,Tryz.underlying68,F32];done)))
    |(refine Dw ?_ ?_;focus (first|rfl|(simp [go_sem,rtC,Aw,F0,wK,Tryz.underlying68,F32];done)))
  have hce:¬((ks.length:Nat):Int)<((ks.length:Nat):Int):=Int.lt_irrefl _
  have hfa:=z0w hk0 hk hok
  rw [if_neg hsh] at hfa
  have hsh2:¬(((n0x ks).length:Nat):Int)<((ks.length:Nat):Int):=fun e=>hsh (Int.ofNat_lt.mp e)
  have F37:=yA hce<|yA hok<|hsh2
  iterate 19 first
   |(refine Lj fun zK zhK=>?_;simp only [go_sem,rtC,Aw,F0,wK,Tryz.underlying68,F37];(repeat' (first|apply yA|intro _)))
   |refine zhK _ ?_
   |(refine zhM _ _ ?_;clear zhN zhM)
   |(refine zhN _ ?_;clear zhN zhM)
   |refine Jv ?_
   |(refine zbx _ ?_;clear zbn zbx zbr zbi)
   |refine Gq ?_
   |refine Tk ?_
   |(refine zhZ _ _ ?_;simp only [go_sem,rtC,Aw,F0,wK,Tryz.underlying68,F37];(all_goals (rw [hfa])))
   |refine Fw fun zN zM zhN zhM=>?_
   |(refine Dk ?_ ?_;focus (first|rfl|(simp [go_sem,rtC,Aw,F0,wK,Tryz.underlying68,F37];done)))
end Rk
end Go.Sy
