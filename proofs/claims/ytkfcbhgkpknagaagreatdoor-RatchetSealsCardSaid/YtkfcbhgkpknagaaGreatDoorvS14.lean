/- Walks: five parts of 26 bits. -/
import Derived.Test.YtkfcbhgkpknagaaGreatDoorvE3
import Derived.Test.YtkfcbhgkpknagaaGreatDoorvS11
set_option linter.unusedVariables false
set_option linter.unusedSimpArgs false
set_option maxHeartbeats 1600000
set_option maxRecDepth 100000
namespace Go.Sy
open Go.Proofs
attribute [local irreducible] Bw HT Aj Jk onC onE onO onG goV goA goS Lx Bz
def P5.ls (p:P5):List L:=[.pl (.u64 p.a),.pl (.u64 p.b),.pl (.u64 p.c),.pl (.u64 p.d),.pl (.u64 p.e)]
def y0p :Nat→P5→P5
 |0,p=>p
 |k+1,p=>(y0p k p).pass
def W3 (x y z:UInt64):List L:=[.pl (.u64 x),.pl (.u64 y),.pl (.u64 z)]
theorem g0g (x y z:UInt64):
 Ct Tryz.prog 135 [.w (.agg (W3 x y z))] (fun v m=>v=.w (.agg (Ey x y z).ls)):=by
 have F0:=W3.eq_1
 exact Ct.go Tryz.func135 rfl Tryz.ntmps135 Tryz.results135
theorem j2k (a b c d e:UInt64):
 Ct Tryz.prog 137 [.w (.agg [.pl (.u64 a),.pl (.u64 b),.pl (.u64 c),.pl (.u64 d),.pl (.u64 e)])] (fun v m=>v=.w (.agg (W3 (P5.w0 ⟨a,b,c,d,e⟩) (P5.w1 ⟨a,b,c,d,e⟩) (P5.w2 ⟨a,b,c,d,e⟩)))):=by
 have F0:=trivial
 exact Ct.go Tryz.func137 rfl Tryz.ntmps137 Tryz.results137
theorem g0o (a b c d e:UInt64):
 Ct Tryz.prog 136 [.w (.agg [.pl (.u64 a),.pl (.u64 b),.pl (.u64 c),.pl (.u64 d),.pl (.u64 e)])] (fun v m=>v=.w (.agg (P5.carried ⟨a,b,c,d,e⟩).ls)):=by
 have F0:=trivial
 have zF:FG [8,10,11,12,13,14,15,16,17,18,19,20,21,22,23,24,25,26,27,28,29,30,31,32,33,34,35,37,38,39,40,41,42,43,44,45,46,47,48,49,50,51,52,53,54,55,56,57,58,59,60,61,62,63,64]:=trivial
 refine Ct.go Tryz.func136 rfl Tryz.ntmps136 Tryz.results136 fun w0 ro zZ zhY=>?_
 refine (fun zX=>goW) ?_
 refine Bv [0] ?_
 simp only [Bj,Cx,Bq,yI,yK,Nat.reduceBEq,beq_self_eq_true,yS,yV,yY,yT,yE,reduceIte]
 refine Gx (fun y=>[(7,.w (.one (.pl (.i ((y.1:Nat):Int)))))]) (fun y=>[(1,⟨false,(y0p y.1 ⟨a,b,c,d,e⟩).ls⟩)]) (fun y=>3-y.1) (⟨0,by omega⟩:{y:Nat//y≤3}) ?_ (by (simp only [go_sem,P5.ls,y0p,leX,yB,yC];try simp)) (by (simp only [go_sem,P5.ls,y0p,leX,yB,yC];try simp))
 intro yy xN0 xM0 xhN0 xhM0
 simp only [yB,yC]
 obtain ⟨j,hj⟩:=yy
 rcases yZ j 3 with hlt|hge
 rotate_left
 obtain ⟨q,hq⟩: ∃ q,y0p j ⟨a,b,c,d,e⟩=q:=⟨_,rfl⟩
 have hd:=Classical.em (0<w0h q.f5)
 rcases hd with hcar|hcar
 rotate_left 2
 ·have hc:((j:Nat):Int)<3:=by omega
  have hs1:Go.RowKit.wrap64 (((j:Nat):Int)+1)=((j+1:Nat):Int):=Gy (by omega) (by omega)
  obtain ⟨q,hq⟩: ∃ q,y0p j ⟨a,b,c,d,e⟩=q:=⟨_,rfl⟩
  obtain ⟨qa,qb,qc,qd,qe⟩:=q
  simp only [hq,P5.ls]
  have F0:=yA hc<|yA hs1<|F0
  have zU:=yA ur<|trivial
  refine (fun zX=>goW) ?_
  refine xhN0 ⟨j+1,by omega⟩ _ ?_ ?_ ?_
  ·(show 3-(j+1)<3-j;clear hs1;omega)
  ·(simp only [go_sem,leX,yB,yC];try simp)
  (simp only [y0p,hq,go_sem,leX,yB,yC];try simp [y0p,hq,P5.ls,P5.pass,P5.c1,P5.c2,P5.c3,P5.c4,P5.c5,v0d,w0h,leX,look])
 ·have hc:¬((j:Nat):Int)<3:=by omega
  have hj3:j=3:=by omega
  subst hj3
  obtain ⟨qa,qb,qc,qd,qe⟩:=q
  have hcc:P5.carried ⟨a,b,c,d,e⟩=P5.car ⟨qa,qb,qc,qd,qe⟩:=by rw [←hq];rfl
  rw [P5.car,if_pos hcar] at hcc
  simp only [P5.f1,P5.f2,P5.f3,P5.f4,P5.f5,w0h,v0d] at hcar hcc
  simp only [hq,P5.ls]
  have F0:=yA hc<|yA hcar<|F0
  have zd0:DQ 17 [39,40,41,42,43,44,45,46,47,48] [0,1,3,7,0,16,48,112,255,511,1023] []:=⟨⟩
  have zU:=yA ur<|trivial
  refine (fun zX=>goW) ?_
  refine zhY _ _ ?_
  simp only [go_sem,F0]
  all_goals (rw [hcc];rfl)
 have hc:¬((j:Nat):Int)<3:=by omega
 have hj3:j=3:=by omega
 subst hj3
 obtain ⟨qa,qb,qc,qd,qe⟩:=q
 have hcc:P5.carried ⟨a,b,c,d,e⟩=P5.car ⟨qa,qb,qc,qd,qe⟩:=by rw [←hq];rfl
 rw [P5.car,if_neg hcar] at hcc
 simp only [P5.f1,P5.f2,P5.f3,P5.f4,P5.f5,w0h,v0d] at hcar hcc
 simp only [hq,P5.ls]
 have F0:=yA hc<|yA hcar<|F0
 have zd0:DQ 17 [39,40,41,42,43,44,45,46,47,48] [0,1,3,7,0,16,48,112,255,511,1023] []:=⟨⟩
 have zU:=yA ur<|trivial
 refine (fun zX=>goW) ?_
 refine zhY _ _ ?_
 simp only [go_sem,F0]
 all_goals (rw [hcc];rfl)
end Go.Sy
