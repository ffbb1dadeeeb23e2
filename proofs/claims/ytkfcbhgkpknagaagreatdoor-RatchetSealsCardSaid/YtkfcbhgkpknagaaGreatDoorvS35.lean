/- Inverses below the prime: from the top. -/
import Derived.Test.YtkfcbhgkpknagaaGreatDoorvE3
import Derived.Test.YtkfcbhgkpknagaaGreatDoorvS33
import Derived.Test.YtkfcbhgkpknagaaGreatDoorvS23
import Derived.Test.YtkfcbhgkpknagaaGreatDoorvS27
set_option linter.unusedVariables false
set_option linter.unusedSimpArgs false
namespace Go.Sy
namespace Lk
open Go.Proofs
attribute [local irreducible] Bw HT Aj Jk onC onE onO onG goV goA goS Lx Bz
theorem o1b (n e:Nat):pw n e<115792089237316195423570985008687907853269984665640564039457584007913129639936:=by
 have:=b1w n e
 have:=j0g
 omega
theorem b2u {k:Nat} (hk:k≤255):Go.RowKit.wrap64 (((k:Nat):Int)-1)=dn k:=by
 unfold dn;exact w64 (by omega)
theorem l1q :w4C 1=[.pl (.u64 1),.pl (.u64 0),.pl (.u64 0),.pl (.u64 0)]:=by rw [w4C,show w4 1=[1,0,0,0] from by decide+kernel];rfl
set_option maxHeartbeats 3200000 in
set_option maxRecDepth 100000 in
theorem b2b (a b c d:UInt64) (h1:vQ a b c d<p25):
 CtM Tryz.prog 50 [.w (.agg [.pl (.u64 a),.pl (.u64 b),.pl (.u64 c),.pl (.u64 d)])] [(1000001,⟨false,gPr⟩)] (Told (fun v m=>v=.tup [.agg (w4C (pw (vQ a b c d) eP)),.one (.pl (.i 0))]∧m=[])):=by
 have hA:=below_ a b c d
 rw [decide_eq_true h1] at hA
 obtain ⟨n,hn⟩: ∃ n,vQ a b c d=n:=⟨_,rfl⟩
 have hnp:n<p25:=by rw [←hn];exact h1
 rw [hn]
 have F0:=trivial
 refine CtM.go Tryz.func50 rfl Tryz.ntmps50 Tryz.results50 fun w0 ro may fx zZ zhY=>?_
 have cq:=yA (CtM.ch [] (hA.told))<|trivial
 refine (fun zX=>goW) ?_
 refine Bv [0,6,7,8,9,10] ?_
 simp only [Bj,Cx,Bq,yI,yK,Nat.reduceBEq,beq_self_eq_true,yS,yV,yY,yT,yE,reduceIte]
 refine Gx (fun y=>[(5,.w (.one (.pl (.i (dn y.1)))))]) (fun y=>[(4,⟨false,w4C (pw n (x0e y.1))⟩)]) (fun y=>y.1) (⟨255,xL _⟩:{y:Nat//y≤255}) ?_ (by (simp only [go_sem,leX,yB,yC];first|done|rfl|(simp [dn];done))) (by (simp only [l1z,o1a,l1q,go_sem,leX,yB,yC];first|done|rfl|(simp [leX,look];done)))
 intro yy xN0 xM0 xhN0 xhM0
 simp only [yB,yC]
 obtain ⟨y,hy⟩:=yy
 obtain ⟨q0,q1,q2,q3,hq,hvq⟩:=Cz (pw n (x0e y)) (o1b _ _)
 have huq:Dz [q0,q1,q2,q3]=[.pl (.u64 q0),.pl (.u64 q1),.pl (.u64 q2),.pl (.u64 q3)]:=rfl
 simp only [w4C,hq,huq]
 have hd:(y=0)∨(∃ k,y=k+1∧k=4)∨(∃ k,y=k+1∧k=2)∨(∃ k,y=k+1∧¬(k=4∨k=2)):=by
  cases y with
  |zero=>exact .inl rfl
  |succ k=>
   by_cases e1:k=4
   ·exact .inr (.inl ⟨k,rfl,e1⟩)
   by_cases e2:k=2
   ·exact .inr (.inr (.inl ⟨k,rfl,e2⟩))
   exact .inr (.inr (.inr ⟨k,rfl,by omega⟩))
 rcases hd with rfl|⟨k,rfl,hb⟩|⟨k,rfl,hb⟩|⟨k,rfl,hb⟩
 ·have hi:dn 0= -1:=rfl
  have hfin:w4C (pw n eP)=Dz [q0,q1,q2,q3]:=by rw [w4C,←l1y,hq]
  have F0:=yA hi<|F0
  refine (fun zX=>goW) ?_
  refine zhY _ _ ?_
  simp only [go_sem,F0]
  all_goals (exact told_plain (by simp [Dv,Ew]) ⟨by rw [hfin];rfl,rfl⟩)
 ·have hk:k<255:=by omega
  have hi:dn (k+1)=((k:Nat):Int):=by unfold dn;omega
  have g0:(0:Int)≤((k:Nat):Int):=by omega
  have hs1:=b2u (k:=k) (by omega)
  have hM:=n2c q0 q1 q2 q3 q0 q1 q2 q3
  rw [hvq,v1k] at hM
  obtain ⟨r0,r1,r2,r3,hr,hvr⟩:=Cz (pw n (2*x0e (k+1))) (o1b _ _)
  have hur:Dz [r0,r1,r2,r3]=[.pl (.u64 r0),.pl (.u64 r1),.pl (.u64 r2),.pl (.u64 r3)]:=rfl
  simp only [w4C,hr,hur] at hM
  have hq4:(((k:Nat):Int)=4)=True:=eq_true (by omega)
  have hT:x0e k=2*x0e (k+1):=f1l hk (.inl hb)
  have F0:=yA hi<|yA g0<|yA hs1<|yA hq4<|F0
  have cq:=yA (CtM.ch [] (hM.told))<|trivial
  refine (fun zX=>goW) ?_
  refine xhN0 ⟨k,by omega⟩ _ ?_ ?_ ?_
  ·(exact yQ k)
  ·(simp only [go_sem,leX,yB,yC,F0];try simp)
  (simp only [w4C,hT,hr,hur,go_sem,leX,yB,yC];first|done|rfl|(simp [leX,look];done))
 ·have hk:k<255:=by omega
  have hi:dn (k+1)=((k:Nat):Int):=by unfold dn;omega
  have g0:(0:Int)≤((k:Nat):Int):=by omega
  have hs1:=b2u (k:=k) (by omega)
  have hM:=n2c q0 q1 q2 q3 q0 q1 q2 q3
  rw [hvq,v1k] at hM
  obtain ⟨r0,r1,r2,r3,hr,hvr⟩:=Cz (pw n (2*x0e (k+1))) (o1b _ _)
  have hur:Dz [r0,r1,r2,r3]=[.pl (.u64 r0),.pl (.u64 r1),.pl (.u64 r2),.pl (.u64 r3)]:=rfl
  simp only [w4C,hr,hur] at hM
  have hq4:(((k:Nat):Int)=4)=False:=eq_false (by omega)
  have hq2:(((k:Nat):Int)=2)=True:=eq_true (by omega)
  have hT:x0e k=2*x0e (k+1):=f1l hk (.inr hb)
  have F0:=yA hi<|yA g0<|yA hs1<|yA hq4<|yA hq2<|F0
  have cq:=yA (CtM.ch [] (hM.told))<|trivial
  refine (fun zX=>goW) ?_
  refine xhN0 ⟨k,by omega⟩ _ ?_ ?_ ?_
  ·(exact yQ k)
  ·(simp only [go_sem,leX,yB,yC,F0];try simp)
  (simp only [w4C,hT,hr,hur,go_sem,leX,yB,yC];first|done|rfl|(simp [leX,look];done))
 have hk:k<255:=by omega
 have hi:dn (k+1)=((k:Nat):Int):=by unfold dn;omega
 have g0:(0:Int)≤((k:Nat):Int):=by omega
 have hs1:=b2u (k:=k) (by omega)
 have hM:=n2c q0 q1 q2 q3 q0 q1 q2 q3
 rw [hvq,v1k] at hM
 obtain ⟨r0,r1,r2,r3,hr,hvr⟩:=Cz (pw n (2*x0e (k+1))) (o1b _ _)
 have hur:Dz [r0,r1,r2,r3]=[.pl (.u64 r0),.pl (.u64 r1),.pl (.u64 r2),.pl (.u64 r3)]:=rfl
 simp only [w4C,hr,hur] at hM
 have hq4:(((k:Nat):Int)=4)=False:=eq_false (by omega)
 have hq2:(((k:Nat):Int)=2)=False:=eq_false (by omega)
 have hM2:=n2c r0 r1 r2 r3 a b c d
 rw [hvr,hn,i1z n _ hnp,←u1d hk hb] at hM2
 obtain ⟨s0,s1,s2,s3,hs,hvs⟩:=Cz (pw n (x0e k)) (o1b _ _)
 have hus:Dz [s0,s1,s2,s3]=[.pl (.u64 s0),.pl (.u64 s1),.pl (.u64 s2),.pl (.u64 s3)]:=rfl
 simp only [w4C,hs,hus] at hM2
 have F0:=yA hi<|yA g0<|yA hs1<|yA hq4<|yA hq2<|F0
 have cq:=yA (CtM.ch [] (hM.told))<|yA (CtM.ch [] (hM2.told))<|trivial
 refine (fun zX=>goW) ?_
 refine xhN0 ⟨k,by omega⟩ _ ?_ ?_ ?_
 ·(exact yQ k)
 ·(simp only [go_sem,leX,yB,yC,F0];try simp)
 (simp only [w4C,hs,hus,go_sem,leX,yB,yC];first|done|rfl|(simp [leX,look];done))
end Lk
end Go.Sy
