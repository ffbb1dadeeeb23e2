/- Walks and what they compute. CONDITIONS: those that each theorem names. -/
import Derived.Test.YtkfcbhgkpknagaaGreatDoorvE3
import Derived.Test.YtkfcbhgkpknagaaGreatDoorvS4
set_option linter.unusedVariables false
set_option linter.unusedSimpArgs false
set_option maxHeartbeats 1600000
set_option maxRecDepth 100000
namespace Go.Sy
namespace Bk
open Go.Proofs
attribute [local irreducible] Bw HT Aj Jk onC onE onO onG goV goA goS Lx Bz
def Dx (h:H8) (held:List UInt8) (n len:Int):List L:=h.ls++(Az held++[.pl (.i n),.pl (.i len)])
structure HashOk (held:List UInt8) (n len:Int):Prop where
 lo:0≤n
 hi:n≤64
 le:n≤len
 mx:len≤1073741824
 md:(len-n)%64=0
 nz:n=0→len=0
 rest: ∀ j,n.toNat≤j→j<64→held.getD j 0=0
noncomputable def Yj (held:List UInt8) (n len:Int):Int:=if Classical.propDecidable (HashOk held n len)|>.decide then 0 else 9
noncomputable def Vy (held:List UInt8) (n len:Int):Bool:=!(Classical.propDecidable (HashOk held n len)|>.decide)
section
variable {held:List UInt8} {n len:Int}
theorem f0g (h:HashOk held n len):Yj held n len=0:=by unfold Yj;simp [h]
theorem f0h (h:¬HashOk held n len):Yj held n len=9:=by unfold Yj;simp [h]
theorem d0p (h:HashOk held n len):Vy held n len=false:=by unfold Vy;simp [h]
theorem b0y (h:¬HashOk held n len):Vy held n len=true:=by unfold Vy;simp [h]
theorem c0l {l:List UInt8} {o m i:Nat} (h:o+i<l.length) (hi:i<m):List.take 1 (List.drop i (List.take m (List.drop o l)))=[l.getD (o+i) 0]:=by
 have hl:i<(List.take m (List.drop o l)).length:=by rw [yH,yU];omega
 rw [xM hl,wE,wH]
 simp [List.getElem_take,List.getElem_drop,List.getD,yO h]
end
theorem g2b (h0 h1 h2 h3 h4 h5 h6 h7:UInt32) (held:List UInt8) (hh:held.length=64) (n len:Int) (g1:n<0):
 Ct Tryz.prog 113 [.w (.agg (Dx ⟨h0,h1,h2,h3,h4,h5,h6,h7⟩ held n len))] (fun v m=>v=.w (.one (.pl (.i (Yj held n len))))):=by
 have F0:=yA Dx.eq_1<|yA H8.ls.eq_1<|yA hh<|g1
 refine Ct.go Tryz.func113 rfl Tryz.ntmps113 Tryz.results113 fun w0 ro zZ zhY=>?_
 refine (fun zX=>goW) ?_
 refine zhY _ _ ?_
 simp only [go_sem,F0]
 all_goals (rw [f0h (fun h=>absurd h.lo (by omega))])
theorem g2a (h0 h1 h2 h3 h4 h5 h6 h7:UInt32) (held:List UInt8) (hh:held.length=64) (n len:Int) (g1:¬n<0) (g2:64<n):
 Ct Tryz.prog 113 [.w (.agg (Dx ⟨h0,h1,h2,h3,h4,h5,h6,h7⟩ held n len))] (fun v m=>v=.w (.one (.pl (.i (Yj held n len))))):=by
 have F0:=yA Dx.eq_1<|yA H8.ls.eq_1<|yA hh<|yA g1<|g2
 refine Ct.go Tryz.func113 rfl Tryz.ntmps113 Tryz.results113 fun w0 ro zZ zhY=>?_
 refine (fun zX=>goW) ?_
 refine zhY _ _ ?_
 simp only [go_sem,F0]
 all_goals (rw [f0h (fun h=>absurd h.hi (by omega))])
theorem f2z (h0 h1 h2 h3 h4 h5 h6 h7:UInt32) (held:List UInt8) (hh:held.length=64) (n len:Int) (g1:¬n<0) (g2:¬64<n) (g3:len<n):
 Ct Tryz.prog 113 [.w (.agg (Dx ⟨h0,h1,h2,h3,h4,h5,h6,h7⟩ held n len))] (fun v m=>v=.w (.one (.pl (.i (Yj held n len))))):=by
 have F0:=yA Dx.eq_1<|yA H8.ls.eq_1<|yA hh<|yA g1<|yA g2<|g3
 refine Ct.go Tryz.func113 rfl Tryz.ntmps113 Tryz.results113 fun w0 ro zZ zhY=>?_
 refine (fun zX=>goW) ?_
 refine zhY _ _ ?_
 simp only [go_sem,F0]
 all_goals (rw [f0h (fun h=>absurd h.le (by omega))])
theorem f2y (h0 h1 h2 h3 h4 h5 h6 h7:UInt32) (held:List UInt8) (hh:held.length=64) (n len:Int) (g1:¬n<0) (g2:¬64<n) (g3:¬len<n) (g4:1073741824<len):
 Ct Tryz.prog 113 [.w (.agg (Dx ⟨h0,h1,h2,h3,h4,h5,h6,h7⟩ held n len))] (fun v m=>v=.w (.one (.pl (.i (Yj held n len))))):=by
 have F0:=yA Dx.eq_1<|yA H8.ls.eq_1<|yA hh<|yA g1<|yA g2<|yA g3<|g4
 refine Ct.go Tryz.func113 rfl Tryz.ntmps113 Tryz.results113 fun w0 ro zZ zhY=>?_
 refine (fun zX=>goW) ?_
 refine zhY _ _ ?_
 simp only [go_sem,F0]
 all_goals (rw [f0h (fun h=>absurd h.mx (by omega))])
theorem f2x (h0 h1 h2 h3 h4 h5 h6 h7:UInt32) (held:List UInt8) (hh:held.length=64) (k l:Nat) (e1:k≤64) (e2:k≤l) (e3:l≤1073741824) (e4:¬(l-k)%64=0):
 Ct Tryz.prog 113 [.w (.agg (Dx ⟨h0,h1,h2,h3,h4,h5,h6,h7⟩ held (k:Int) (l:Int)))] (fun v m=>v=.w (.one (.pl (.i (Yj held (k:Int) (l:Int)))))):=by
 have g1:¬((k:Nat):Int)<0:=by omega
 have g2:¬(64:Int)<((k:Nat):Int):=by omega
 have g3:¬((l:Nat):Int)<((k:Nat):Int):=by omega
 have g4:¬(1073741824:Int)<((l:Nat):Int):=by omega
 have gs:Go.RowKit.wrap64 (((l:Nat):Int)-((k:Nat):Int))=((l-k:Nat):Int):=Gy (by omega) (by omega)
 have gm:(((l-k:Nat):Int)).tmod 64=(((l-k)%64:Nat):Int):=rfl
 have h9:(0:Int)≤((k:Nat):Int):=by omega
 have h10:((k:Nat):Int)≤64:=by omega
 have g5:¬(((l-k)%64:Nat):Int)=0:=by omega
 have F0:=yA Dx.eq_1<|yA H8.ls.eq_1<|yA hh<|yA g1<|yA g2<|yA g3<|yA g4<|yA gs<|yA gm<|yA h9<|yA h10<|g5
 refine Ct.go Tryz.func113 rfl Tryz.ntmps113 Tryz.results113 fun w0 ro zZ zhY=>?_
 refine (fun zX=>goW) ?_
 refine zhY _ _ ?_
 simp only [go_sem,F0]
 all_goals (rw [f0h (fun h=>absurd h.md (by omega))])
theorem f2w (h0 h1 h2 h3 h4 h5 h6 h7:UInt32) (held:List UInt8) (hh:held.length=64) (k l:Nat) (e1:k≤64) (e2:k≤l) (e3:l≤1073741824) (e4:(l-k)%64=0) (e5:k=0) (e6:0<l):
 Ct Tryz.prog 113 [.w (.agg (Dx ⟨h0,h1,h2,h3,h4,h5,h6,h7⟩ held (k:Int) (l:Int)))] (fun v m=>v=.w (.one (.pl (.i (Yj held (k:Int) (l:Int)))))):=by
 have g1:¬((k:Nat):Int)<0:=by omega
 have g2:¬(64:Int)<((k:Nat):Int):=by omega
 have g3:¬((l:Nat):Int)<((k:Nat):Int):=by omega
 have g4:¬(1073741824:Int)<((l:Nat):Int):=by omega
 have gs:Go.RowKit.wrap64 (((l:Nat):Int)-((k:Nat):Int))=((l-k:Nat):Int):=Gy (by omega) (by omega)
 have gm:(((l-k:Nat):Int)).tmod 64=(((l-k)%64:Nat):Int):=rfl
 have h9:(0:Int)≤((k:Nat):Int):=by omega
 have h10:((k:Nat):Int)≤64:=by omega
 have g5:(((l-k)%64:Nat):Int)=0:=by omega
 have g6:((k:Nat):Int)=0:=by omega
 have g7:(0:Int)<((l:Nat):Int):=by omega
 have g8:=eq_true g6
 have F0:=yA Dx.eq_1<|yA H8.ls.eq_1<|yA hh<|yA g1<|yA g2<|yA g3<|yA g4<|yA gs<|yA gm<|yA h9<|yA h10<|yA g5<|yA g8<|g7
 refine Ct.go Tryz.func113 rfl Tryz.ntmps113 Tryz.results113 fun w0 ro zZ zhY=>?_
 refine (fun zX=>goW) ?_
 refine zhY _ _ ?_
 simp only [go_sem,F0]
 all_goals (rw [f0h (fun h=>absurd (h.nz g6) (by omega))])
theorem x1z (h0 h1 h2 h3 h4 h5 h6 h7:UInt32) (held:List UInt8) (hh:held.length=64) (k l:Nat) (e1:k≤64) (e2:k≤l) (e3:l≤1073741824) (e4:(l-k)%64=0) (e5:¬k=0):
 Ct Tryz.prog 113 [.w (.agg (Dx ⟨h0,h1,h2,h3,h4,h5,h6,h7⟩ held (k:Int) (l:Int)))] (fun v m=>v=.w (.one (.pl (.i (Yj held (k:Int) (l:Int)))))):=by
 have g1:¬((k:Nat):Int)<0:=by omega
 have g2:¬(64:Int)<((k:Nat):Int):=by omega
 have g3:¬((l:Nat):Int)<((k:Nat):Int):=by omega
 have g4:¬(1073741824:Int)<((l:Nat):Int):=by omega
 have gs:Go.RowKit.wrap64 (((l:Nat):Int)-((k:Nat):Int))=((l-k:Nat):Int):=Gy (by omega) (by omega)
 have gm:(((l-k:Nat):Int)).tmod 64=(((l-k)%64:Nat):Int):=rfl
 have h9:(0:Int)≤((k:Nat):Int):=by omega
 have h10:((k:Nat):Int)≤64:=by omega
 have g5:(((l-k)%64:Nat):Int)=0:=by omega
 have g6:¬((k:Nat):Int)=0:=by omega
 have F0:=yA Dx.eq_1<|yA H8.ls.eq_1<|yA hh<|yA g1<|yA g2<|yA g3<|yA g4<|yA gs<|yA gm<|yA h9<|yA h10<|yA g5<|g6
 refine Ct.go Tryz.func113 rfl Tryz.ntmps113 Tryz.results113 fun w0 ro zZ zhY=>?_
 refine (fun zX=>goW) ?_
 refine Bv [0,1,5,6,7,8,9,10,11,12,13,14,15,16,17,18,19,20,21,22,23,24,25,26,27,28,29,30,31,32,33,34,35,36,37,38,39,40,41,42,43,44,45,46] ?_
 simp only [Bj,Cx,Bq,yI,yK,Nat.reduceBEq,beq_self_eq_true,yS,yV,yY,yT,yE,reduceIte]
 refine Gx (fun y=>[(49,.w (.one (.pl (.i ((y.1:Nat):Int)))))]) (fun _=>[]) (fun y=>64-y.1) (⟨0,xA _,fun j hj=>absurd hj (Nat.not_lt_zero j)⟩:{y:Nat//y≤64-k∧∀ j,j<y→held.getD (k+j) 0=0}) ?_
 intro yy xN0 xM0 xhN0 xhM0
 simp only [yB,yC]
 obtain ⟨i,hi,hz⟩:=yy
 have hd:(i<64-k∧¬held.getD (k+i) 0=0)∨(i<64-k∧held.getD (k+i) 0=0)∨i=64-k:=by
  by_cases h:i=64-k
  ·exact .inr (.inr h)
  have:i<64-k:=by omega
  by_cases h2:held.getD (k+i) 0=0
  ·exact .inr (.inl ⟨this,h2⟩)
  exact .inl ⟨this,h2⟩
 rcases hd with ⟨hlt,hb⟩|⟨hlt,hb⟩|rfl
 ·have hcq:((i:Nat):Int)<((64-k:Nat):Int):=by omega
  have hc0:(0:Int)≤((i:Nat):Int):=by omega
  have hk1:k+i<held.length:=by omega
  have hk2:k+(64-k)≤64:=by omega
  have hk3:i+1≤64-k:=by omega
  have hk4:=c0l (m:=64-k) hk1 (by omega)
  have hbq:(held.getD (k+i) 0=0)=False:=eq_false hb
  have F0:=yA hcq<|yA hc0<|yA hk2<|yA hk3<|yA hk4<|yA hbq<|yA @Fj<|F0
  refine (fun zX=>goW) ?_
  refine zhY _ _ ?_
  simp only [go_sem,F0]
  all_goals (rw [f0h (fun h=>hb (h.rest (k+i) (by simp) (by omega)))])
 ·have hcq:((i:Nat):Int)<((64-k:Nat):Int):=by omega
  have hc0:(0:Int)≤((i:Nat):Int):=by omega
  have hk1:k+i<held.length:=by omega
  have hk2:k+(64-k)≤64:=by omega
  have hk3:i+1≤64-k:=by omega
  have hk4:=c0l (m:=64-k) hk1 (by omega)
  have hbq:(held.getD (k+i) 0=0)=True:=eq_true hb
  have hs1:Go.RowKit.wrap64 (((i:Nat):Int)+1)=((i+1:Nat):Int):=Gy (by omega) (by omega)
  have F0:=yA hcq<|yA hc0<|yA hk2<|yA hk3<|yA hk4<|yA hbq<|yA @Fj<|yA hs1<|F0
  have zL:=fun S2=>xhN0 ⟨i+1,by omega,fun j hj=>by rcases wC.mp hj with h|rfl;exact hz j h;exact hb⟩ S2 (by (show 64-(i+1)<64-i;clear hs1;omega))
  exact goW
 have hcq:¬((64-k:Nat):Int)<((64-k:Nat):Int):=by omega
 have F0:=yA hcq<|F0
 refine (fun zX=>goW) ?_
 refine zhY _ _ ?_
 simp only [go_sem,F0]
 all_goals (rw [f0g ⟨by omega,by omega,by omega,by omega,by omega,by omega,fun j hj hl=>by have:=hz (j-k) (by simp at hj;omega);rwa [show k+(j-k)=j from by simp at hj;omega] at this⟩])
theorem x1y (h0 h1 h2 h3 h4 h5 h6 h7:UInt32) (held:List UInt8) (hh:held.length=64) (k l:Nat) (e1:k≤64) (e2:k≤l) (e3:l≤1073741824) (e4:(l-k)%64=0) (e5:k=0) (e6:l=0):
 Ct Tryz.prog 113 [.w (.agg (Dx ⟨h0,h1,h2,h3,h4,h5,h6,h7⟩ held (k:Int) (l:Int)))] (fun v m=>v=.w (.one (.pl (.i (Yj held (k:Int) (l:Int)))))):=by
 have g1:¬((k:Nat):Int)<0:=by omega
 have g2:¬(64:Int)<((k:Nat):Int):=by omega
 have g3:¬((l:Nat):Int)<((k:Nat):Int):=by omega
 have g4:¬(1073741824:Int)<((l:Nat):Int):=by omega
 have gs:Go.RowKit.wrap64 (((l:Nat):Int)-((k:Nat):Int))=((l-k:Nat):Int):=Gy (by omega) (by omega)
 have gm:(((l-k:Nat):Int)).tmod 64=(((l-k)%64:Nat):Int):=rfl
 have h9:(0:Int)≤((k:Nat):Int):=by omega
 have h10:((k:Nat):Int)≤64:=by omega
 have g5:(((l-k)%64:Nat):Int)=0:=by omega
 have g6:((k:Nat):Int)=0:=by omega
 have g7:¬(0:Int)<((l:Nat):Int):=by omega
 have g8:=eq_true g6
 have F0:=yA Dx.eq_1<|yA H8.ls.eq_1<|yA hh<|yA g1<|yA g2<|yA g3<|yA g4<|yA gs<|yA gm<|yA h9<|yA h10<|yA g5<|yA g8<|g7
 refine Ct.go Tryz.func113 rfl Tryz.ntmps113 Tryz.results113 fun w0 ro zZ zhY=>?_
 refine (fun zX=>goW) ?_
 refine Bv [0,1,5,6,7,8,9,10,11,12,13,14,15,16,17,18,19,20,21,22,23,24,25,26,27,28,29,30,31,32,33,34,35,36,37,38,39,40,41,42,43,44,45,46] ?_
 simp only [Bj,Cx,Bq,yI,yK,Nat.reduceBEq,beq_self_eq_true,yS,yV,yY,yT,yE,reduceIte]
 refine Gx (fun y=>[(49,.w (.one (.pl (.i ((y.1:Nat):Int)))))]) (fun _=>[]) (fun y=>64-y.1) (⟨0,xA _,fun j hj=>absurd hj (Nat.not_lt_zero j)⟩:{y:Nat//y≤64-k∧∀ j,j<y→held.getD (k+j) 0=0}) ?_
 intro yy xN0 xM0 xhN0 xhM0
 simp only [yB,yC]
 obtain ⟨i,hi,hz⟩:=yy
 have hd:(i<64-k∧¬held.getD (k+i) 0=0)∨(i<64-k∧held.getD (k+i) 0=0)∨i=64-k:=by
  by_cases h:i=64-k
  ·exact .inr (.inr h)
  have:i<64-k:=by omega
  by_cases h2:held.getD (k+i) 0=0
  ·exact .inr (.inl ⟨this,h2⟩)
  exact .inl ⟨this,h2⟩
 rcases hd with ⟨hlt,hb⟩|⟨hlt,hb⟩|rfl
 ·have hcq:((i:Nat):Int)<((64-k:Nat):Int):=by omega
  have hc0:(0:Int)≤((i:Nat):Int):=by omega
  have hk1:k+i<held.length:=by omega
  have hk2:k+(64-k)≤64:=by omega
  have hk3:i+1≤64-k:=by omega
  have hk4:=c0l (m:=64-k) hk1 (by omega)
  have hbq:(held.getD (k+i) 0=0)=False:=eq_false hb
  have F0:=yA hcq<|yA hc0<|yA hk2<|yA hk3<|yA hk4<|yA hbq<|yA @Fj<|F0
  refine (fun zX=>goW) ?_
  refine zhY _ _ ?_
  simp only [go_sem,F0]
  all_goals (rw [f0h (fun h=>hb (h.rest (k+i) (by simp) (by omega)))])
 ·have hcq:((i:Nat):Int)<((64-k:Nat):Int):=by omega
  have hc0:(0:Int)≤((i:Nat):Int):=by omega
  have hk1:k+i<held.length:=by omega
  have hk2:k+(64-k)≤64:=by omega
  have hk3:i+1≤64-k:=by omega
  have hk4:=c0l (m:=64-k) hk1 (by omega)
  have hbq:(held.getD (k+i) 0=0)=True:=eq_true hb
  have hs1:Go.RowKit.wrap64 (((i:Nat):Int)+1)=((i+1:Nat):Int):=Gy (by omega) (by omega)
  have F0:=yA hcq<|yA hc0<|yA hk2<|yA hk3<|yA hk4<|yA hbq<|yA @Fj<|yA hs1<|F0
  have zL:=fun S2=>xhN0 ⟨i+1,by omega,fun j hj=>by rcases wC.mp hj with h|rfl;exact hz j h;exact hb⟩ S2 (by (show 64-(i+1)<64-i;clear hs1;omega))
  exact goW
 have hcq:¬((64-k:Nat):Int)<((64-k:Nat):Int):=by omega
 have F0:=yA hcq<|F0
 refine (fun zX=>goW) ?_
 refine zhY _ _ ?_
 simp only [go_sem,F0]
 all_goals (rw [f0g ⟨by omega,by omega,by omega,by omega,by omega,by omega,fun j hj hl=>by have:=hz (j-k) (by simp at hj;omega);rwa [show k+(j-k)=j from by simp at hj;omega] at this⟩])
theorem l0p (h0 h1 h2 h3 h4 h5 h6 h7:UInt32) (held:List UInt8) (hh:held.length=64) (n len:Int):Ct Tryz.prog 113 [.w (.agg (Dx ⟨h0,h1,h2,h3,h4,h5,h6,h7⟩ held n len))] (fun v m=>v=.w (.one (.pl (.i (Yj held n len))))):=by
 by_cases g1:n<0
 ·exact g2b h0 h1 h2 h3 h4 h5 h6 h7 held hh n len g1
 by_cases g2:64<n
 ·exact g2a h0 h1 h2 h3 h4 h5 h6 h7 held hh n len g1 g2
 by_cases g3:len<n
 ·exact f2z h0 h1 h2 h3 h4 h5 h6 h7 held hh n len g1 g2 g3
 by_cases g4:1073741824<len
 ·exact f2y h0 h1 h2 h3 h4 h5 h6 h7 held hh n len g1 g2 g3 g4
 obtain ⟨k,rfl⟩: ∃ k:Nat,n=(k:Int):=⟨n.toNat,by omega⟩
 obtain ⟨l,rfl⟩: ∃ l:Nat,len=(l:Int):=⟨len.toNat,by omega⟩
 have e1:k≤64:=by omega
 have e2:k≤l:=by omega
 have e3:l≤1073741824:=by omega
 by_cases e4:(l-k)%64=0
 ·by_cases e5:k=0
  ·by_cases e6:0<l
   ·exact f2w h0 h1 h2 h3 h4 h5 h6 h7 held hh k l e1 e2 e3 e4 e5 e6
   exact x1y h0 h1 h2 h3 h4 h5 h6 h7 held hh k l e1 e2 e3 e4 e5 (by omega)
  exact x1z h0 h1 h2 h3 h4 h5 h6 h7 held hh k l e1 e2 e3 e4 e5
 exact f2x h0 h1 h2 h3 h4 h5 h6 h7 held hh k l e1 e2 e3 e4
end Bk
end Go.Sy
namespace Go.Sy
namespace Bk
open Go.Proofs
attribute [local irreducible] Bw HT Aj Jk onC onE onO onG goV goA goS Lx Bz
theorem g2g (h0 h1 h2 h3 h4 h5 h6 h7:UInt32) (held:List UInt8) (hh:held.length=64) (n len:Int) (g1:n<0):
 Ct Tryz.prog 126 [.w (.agg (Dx ⟨h0,h1,h2,h3,h4,h5,h6,h7⟩ held n len))] (fun v m=>v=.w (.one (.pl (.b (Vy held n len))))):=by
 have F0:=yA Dx.eq_1<|yA H8.ls.eq_1<|yA hh<|g1
 refine Ct.go Tryz.func126 rfl Tryz.ntmps126 Tryz.results126 fun w0 ro zZ zhY=>?_
 refine (fun zX=>goW) ?_
 refine zhY _ _ ?_
 simp only [go_sem,F0]
 all_goals (rw [b0y (fun h=>absurd h.lo (by omega))])
theorem g2f (h0 h1 h2 h3 h4 h5 h6 h7:UInt32) (held:List UInt8) (hh:held.length=64) (n len:Int) (g1:¬n<0) (g2:64<n):
 Ct Tryz.prog 126 [.w (.agg (Dx ⟨h0,h1,h2,h3,h4,h5,h6,h7⟩ held n len))] (fun v m=>v=.w (.one (.pl (.b (Vy held n len))))):=by
 have F0:=yA Dx.eq_1<|yA H8.ls.eq_1<|yA hh<|yA g1<|g2
 refine Ct.go Tryz.func126 rfl Tryz.ntmps126 Tryz.results126 fun w0 ro zZ zhY=>?_
 refine (fun zX=>goW) ?_
 refine zhY _ _ ?_
 simp only [go_sem,F0]
 all_goals (rw [b0y (fun h=>absurd h.hi (by omega))])
theorem g2e (h0 h1 h2 h3 h4 h5 h6 h7:UInt32) (held:List UInt8) (hh:held.length=64) (n len:Int) (g1:¬n<0) (g2:¬64<n) (g3:len<0):
 Ct Tryz.prog 126 [.w (.agg (Dx ⟨h0,h1,h2,h3,h4,h5,h6,h7⟩ held n len))] (fun v m=>v=.w (.one (.pl (.b (Vy held n len))))):=by
 have F0:=yA Dx.eq_1<|yA H8.ls.eq_1<|yA hh<|yA g1<|yA g2<|g3
 refine Ct.go Tryz.func126 rfl Tryz.ntmps126 Tryz.results126 fun w0 ro zZ zhY=>?_
 refine (fun zX=>goW) ?_
 refine zhY _ _ ?_
 simp only [go_sem,F0]
 all_goals (rw [b0y (fun h=>absurd h.le (by omega))])
theorem g2d (h0 h1 h2 h3 h4 h5 h6 h7:UInt32) (held:List UInt8) (hh:held.length=64) (n len:Int) (g1:¬n<0) (g2:¬64<n) (g3:¬len<0) (g4:1073741824<len):
 Ct Tryz.prog 126 [.w (.agg (Dx ⟨h0,h1,h2,h3,h4,h5,h6,h7⟩ held n len))] (fun v m=>v=.w (.one (.pl (.b (Vy held n len))))):=by
 have F0:=yA Dx.eq_1<|yA H8.ls.eq_1<|yA hh<|yA g1<|yA g2<|yA g3<|g4
 refine Ct.go Tryz.func126 rfl Tryz.ntmps126 Tryz.results126 fun w0 ro zZ zhY=>?_
 refine (fun zX=>goW) ?_
 refine zhY _ _ ?_
 simp only [go_sem,F0]
 all_goals (rw [b0y (fun h=>absurd h.mx (by omega))])
theorem n2x (h0 h1 h2 h3 h4 h5 h6 h7:UInt32) (held:List UInt8) (hh:held.length=64) (k l:Nat) (e1:k≤64) (e3:l≤1073741824) (e4:l%64=0) (e5:0<l):
 Ct Tryz.prog 126 [.w (.agg (Dx ⟨h0,h1,h2,h3,h4,h5,h6,h7⟩ held (k:Int) (l:Int)))] (fun v m=>v=.w (.one (.pl (.b (Vy held (k:Int) (l:Int)))))):=by
 have g1:¬((k:Nat):Int)<0:=by omega
 have g2:¬(64:Int)<((k:Nat):Int):=by omega
 have g3:¬((l:Nat):Int)<0:=by omega
 have g4:¬(1073741824:Int)<((l:Nat):Int):=by omega
 have gm:(((l:Nat):Int)).tmod 64=((l%64:Nat):Int):=rfl
 have g5:((l%64:Nat):Int)=0:=by omega
 have g6:(0:Int)<((l:Nat):Int):=by omega
 have F0:=yA Dx.eq_1<|yA H8.ls.eq_1<|yA hh<|yA g1<|yA g2<|yA g3<|yA g4<|yA gm<|yA g5<|g6
 refine Ct.go Tryz.func126 rfl Tryz.ntmps126 Tryz.results126 fun w0 ro zZ zhY=>?_
 refine (fun zX=>goW) ?_
 refine Bv [0,6,7,8,9,10,11,12,13,14,15,16,17,18,19,20,21,22,23,24,25,26,27,28,29,30,31,32,33,34] ?_
 simp only [Bj,Cx,Bq,yI,yK,Nat.reduceBEq,beq_self_eq_true,yS,yV,yY,yT,yE,reduceIte]
 refine Gx (fun y=>[(36,.w (.one (.pl (.i ((y.1:Nat):Int)))))]) (fun _=>[]) (fun y=>64-y.1) (⟨0,xA _,fun j hj=>absurd hj (Nat.not_lt_zero j)⟩:{y:Nat//y≤64∧∀ j,j<y→k≤j→held.getD j 0=0}) ?_
 intro yy xN0 xM0 xhN0 xhM0
 simp only [yB,yC]
 obtain ⟨i,hi,hz⟩:=yy
 have hd:(i<64∧i<k)∨(i<64∧¬i<k∧held.getD i 0=0)∨(i<64∧¬i<k∧¬held.getD i 0=0)∨i=64:=by
  generalize held.getD i 0=z
  by_cases g1:i=64
  ·simp [g1]
  have g2:i<64:=by omega
  by_cases g3:i<k
  ·exact .inl ⟨g2,g3⟩
  by_cases g4:z=0
  ·exact .inr (.inl ⟨g2,g3,g4⟩)
  exact .inr (.inr (.inl ⟨g2,g3,g4⟩))
 rcases hd with ⟨hlt,hin⟩|⟨hlt,hin,hb⟩|⟨hlt,hin,hb⟩|rfl
 ·have hcq:((i:Nat):Int)<64:=by omega
  have hc0:(0:Int)≤((i:Nat):Int):=by omega
  have hs1:Go.RowKit.wrap64 (((i:Nat):Int)+1)=((i+1:Nat):Int):=Gy (by omega) (by omega)
  have hk1:=Lv (q:=held) (i:=i) (by omega)
  have hk2:i+1≤64:=by omega
  have hni:¬((k:Nat):Int)≤((i:Nat):Int):=by omega
  have F0:=yA hcq<|yA hc0<|yA hs1<|yA hk1<|yA hk2<|yA @Fj<|yA hni<|F0
  have zL:=fun S2=>xhN0 ⟨i+1,by omega,fun j hj hk=>by rcases wC.mp hj with h|rfl;exact hz j h hk;omega⟩ S2 (by (show 64-(i+1)<64-i;clear hs1;omega))
  exact goW
 ·have hcq:((i:Nat):Int)<64:=by omega
  have hc0:(0:Int)≤((i:Nat):Int):=by omega
  have hs1:Go.RowKit.wrap64 (((i:Nat):Int)+1)=((i+1:Nat):Int):=Gy (by omega) (by omega)
  have hk1:=Lv (q:=held) (i:=i) (by omega)
  have hk2:i+1≤64:=by omega
  have hni:((k:Nat):Int)≤((i:Nat):Int):=by omega
  have hbq:=eq_true hb
  have F0:=yA hcq<|yA hc0<|yA hs1<|yA hk1<|yA hk2<|yA @Fj<|yA hni<|yA hbq<|F0
  have zL:=fun S2=>xhN0 ⟨i+1,by omega,fun j hj hk=>by rcases wC.mp hj with h|rfl;exact hz j h hk;exact hb⟩ S2 (by (show 64-(i+1)<64-i;clear hs1;omega))
  exact goW
 ·have hcq:((i:Nat):Int)<64:=by omega
  have hc0:(0:Int)≤((i:Nat):Int):=by omega
  have hs1:Go.RowKit.wrap64 (((i:Nat):Int)+1)=((i+1:Nat):Int):=Gy (by omega) (by omega)
  have hk1:=Lv (q:=held) (i:=i) (by omega)
  have hk2:i+1≤64:=by omega
  have hni:((k:Nat):Int)≤((i:Nat):Int):=by omega
  have hbq:=eq_false hb
  have F0:=yA hcq<|yA hc0<|yA hs1<|yA hk1<|yA hk2<|yA @Fj<|yA hni<|yA hbq<|F0
  refine (fun zX=>goW) ?_
  refine zhY _ _ ?_
  simp only [go_sem,F0]
  all_goals (rw [b0y (fun h=>hb (h.rest i (by simp;omega) (by omega)))])
 have hcq:¬((64:Nat):Int)<64:=by omega
 have hbd:Vy held ((k:Nat):Int) ((l:Nat):Int)= !(decide (((k:Nat):Int)=64)):=by
  by_cases e:((k:Nat):Int)=64
  ·rw [d0p ⟨by omega,by omega,by omega,by omega,by omega,by omega,fun j hj hl=>hz j hl (by simpa using hj)⟩];rw [decide_eq_true e];rfl
  rw [b0y (fun h=>e (by have:=h.md;have:=h.le;have:=h.nz;have:=h.lo;omega))];rw [decide_eq_false e];rfl
 have F0:=yA hcq<|F0
 refine (fun zX=>goW) ?_
 refine zhY _ _ ?_
 simp only [go_sem,F0]
 all_goals (rw [hbd])
theorem n2w (h0 h1 h2 h3 h4 h5 h6 h7:UInt32) (held:List UInt8) (hh:held.length=64) (k l:Nat) (e1:k≤64) (e3:l≤1073741824) (e4:l%64=0) (e5:l=0):
 Ct Tryz.prog 126 [.w (.agg (Dx ⟨h0,h1,h2,h3,h4,h5,h6,h7⟩ held (k:Int) (l:Int)))] (fun v m=>v=.w (.one (.pl (.b (Vy held (k:Int) (l:Int)))))):=by
 have g1:¬((k:Nat):Int)<0:=by omega
 have g2:¬(64:Int)<((k:Nat):Int):=by omega
 have g3:¬((l:Nat):Int)<0:=by omega
 have g4:¬(1073741824:Int)<((l:Nat):Int):=by omega
 have gm:(((l:Nat):Int)).tmod 64=((l%64:Nat):Int):=rfl
 have g5:((l%64:Nat):Int)=0:=by omega
 have g6:¬(0:Int)<((l:Nat):Int):=by omega
 have F0:=yA Dx.eq_1<|yA H8.ls.eq_1<|yA hh<|yA g1<|yA g2<|yA g3<|yA g4<|yA gm<|yA g5<|g6
 refine Ct.go Tryz.func126 rfl Tryz.ntmps126 Tryz.results126 fun w0 ro zZ zhY=>?_
 refine (fun zX=>goW) ?_
 refine Bv [0,6,7,8,9,10,11,12,13,14,15,16,17,18,19,20,21,22,23,24,25,26,27,28,29,30,31,32,33,34] ?_
 simp only [Bj,Cx,Bq,yI,yK,Nat.reduceBEq,beq_self_eq_true,yS,yV,yY,yT,yE,reduceIte]
 refine Gx (fun y=>[(36,.w (.one (.pl (.i ((y.1:Nat):Int)))))]) (fun _=>[]) (fun y=>64-y.1) (⟨0,xA _,fun j hj=>absurd hj (Nat.not_lt_zero j)⟩:{y:Nat//y≤64∧∀ j,j<y→k≤j→held.getD j 0=0}) ?_
 intro yy xN0 xM0 xhN0 xhM0
 simp only [yB,yC]
 obtain ⟨i,hi,hz⟩:=yy
 have hd:(i<64∧i<k)∨(i<64∧¬i<k∧held.getD i 0=0)∨(i<64∧¬i<k∧¬held.getD i 0=0)∨i=64:=by
  generalize held.getD i 0=z
  by_cases g1:i=64
  ·simp [g1]
  have g2:i<64:=by omega
  by_cases g3:i<k
  ·exact .inl ⟨g2,g3⟩
  by_cases g4:z=0
  ·exact .inr (.inl ⟨g2,g3,g4⟩)
  exact .inr (.inr (.inl ⟨g2,g3,g4⟩))
 rcases hd with ⟨hlt,hin⟩|⟨hlt,hin,hb⟩|⟨hlt,hin,hb⟩|rfl
 ·have hcq:((i:Nat):Int)<64:=by omega
  have hc0:(0:Int)≤((i:Nat):Int):=by omega
  have hs1:Go.RowKit.wrap64 (((i:Nat):Int)+1)=((i+1:Nat):Int):=Gy (by omega) (by omega)
  have hk1:=Lv (q:=held) (i:=i) (by omega)
  have hk2:i+1≤64:=by omega
  have hni:¬((k:Nat):Int)≤((i:Nat):Int):=by omega
  have F0:=yA hcq<|yA hc0<|yA hs1<|yA hk1<|yA hk2<|yA @Fj<|yA hni<|F0
  have zL:=fun S2=>xhN0 ⟨i+1,by omega,fun j hj hk=>by rcases wC.mp hj with h|rfl;exact hz j h hk;omega⟩ S2 (by (show 64-(i+1)<64-i;clear hs1;omega))
  exact goW
 ·have hcq:((i:Nat):Int)<64:=by omega
  have hc0:(0:Int)≤((i:Nat):Int):=by omega
  have hs1:Go.RowKit.wrap64 (((i:Nat):Int)+1)=((i+1:Nat):Int):=Gy (by omega) (by omega)
  have hk1:=Lv (q:=held) (i:=i) (by omega)
  have hk2:i+1≤64:=by omega
  have hni:((k:Nat):Int)≤((i:Nat):Int):=by omega
  have hbq:=eq_true hb
  have F0:=yA hcq<|yA hc0<|yA hs1<|yA hk1<|yA hk2<|yA @Fj<|yA hni<|yA hbq<|F0
  have zL:=fun S2=>xhN0 ⟨i+1,by omega,fun j hj hk=>by rcases wC.mp hj with h|rfl;exact hz j h hk;exact hb⟩ S2 (by (show 64-(i+1)<64-i;clear hs1;omega))
  exact goW
 ·have hcq:((i:Nat):Int)<64:=by omega
  have hc0:(0:Int)≤((i:Nat):Int):=by omega
  have hs1:Go.RowKit.wrap64 (((i:Nat):Int)+1)=((i+1:Nat):Int):=Gy (by omega) (by omega)
  have hk1:=Lv (q:=held) (i:=i) (by omega)
  have hk2:i+1≤64:=by omega
  have hni:((k:Nat):Int)≤((i:Nat):Int):=by omega
  have hbq:=eq_false hb
  have F0:=yA hcq<|yA hc0<|yA hs1<|yA hk1<|yA hk2<|yA @Fj<|yA hni<|yA hbq<|F0
  refine (fun zX=>goW) ?_
  refine zhY _ _ ?_
  simp only [go_sem,F0]
  all_goals (rw [b0y (fun h=>hb (h.rest i (by simp;omega) (by omega)))])
 have hcq:¬((64:Nat):Int)<64:=by omega
 have hbd:Vy held ((k:Nat):Int) ((l:Nat):Int)= !(decide (((k:Nat):Int)=0)):=by
  by_cases e:((k:Nat):Int)=0
  ·rw [d0p ⟨by omega,by omega,by omega,by omega,by omega,by omega,fun j hj hl=>hz j hl (by simpa using hj)⟩];rw [decide_eq_true e];rfl
  rw [b0y (fun h=>e (by have:=h.md;have:=h.le;have:=h.nz;have:=h.lo;omega))];rw [decide_eq_false e];rfl
 have F0:=yA hcq<|F0
 refine (fun zX=>goW) ?_
 refine zhY _ _ ?_
 simp only [go_sem,F0]
 all_goals (rw [hbd])
theorem n2v (h0 h1 h2 h3 h4 h5 h6 h7:UInt32) (held:List UInt8) (hh:held.length=64) (k l:Nat) (e1:k≤64) (e3:l≤1073741824) (e4:¬l%64=0):
 Ct Tryz.prog 126 [.w (.agg (Dx ⟨h0,h1,h2,h3,h4,h5,h6,h7⟩ held (k:Int) (l:Int)))] (fun v m=>v=.w (.one (.pl (.b (Vy held (k:Int) (l:Int)))))):=by
 have g1:¬((k:Nat):Int)<0:=by omega
 have g2:¬(64:Int)<((k:Nat):Int):=by omega
 have g3:¬((l:Nat):Int)<0:=by omega
 have g4:¬(1073741824:Int)<((l:Nat):Int):=by omega
 have gm:(((l:Nat):Int)).tmod 64=((l%64:Nat):Int):=rfl
 have g5:¬((l%64:Nat):Int)=0:=by omega
 have F0:=yA Dx.eq_1<|yA H8.ls.eq_1<|yA hh<|yA g1<|yA g2<|yA g3<|yA g4<|yA gm<|g5
 refine Ct.go Tryz.func126 rfl Tryz.ntmps126 Tryz.results126 fun w0 ro zZ zhY=>?_
 refine (fun zX=>goW) ?_
 refine Bv [0,6,7,8,9,10,11,12,13,14,15,16,17,18,19,20,21,22,23,24,25,26,27,28,29,30,31,32,33,34] ?_
 simp only [Bj,Cx,Bq,yI,yK,Nat.reduceBEq,beq_self_eq_true,yS,yV,yY,yT,yE,reduceIte]
 refine Gx (fun y=>[(36,.w (.one (.pl (.i ((y.1:Nat):Int)))))]) (fun _=>[]) (fun y=>64-y.1) (⟨0,xA _,fun j hj=>absurd hj (Nat.not_lt_zero j)⟩:{y:Nat//y≤64∧∀ j,j<y→k≤j→held.getD j 0=0}) ?_
 intro yy xN0 xM0 xhN0 xhM0
 simp only [yB,yC]
 obtain ⟨i,hi,hz⟩:=yy
 have hd:(i<64∧i<k)∨(i<64∧¬i<k∧held.getD i 0=0)∨(i<64∧¬i<k∧¬held.getD i 0=0)∨i=64:=by
  generalize held.getD i 0=z
  by_cases g1:i=64
  ·simp [g1]
  have g2:i<64:=by omega
  by_cases g3:i<k
  ·exact .inl ⟨g2,g3⟩
  by_cases g4:z=0
  ·exact .inr (.inl ⟨g2,g3,g4⟩)
  exact .inr (.inr (.inl ⟨g2,g3,g4⟩))
 rcases hd with ⟨hlt,hin⟩|⟨hlt,hin,hb⟩|⟨hlt,hin,hb⟩|rfl
 ·have hcq:((i:Nat):Int)<64:=by omega
  have hc0:(0:Int)≤((i:Nat):Int):=by omega
  have hs1:Go.RowKit.wrap64 (((i:Nat):Int)+1)=((i+1:Nat):Int):=Gy (by omega) (by omega)
  have hk1:=Lv (q:=held) (i:=i) (by omega)
  have hk2:i+1≤64:=by omega
  have hni:¬((k:Nat):Int)≤((i:Nat):Int):=by omega
  have F0:=yA hcq<|yA hc0<|yA hs1<|yA hk1<|yA hk2<|yA @Fj<|yA hni<|F0
  have zL:=fun S2=>xhN0 ⟨i+1,by omega,fun j hj hk=>by rcases wC.mp hj with h|rfl;exact hz j h hk;omega⟩ S2 (by (show 64-(i+1)<64-i;clear hs1;omega))
  exact goW
 ·have hcq:((i:Nat):Int)<64:=by omega
  have hc0:(0:Int)≤((i:Nat):Int):=by omega
  have hs1:Go.RowKit.wrap64 (((i:Nat):Int)+1)=((i+1:Nat):Int):=Gy (by omega) (by omega)
  have hk1:=Lv (q:=held) (i:=i) (by omega)
  have hk2:i+1≤64:=by omega
  have hni:((k:Nat):Int)≤((i:Nat):Int):=by omega
  have hbq:=eq_true hb
  have F0:=yA hcq<|yA hc0<|yA hs1<|yA hk1<|yA hk2<|yA @Fj<|yA hni<|yA hbq<|F0
  have zL:=fun S2=>xhN0 ⟨i+1,by omega,fun j hj hk=>by rcases wC.mp hj with h|rfl;exact hz j h hk;exact hb⟩ S2 (by (show 64-(i+1)<64-i;clear hs1;omega))
  exact goW
 ·have hcq:((i:Nat):Int)<64:=by omega
  have hc0:(0:Int)≤((i:Nat):Int):=by omega
  have hs1:Go.RowKit.wrap64 (((i:Nat):Int)+1)=((i+1:Nat):Int):=Gy (by omega) (by omega)
  have hk1:=Lv (q:=held) (i:=i) (by omega)
  have hk2:i+1≤64:=by omega
  have hni:((k:Nat):Int)≤((i:Nat):Int):=by omega
  have hbq:=eq_false hb
  have F0:=yA hcq<|yA hc0<|yA hs1<|yA hk1<|yA hk2<|yA @Fj<|yA hni<|yA hbq<|F0
  refine (fun zX=>goW) ?_
  refine zhY _ _ ?_
  simp only [go_sem,F0]
  all_goals (rw [b0y (fun h=>hb (h.rest i (by simp;omega) (by omega)))])
 have hcq:¬((64:Nat):Int)<64:=by omega
 have hbd:Vy held ((k:Nat):Int) ((l:Nat):Int)= !(decide (((k:Nat):Int)=((l%64:Nat):Int))):=by
  by_cases e:((k:Nat):Int)=((l%64:Nat):Int)
  ·rw [d0p ⟨by omega,by omega,by omega,by omega,by omega,by omega,fun j hj hl=>hz j hl (by simpa using hj)⟩];rw [decide_eq_true e];rfl
  rw [b0y (fun h=>e (by have:=h.md;have:=h.le;have:=h.nz;have:=h.lo;omega))];rw [decide_eq_false e];rfl
 have F0:=yA hcq<|F0
 refine (fun zX=>goW) ?_
 refine zhY _ _ ?_
 simp only [go_sem,F0]
 all_goals (rw [hbd])
theorem v0m (h0 h1 h2 h3 h4 h5 h6 h7:UInt32) (held:List UInt8) (hh:held.length=64) (n len:Int):Ct Tryz.prog 126 [.w (.agg (Dx ⟨h0,h1,h2,h3,h4,h5,h6,h7⟩ held n len))] (fun v m=>v=.w (.one (.pl (.b (Vy held n len))))):=by
 by_cases g1:n<0
 ·exact g2g h0 h1 h2 h3 h4 h5 h6 h7 held hh n len g1
 by_cases g2:64<n
 ·exact g2f h0 h1 h2 h3 h4 h5 h6 h7 held hh n len g1 g2
 by_cases g3:len<0
 ·exact g2e h0 h1 h2 h3 h4 h5 h6 h7 held hh n len g1 g2 g3
 by_cases g4:1073741824<len
 ·exact g2d h0 h1 h2 h3 h4 h5 h6 h7 held hh n len g1 g2 g3 g4
 obtain ⟨k,rfl⟩: ∃ k:Nat,n=(k:Int):=⟨n.toNat,by omega⟩
 obtain ⟨l,rfl⟩: ∃ l:Nat,len=(l:Int):=⟨len.toNat,by omega⟩
 have e1:k≤64:=by omega
 have e3:l≤1073741824:=by omega
 by_cases e4:l%64=0
 ·by_cases e5:0<l
  ·exact n2x h0 h1 h2 h3 h4 h5 h6 h7 held hh k l e1 e3 e4 e5
  exact n2w h0 h1 h2 h3 h4 h5 h6 h7 held hh k l e1 e3 e4 (by omega)
 exact n2v h0 h1 h2 h3 h4 h5 h6 h7 held hh k l e1 e3 e4
end Bk
end Go.Sy
namespace Go.Sy
namespace Bk
open Go.Proofs
attribute [local irreducible] Bw HT Aj Jk onC onE onO onG goV goA goS Lx Bz
def q1a (ws:List UInt32):List UInt8:=ws.flatMap fun x=>Mq x.toUInt64 4
theorem low4 (x:UInt32):Mq x.toUInt64 4=[(a0u x 0).toUInt8,(a0u x 8).toUInt8,(a0u x 16).toUInt8,(a0u x 24).toUInt8]:=by
 have e: ∀ y:UInt64,(y/256).toNat=y.toNat/256:=fun y=>by rw [vV];rfl
 have hx:=x.toNat_lt
 have g: ∀ (y:UInt32) (n:Nat),y.toNat=n→UInt8.ofNat n=y.toUInt8:=fun y n h=>by
  apply vJ.mp
  rw [←h,vM,UInt32.toNat_toUInt8]
 have t: ∀ c,(a0u x c).toNat=x.toNat/2 ^ c:=fun c=>by
  rw [a0u,UInt32.toNat_ofNat']
  exact yN (Nat.lt_of_le_of_lt (Nat.div_le_self _ _) hx)
 simp only [Mq,List.cons.injEq,and_true]
 refine ⟨?_,?_,?_,?_⟩
 all_goals refine g _ _ ?_
 all_goals simp only [t,e,UInt32.toNat_toUInt64,Nat.div_div_eq_div_mul]
 all_goals simp
theorem d2s {q:List UInt8} {i:Nat} (hq:q.length=32) (hi:i<32) (x:UInt8):(q.take i++x::q.drop (i+1)).length=32:=by
 rw [yG,xD,yH,yU];omega
theorem p0d (l:List UInt8):Ew (.agg (Az l))=true:=by
 simp [Ew,Az]
theorem y0o (l:List UInt8) (e:Int):Dv (.tup [.agg (Az l),.one (.pl (.i e))])=true:=by
 simp only [Dv,wR,p0d];rfl
theorem n2y (e:Nat→Nat) (h:H8):h.ls.map (L.ren e)=h.ls:=rfl
attribute [go_sem] n2y
def H8.l (h:H8):List UInt32:=[h.h0,h.h1,h.h2,h.h3,h.h4,h.h5,h.h6,h.h7]
theorem H8.ls_l (h:H8):h.ls=Jy h.l:=rfl
theorem H8.l_length (h:H8):h.l.length=8:=rfl
theorem i0g (h:H8):(q1a h.l).length=32:=by simp [q1a,H8.l,Ay]
theorem f2u (h:H8) (i:Nat) (hi:i<32):(a0u (h.l.getD (i/4) 0) (8*(i%4))).toUInt8=(q1a h.l).getD i 0:=by
 simp only [q1a,H8.l,List.flatMap_cons,List.flatMap_nil,low4,yB,yC]
 match i,hi with
 |0,_=>rfl
 |1,_=>rfl
 |2,_=>rfl
 |3,_=>rfl
 |4,_=>rfl
 |5,_=>rfl
 |6,_=>rfl
 |7,_=>rfl
 |8,_=>rfl
 |9,_=>rfl
 |10,_=>rfl
 |11,_=>rfl
 |12,_=>rfl
 |13,_=>rfl
 |14,_=>rfl
 |15,_=>rfl
 |16,_=>rfl
 |17,_=>rfl
 |18,_=>rfl
 |19,_=>rfl
 |20,_=>rfl
 |21,_=>rfl
 |22,_=>rfl
 |23,_=>rfl
 |24,_=>rfl
 |25,_=>rfl
 |26,_=>rfl
 |27,_=>rfl
 |28,_=>rfl
 |29,_=>rfl
 |30,_=>rfl
 |31,_=>rfl
 |n+32,h=>exact absurd h (by omega)
theorem u1p {q r:List UInt8} {i:Nat} (hq:q.length=32) (hr:r.length=32) (hi:i<32) (h:q.take i=r.take i):(q.take i++r.getD i 0::q.drop (i+1)).take (i+1)=r.take (i+1):=by
 have l:(q.take i).length=i:=by rw [yH];omega
 rw [List.take_append,l,xE (by omega),show i+1-i=1 from by omega,wE,wH,h]
 rw [List.take_add_one,yO (by omega)]
 simp [List.getD,yO (show i<r.length by omega)]
theorem key_ (l:List UInt8) (hl:l.length=32):
 Ct Tryz.prog 128 [.w (.one (.pl (.str l)))] (fun v m=>v=.w (.agg (Az l))):=by
 have h1:List.take 32 l=l:=xE (by omega)
 have h2:List.drop 32 (List.replicate 32 (0:UInt8))=[]:=rfl
 have F0:=yA hl<|yA h1<|yA h2<|@Nat.min_self
 refine Ct.go Tryz.func128 rfl Tryz.ntmps128 Tryz.results128 fun w0 ro zZ zhZ=>?_
 have zS:ZS 2:=⟨⟩
 refine (fun zX=>goW) ?_
 refine ⟨?_⟩;clear zS
 try refine x0s ?_
 refine m0e (id:=2) [4,5,6] (by simp only [go_sem]) fun zK zhK=>?_
 simp only [go_sem,F0]
 repeat' (first|apply yA|intro _)
 refine zhK _ _ ?_
 exact goW
theorem c2b (l:List UInt8) (hl:l.length=32):
 Ct Tryz.prog 36 [.w (.agg (Az l))] (fun v m=>v=.w (.one (.pl (.str l)))):=by
 have F0:=hl
 exact Ct.go Tryz.func36 rfl Tryz.ntmps36 Tryz.results36
def h0h :List UInt32:=[1779033703,3144134277,1013904242,2773480762,1359893119,2600822924,528734635,1541459225]
def i2v :List (List Int):=[[0,1,2,3,4,5,6,7,8,9,10,11,12,13,14,15],[14,10,4,8,9,15,13,6,1,12,0,2,11,7,5,3],[11,8,12,0,5,2,15,13,10,14,3,6,7,1,9,4],[7,9,3,1,13,12,11,14,2,6,5,10,4,0,15,8],[9,0,5,7,2,4,10,15,14,1,11,12,6,8,3,13],[2,12,6,10,0,11,8,3,4,13,7,5,15,14,1,9],[12,5,1,15,14,13,4,10,0,7,6,3,9,2,8,11],[13,11,7,14,12,1,3,9,5,0,15,4,8,6,2,10],[6,15,14,9,11,3,0,8,12,2,13,7,1,4,10,5],[10,2,8,4,7,6,1,5,15,11,9,14,3,12,13,0]]
end Bk
end Go.Sy
namespace Go.Sy
namespace Bk
open Go.Proofs
attribute [local irreducible] Bw HT Aj Jk onC onE onO onG goV goA goS Lx Bz
structure HSt where
 h:H8
 done:Nat
 rest:List UInt8
def b0s (s:HSt) (c:UInt8):HSt:=if s.rest.length=64 then ⟨h0v s.h s.rest (s.done+64) false,s.done+64,[c]⟩ else ⟨s.h,s.done,s.rest++[c]⟩
def b0g (s:HSt) (l:List UInt8):HSt:=l.foldl b0s s
section
variable {s:HSt} {l:List UInt8}
theorem m1v (c:UInt8) (h:s.rest.length≤64):(b0s s c).rest.length≤64∧(b0s s c).done+(b0s s c).rest.length=s.done+s.rest.length+1:=by
 unfold b0s
 split
 ·rename_i h1;simp only [xD,xW];omega
 simp only [yG,xD,xW];omega
theorem k0u : ∀ {l:List UInt8} {s:HSt},s.rest.length≤64→(b0g s l).rest.length≤64∧(b0g s l).done+(b0g s l).rest.length=s.done+s.rest.length+l.length
 | [],_,h=>⟨h,rfl⟩
 |c::l,s,h=>by
  obtain ⟨h1,h2⟩:=m1v c h
  obtain ⟨h3,h4⟩:=k0u (l:=l) h1
  exact ⟨h3,by show (b0g (b0s s c) l).done+(b0g (b0s s c) l).rest.length=_;rw [h4,h2,xD];omega⟩
theorem b1c {i:Nat} (h:i<l.length):b0g s (l.take (i+1))=b0s (b0g s (l.take i)) (l.getD i 0):=by
 have e:l.take (i+1)=l.take i++[l.getD i 0]:=by
  rw [wI h];simp [List.getD,yO h]
 rw [e,b0g,List.foldl_append];rfl
theorem r0c (a b:List UInt8):b0g s (a++b)=b0g (b0g s a) b:=List.foldl_append
theorem g0r : ∀ {l:List UInt8} {h:H8} {d:Nat} {r:List UInt8},r.length+l.length≤64→b0g ⟨h,d,r⟩ l=⟨h,d,r++l⟩
 | [],h,d,r,_=>by simp [b0g]
 |c::l,h,d,r,hl=>by
  simp only [xD] at hl
  show b0g (b0s ⟨h,d,r⟩ c) l=_
  have e:b0s ⟨h,d,r⟩ c=⟨h,d,r++[c]⟩:=by unfold b0s;rw [if_neg (by show ¬r.length=64;omega)]
  rw [e,g0r (by simp only [yG,xD,xW];omega)]
  simp
theorem t1l {h:H8} {d:Nat} {r:List UInt8} (hr:r.length≤64) (b:List UInt8):b0g ⟨h,d,r⟩ b=b0g ⟨h,d,[]⟩ (r++b):=by
 have e:b0g ⟨h,d,[]⟩ r=⟨h,d,r⟩:=by rw [g0r (by simpa using hr)];rfl
 rw [r0c,e]
theorem l1h {h:H8} {d:Nat} (hl:64<l.length):b0g ⟨h,d,[]⟩ l=b0g ⟨h0v h (l.take 64) (d+64) false,d+64,[]⟩ (l.drop 64):=by
 have e:l.drop 64=l.getD 64 0::l.drop 65:=by
  rw [xM hl];simp [List.getD,yO hl]
 have l64:(l.take 64).length=64:=by rw [yH];omega
 have key:b0g ⟨h,d,[]⟩ (l.take 64)=⟨h,d,l.take 64⟩:=by rw [g0r (by simp;omega)];rfl
 conv=>lhs;rw [←wS 64 l]
 rw [r0c,key,e]
 show b0g (b0s _ _) _=b0g (b0s _ _) _
 congr 1
 unfold b0s
 rw [if_pos l64,if_neg (by show ¬([]:List UInt8).length=64;simp)]
 rfl
end
def Qx (r:List UInt8):List UInt8:=r++List.replicate (64-r.length) 0
theorem Fy {r:List UInt8} (h:r.length≤64):(Qx r).length=64:=by simp [Qx];omega
theorem w1i {held:List UInt8} {k:Nat} (hh:held.length=64) (hk:k≤64) (hz: ∀ j,k≤j→j<64→held.getD j 0=0):Qx (held.take k)=held:=by
 have hlk:(held.take k).length=k:=by rw [yH];omega
 have hd:held.drop k=List.replicate (64-k) 0:=by
  apply List.ext_getElem
  ·rw [yU,vI];omega
  intro i h1 h2
  rw [vI] at h2
  have:=hz (k+i) (by omega) (by omega)
  rw [List.getElem_drop,List.getElem_replicate]
  simpa [List.getD,yO (show k+i<held.length by omega)] using this
 rw [Qx,hlk,←hd,wS]
theorem j1f {r:List UInt8} (h:r.length≤64): ∀ j,r.length≤j→j<64→(Qx r).getD j 0=0:=by
 intro j h1 h2
 rw [Qx,List.getD,vP h1,List.getElem?_replicate]
 split<;>rfl
theorem s0u (r:List UInt8):(Qx r).take r.length=r:=List.take_left' rfl
theorem j1g {r:List UInt8} (h:r.length=64):Qx r=r:=by rw [Qx,h];simp
theorem o1p {r:List UInt8} (h:r.length<64) (c:UInt8):r++(c::(Qx r).drop (r.length+1))=Qx (r++[c]):=by
 rw [Qx,Qx,List.drop_append,xY (by omega),List.drop_replicate,yC,wM]
 simp only [yG,xD,xW,yB,yC]
 congr 3;omega
theorem y0r (c:UInt8):Qx [c]=c::List.replicate 63 0:=rfl
def HSt.len (s:HSt):Nat:=s.done+s.rest.length
def stB (s:HSt):List L:=Dx s.h (Qx s.rest) (s.rest.length:Nat) ((s.len:Nat):Int)
def HSt.ok (s:HSt):Prop:=s.rest.length≤64∧s.len≤1073741824∧s.done%64=0∧(s.rest.length=0→s.done=0)
theorem m0g {s:HSt} (hs:s.ok):HashOk (Qx s.rest) (s.rest.length:Nat) ((s.len:Nat):Int):=by
 obtain ⟨h1,h2,h3,h4⟩:=hs
 have h5:s.len=s.done+s.rest.length:=rfl
 refine ⟨by omega,by omega,by omega,by omega,by omega,fun h=>?_,fun j hj hl=>j1f h1 j (by simpa using hj) hl⟩
 have:=h4 (by omega);omega
theorem u1k {held:List UInt8} {k l:Nat} (hh:held.length=64) (hok:HashOk held (k:Int) (l:Int)) (h:H8):(HSt.ok ⟨h,l-k,held.take k⟩)∧stB ⟨h,l-k,held.take k⟩=Dx h held (k:Int) (l:Int):=by
 obtain ⟨h1,h2,h3,h4,h5,h6,h7⟩:=hok
 have hl:(held.take k).length=k:=by rw [yH];omega
 have hp:=w1i (k:=k) hh (by omega) (fun j hj hl=>h7 j (by simpa using hj) hl)
 refine ⟨⟨by simp only [hl];omega,by show l-k+(held.take k).length≤_;rw [hl];omega,by show (l-k)%64=0;omega,fun h=>?_⟩,?_⟩
 ·simp only [hl] at h;show l-k=0;have:=h6 (by omega);omega
 show Dx h (Qx (held.take k)) ((held.take k).length:Nat) ((l-k+(held.take k).length:Nat):Int)=_
 rw [hp,hl,show l-k+k=l from by omega]
end Bk
end Go.Sy
