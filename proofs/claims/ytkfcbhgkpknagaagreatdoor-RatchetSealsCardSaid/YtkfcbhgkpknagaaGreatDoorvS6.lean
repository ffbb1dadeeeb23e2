/- Walks and what they compute. CONDITIONS: those that each theorem names. -/
import Derived.Test.YtkfcbhgkpknagaaGreatDoorvS4
import Derived.Test.YtkfcbhgkpknagaaGreatDoorvE3
import Derived.Test.YtkfcbhgkpknagaaGreatDoorvS5
set_option linter.unusedVariables false
set_option linter.unusedSimpArgs false
set_option maxHeartbeats 3200000
set_option maxRecDepth 100000
namespace Go.Sy
namespace Bk
open Go.Proofs
attribute [local irreducible] Bw HT Aj Jk onC onE onO onG goV goA goS Lx Bz
theorem f1s (h0 h1 h2 h3 h4 h5 h6 h7:UInt32) (held:List UInt8) (hh:held.length=64) (n:Int) (len:Nat) (hl:len≤1073741824) (last:Bool):
 CtM Tryz.prog 114 [.w (.agg ([.pl (.u32 h0),.pl (.u32 h1),.pl (.u32 h2),.pl (.u32 h3),.pl (.u32 h4),.pl (.u32 h5),.pl (.u32 h6),.pl (.u32 h7)]++(Az held++[.pl (.i n),.pl (.i ((len:Nat):Int))]))),.w (.one (.pl (.b last)))] [(1000002,⟨false,gFi⟩),(1000004,⟨false,j0h⟩)] (Told (fun v m=>v=.w (.agg (h0v ⟨h0,h1,h2,h3,h4,h5,h6,h7⟩ held len last).ls)∧m=[])):=by
 have hcv:UInt32.ofNat (((len:Nat):Int)%4294967296).toNat=UInt32.ofNat len:=by
  rw [show (((len:Nat):Int)%4294967296).toNat=len from by omega]
 have his:r0x ((len:Nat):Int) 32=0:=by
  rw [r0x,show (min 32 64:Nat)=32 from rfl,Int.fdiv_eq_ediv_of_nonneg _ (by decide)]
  have:((2:Int) ^ 32)=4294967296:=rfl
  rw [this];omega
 have hz0:UInt32.ofNat ((0:Int)%4294967296).toNat=0:=rfl
 have hx0:(2600822924:UInt32)^^^0=2600822924:=rfl
 have F0:=yA hh<|yA hcv<|yA his<|yA hz0<|yA hx0<|p0h
 refine CtM.k Tryz.func114 rfl Tryz.ntmps114 (congrArg Array.toList Tryz.results114) (by simp) fun w0 ro may fx=>?_
 refine b0q fun zZ zhZ=>?_
 iterate 8 first
  |(refine Lj fun zK zhK=>?_;simp only [go_sem,F0,Int.reduceTMod];(repeat' (first|apply yA|intro _)))
  |refine zhK _ ?_
  |refine Cj fun zB zbn zbx zbr zbi=>?_
  |refine Fw fun zN zM zhN zhM=>?_
 refine Bv [0] ?_
 simp only [Bj,Cx,Bq,yI,yK,Nat.reduceBEq,beq_self_eq_true,yS,yV,yY,yT,yE,reduceIte]
 refine Uw (fun y=>[(17,.w (.one (.pl (.i ((y.1.1:Nat):Int)))))]) (fun y=>[(5,⟨false,Jy y.1.2⟩)]) (fun y=>16-y.1.1) (⟨(0,List.replicate 16 0),xA _,by simp,fun j h=>(by omega),fun j _=>j1t 16 j⟩:{y:Nat×List UInt32//y.1≤16∧y.2.length=16∧(∀ j,j<y.1→y.2.getD j 0=w0o held j)∧(∀ j,y.1≤j→y.2.getD j 0=0)}) ?_ ?_ ?_
 ·(simp only [go_sem,leX,yB,yC];try simp)
 ·(simp only [go_sem,leX,yB,yC];first|done|rfl|(simp [Jy,leX,look];done))
 intro yy zN zM zhN zhM
 simp only [yB,yC]
 have yN0:=zhN
 obtain ⟨⟨i,q⟩,hi,hq,hz,hy⟩:=yy
 simp only at hi hq hz hy
 rcases yZ i 16 with hlt|hge
 ·have hq0:=hy i (xL _)
  have hl0:=d0e (l:=q) (i:=i) (by omega)
  rw [hq0] at hl0
  obtain ⟨b0,hb0⟩: ∃ b,held.getD (4*i) 0=b:=⟨_,rfl⟩
  have g0:=Lv (q:=held) (i:=4*i) (by omega)
  rw [hb0] at g0
  obtain ⟨b1,hb1⟩: ∃ b,held.getD (4*i+1) 0=b:=⟨_,rfl⟩
  have g1:=Lv (q:=held) (i:=4*i+1) (by omega)
  rw [hb1] at g1
  obtain ⟨b2,hb2⟩: ∃ b,held.getD (4*i+2) 0=b:=⟨_,rfl⟩
  have g2:=Lv (q:=held) (i:=4*i+2) (by omega)
  rw [hb2] at g2
  obtain ⟨b3,hb3⟩: ∃ b,held.getD (4*i+3) 0=b:=⟨_,rfl⟩
  have g3:=Lv (q:=held) (i:=4*i+3) (by omega)
  rw [hb3] at g3
  have hacc:=t1v (b0:=b0) (b1:=b1) (b2:=b2) (b3:=b3)
  have ht4:=p2w (l:=held) (j:=4*i) (by omega)
  rw [hb0,hb1,hb2,hb3] at ht4
  rw [←ht4] at hacc
  have hacc2:_=w0o held i:=hacc
  obtain ⟨x1,hx1⟩: ∃ x,Rx 0 8|||b3.toUInt32=x:=⟨_,rfl⟩
  rw [hx1] at hacc2
  obtain ⟨x2,hx2⟩: ∃ x,Rx x1 8|||b2.toUInt32=x:=⟨_,rfl⟩
  rw [hx2] at hacc2
  obtain ⟨x3,hx3⟩: ∃ x,Rx x2 8|||b1.toUInt32=x:=⟨_,rfl⟩
  rw [hx3] at hacc2
  obtain ⟨x4,hx4⟩: ∃ x,Rx x3 8|||b0.toUInt32=x:=⟨_,rfl⟩
  rw [hx4] at hacc2
  obtain ⟨q1,hq1⟩: ∃ r,q.set i x1=r:=⟨_,rfl⟩
  obtain ⟨q2,hq2⟩: ∃ r,q1.set i x2=r:=⟨_,rfl⟩
  obtain ⟨q3,hq3⟩: ∃ r,q2.set i x3=r:=⟨_,rfl⟩
  obtain ⟨q4,hq4⟩: ∃ r,q3.set i x4=r:=⟨_,rfl⟩
  have e1:q1.length=16:=by rw [←hq1];simp [hq]
  have e2:q2.length=16:=by rw [←hq2];simp [e1]
  have e3:q3.length=16:=by rw [←hq3];simp [e2]
  have e4:q4.length=16:=by rw [←hq4];simp [e3]
  have p0:=j0a (q:=q) (j:=i) x1 (by omega)
  have p1:=j0a (q:=q1) (j:=i) x2 (by omega)
  have p2:=j0a (q:=q2) (j:=i) x3 (by omega)
  have p3:=j0a (q:=q3) (j:=i) x4 (by omega)
  rw [hq1] at p0
  rw [hq2] at p1
  rw [hq3] at p2
  rw [hq4] at p3
  have l1:=d0e (l:=q1) (i:=i) (by omega)
  have l2:=d0e (l:=q2) (i:=i) (by omega)
  have l3:=d0e (l:=q3) (i:=i) (by omega)
  have i1:q1.getD i 0=x1:=by rw [←hq1,Nv (by omega),if_pos rfl]
  have i2:q2.getD i 0=x2:=by rw [←hq2,Nv (by omega),if_pos rfl]
  have i3:q3.getD i 0=x3:=by rw [←hq3,Nv (by omega),if_pos rfl]
  rw [i1] at l1
  rw [i2] at l2
  rw [i3] at l3
  have k1: ∀ j,j<i+1→q4.getD j 0=w0o held j:=fun j hj=>by
   by_cases e:i=j
   ·subst e;rw [←hq4,Nv (by omega),if_pos rfl,hacc2]
   rw [←hq4,Nv (by omega),if_neg e,←hq3,Nv (by omega),if_neg e,←hq2,Nv (by omega),if_neg e,←hq1,Nv (by omega),if_neg e];exact hz j (by omega)
  have k2: ∀ j,i+1≤j→q4.getD j 0=0:=fun j hj=>by
   have e:¬i=j:=by omega
   rw [←hq4,Nv (by omega),if_neg e,←hq3,Nv (by omega),if_neg e,←hq2,Nv (by omega),if_neg e,←hq1,Nv (by omega),if_neg e];exact hy j (by omega)
  have n0:=a0t q
  have n1:=a0t q1
  have n2:=a0t q2
  have n3:=a0t q3
  rw [hq] at n0
  rw [e1] at n1
  rw [e2] at n2
  rw [e3] at n3
  have hcq:((i:Nat):Int)<16:=by omega
  have hc0:(0:Int)≤((i:Nat):Int):=by omega
  have hk2:i+1≤16:=by omega
  have d0:(0:Int)≤((4*i:Nat):Int)∧((4*i:Nat):Int)<64∧(0:Int)≤((4*i+1:Nat):Int)∧((4*i+1:Nat):Int)<64∧(0:Int)≤((4*i+2:Nat):Int)∧((4*i+2:Nat):Int)<64∧(0:Int)≤((4*i+3:Nat):Int)∧((4*i+3:Nat):Int)<64:=by omega
  have d1:4*i+1≤64∧4*i+1+1≤64∧4*i+2+1≤64∧4*i+3+1≤64:=by omega
  obtain ⟨hs1,hw8,hw4,hw5,hw6,hw7⟩:Go.RowKit.wrap64 (((i:Nat):Int)+1)=((i+1:Nat):Int)∧Go.RowKit.wrap64 (((4*i:Nat):Int)+0)=((4*i:Nat):Int)∧Go.RowKit.wrap64 (4*((i:Nat):Int))=((4*i:Nat):Int)∧Go.RowKit.wrap64 (((4*i:Nat):Int)+1)=((4*i+1:Nat):Int)∧Go.RowKit.wrap64 (((4*i:Nat):Int)+2)=((4*i+2:Nat):Int)∧Go.RowKit.wrap64 (((4*i:Nat):Int)+3)=((4*i+3:Nat):Int):=⟨Gy (by omega) (by omega),Gy (by omega) (by omega),Gy (by omega) (by omega),Gy (by omega) (by omega),Gy (by omega) (by omega),Gy (by omega) (by omega)⟩
  have F0:=yA hl0<|yA l1<|yA l2<|yA l3<|yA g0<|yA g1<|yA g2<|yA g3<|yA Fj<|yA n0<|yA n1<|yA n2<|yA n3<|yA hx1<|yA hx2<|yA hx3<|yA hx4<|yA p0<|yA p1<|yA p2<|yA p3<|yA hcq<|yA hc0<|yA hk2<|yA d0<|yA d1<|yA hs1<|yA hw4<|yA hw5<|yA hw6<|yA hw7<|yA hw8<|F0
  iterate 91 first
   |(refine Ez (x:=.seq (.seq (.region 6 _ _) _) _) [20,21,22,23,24,25,26,27,28,29,30,31,32,33,34,35,36,37,38] ?_;simp only [go_sem,St.forget,fgt];refine Oz fun zN zM zhN zhM=>?_)
   |refine Oz fun zN zM zhN zhM=>?_
   |(refine zhN _ ?_;clear zhN zhM)
   |refine zhK _ ?_
   |(refine Lj fun zK zhK=>?_;simp only [go_sem,F0,Int.reduceTMod];(repeat' (first|apply yA|intro _)))
   |refine Cj fun zB zbn zbx zbr zbi=>?_
   |refine Gq ?_
   |(refine zbn _ ?_;clear zbn zbx zbr zbi)
   |(refine Cw fun zK zhK=>?_;simp only [go_sem,F0,Int.reduceTMod];(repeat' (first|apply yA|intro _)))
   |(refine Sk (id:=8) [24,25,26,27,28,29,30,31,32,33,34,35,36,37,38] [0,0,2,6,14,0,32,0,224,0,992,2016,4064,8190,16383,32767] [] mixed (by kernel_rfl) (by simp only [go_sem]) fun zK zhK=>?_;simp only [go_sem,F0,Int.reduceTMod];(repeat' (first|apply yA|intro _)))
   |refine zhK _ _ trivial ?_
   |(refine zhM _ _ ?_;clear zhN zhM)
   |refine Jz (x:=.seq (.seq (.region 6 _ _) _) _) 5 ?_
   |refine Jv ?_
   |(refine zbx _ ?_;clear zbn zbx zbr zbi)
   |refine Fw fun zN zM zhN zhM=>?_
   |(refine Dw ?_ ?_;focus (first|rfl|(simp [go_sem,F0,Int.reduceTMod];done)))
   |(refine Dk ?_ ?_;focus (first|rfl|(simp [go_sem,F0,Int.reduceTMod];done)))
  refine zhN ⟨(i+1,q4),hlt,e4,k1,k2⟩ _ ?_ ?_ ?_
  ·(exact yP hlt (yQ i))
  ·(simp only [go_sem,leX,yB,yC];try simp)
  (simp only [go_sem,leX,yB,yC];try simp)
 obtain rfl:i=16:=by omega
 have hcq:¬((16:Nat):Int)<16:=by omega
 have hql:=a0t q
 rw [hq] at hql
 have F0:=yA hcq<|yA hql<|F0
 iterate 174 first
  |(refine Ez (x:=.seq (.region 12 _ _) _) [9,41,42,43,44,45,46,47,48,49,50,51,52,53,54,55] ?_;simp only [go_sem,St.forget,fgt];refine Oz fun zN zM zhN zhM=>?_)
  |refine Oz fun zN zM zhN zhM=>?_
  |refine zhK _ ?_
  |(refine zhN _ ?_;clear zhN zhM)
  |(refine Lj fun zK zhK=>?_;simp only [go_sem,F0,Int.reduceTMod];(repeat' (first|apply yA|intro _)))
  |refine Cj fun zB zbn zbx zbr zbi=>?_
  |refine Gq ?_
  |(refine Sk (id:=14) [43,44,45,46,47,48,49,50,51,52,53,54] [0,0,2,0,0,24,56,0,128,384,121,1145,4095,8191] [(1,11),(2,11),(7,11),(8,11),(9,11)] mixed (by kernel_rfl) (by simp only [go_sem]) fun zK zhK=>?_;simp only [go_sem,F0,Int.reduceTMod];(repeat' (first|apply yA|intro _)))
  |(refine zhK _ _ ?_ ?_;(focus (first|trivial|(simp only [go_sem];done)|(simp only [go_sem];simp;done)|(simp only [go_sem];simp;simp only [go_sem]))))
  |(refine zbn _ ?_;clear zbn zbx zbr zbi)
  |(refine Cw fun zK zhK=>?_;simp only [go_sem,F0,Int.reduceTMod];(repeat' (first|apply yA|intro _)))
  |(refine zhM _ _ ?_;clear zhN zhM)
  |refine Jv ?_
  |(refine zbx _ ?_;clear zbn zbx zbr zbi)
  |refine Jz (x:=.seq (.region 12 _ _) _) 9 ?_
  |refine Fw fun zN zM zhN zhM=>?_
  |(refine Dw ?_ ?_;focus (first|rfl|(simp [go_sem,F0,Int.reduceTMod];done)))
  |(refine Dk ?_ ?_;focus (first|rfl|(simp [go_sem,F0,Int.reduceTMod];done)))
 refine b2a [8,5,4,2] (fun w=>⟨[(8,.w (.one (.p 8 []))),(5,.w (.one (.p 5 []))),(4,.w (.one (.p 4 []))),(2,.w (.one (.p 2 [])))],[(8,⟨false,w.ls⟩),(5,⟨false,Jy q⟩),(5,⟨false,[.pl (.u32 0),.pl (.u32 0),.pl (.u32 0),.pl (.u32 0),.pl (.u32 0),.pl (.u32 0),.pl (.u32 0),.pl (.u32 0),.pl (.u32 0),.pl (.u32 0),.pl (.u32 0),.pl (.u32 0),.pl (.u32 0),.pl (.u32 0),.pl (.u32 0),.pl (.u32 0)]⟩),(4,⟨false,[.pl (.u32 0),.pl (.u32 0),.pl (.u32 0),.pl (.u32 0),.pl (.u32 0),.pl (.u32 0),.pl (.u32 0),.pl (.u32 0)]⟩),(2,⟨false,[.pl (.u32 h0),.pl (.u32 h1),.pl (.u32 h2),.pl (.u32 h3),.pl (.u32 h4),.pl (.u32 h5),.pl (.u32 h6),.pl (.u32 h7)]++(Az held++[.pl (.i n),.pl (.i ((len:Nat):Int))])⟩),(1000002,⟨false,gFi⟩),(1000004,⟨false,j0h⟩)]⟩) (fun w=>n2s ⟨h0,h1,h2,h3,h4,h5,h6,h7⟩ len last=w) (fun zN zM zhN zhM=>?_) (fun Wi hW=>?_)
 ·skip
  refine Lj fun zK zhK=>?_
  simp only [go_sem,F0,Int.reduceTMod]
  repeat' (first|apply yA|intro _)
  refine zhK _ ?_
  refine h1h rfl (fun hc=>?_) (fun hc=>?_)
  ·try simp only [go_sem,F0,Int.reduceTMod] at hc
   subst hc
   all_goals
    refine Cw fun zK zhK=>?_
    simp only [go_sem,F0,Int.reduceTMod]
    repeat' (first|apply yA|intro _)
    refine zhK _ ?_
    refine zhN _ rfl _ ?_
    (simp only [o0a,n0z,j0s,yI,yK,Nat.reduceBEq,beq_self_eq_true,yS,yV,yY,yT,yE,reduceIte];rfl)
  try simp only [go_sem,F0,Int.reduceTMod] at hc
  subst hc
  all_goals
   refine Gq ?_
   refine zhN _ rfl _ ?_
   (simp only [o0a,n0z,j0s,yI,yK,Nat.reduceBEq,beq_self_eq_true,yS,yV,yY,yT,yE,reduceIte];rfl)
 skip
 iterate 6 first
  |(refine Lj fun zK zhK=>?_;simp only [go_sem,F0,Int.reduceTMod];(repeat' (first|apply yA|intro _)))
  |refine zhK _ ?_
  |refine Cj fun zB zbn zbx zbr zbi=>?_
  |refine Fw fun zN zM zhN zhM=>?_
 refine Bv [0,1,6,7,9,17,18,19,20,21,22,23,24,25,26,27,28,29,30,31,32,33,34,35,36,37,38,39,40,41,42,43,44,45,46,47,48,49,50,51,52,53,54,55,56,57,58,59,60,61,62,63,64,65,66,67,68,69,70,71,72,73,74,75,76] ?_
 simp only [Bj,Cx,Bq,yI,yK,Nat.reduceBEq,beq_self_eq_true,yS,yV,yY,yT,yE,reduceIte]
 refine Uw (fun y=>[(78,.w (.one (.pl (.i ((y.1:Nat):Int)))))]) (fun y=>[(8,⟨false,(a0k held y.1 Wi).ls⟩)]) (fun y=>10-y.1) (⟨0,xA _⟩:{y:Nat//y≤10}) ?_ ?_ ?_
 ·(simp only [go_sem,leX,yB,yC];try simp)
 ·(simp only [a0k,go_sem,leX,yB,yC];first|done|rfl|(rw [←hW];simp [a0k,n2s,W16.ls,leX,look];done))
 intro ⟨k,hk9⟩ zN zM zhN zhM
 simp only [yB,yC]
 have yN1:=zhN
 rcases yZ k 10 with hlt|hge
 ·have hcq:((k:Nat):Int)<10:=by omega
  have hc0:(0:Int)≤((k:Nat):Int):=by omega
  have hk2:k*16+16≤160:=by omega
  have hs1:Go.RowKit.wrap64 (((k:Nat):Int)+1)=((k+1:Nat):Int):=Gy (by omega) (by omega)
  have hrow:=w1j hlt
  have hoc:=p0h
  obtain ⟨w,hw⟩: ∃ w,a0k held k Wi=w:=⟨_,rfl⟩
  simp only [hw,W16.ls_l]
  have F0:=yA hcq<|yA hc0<|yA hk2<|yA hs1<|yA hrow<|yA hoc<|yA hq<|yA n0v<|F0
  iterate 14 first
   |(refine Lj fun zK zhK=>?_;simp only [go_sem,F0,Int.reduceTMod];(repeat' (first|apply yA|intro _)))
   |refine zhK _ ?_
   |refine Cj fun zB zbn zbx zbr zbi=>?_
   |refine Gq ?_
   |(refine zhN _ ?_;clear zhN zhM)
   |refine Fw fun zN zM zhN zhM=>?_
   |(refine Dw ?_ ?_;focus (first|rfl|(simp [go_sem,F0,Int.reduceTMod];done)))
  refine Uw (fun y=>[(81,.w (.one (.pl (.i ((y.1:Nat):Int)))))]) (fun y=>[(8,⟨false,Jy (g0w held k w.l y.1)⟩)]) (fun y=>4-y.1) (⟨0,xA _⟩:{y:Nat//y≤4}) ?_ ?_ ?_
  ·(simp only [go_sem,leX,yB,yC,F0];try simp)
  ·(simp only [go_sem,leX,g0w,yB,yC,F0];try simp)
  intro yy zN zM zhN zhM
  simp only [yB,yC]
  have yN2:=zhN
  obtain ⟨i,hi4⟩:=yy
  rcases Nat.lt_or_eq_of_le hi4 with hli|rfl
  ·have hcq:((i:Nat):Int)<4:=by omega
   have hi16:i<16:=by omega
   obtain ⟨s,hs⟩: ∃ s,g0w held k w.l i=s:=⟨_,rfl⟩
   have hsl:s.length=16:=by rw [←hs,k0f];exact rfl
   obtain ⟨o1,ho1⟩: ∃ o,g0v k (2*i)=o:=⟨_,rfl⟩
   obtain ⟨o2,ho2⟩: ∃ o,g0v k (2*i+1)=o:=⟨_,rfl⟩
   have hb1:o1<16:=ho1▸y0t hlt (by omega)
   have hb2:o2<16:=ho2▸y0t hlt (by omega)
   have hv1:q.getD o1 0=d0j held k (2*i):=by rw [hz o1 hb1,d0j,ho1]
   have hv2:q.getD o2 0=d0j held k (2*i+1):=by rw [hz o2 hb2,d0j,ho2]
   have hr1:=row_one k (i:=2*i) (by omega)
   have hr2:=row_one k (i:=2*i+1) (by omega)
   rw [ho1] at hr1
   rw [ho2] at hr2
   have hu1:=o0m (l:=q) (i:=o1) (by omega)
   have hu2:=o0m (l:=q) (i:=o2) (by omega)
   rw [hv1] at hu1
   rw [hv2] at hu2
   have hfin:g0w held k w.l (i+1)=r0i s i (4+i) (8+i) (12+i) (d0j held k (2*i)) (d0j held k (2*i+1)):=by rw [g0w,hs]
   have hmx:=n2d s hsl i (4+i) (8+i) (12+i) (by omega) (by omega) (by omega) (by omega) (d0j held k (2*i)) (d0j held k (2*i+1))
   have hd1:((2*i:Nat):Int)<16∧2*i+1≤16∧((2*i+1:Nat):Int)<16∧2*i+1+1≤16∧((o1:Nat):Int)<16∧o1+1≤16∧((o2:Nat):Int)<16∧o2+1≤16:=by omega
   simp only [hs]
   have F0:=yA hcq<|yA z0o<|yA hfin<|yA hsl<|yA hr1<|yA hr2<|yA hu1<|yA hu2<|yA hd1<|yA n0v<|yA (wt2 hi16)<|yA (wl4 hi16)<|yA (wl8 hi16)<|yA (p2d hi16)<|yA (wp1 hi16)<|yA (wp1 (i:=2*i) (by omega))<|F0
   iterate 15 first
    |refine zhK _ ?_
    |(refine Lj fun zK zhK=>?_;simp only [go_sem,F0,Int.reduceTMod];(repeat' (first|apply yA|intro _)))
    |(refine zhN _ ?_;clear zhN zhM)
    |refine Gq ?_
    |refine Cj fun zB zbn zbx zbr zbi=>?_
    |(refine zbn _ ?_;clear zbn zbx zbr zbi)
    |(refine Cw fun zK zhK=>?_;simp only [go_sem,F0,Int.reduceTMod];(repeat' (first|apply yA|intro _)))
    |(refine c1z (id:=27) mixed fun zE zhE=>?_;refine Ij (p:=0) 21 [84,85,86,87,88,89,90,91,92,93,94,95,96,97,98,99,100,101,102,103,104] [0,0,0,4,0,16,0,64,0,256,768,1792,3840,7936,0,16384,49152,114688,245760,507904,1032192,2097151] [] rfl (by kernel_rfl) rfl (by simp only [go_sem]) fun zR zK zhR zhK=>?_;simp only [go_sem,F0,Int.reduceTMod];(repeat' (first|apply yA|intro _));refine zhK _ _ trivial (zhR _ ?_);refine Mx 1 22 rfl (by kernel_rfl) rfl rfl fun zR zhR=>?_;simp only [go_sem,F0,Int.reduceTMod];(repeat' (first|apply yA|intro _));(all_goals (refine i0p (caps:=[8]) false [(500000,8)] (fun k=>k) ?_ ?_ (fun _ _=>rfl) ?_ (by decide) ?_ hmx ?_;iterate 4 (focus (first|rfl|(simp only [go_sem,F0,Int.reduceTMod]<;>first|done|rfl|simp)))));(all_goals (rintro v m ⟨hR,hm⟩;subst hR;subst hm));(all_goals (refine yA ?_ (yA ?_ (yA ?_ ?_));iterate 3 (focus (first|rfl|(simp only [go_sem,F0,Int.reduceTMod];done)|(simp [go_sem,look,F0,Int.reduceTMod];done)))));(all_goals (try simp only [go_sem,F0,Int.reduceTMod]));(all_goals (try simp only [go_sem,F0,Int.reduceTMod]));(all_goals repeat' (first|apply yA|intro _));refine zhR _ ?_;refine b0b rfl (zhE _ ?_))
    |refine Fw fun zN zM zhN zhM=>?_
    |(refine Dw ?_ ?_;focus (first|rfl|(simp [go_sem,F0,Int.reduceTMod];done)))
   refine zhN ⟨i+1,hli⟩ _ ?_ ?_ ?_
   ·exact yP hli (yQ i)
   ·(simp only [go_sem,leX,yB,yC,F0];try simp)
   (simp only [go_sem,leX,yB,yC,F0];try simp)
  obtain ⟨c,hc⟩: ∃ c,g0w held k w.l 4=c:=⟨_,rfl⟩
  have hcl:c.length=16:=by rw [←hc,k0f];rfl
  have hcc:=(o0g held k w).symm.trans hc
  simp only [hc]
  iterate 12 first
   |(refine Lj fun zK zhK=>?_;simp only [go_sem,F0,Int.reduceTMod];(repeat' (first|apply yA|intro _)))
   |refine zhK _ ?_
   |(refine zhM _ _ ?_;clear zhN zhM)
   |refine Jv ?_
   |(refine zbx _ ?_;clear zbn zbx zbr zbi)
   |(refine zhN _ ?_;clear zhN zhM)
   |refine Cj fun zB zbn zbx zbr zbi=>?_
   |refine Fw fun zN zM zhN zhM=>?_
   |(refine Dk ?_ ?_;focus (first|rfl|(simp [go_sem,F0,Int.reduceTMod];done)))
  refine Uw (fun y=>[(107,.w (.one (.pl (.i ((y.1:Nat):Int)))))]) (fun y=>[(8,⟨false,Jy (q0k held k c y.1)⟩)]) (fun y=>4-y.1) (⟨0,xA _⟩:{y:Nat//y≤4}) ?_ ?_ ?_
  ·(simp only [go_sem,leX,yB,yC,F0];try simp)
  ·(simp only [go_sem,leX,q0k,yB,yC,F0];try simp)
  intro yy zN zM zhN zhM
  simp only [yB,yC]
  have yN3:=zhN
  obtain ⟨i,hi4⟩:=yy
  rcases Nat.lt_or_eq_of_le hi4 with hli|rfl
  ·have hcq:((i:Nat):Int)<4:=by omega
   have hi16:i<16:=by omega
   obtain ⟨s,hs⟩: ∃ s,q0k held k c i=s:=⟨_,rfl⟩
   have hsl:s.length=16:=by rw [←hs,a1b];exact hcl
   obtain ⟨o1,ho1⟩: ∃ o,g0v k (8+2*i)=o:=⟨_,rfl⟩
   obtain ⟨o2,ho2⟩: ∃ o,g0v k (9+2*i)=o:=⟨_,rfl⟩
   have hb1:o1<16:=ho1▸y0t hlt (by omega)
   have hb2:o2<16:=ho2▸y0t hlt (by omega)
   have hv1:q.getD o1 0=d0j held k (8+2*i):=by rw [hz o1 hb1,d0j,ho1]
   have hv2:q.getD o2 0=d0j held k (9+2*i):=by rw [hz o2 hb2,d0j,ho2]
   have hr1:=row_one k (i:=8+2*i) (by omega)
   have hr2:=row_one k (i:=9+2*i) (by omega)
   rw [ho1] at hr1
   rw [ho2] at hr2
   have hu1:=o0m (l:=q) (i:=o1) (by omega)
   have hu2:=o0m (l:=q) (i:=o2) (by omega)
   rw [hv1] at hu1
   rw [hv2] at hu2
   have hfin:q0k held k c (i+1)=r0i s i (4+(i+1)%4) (8+(i+2)%4) (12+(i+3)%4) (d0j held k (8+2*i)) (d0j held k (9+2*i)):=by rw [q0k,hs]
   have hmx:=n2d s hsl i (4+(i+1)%4) (8+(i+2)%4) (12+(i+3)%4) (by omega) (by omega) (by omega) (by omega) (d0j held k (8+2*i)) (d0j held k (9+2*i))
   have hd1:((8+2*i:Nat):Int)<16∧8+2*i+1≤16∧((9+2*i:Nat):Int)<16∧9+2*i+1≤16∧((o1:Nat):Int)<16∧o1+1≤16∧((o2:Nat):Int)<16∧o2+1≤16:=by omega
   simp only [hs]
   have F0:=yA hcq<|yA z0o<|yA hfin<|yA hsl<|yA hr1<|yA hr2<|yA hu1<|yA hu2<|yA hd1<|yA n0v<|yA (wt2 hi16)<|yA (wp1 hi16)<|yA (wp2 hi16)<|yA (wp3 hi16)<|yA tm4<|yA (wl4 (lt4 (n:=i+1)))<|yA (wl8 (lt4 (n:=i+2)))<|yA (p2d (lt4 (n:=i+3)))<|yA (wl8 (i:=2*i) (by omega))<|yA (wl9 (i:=2*i) (by omega))<|F0
   iterate 15 first
    |refine zhK _ ?_
    |(refine Lj fun zK zhK=>?_;simp only [go_sem,F0,Int.reduceTMod];(repeat' (first|apply yA|intro _)))
    |(refine zhN _ ?_;clear zhN zhM)
    |refine Gq ?_
    |refine Cj fun zB zbn zbx zbr zbi=>?_
    |(refine zbn _ ?_;clear zbn zbx zbr zbi)
    |(refine Cw fun zK zhK=>?_;simp only [go_sem,F0,Int.reduceTMod];(repeat' (first|apply yA|intro _)))
    |(refine c1z (id:=32) mixed fun zE zhE=>?_;refine Ij (p:=0) 28 [110,111,112,113,114,115,116,117,118,119,120,121,122,123,124,125,126,127,128,129,130,131,132,133,134,135,136,137] [0,0,0,4,12,28,0,64,192,448,0,1024,3072,7168,0,16384,49152,114688,245760,507904,1032192,0,2097152,6291456,14680064,31457280,65011712,132120576,268435455] [] rfl (by kernel_rfl) rfl (by simp only [go_sem]) fun zR zK zhR zhK=>?_;simp only [go_sem,F0,Int.reduceTMod];(repeat' (first|apply yA|intro _));refine zhK _ _ trivial (zhR _ ?_);refine Mx 1 29 rfl (by kernel_rfl) rfl rfl fun zR zhR=>?_;simp only [go_sem,F0,Int.reduceTMod];(repeat' (first|apply yA|intro _));(all_goals (refine i0p (caps:=[8]) false [(500000,8)] (fun k=>k) ?_ ?_ (fun _ _=>rfl) ?_ (by decide) ?_ hmx ?_;iterate 4 (focus (first|rfl|(simp only [go_sem,F0,Int.reduceTMod]<;>first|done|rfl|simp)))));(all_goals (rintro v m ⟨hR,hm⟩;subst hR;subst hm));(all_goals (refine yA ?_ (yA ?_ (yA ?_ ?_));iterate 3 (focus (first|rfl|(simp only [go_sem,F0,Int.reduceTMod];done)|(simp [go_sem,look,F0,Int.reduceTMod];done)))));(all_goals (try simp only [go_sem,F0,Int.reduceTMod]));(all_goals (try simp only [go_sem,F0,Int.reduceTMod]));(all_goals repeat' (first|apply yA|intro _));refine zhR _ ?_;refine b0b rfl (zhE _ ?_))
    |refine Fw fun zN zM zhN zhM=>?_
    |(refine Dw ?_ ?_;focus (first|rfl|(simp [go_sem,F0,Int.reduceTMod];done)))
   refine zhN ⟨i+1,hli⟩ _ ?_ ?_ ?_
   ·exact yP hli (yQ i)
   ·(simp only [go_sem,leX,yB,yC,F0];try simp)
   (simp only [go_sem,leX,yB,yC,F0];try simp)
  have hfin:(a0k held (k+1) Wi).ls=Jy (q0k held k c 4):=by rw [a0k,hw,W16.ls_l,←q0i,hcc]
  have F0:=yA hfin<|F0
  have zL:=fun S2=>yN1 ⟨k+1,hlt⟩ S2 (by (exact yP hlt (yQ k)))
  exact HT.w
 obtain rfl:k=10:=by omega
 have hcq:¬((10:Nat):Int)<10:=by omega
 obtain ⟨w,hw⟩: ∃ w,a0k held 10 Wi=w:=⟨_,rfl⟩
 have hsk:h0v ⟨h0,h1,h2,h3,h4,h5,h6,h7⟩ held len last=q2k ⟨h0,h1,h2,h3,h4,h5,h6,h7⟩ w:=by rw [h0v,hW,hw]
 simp only [hw]
 obtain ⟨x0,x1,x2,x3,x4,x5,x6,x7,x8,x9,x10,x11,x12,x13,x14,x15⟩:=w
 simp only [W16.ls]
 have F0:=yA hcq<|F0
 iterate 174 first
  |(refine Ez (x:=.seq (.region 37 _ _) _) [16,144,145,146,147,148,149,150,151,152,153,154,155,156,157,158,159] ?_;simp only [go_sem,St.forget,fgt];refine Oz fun zN zM zhN zhM=>?_)
  |refine Oz fun zN zM zhN zhM=>?_
  |refine zhK _ ?_
  |(refine zhN _ ?_;clear zhN zhM)
  |(refine Lj fun zK zhK=>?_;simp only [go_sem,F0,Int.reduceTMod];(repeat' (first|apply yA|intro _)))
  |refine Cj fun zB zbn zbx zbr zbi=>?_
  |refine Gq ?_
  |(refine Sk (id:=39) [146,147,148,149,150,151,152,153,154,155,156,157,158] [0,1,3,0,8,24,0,64,192,448,1016,2047,4095,8191] [] mixed (by kernel_rfl) (by simp only [go_sem]) fun zK zhK=>?_;simp only [go_sem,F0,Int.reduceTMod];(repeat' (first|apply yA|intro _)))
  |refine zhK _ _ trivial ?_
  |(refine zbn _ ?_;clear zbn zbx zbr zbi)
  |(refine Cw fun zK zhK=>?_;simp only [go_sem,F0,Int.reduceTMod];(repeat' (first|apply yA|intro _)))
  |(refine zhM _ _ ?_;clear zhN zhM)
  |refine Jv ?_
  |(refine zbx _ ?_;clear zbn zbx zbr zbi)
  |refine Jz (x:=.seq (.region 37 _ _) _) 9 ?_
  |refine Tk ?_
  |(refine zhZ _ _ ?_;simp only [go_sem,F0,Int.reduceTMod];(all_goals (exact told_plain rfl ⟨by rw [hsk];rfl,rfl⟩)))
  |refine Fw fun zN zM zhN zhM=>?_
  |(refine Dw ?_ ?_;focus (first|rfl|(simp [go_sem,F0,Int.reduceTMod];done)))
  |(refine Dk ?_ ?_;focus (first|rfl|(simp [go_sem,F0,Int.reduceTMod];done)))
end Bk
end Go.Sy
namespace Go.Sy
namespace Bk
open Go.Proofs
attribute [local irreducible] Bw HT Aj Jk onC onE onO onG goV goA goS Lx Bz
theorem n2u :
 CtM Tryz.prog 84 [] [(1000002,⟨false,gFi⟩),(1000004,⟨false,j0h⟩)] (Told (fun v m=>v=.w (.agg (Dx (⟨(1779033703^^^16842784),3144134277,1013904242,2773480762,1359893119,2600822924,528734635,1541459225⟩:H8) (List.replicate 64 0) 0 0))∧m=[])):=by
 have F0:=yA Dx.eq_1<|H8.ls.eq_1
 refine CtM.go Tryz.func84 rfl Tryz.ntmps84 Tryz.results84 fun w0 ro may fx zZ zhY=>?_
 refine (fun zX=>goW) ?_
 refine zhY _ _ ?_
 simp only [go_sem,F0]
 all_goals (exact told_plain (by simp [Dv,Ew,Az]) ⟨rfl,rfl⟩)
theorem n2t :
 CtM Tryz.prog 103 [] [(1000003,⟨false,gFi⟩)] (Told (fun v m=>v=.w (.agg (Dx (⟨(1779033703^^^16842784),3144134277,1013904242,2773480762,1359893119,2600822924,528734635,1541459225⟩:H8) (List.replicate 64 0) 0 0))∧m=[])):=by
 have F0:=yA Dx.eq_1<|H8.ls.eq_1
 refine CtM.go Tryz.func103 rfl Tryz.ntmps103 Tryz.results103 fun w0 ro may fx zZ zhY=>?_
 refine (fun zX=>goW) ?_
 refine zhY _ _ ?_
 simp only [go_sem,F0]
 all_goals (exact told_plain (by simp [Dv,Ew,Az]) ⟨rfl,rfl⟩)
theorem y1c (h0 h1 h2 h3 h4 h5 h6 h7:UInt32) (d:Nat) (r:List UInt8) (hs:HSt.ok ⟨⟨h0,h1,h2,h3,h4,h5,h6,h7⟩,d,r⟩) (b:List UInt8) (hbl:d+r.length+b.length≤9223372036854775807) (ex:Bool) (hbig:1073741824<d+r.length+b.length):
 CtM Tryz.prog 83 [.w (.agg (stB ⟨⟨h0,h1,h2,h3,h4,h5,h6,h7⟩,d,r⟩)),.w (.one (.pl (.R ex 1 (Av b))))] [(1000002,⟨false,gFi⟩),(1000004,⟨false,j0h⟩)] (Told (fun v m=>v=.tup [.agg (Dx ⟨0,0,0,0,0,0,0,0⟩ (List.replicate 64 0) 0 0),.one (.pl (.i 1))]∧m=[])):=by
 have hr:r.length≤64:=hs.1
 have hd:d+r.length≤1073741824:=hs.2.1
 have hpl:=Fy hr
 have hok:=m0g hs
 obtain ⟨l,hl⟩: ∃ l,d+r.length=l:=⟨_,rfl⟩
 have hlen:HSt.len ⟨⟨h0,h1,h2,h3,h4,h5,h6,h7⟩,d,r⟩=l:=hl
 rw [hlen] at hok
 have he:=f0g hok
 have hb:=d0p hok
 have hw:Go.RowKit.wrap64 (1073741824-((l:Nat):Int))=1073741824-((l:Nat):Int):=w64 (by omega)
 have hc:1073741824-((l:Nat):Int)<((b.length:Nat):Int):=by clear hw;omega
 have F0:=yA stB.eq_1<|yA Dx.eq_1<|yA H8.ls.eq_1<|yA hlen<|yA hpl<|yA he<|yA hw<|hc
 refine CtM.go Tryz.func83 rfl Tryz.ntmps83 Tryz.results83 fun w0 ro may fx zZ zhY=>?_
 have cq:=yA (Ct.cv (l0p h0 h1 h2 h3 h4 h5 h6 h7 (Qx r) hpl ((r.length:Nat):Int) ((l:Nat):Int)))<|trivial
 refine (fun zX=>goW) ?_
 refine zhY _ _ ?_
 simp only [go_sem,F0]
 all_goals (exact told_plain (by simp [Dv,Ew,Az]) ⟨rfl,rfl⟩)
theorem j1r (h0 h1 h2 h3 h4 h5 h6 h7:UInt32) (d:Nat) (r:List UInt8) (hs:HSt.ok ⟨⟨h0,h1,h2,h3,h4,h5,h6,h7⟩,d,r⟩) (b:List UInt8) (hbl:d+r.length+b.length≤9223372036854775807) (ex:Bool) (hbig:1073741824<d+r.length+b.length):
 CtM Tryz.prog 102 [.w (.agg (stB ⟨⟨h0,h1,h2,h3,h4,h5,h6,h7⟩,d,r⟩)),.w (.one (.pl (.R ex 1 (Av b))))] [(1000003,⟨false,gFi⟩)] (Told (fun v m=>v=.tup [.agg (Dx ⟨0,0,0,0,0,0,0,0⟩ (List.replicate 64 0) 0 0),.one (.pl (.i 1))]∧m=[])):=by
 have hr:r.length≤64:=hs.1
 have hd:d+r.length≤1073741824:=hs.2.1
 have hpl:=Fy hr
 have hok:=m0g hs
 obtain ⟨l,hl⟩: ∃ l,d+r.length=l:=⟨_,rfl⟩
 have hlen:HSt.len ⟨⟨h0,h1,h2,h3,h4,h5,h6,h7⟩,d,r⟩=l:=hl
 rw [hlen] at hok
 have he:=f0g hok
 have hb:=d0p hok
 have hc:(1073741824:Int)<((l+b.length:Nat):Int):=by omega
 have hw:Go.RowKit.wrap64 (((l:Nat):Int)+((b.length:Nat):Int))=((l+b.length:Nat):Int):=Gy (by omega) (by omega)
 have F0:=yA stB.eq_1<|yA Dx.eq_1<|yA H8.ls.eq_1<|yA hlen<|yA hpl<|yA hb<|yA hw<|hc
 refine CtM.go Tryz.func102 rfl Tryz.ntmps102 Tryz.results102 fun w0 ro may fx zZ zhY=>?_
 have cq:=yA (Ct.cv (v0m h0 h1 h2 h3 h4 h5 h6 h7 (Qx r) hpl ((r.length:Nat):Int) ((l:Nat):Int)))<|trivial
 refine (fun zX=>goW) ?_
 refine zhY _ _ ?_
 simp only [go_sem,F0]
 all_goals (exact told_plain (by simp [Dv,Ew,Az]) ⟨rfl,rfl⟩)
end Bk
end Go.Sy
namespace Go.Sy
namespace Bk
open Go.Proofs
attribute [local irreducible] Bw HT Aj Jk onC onE onO onG goV goA goS Lx Bz
theorem g2h (h0 h1 h2 h3 h4 h5 h6 h7:UInt32) (d:Nat) (r:List UInt8) (hs:HSt.ok ⟨⟨h0,h1,h2,h3,h4,h5,h6,h7⟩,d,r⟩) (b:List UInt8) (hbl:d+r.length+b.length≤9223372036854775807) (ex:Bool) (hnb:¬1073741824<d+r.length+b.length):
 CtM Tryz.prog 83 [.w (.agg (stB ⟨⟨h0,h1,h2,h3,h4,h5,h6,h7⟩,d,r⟩)),.w (.one (.pl (.R ex 1 (Av b))))] [(1000002,⟨false,gFi⟩),(1000004,⟨false,j0h⟩)] (Told (fun v m=>v=.tup [.agg (stB (b0g ⟨⟨h0,h1,h2,h3,h4,h5,h6,h7⟩,d,r⟩ b)),.one (.pl (.i 0))]∧m=[])):=by
 have hr:r.length≤64:=hs.1
 have hd:d+r.length≤1073741824:=hs.2.1
 have hpl:=Fy hr
 have hok:=m0g hs
 obtain ⟨l,hl⟩: ∃ l,d+r.length=l:=⟨_,rfl⟩
 have hlen:HSt.len ⟨⟨h0,h1,h2,h3,h4,h5,h6,h7⟩,d,r⟩=l:=hl
 rw [hlen] at hok
 have he:=f0g hok
 have hb:=d0p hok
 have hw:Go.RowKit.wrap64 (1073741824-((l:Nat):Int))=1073741824-((l:Nat):Int):=w64 (by omega)
 have hc:¬1073741824-((l:Nat):Int)<((b.length:Nat):Int):=by clear hw;omega
 have F0:=yA stB.eq_1<|yA Dx.eq_1<|yA H8.ls.eq_1<|yA hlen<|yA hpl<|yA he<|yA hw<|hc
 refine CtM.go Tryz.func83 rfl Tryz.ntmps83 Tryz.results83 fun w0 ro may fx zZ zhY=>?_
 have cq:=yA (Ct.cv (l0p h0 h1 h2 h3 h4 h5 h6 h7 (Qx r) hpl ((r.length:Nat):Int) ((l:Nat):Int)))<|trivial
 refine (fun zX=>goW) ?_
 refine Bv [0,1,6,9,10,11,12,13,14,15,16,17,18,19,20,21] ?_
 simp only [Bj,Cx,Bq,yI,yK,Nat.reduceBEq,beq_self_eq_true,yS,yV,yY,yT,yE,reduceIte]
 refine Gx (fun y=>[(24,.w (.one (.pl (.i ((y.1:Nat):Int)))))]) (fun y=>[(2,⟨false,stB (b0g ⟨⟨h0,h1,h2,h3,h4,h5,h6,h7⟩,d,r⟩ (b.take y.1))⟩)]) (fun y=>b.length-y.1) (⟨0,xA _⟩:{y:Nat//y≤b.length}) ?_ (by (simp only [go_sem,leX,yB,yC];try simp)) (by (simp only [stB,Dx,H8.ls,b0g,wH,List.foldl_nil,hlen,go_sem,leX,yB,yC];try simp [stB,hlen,b0g,leX,look]))
 intro ⟨i,hi⟩ xN0 xM0 xhN0 xhM0
 simp only [yB,yC]
 have hd:(i<b.length∧(b0g ⟨⟨h0,h1,h2,h3,h4,h5,h6,h7⟩,d,r⟩ (b.take i)).rest.length=64)∨(i<b.length∧¬(b0g ⟨⟨h0,h1,h2,h3,h4,h5,h6,h7⟩,d,r⟩ (b.take i)).rest.length=64)∨i=b.length:=by
  by_cases e1:i=b.length
  ·exact .inr (.inr e1)
  by_cases e2:(b0g ⟨⟨h0,h1,h2,h3,h4,h5,h6,h7⟩,d,r⟩ (b.take i)).rest.length=64
  ·exact .inl ⟨by omega,e2⟩
  exact .inr (.inl ⟨by omega,e2⟩)
 rcases hd with ⟨hlt,h15⟩|⟨hlt,h15⟩|rfl
 ·obtain ⟨⟨⟨q0,q1,q2,q3,q4,q5,q6,q7⟩,d1,q⟩,hq⟩: ∃ q,b0g ⟨⟨h0,h1,h2,h3,h4,h5,h6,h7⟩,d,r⟩ (b.take i)=q:=⟨_,rfl⟩
  have hal:=k0u (l:=b.take i) (s:=⟨⟨h0,h1,h2,h3,h4,h5,h6,h7⟩,d,r⟩) hr
  rw [hq,yH] at hal
  simp only at hal
  obtain ⟨hq64,hqd⟩:=hal
  have hsn:=b1c (s:=⟨⟨h0,h1,h2,h3,h4,h5,h6,h7⟩,d,r⟩) hlt
  rw [hq] at hsn
  have hpq:=Fy (r:=q) hq64
  simp only [hq,stB]
  have hcq:((i:Nat):Int)<((b.length:Nat):Int):=by omega
  have hc0:(0:Int)≤((i:Nat):Int):=by omega
  have hg0:=Ik hlt
  obtain ⟨c,hc⟩: ∃ c,b.getD i 0=c:=⟨_,rfl⟩
  rw [hc] at hsn hg0
  obtain ⟨l1,hl1⟩: ∃ l,d1+q.length=l:=⟨_,rfl⟩
  have hlen1:HSt.len ⟨⟨q0,q1,q2,q3,q4,q5,q6,q7⟩,d1,q⟩=l1:=hl1
  have hlb:l1+1≤1073741824:=by omega
  have hmi:min i b.length=i:=by omega
  rw [hmi] at hqd
  rw [hq] at h15
  simp only at h15
  have hpf:=j1g h15
  have hce:((q.length:Nat):Int)=64:=by omega
  obtain ⟨⟨z0,z1,z2,z3,z4,z5,z6,z7⟩,hz⟩: ∃ z,h0v ⟨q0,q1,q2,q3,q4,q5,q6,q7⟩ q (d1+64) false=z:=⟨_,rfl⟩
  have hst:b0s ⟨⟨q0,q1,q2,q3,q4,q5,q6,q7⟩,d1,q⟩ c=⟨⟨z0,z1,z2,z3,z4,z5,z6,z7⟩,d1+64,[c]⟩:=by unfold b0s;rw [if_pos h15];simp only [hz]
  rw [hst] at hsn
  have hl64:d1+64=l1:=by omega
  rw [hl64] at hz
  have hsq:=f1s q0 q1 q2 q3 q4 q5 q6 q7 q h15 64 l1 (by omega) false
  rw [hz] at hsq
  have hlen2:HSt.len ⟨⟨z0,z1,z2,z3,z4,z5,z6,z7⟩,d1+64,[c]⟩=l1+1:=by show d1+64+1=_;omega
  have hput:List.drop 1 (List.replicate 64 (0:UInt8))=List.replicate 63 0:=rfl
  have hp1:Az (c::List.replicate 63 0)=L.pl (PL.u8 c)::Az (List.replicate 63 0):=rfl
  obtain ⟨hs1,hs2,hs3⟩:Go.RowKit.wrap64 (((i:Nat):Int)+1)=((i+1:Nat):Int)∧Go.RowKit.wrap64 (((l1:Nat):Int)+1)=((l1+1:Nat):Int)∧Go.RowKit.wrap64 1=1:=⟨Gy (by omega) (by omega),Gy (by omega) (by omega),w64 (by decide)⟩
  have F0:=yA hlen1<|yA hcq<|yA hc0<|yA hg0<|yA hpf<|yA h15<|yA hce<|yA hput<|yA hs1<|yA hs2<|yA hs3<|F0
  have cq:=yA (CtM.ch [] (hsq.told))<|trivial
  refine (fun zX=>goW) ?_
  refine xhN0 ⟨i+1,hlt⟩ _ ?_ ?_ ?_
  ·(exact yP hlt (yQ i))
  ·(simp only [go_sem,leX,yB,yC];try simp)
  (simp only [hsn,stB,hlen2,y0r,hp1,Dx,H8.ls,go_sem,leX,yB,yC];first|done|(simp [hsn,stB,hlen2,y0r,Dx,H8.ls,leX,look];done)|rfl)
 ·obtain ⟨⟨⟨q0,q1,q2,q3,q4,q5,q6,q7⟩,d1,q⟩,hq⟩: ∃ q,b0g ⟨⟨h0,h1,h2,h3,h4,h5,h6,h7⟩,d,r⟩ (b.take i)=q:=⟨_,rfl⟩
  have hal:=k0u (l:=b.take i) (s:=⟨⟨h0,h1,h2,h3,h4,h5,h6,h7⟩,d,r⟩) hr
  rw [hq,yH] at hal
  simp only at hal
  obtain ⟨hq64,hqd⟩:=hal
  have hsn:=b1c (s:=⟨⟨h0,h1,h2,h3,h4,h5,h6,h7⟩,d,r⟩) hlt
  rw [hq] at hsn
  have hpq:=Fy (r:=q) hq64
  simp only [hq,stB]
  have hcq:((i:Nat):Int)<((b.length:Nat):Int):=by omega
  have hc0:(0:Int)≤((i:Nat):Int):=by omega
  have hg0:=Ik hlt
  obtain ⟨c,hc⟩: ∃ c,b.getD i 0=c:=⟨_,rfl⟩
  rw [hc] at hsn hg0
  obtain ⟨l1,hl1⟩: ∃ l,d1+q.length=l:=⟨_,rfl⟩
  have hlen1:HSt.len ⟨⟨q0,q1,q2,q3,q4,q5,q6,q7⟩,d1,q⟩=l1:=hl1
  have hlb:l1+1≤1073741824:=by omega
  have hmi:min i b.length=i:=by omega
  rw [hmi] at hqd
  rw [hq] at h15
  simp only at h15
  have hce:(((q.length:Nat):Int)=64)=False:=eq_false (by omega)
  have hst:b0s ⟨⟨q0,q1,q2,q3,q4,q5,q6,q7⟩,d1,q⟩ c=⟨⟨q0,q1,q2,q3,q4,q5,q6,q7⟩,d1,q++[c]⟩:=by unfold b0s;rw [if_neg h15]
  rw [hst] at hsn
  have hc1:(0:Int)≤((q.length:Nat):Int)∧((q.length:Nat):Int)<64∧q.length+1≤64∧q.length<64:=by omega
  have hpt:=s0u q
  have hps:=o1p (r:=q) (by omega) c
  have hput:Az q++[L.pl (PL.u8 c)]++Az (List.drop (q.length+1) (Qx q))=Az (Qx (q++[c])):=by rw [←hps];simp [Az]
  have hpl2:=Fy (r:=q++[c]) (by simp;omega)
  have hle3:(64≤q.length+1+(List.drop (q.length+1) (Qx q)).length)=True:=eq_true (by rw [yU,hpq];omega)
  have hlen2:HSt.len ⟨⟨q0,q1,q2,q3,q4,q5,q6,q7⟩,d1,q++[c]⟩=l1+1:=by show d1+(q++[c]).length=_;rw [yG,xD,xW];omega
  obtain ⟨hs1,hs2,hs3⟩:Go.RowKit.wrap64 (((i:Nat):Int)+1)=((i+1:Nat):Int)∧Go.RowKit.wrap64 (((l1:Nat):Int)+1)=((l1+1:Nat):Int)∧Go.RowKit.wrap64 (((q.length:Nat):Int)+1)=((q.length+1:Nat):Int):=⟨Gy (by omega) (by omega),Gy (by omega) (by omega),Gy (by omega) (by omega)⟩
  have F0:=yA hlen1<|yA hcq<|yA hc0<|yA hg0<|yA hput<|yA hpl2<|yA hle3<|yA hpq<|yA hpt<|yA hce<|yA hc1<|yA hs1<|yA hs2<|yA hs3<|F0
  refine (fun zX=>goW) ?_
  refine xhN0 ⟨i+1,hlt⟩ _ ?_ ?_ ?_
  ·(exact yP hlt (yQ i))
  ·(simp only [go_sem,leX,yB,yC];try simp)
  (simp only [hsn,stB,hlen2,Dx,H8.ls,go_sem,leX,yB,yC];first|done|(simp [hsn,stB,hlen2,Dx,H8.ls,leX,look];done)|rfl)
 obtain ⟨⟨⟨q0,q1,q2,q3,q4,q5,q6,q7⟩,d1,q⟩,hq⟩: ∃ q,b0g ⟨⟨h0,h1,h2,h3,h4,h5,h6,h7⟩,d,r⟩ (b.take b.length)=q:=⟨_,rfl⟩
 simp only [hq,stB]
 rw [wK] at hq
 have hal:=k0u (l:=b) (s:=⟨⟨h0,h1,h2,h3,h4,h5,h6,h7⟩,d,r⟩) hr
 rw [hq] at hal
 have hpq:=Fy (r:=q) hal.1
 have hcq:¬((b.length:Nat):Int)<((b.length:Nat):Int):=by omega
 have F0:=yA hcq<|yA hpq<|F0
 refine (fun zX=>goW) ?_
 refine zhY _ _ ?_
 simp only [go_sem,F0]
 all_goals (exact told_plain (by simp [Dv,Ew,Az]) ⟨by rw [hq],rfl⟩)
end Bk
end Go.Sy
