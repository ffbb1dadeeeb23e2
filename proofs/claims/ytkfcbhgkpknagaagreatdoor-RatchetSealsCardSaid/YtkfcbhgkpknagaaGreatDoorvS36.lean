/- Walks and what they compute. CONDITIONS: those that each theorem names. -/
import Derived.Test.YtkfcbhgkpknagaaGreatDoorvE3
import Derived.Test.YtkfcbhgkpknagaaGreatDoorvS25
import Derived.Test.YtkfcbhgkpknagaaGreatDoorvS29
import Derived.Test.YtkfcbhgkpknagaaGreatDoorvS32
import Derived.Test.YtkfcbhgkpknagaaGreatDoorvS33
import Derived.Test.YtkfcbhgkpknagaaGreatDoorvS34
import Derived.Test.YtkfcbhgkpknagaaGreatDoorvS35
import Derived.Test.YtkfcbhgkpknagaaGreatDoorvS11
import Derived.Test.YtkfcbhgkpknagaaGreatDoorvS20
import Derived.Test.YtkfcbhgkpknagaaGreatDoorvS13
set_option linter.unusedVariables false
set_option linter.unusedSimpArgs false
set_option maxHeartbeats 6400000
set_option maxRecDepth 100000
namespace Go.Sy
namespace Lk
open Go.Proofs
attribute [local irreducible] Bw HT Aj Jk onC onE onO onG goV goA goS Lx Bz
theorem z32c :Az (List.replicate 32 0)=[.pl (.u8 0),.pl (.u8 0),.pl (.u8 0),.pl (.u8 0),.pl (.u8 0),.pl (.u8 0),.pl (.u8 0),.pl (.u8 0),.pl (.u8 0),.pl (.u8 0),.pl (.u8 0),.pl (.u8 0),.pl (.u8 0),.pl (.u8 0),.pl (.u8 0),.pl (.u8 0),.pl (.u8 0),.pl (.u8 0),.pl (.u8 0),.pl (.u8 0),.pl (.u8 0),.pl (.u8 0),.pl (.u8 0),.pl (.u8 0),.pl (.u8 0),.pl (.u8 0),.pl (.u8 0),.pl (.u8 0),.pl (.u8 0),.pl (.u8 0),.pl (.u8 0),.pl (.u8 0)]:=rfl
theorem h1l (a b c d:UInt64) (h1:vQ a b c d<p25):
 CtM Tryz.prog 51 [.w (.agg [.pl (.u64 a),.pl (.u64 b),.pl (.u64 c),.pl (.u64 d)])] [(1000001,⟨false,gPr⟩)] (Told (fun v m=>v=.tup [.agg (Az (by4 a b c d)),.one (.pl (.i 0))]∧m=[])):=by
 have hA:=below_ a b c d
 rw [decide_eq_true h1] at hA
 have F0:=yA @xB<|@z32c
 have zF:FG [6,7,8,9,11,12,13,14,15,16,17,18,19,20,21,22,23,24,25]:=trivial
 refine CtM.go Tryz.func51 rfl Tryz.ntmps51 Tryz.results51 fun w0 ro may fx zZ zhY=>?_
 have cq:=yA (CtM.ch [] (hA.told))<|trivial
 have zU:=yA ur<|trivial
 refine (fun zX=>goW) ?_
 refine zhY _ _ ?_
 simp only [go_sem,F0,Int.reduceTMod,Int.reduceTDiv]
 all_goals (exact told_plain (by simp [Dv,Ew,Az,by4,byW]) ⟨rfl,rfl⟩)
end Lk
end Go.Sy
namespace Go.Sy
namespace Lk
open Go.Proofs
attribute [local irreducible] Bw HT Aj Jk onC onE onO onG goV goA goS Lx Bz
def n0h (b:Bool):UInt64:=if b then 1 else 0
def o0v (p q:Pt):List L:=w4C p.x++(w4C q.x++(w4C p.z++w4C q.z))
def g0u (k:List UInt8) (U y:Nat):List L:=if lastB k y then o0v (oft k U (255-y)).2 (oft k U (255-y)).1 else o0v (oft k U (255-y)).1 (oft k U (255-y)).2
theorem s0l {k:List UInt8} {U y:Nat} {P Q:Pt} (h:lastB k y=false) (hP:(oft k U (255-y)).1=P) (hQ:(oft k U (255-y)).2=Q):g0u k U y=o0v P Q:=by rw [g0u,h,hP,hQ];rfl
theorem y0a {k:List UInt8} {U y:Nat} {P Q:Pt} (h:lastB k y=true) (hP:(oft k U (255-y)).1=P) (hQ:(oft k U (255-y)).2=Q):g0u k U y=o0v Q P:=by rw [g0u,h,hP,hQ];rfl
theorem last_at {k:List UInt8} {t:Nat} (ht:t<255):lastB k t=decide (k1n k t=1):=by simp [lastB,ht]
theorem m2i {k:List UInt8} {U t:Nat} {P Q:Pt} (ht:t<255) (hP:(oft k U (255-(t+1))).1=P) (hQ:(oft k U (255-(t+1))).2=Q) (hb:k1n k t=1):oft k U (255-t)=(d0d P Q U,w0k Q):=by
 rw [show 255-t=(255-(t+1))+1 from by omega,oft,hP,hQ,show 254-(255-(t+1))=t from by omega,if_pos hb]
theorem m2j {k:List UInt8} {U t:Nat} {P Q:Pt} (ht:t<255) (hP:(oft k U (255-(t+1))).1=P) (hQ:(oft k U (255-(t+1))).2=Q) (hb:¬k1n k t=1):oft k U (255-t)=(w0k P,d0d P Q U):=by
 rw [show 255-t=(255-(t+1))+1 from by omega,oft,hP,hQ,show 254-(255-(t+1))=t from by omega,if_neg hb]
theorem t1w :w4C 0=[.pl (.u64 0),.pl (.u64 0),.pl (.u64 0),.pl (.u64 0)]:=by rw [w4C,show w4 0=[0,0,0,0] from by decide+kernel];rfl
theorem q2w (k u:List UInt8) (hk:k.length=32) (hu:u.length=32):
 CtM Tryz.prog 31 [.w (.agg (Az k)),.w (.agg (Az u))] [(1000001,⟨false,gPr⟩)] (Told (fun v m=>v=tell (t0c k u)∧m=[])):=by
 obtain ⟨kc,hkc⟩: ∃ q,n0a k=q:=⟨_,rfl⟩
 have hkl:kc.length=32:=by rw [←hkc];exact k0g hk
 obtain ⟨U,hU⟩: ∃ n,frN u=n:=⟨_,rfl⟩
 have hUl:U<p25:=by rw [←hU];exact b2e u
 have hC:=o2o k hk
 rw [hkc] at hC
 have hF:=from_ u hu
 rw [hU] at hF
 obtain ⟨f0,f1,f2,f3,hf,hvf⟩:=Cz U (pm4 hUl)
 have huf:w4C U=[.pl (.u64 f0),.pl (.u64 f1),.pl (.u64 f2),.pl (.u64 f3)]:=by rw [w4C,hf];rfl
 rw [huf] at hF
 have hst8:n0h (lastB kc 255)=0:=by rw [lastB];rfl
 have hst7:g0u kc U 255=[.pl (.u64 1),.pl (.u64 0),.pl (.u64 0),.pl (.u64 0),.pl (.u64 f0),.pl (.u64 f1),.pl (.u64 f2),.pl (.u64 f3),.pl (.u64 0),.pl (.u64 0),.pl (.u64 0),.pl (.u64 0),.pl (.u64 1),.pl (.u64 0),.pl (.u64 0),.pl (.u64 0)]:=by
  rw [s0l (P:=⟨1,0⟩) (Q:=⟨U,1⟩) (by rw [lastB];rfl) rfl rfl,o0v]
  simp only [l1q,t1w,huf];rfl
 have F0:=yA hk<|yA hu<|hkl
 refine CtM.go Tryz.func31 rfl Tryz.ntmps31 Tryz.results31 fun w0 ro may fx zZ zhY=>?_
 have cq:=yA (Ct.cv (hC))<|yA (CtM.ch [] (hF.told))<|trivial
 refine (fun zX=>goW) ?_
 refine Bv [0,1,3,15,16,17,18,19,20,21,22,23,24,25] ?_
 simp only [Bj,Cx,Bq,yI,yK,Nat.reduceBEq,beq_self_eq_true,yS,yV,yY,yT,yE,reduceIte]
 refine Gx (fun y=>[(9,.w (.one (.pl (.i (dn y.1))))),(8,.w (.one (.pl (.u64 (n0h (lastB kc y.1))))))]) (fun y=>[(7,⟨false,g0u kc U y.1⟩)]) (fun y=>y.1) (⟨255,xL _⟩:{y:Nat//y≤255}) ?_ (by (simp only [hst8,go_sem,leX,yB,yC];first|done|rfl|(simp [dn];done))) (by (simp only [hst7,go_sem,leX,yB,yC];first|done|rfl|(simp [leX,look];done)))
 intro yy xN0 xM0 xhN0 xhM0
 simp only [yB,yC]
 obtain ⟨j,hj9⟩:=yy
 have hok:=o1u kc hUl (255-j)
 obtain ⟨⟨P1,P2⟩,hP⟩: ∃ p,(oft kc U (255-j)).1=p:=⟨_,rfl⟩
 obtain ⟨⟨Q1,Q2⟩,hQ⟩: ∃ p,(oft kc U (255-j)).2=p:=⟨_,rfl⟩
 rw [hP,hQ] at hok
 obtain ⟨⟨l0,l1⟩,⟨l2,l3⟩⟩:=hok
 change P1<p25 at l0
 change P2<p25 at l1
 change Q1<p25 at l2
 change Q2<p25 at l3
 have hd:(j=0∧lastB kc j=false)∨(j=0∧lastB kc j=true)∨(∃ t,j=t+1∧lastB kc j=false∧¬k1n kc t=1)∨(∃ t,j=t+1∧lastB kc j=false∧k1n kc t=1)∨(∃ t,j=t+1∧lastB kc j=true∧¬k1n kc t=1)∨(∃ t,j=t+1∧lastB kc j=true∧k1n kc t=1):=by
  cases hx:lastB kc j<;>cases j with
  |zero=>simp
  |succ t=>by_cases hy:k1n kc t=1<;>simp [hy]
 rcases hd with ⟨rfl,hL⟩|⟨rfl,hL⟩|⟨t,rfl,hL,hbit⟩|⟨t,rfl,hL,hbit⟩|⟨t,rfl,hL,hbit⟩|⟨t,rfl,hL,hbit⟩
 ·obtain ⟨n,hn⟩: ∃ n,fM P1 (pw P2 eP)=n:=⟨_,rfl⟩
  have hnl:n<p25:=by rw [←hn];exact Tx _ _
  have hlad:t0c k u=n:=by
   rw [t0c,hkc,hU]
   change (oft kc U 255).1=_ at hP
   rw [hP,hn]
  obtain ⟨b,hb⟩: ∃ b,wB n=b:=⟨_,rfl⟩
  have hbl:b.length=32:=by rw [←hb];exact Zy n
  have hne:=q2r hbl
  obtain ⟨s0,s1,s2,s3,hs,hvs⟩:=Cz n (pm4 hnl)
  have hus:w4C n=[.pl (.u64 s0),.pl (.u64 s1),.pl (.u64 s2),.pl (.u64 s3)]:=by rw [w4C,hs];rfl
  have hbs:by4 s0 s1 s2 s3=b:=by rw [←hb];exact b2v hs
  have hi:dn 0= -1:=rfl
  obtain ⟨fx0,fx1,fx2,fx3,hfx,hvfx⟩:=Cz (P1) (pm4 l0)
  have hufx:w4C (P1)=[.pl (.u64 fx0),.pl (.u64 fx1),.pl (.u64 fx2),.pl (.u64 fx3)]:=by rw [w4C,hfx];rfl
  obtain ⟨fz0,fz1,fz2,fz3,hfz,hvfz⟩:=Cz (P2) (pm4 l1)
  have hufz:w4C (P2)=[.pl (.u64 fz0),.pl (.u64 fz1),.pl (.u64 fz2),.pl (.u64 fz3)]:=by rw [w4C,hfz];rfl
  obtain ⟨sx0,sx1,sx2,sx3,hsx,hvsx⟩:=Cz (Q1) (pm4 l2)
  have husx:w4C (Q1)=[.pl (.u64 sx0),.pl (.u64 sx1),.pl (.u64 sx2),.pl (.u64 sx3)]:=by rw [w4C,hsx];rfl
  obtain ⟨sz0,sz1,sz2,sz3,hsz,hvsz⟩:=Cz (Q2) (pm4 l3)
  have husz:w4C (Q2)=[.pl (.u64 sz0),.pl (.u64 sz1),.pl (.u64 sz2),.pl (.u64 sz3)]:=by rw [w4C,hsz];rfl
  have hr:g0u kc U 0=[.pl (.u64 fx0),.pl (.u64 fx1),.pl (.u64 fx2),.pl (.u64 fx3),.pl (.u64 sx0),.pl (.u64 sx1),.pl (.u64 sx2),.pl (.u64 sx3),.pl (.u64 fz0),.pl (.u64 fz1),.pl (.u64 fz2),.pl (.u64 fz3),.pl (.u64 sz0),.pl (.u64 sz1),.pl (.u64 sz2),.pl (.u64 sz3)]:=by rw [s0l hL hP hQ,o0v];simp only [hufx,hufz,husx,husz];rfl
  have hl8:n0h (lastB kc 0)=0:=by rw [hL];rfl
  have hS:=c2m fx0 fx1 fx2 fx3 sx0 sx1 sx2 sx3 fz0 fz1 fz2 fz3 sz0 sz1 sz2 sz3
  have hI:=b2b fz0 fz1 fz2 fz3 (by rw [hvfz];exact l1)
  rw [hvfz] at hI
  obtain ⟨iv0,iv1,iv2,iv3,hiv,hviv⟩:=Cz (pw P2 eP) (pm4 (b1w _ _))
  have huiv:w4C (pw P2 eP)=[.pl (.u64 iv0),.pl (.u64 iv1),.pl (.u64 iv2),.pl (.u64 iv3)]:=by rw [w4C,hiv];rfl
  rw [huiv] at hI
  have hM:=x1p fx0 fx1 fx2 fx3 iv0 iv1 iv2 iv3 (by rw [hvfx];exact l0) (by rw [hviv];exact b1w _ _)
  rw [hvfx,hviv,hn,hus] at hM
  have hB:=h1l s0 s1 s2 s3 (by rw [hvs];exact hnl)
  rw [hbs] at hB
  simp only [hr,hl8]
  have F0:=yA hi<|yA hbl<|yA hne<|F0
  have cq:=yA (Ct.cv (hS))<|yA (CtM.ch [] (hI.told))<|yA (CtM.ch [] (hM.told))<|yA (CtM.ch [] (hB.told))<|trivial
  have zd0:DQ 14 [66,67,68,69,5] [0,0,0,6,1,31] [(1,4),(2,4),(3,4)]:=⟨⟩
  refine (fun zX=>goW) ?_
  refine zhY _ _ ?_
  simp only [go_sem,F0]
  all_goals (exact told_plain (by simp [Dv,Ew,Az]) ⟨by rw [hlad,tell,hb],rfl⟩)
 ·obtain ⟨n,hn⟩: ∃ n,fM P1 (pw P2 eP)=n:=⟨_,rfl⟩
  have hnl:n<p25:=by rw [←hn];exact Tx _ _
  have hlad:t0c k u=n:=by
   rw [t0c,hkc,hU]
   change (oft kc U 255).1=_ at hP
   rw [hP,hn]
  obtain ⟨b,hb⟩: ∃ b,wB n=b:=⟨_,rfl⟩
  have hbl:b.length=32:=by rw [←hb];exact Zy n
  have hne:=q2r hbl
  obtain ⟨s0,s1,s2,s3,hs,hvs⟩:=Cz n (pm4 hnl)
  have hus:w4C n=[.pl (.u64 s0),.pl (.u64 s1),.pl (.u64 s2),.pl (.u64 s3)]:=by rw [w4C,hs];rfl
  have hbs:by4 s0 s1 s2 s3=b:=by rw [←hb];exact b2v hs
  have hi:dn 0= -1:=rfl
  obtain ⟨fx0,fx1,fx2,fx3,hfx,hvfx⟩:=Cz (P1) (pm4 l0)
  have hufx:w4C (P1)=[.pl (.u64 fx0),.pl (.u64 fx1),.pl (.u64 fx2),.pl (.u64 fx3)]:=by rw [w4C,hfx];rfl
  obtain ⟨fz0,fz1,fz2,fz3,hfz,hvfz⟩:=Cz (P2) (pm4 l1)
  have hufz:w4C (P2)=[.pl (.u64 fz0),.pl (.u64 fz1),.pl (.u64 fz2),.pl (.u64 fz3)]:=by rw [w4C,hfz];rfl
  obtain ⟨sx0,sx1,sx2,sx3,hsx,hvsx⟩:=Cz (Q1) (pm4 l2)
  have husx:w4C (Q1)=[.pl (.u64 sx0),.pl (.u64 sx1),.pl (.u64 sx2),.pl (.u64 sx3)]:=by rw [w4C,hsx];rfl
  obtain ⟨sz0,sz1,sz2,sz3,hsz,hvsz⟩:=Cz (Q2) (pm4 l3)
  have husz:w4C (Q2)=[.pl (.u64 sz0),.pl (.u64 sz1),.pl (.u64 sz2),.pl (.u64 sz3)]:=by rw [w4C,hsz];rfl
  have hr:g0u kc U 0=[.pl (.u64 sx0),.pl (.u64 sx1),.pl (.u64 sx2),.pl (.u64 sx3),.pl (.u64 fx0),.pl (.u64 fx1),.pl (.u64 fx2),.pl (.u64 fx3),.pl (.u64 sz0),.pl (.u64 sz1),.pl (.u64 sz2),.pl (.u64 sz3),.pl (.u64 fz0),.pl (.u64 fz1),.pl (.u64 fz2),.pl (.u64 fz3)]:=by rw [y0a hL hP hQ,o0v];simp only [hufx,hufz,husx,husz];rfl
  have hl8:n0h (lastB kc 0)=1:=by rw [hL];rfl
  have hS:=c2l sx0 sx1 sx2 sx3 fx0 fx1 fx2 fx3 sz0 sz1 sz2 sz3 fz0 fz1 fz2 fz3
  have hI:=b2b fz0 fz1 fz2 fz3 (by rw [hvfz];exact l1)
  rw [hvfz] at hI
  obtain ⟨iv0,iv1,iv2,iv3,hiv,hviv⟩:=Cz (pw P2 eP) (pm4 (b1w _ _))
  have huiv:w4C (pw P2 eP)=[.pl (.u64 iv0),.pl (.u64 iv1),.pl (.u64 iv2),.pl (.u64 iv3)]:=by rw [w4C,hiv];rfl
  rw [huiv] at hI
  have hM:=x1p fx0 fx1 fx2 fx3 iv0 iv1 iv2 iv3 (by rw [hvfx];exact l0) (by rw [hviv];exact b1w _ _)
  rw [hvfx,hviv,hn,hus] at hM
  have hB:=h1l s0 s1 s2 s3 (by rw [hvs];exact hnl)
  rw [hbs] at hB
  simp only [hr,hl8]
  have F0:=yA hi<|yA hbl<|yA hne<|F0
  have cq:=yA (Ct.cv (hS))<|yA (CtM.ch [] (hI.told))<|yA (CtM.ch [] (hM.told))<|yA (CtM.ch [] (hB.told))<|trivial
  have zd0:DQ 14 [66,67,68,69,5] [0,0,0,6,1,31] [(1,4),(2,4),(3,4)]:=⟨⟩
  refine (fun zX=>goW) ?_
  refine zhY _ _ ?_
  simp only [go_sem,F0]
  all_goals (exact told_plain (by simp [Dv,Ew,Az]) ⟨by rw [hlad,tell,hb],rfl⟩)
 ·have ht:t<255:=by omega
  obtain ⟨fx0,fx1,fx2,fx3,hfx,hvfx⟩:=Cz (P1) (pm4 l0)
  have hufx:w4C (P1)=[.pl (.u64 fx0),.pl (.u64 fx1),.pl (.u64 fx2),.pl (.u64 fx3)]:=by rw [w4C,hfx];rfl
  obtain ⟨fz0,fz1,fz2,fz3,hfz,hvfz⟩:=Cz (P2) (pm4 l1)
  have hufz:w4C (P2)=[.pl (.u64 fz0),.pl (.u64 fz1),.pl (.u64 fz2),.pl (.u64 fz3)]:=by rw [w4C,hfz];rfl
  obtain ⟨sx0,sx1,sx2,sx3,hsx,hvsx⟩:=Cz (Q1) (pm4 l2)
  have husx:w4C (Q1)=[.pl (.u64 sx0),.pl (.u64 sx1),.pl (.u64 sx2),.pl (.u64 sx3)]:=by rw [w4C,hsx];rfl
  obtain ⟨sz0,sz1,sz2,sz3,hsz,hvsz⟩:=Cz (Q2) (pm4 l3)
  have husz:w4C (Q2)=[.pl (.u64 sz0),.pl (.u64 sz1),.pl (.u64 sz2),.pl (.u64 sz3)]:=by rw [w4C,hsz];rfl
  have hr:g0u kc U (t+1)=[.pl (.u64 fx0),.pl (.u64 fx1),.pl (.u64 fx2),.pl (.u64 fx3),.pl (.u64 sx0),.pl (.u64 sx1),.pl (.u64 sx2),.pl (.u64 sx3),.pl (.u64 fz0),.pl (.u64 fz1),.pl (.u64 fz2),.pl (.u64 fz3),.pl (.u64 sz0),.pl (.u64 sz1),.pl (.u64 sz2),.pl (.u64 sz3)]:=by rw [s0l hL hP hQ,o0v];simp only [hufx,hufz,husx,husz];rfl
  have hl8:n0h (lastB kc (t+1))=0:=by rw [hL];rfl
  have hS:=c2m fx0 fx1 fx2 fx3 sx0 sx1 sx2 sx3 fz0 fz1 fz2 fz3 sz0 sz1 sz2 sz3
  have hT:=x1i fx0 fx1 fx2 fx3 sx0 sx1 sx2 sx3 fz0 fz1 fz2 fz3 sz0 sz1 sz2 sz3 f0 f1 f2 f3 P1 Q1 P2 Q2 U hvfx l0 hvsx l2 hvfz l1 hvsz l3 hvf hUl
  rw [h1g,l1p] at hT
  obtain ⟨⟨D1,D2⟩,hD⟩: ∃ p,w0k ⟨P1,P2⟩=p:=⟨_,rfl⟩
  have hDo:=l0x ⟨P1,P2⟩
  obtain ⟨⟨E1,E2⟩,hE⟩: ∃ p,d0d ⟨P1,P2⟩ ⟨Q1,Q2⟩ U=p:=⟨_,rfl⟩
  have hEo:=g0a ⟨P1,P2⟩ ⟨Q1,Q2⟩ U
  rw [hD] at hT hDo
  rw [hE] at hT hEo
  obtain ⟨m0,m1⟩:=hDo
  obtain ⟨m2,m3⟩:=hEo
  change D1<p25 at m0
  change D2<p25 at m1
  change E1<p25 at m2
  change E2<p25 at m3
  obtain ⟨gx0,gx1,gx2,gx3,hgx,hvgx⟩:=Cz (D1) (pm4 m0)
  have hugx:w4C (D1)=[.pl (.u64 gx0),.pl (.u64 gx1),.pl (.u64 gx2),.pl (.u64 gx3)]:=by rw [w4C,hgx];rfl
  obtain ⟨gz0,gz1,gz2,gz3,hgz,hvgz⟩:=Cz (D2) (pm4 m1)
  have hugz:w4C (D2)=[.pl (.u64 gz0),.pl (.u64 gz1),.pl (.u64 gz2),.pl (.u64 gz3)]:=by rw [w4C,hgz];rfl
  obtain ⟨ex0,ex1,ex2,ex3,hex,hvex⟩:=Cz (E1) (pm4 m2)
  have huex:w4C (E1)=[.pl (.u64 ex0),.pl (.u64 ex1),.pl (.u64 ex2),.pl (.u64 ex3)]:=by rw [w4C,hex];rfl
  obtain ⟨ez0,ez1,ez2,ez3,hez,hvez⟩:=Cz (E2) (pm4 m3)
  have huez:w4C (E2)=[.pl (.u64 ez0),.pl (.u64 ez1),.pl (.u64 ez2),.pl (.u64 ez3)]:=by rw [w4C,hez];rfl
  have hres:w4C D1++(w4C E1++(w4C D2++w4C E2))=[.pl (.u64 gx0),.pl (.u64 gx1),.pl (.u64 gx2),.pl (.u64 gx3),.pl (.u64 ex0),.pl (.u64 ex1),.pl (.u64 ex2),.pl (.u64 ex3),.pl (.u64 gz0),.pl (.u64 gz1),.pl (.u64 gz2),.pl (.u64 gz3),.pl (.u64 ez0),.pl (.u64 ez1),.pl (.u64 ez2),.pl (.u64 ez3)]:=by simp only [hugx,hugz,huex,huez];rfl
  simp only [hres] at hT
  have hlt2:lastB kc t=false:=by rw [last_at ht,decide_eq_false hbit]
  have hof:=m2j ht hP hQ hbit
  rw [hD,hE] at hof
  have hnx:g0u kc U t=[.pl (.u64 gx0),.pl (.u64 gx1),.pl (.u64 gx2),.pl (.u64 gx3),.pl (.u64 ex0),.pl (.u64 ex1),.pl (.u64 ex2),.pl (.u64 ex3),.pl (.u64 gz0),.pl (.u64 gz1),.pl (.u64 gz2),.pl (.u64 gz3),.pl (.u64 ez0),.pl (.u64 ez1),.pl (.u64 ez2),.pl (.u64 ez3)]:=by
   rw [s0l hlt2 (congrArg Prod.fst hof) (congrArg Prod.snd hof)];exact hres
  have hln:n0h (lastB kc t)=0:=by rw [hlt2];rfl
  have o1:=Lv (q:=kc) (i:=t/8) (by omega)
  obtain ⟨c,hc8⟩: ∃ c,kc.getD (t/8) 0=c:=⟨_,rfl⟩
  rw [hc8] at o1
  have hbw:(t1p c (t%8)).toUInt64&&&1=0:=by rw [o0h,if_neg (by rw [←hc8];exact hbit)]
  have hj:(0:Int)≤((t/8:Nat):Int)∧((t/8:Nat):Int)<32∧t/8+1≤32∧(0:Int)≤((t%8:Nat):Int)∧(0:Int)≤((t:Nat):Int):=by omega
  have htd:((t:Nat):Int).tdiv 8=((t/8:Nat):Int):=rfl
  have htm:((t:Nat):Int).tmod 8=((t%8:Nat):Int):=rfl
  have hi:dn (t+1)=((t:Nat):Int):=by unfold dn;omega
  simp only [hr,hl8]
  obtain ⟨hs1,hwd⟩:Go.RowKit.wrap64 (((t:Nat):Int)-1)=dn t∧Go.RowKit.wrap64 ((t/8:Nat):Int)=((t/8:Nat):Int):=⟨b2u (by omega),Gy rfl (by omega)⟩
  have F0:=yA o1<|yA hbw<|yA hj<|yA htd<|yA htm<|yA hi<|yA hs1<|yA hwd<|yA @Fj<|yA @x00<|yA @x01<|yA @x10<|yA @x11<|F0
  have cq:=yA (Ct.cv (hS))<|yA (CtM.ch [] (hT.told))<|trivial
  have zr0:DS 9:=⟨⟩
  have zq:DP 0 6 [39,40,41,42,43,44] [0,0,0,6,15,0,63,127] []∧DN 2 8∧True:=⟨⟨⟩,⟨⟩,trivial⟩
  refine (fun zX=>goW) ?_
  refine xhN0 ⟨t,by omega⟩ _ ?_ ?_ ?_
  ·(exact yQ t)
  ·(simp only [hln,go_sem,leX,yB,yC];first|done|rfl|(simp [leX,look];done))
  (simp only [hnx,go_sem,leX,yB,yC];first|done|rfl|(simp [leX,look];done))
 ·have ht:t<255:=by omega
  obtain ⟨fx0,fx1,fx2,fx3,hfx,hvfx⟩:=Cz (Q1) (pm4 l2)
  have hufx:w4C (Q1)=[.pl (.u64 fx0),.pl (.u64 fx1),.pl (.u64 fx2),.pl (.u64 fx3)]:=by rw [w4C,hfx];rfl
  obtain ⟨fz0,fz1,fz2,fz3,hfz,hvfz⟩:=Cz (Q2) (pm4 l3)
  have hufz:w4C (Q2)=[.pl (.u64 fz0),.pl (.u64 fz1),.pl (.u64 fz2),.pl (.u64 fz3)]:=by rw [w4C,hfz];rfl
  obtain ⟨sx0,sx1,sx2,sx3,hsx,hvsx⟩:=Cz (P1) (pm4 l0)
  have husx:w4C (P1)=[.pl (.u64 sx0),.pl (.u64 sx1),.pl (.u64 sx2),.pl (.u64 sx3)]:=by rw [w4C,hsx];rfl
  obtain ⟨sz0,sz1,sz2,sz3,hsz,hvsz⟩:=Cz (P2) (pm4 l1)
  have husz:w4C (P2)=[.pl (.u64 sz0),.pl (.u64 sz1),.pl (.u64 sz2),.pl (.u64 sz3)]:=by rw [w4C,hsz];rfl
  have hr:g0u kc U (t+1)=[.pl (.u64 sx0),.pl (.u64 sx1),.pl (.u64 sx2),.pl (.u64 sx3),.pl (.u64 fx0),.pl (.u64 fx1),.pl (.u64 fx2),.pl (.u64 fx3),.pl (.u64 sz0),.pl (.u64 sz1),.pl (.u64 sz2),.pl (.u64 sz3),.pl (.u64 fz0),.pl (.u64 fz1),.pl (.u64 fz2),.pl (.u64 fz3)]:=by rw [s0l hL hP hQ,o0v];simp only [hufx,hufz,husx,husz];rfl
  have hl8:n0h (lastB kc (t+1))=0:=by rw [hL];rfl
  have hS:=c2l sx0 sx1 sx2 sx3 fx0 fx1 fx2 fx3 sz0 sz1 sz2 sz3 fz0 fz1 fz2 fz3
  have hT:=x1i fx0 fx1 fx2 fx3 sx0 sx1 sx2 sx3 fz0 fz1 fz2 fz3 sz0 sz1 sz2 sz3 f0 f1 f2 f3 Q1 P1 Q2 P2 U hvfx l2 hvsx l0 hvfz l3 hvsz l1 hvf hUl
  rw [h1g,f1b] at hT
  obtain ⟨⟨D1,D2⟩,hD⟩: ∃ p,w0k ⟨Q1,Q2⟩=p:=⟨_,rfl⟩
  have hDo:=l0x ⟨Q1,Q2⟩
  obtain ⟨⟨E1,E2⟩,hE⟩: ∃ p,d0d ⟨P1,P2⟩ ⟨Q1,Q2⟩ U=p:=⟨_,rfl⟩
  have hEo:=g0a ⟨P1,P2⟩ ⟨Q1,Q2⟩ U
  rw [hD] at hT hDo
  rw [hE] at hT hEo
  obtain ⟨m0,m1⟩:=hDo
  obtain ⟨m2,m3⟩:=hEo
  change D1<p25 at m0
  change D2<p25 at m1
  change E1<p25 at m2
  change E2<p25 at m3
  obtain ⟨gx0,gx1,gx2,gx3,hgx,hvgx⟩:=Cz (D1) (pm4 m0)
  have hugx:w4C (D1)=[.pl (.u64 gx0),.pl (.u64 gx1),.pl (.u64 gx2),.pl (.u64 gx3)]:=by rw [w4C,hgx];rfl
  obtain ⟨gz0,gz1,gz2,gz3,hgz,hvgz⟩:=Cz (D2) (pm4 m1)
  have hugz:w4C (D2)=[.pl (.u64 gz0),.pl (.u64 gz1),.pl (.u64 gz2),.pl (.u64 gz3)]:=by rw [w4C,hgz];rfl
  obtain ⟨ex0,ex1,ex2,ex3,hex,hvex⟩:=Cz (E1) (pm4 m2)
  have huex:w4C (E1)=[.pl (.u64 ex0),.pl (.u64 ex1),.pl (.u64 ex2),.pl (.u64 ex3)]:=by rw [w4C,hex];rfl
  obtain ⟨ez0,ez1,ez2,ez3,hez,hvez⟩:=Cz (E2) (pm4 m3)
  have huez:w4C (E2)=[.pl (.u64 ez0),.pl (.u64 ez1),.pl (.u64 ez2),.pl (.u64 ez3)]:=by rw [w4C,hez];rfl
  have hres:w4C D1++(w4C E1++(w4C D2++w4C E2))=[.pl (.u64 gx0),.pl (.u64 gx1),.pl (.u64 gx2),.pl (.u64 gx3),.pl (.u64 ex0),.pl (.u64 ex1),.pl (.u64 ex2),.pl (.u64 ex3),.pl (.u64 gz0),.pl (.u64 gz1),.pl (.u64 gz2),.pl (.u64 gz3),.pl (.u64 ez0),.pl (.u64 ez1),.pl (.u64 ez2),.pl (.u64 ez3)]:=by simp only [hugx,hugz,huex,huez];rfl
  simp only [hres] at hT
  have hlt2:lastB kc t=true:=by rw [last_at ht,decide_eq_true hbit]
  have hof:=m2i ht hP hQ hbit
  rw [hD,hE] at hof
  have hnx:g0u kc U t=[.pl (.u64 gx0),.pl (.u64 gx1),.pl (.u64 gx2),.pl (.u64 gx3),.pl (.u64 ex0),.pl (.u64 ex1),.pl (.u64 ex2),.pl (.u64 ex3),.pl (.u64 gz0),.pl (.u64 gz1),.pl (.u64 gz2),.pl (.u64 gz3),.pl (.u64 ez0),.pl (.u64 ez1),.pl (.u64 ez2),.pl (.u64 ez3)]:=by
   rw [y0a hlt2 (congrArg Prod.fst hof) (congrArg Prod.snd hof)];exact hres
  have hln:n0h (lastB kc t)=1:=by rw [hlt2];rfl
  have o1:=Lv (q:=kc) (i:=t/8) (by omega)
  obtain ⟨c,hc8⟩: ∃ c,kc.getD (t/8) 0=c:=⟨_,rfl⟩
  rw [hc8] at o1
  have hbw:(t1p c (t%8)).toUInt64&&&1=1:=by rw [o0h,if_pos (by rw [←hc8];exact hbit)]
  have hj:(0:Int)≤((t/8:Nat):Int)∧((t/8:Nat):Int)<32∧t/8+1≤32∧(0:Int)≤((t%8:Nat):Int)∧(0:Int)≤((t:Nat):Int):=by omega
  have htd:((t:Nat):Int).tdiv 8=((t/8:Nat):Int):=rfl
  have htm:((t:Nat):Int).tmod 8=((t%8:Nat):Int):=rfl
  have hi:dn (t+1)=((t:Nat):Int):=by unfold dn;omega
  simp only [hr,hl8]
  obtain ⟨hs1,hwd⟩:Go.RowKit.wrap64 (((t:Nat):Int)-1)=dn t∧Go.RowKit.wrap64 ((t/8:Nat):Int)=((t/8:Nat):Int):=⟨b2u (by omega),Gy rfl (by omega)⟩
  have F0:=yA o1<|yA hbw<|yA hj<|yA htd<|yA htm<|yA hi<|yA hs1<|yA hwd<|yA @Fj<|yA @x00<|yA @x01<|yA @x10<|yA @x11<|F0
  have cq:=yA (Ct.cv (hS))<|yA (CtM.ch [] (hT.told))<|trivial
  have zr0:DS 9:=⟨⟩
  have zq:DP 0 6 [39,40,41,42,43,44] [0,0,0,6,15,0,63,127] []∧DN 2 8∧True:=⟨⟨⟩,⟨⟩,trivial⟩
  refine (fun zX=>goW) ?_
  refine xhN0 ⟨t,by omega⟩ _ ?_ ?_ ?_
  ·(exact yQ t)
  ·(simp only [hln,go_sem,leX,yB,yC];first|done|rfl|(simp [leX,look];done))
  (simp only [hnx,go_sem,leX,yB,yC];first|done|rfl|(simp [leX,look];done))
 ·have ht:t<255:=by omega
  obtain ⟨fx0,fx1,fx2,fx3,hfx,hvfx⟩:=Cz (P1) (pm4 l0)
  have hufx:w4C (P1)=[.pl (.u64 fx0),.pl (.u64 fx1),.pl (.u64 fx2),.pl (.u64 fx3)]:=by rw [w4C,hfx];rfl
  obtain ⟨fz0,fz1,fz2,fz3,hfz,hvfz⟩:=Cz (P2) (pm4 l1)
  have hufz:w4C (P2)=[.pl (.u64 fz0),.pl (.u64 fz1),.pl (.u64 fz2),.pl (.u64 fz3)]:=by rw [w4C,hfz];rfl
  obtain ⟨sx0,sx1,sx2,sx3,hsx,hvsx⟩:=Cz (Q1) (pm4 l2)
  have husx:w4C (Q1)=[.pl (.u64 sx0),.pl (.u64 sx1),.pl (.u64 sx2),.pl (.u64 sx3)]:=by rw [w4C,hsx];rfl
  obtain ⟨sz0,sz1,sz2,sz3,hsz,hvsz⟩:=Cz (Q2) (pm4 l3)
  have husz:w4C (Q2)=[.pl (.u64 sz0),.pl (.u64 sz1),.pl (.u64 sz2),.pl (.u64 sz3)]:=by rw [w4C,hsz];rfl
  have hr:g0u kc U (t+1)=[.pl (.u64 sx0),.pl (.u64 sx1),.pl (.u64 sx2),.pl (.u64 sx3),.pl (.u64 fx0),.pl (.u64 fx1),.pl (.u64 fx2),.pl (.u64 fx3),.pl (.u64 sz0),.pl (.u64 sz1),.pl (.u64 sz2),.pl (.u64 sz3),.pl (.u64 fz0),.pl (.u64 fz1),.pl (.u64 fz2),.pl (.u64 fz3)]:=by rw [y0a hL hP hQ,o0v];simp only [hufx,hufz,husx,husz];rfl
  have hl8:n0h (lastB kc (t+1))=1:=by rw [hL];rfl
  have hS:=c2l sx0 sx1 sx2 sx3 fx0 fx1 fx2 fx3 sz0 sz1 sz2 sz3 fz0 fz1 fz2 fz3
  have hT:=x1i fx0 fx1 fx2 fx3 sx0 sx1 sx2 sx3 fz0 fz1 fz2 fz3 sz0 sz1 sz2 sz3 f0 f1 f2 f3 P1 Q1 P2 Q2 U hvfx l0 hvsx l2 hvfz l1 hvsz l3 hvf hUl
  rw [h1g,l1p] at hT
  obtain ⟨⟨D1,D2⟩,hD⟩: ∃ p,w0k ⟨P1,P2⟩=p:=⟨_,rfl⟩
  have hDo:=l0x ⟨P1,P2⟩
  obtain ⟨⟨E1,E2⟩,hE⟩: ∃ p,d0d ⟨P1,P2⟩ ⟨Q1,Q2⟩ U=p:=⟨_,rfl⟩
  have hEo:=g0a ⟨P1,P2⟩ ⟨Q1,Q2⟩ U
  rw [hD] at hT hDo
  rw [hE] at hT hEo
  obtain ⟨m0,m1⟩:=hDo
  obtain ⟨m2,m3⟩:=hEo
  change D1<p25 at m0
  change D2<p25 at m1
  change E1<p25 at m2
  change E2<p25 at m3
  obtain ⟨gx0,gx1,gx2,gx3,hgx,hvgx⟩:=Cz (D1) (pm4 m0)
  have hugx:w4C (D1)=[.pl (.u64 gx0),.pl (.u64 gx1),.pl (.u64 gx2),.pl (.u64 gx3)]:=by rw [w4C,hgx];rfl
  obtain ⟨gz0,gz1,gz2,gz3,hgz,hvgz⟩:=Cz (D2) (pm4 m1)
  have hugz:w4C (D2)=[.pl (.u64 gz0),.pl (.u64 gz1),.pl (.u64 gz2),.pl (.u64 gz3)]:=by rw [w4C,hgz];rfl
  obtain ⟨ex0,ex1,ex2,ex3,hex,hvex⟩:=Cz (E1) (pm4 m2)
  have huex:w4C (E1)=[.pl (.u64 ex0),.pl (.u64 ex1),.pl (.u64 ex2),.pl (.u64 ex3)]:=by rw [w4C,hex];rfl
  obtain ⟨ez0,ez1,ez2,ez3,hez,hvez⟩:=Cz (E2) (pm4 m3)
  have huez:w4C (E2)=[.pl (.u64 ez0),.pl (.u64 ez1),.pl (.u64 ez2),.pl (.u64 ez3)]:=by rw [w4C,hez];rfl
  have hres:w4C D1++(w4C E1++(w4C D2++w4C E2))=[.pl (.u64 gx0),.pl (.u64 gx1),.pl (.u64 gx2),.pl (.u64 gx3),.pl (.u64 ex0),.pl (.u64 ex1),.pl (.u64 ex2),.pl (.u64 ex3),.pl (.u64 gz0),.pl (.u64 gz1),.pl (.u64 gz2),.pl (.u64 gz3),.pl (.u64 ez0),.pl (.u64 ez1),.pl (.u64 ez2),.pl (.u64 ez3)]:=by simp only [hugx,hugz,huex,huez];rfl
  simp only [hres] at hT
  have hlt2:lastB kc t=false:=by rw [last_at ht,decide_eq_false hbit]
  have hof:=m2j ht hP hQ hbit
  rw [hD,hE] at hof
  have hnx:g0u kc U t=[.pl (.u64 gx0),.pl (.u64 gx1),.pl (.u64 gx2),.pl (.u64 gx3),.pl (.u64 ex0),.pl (.u64 ex1),.pl (.u64 ex2),.pl (.u64 ex3),.pl (.u64 gz0),.pl (.u64 gz1),.pl (.u64 gz2),.pl (.u64 gz3),.pl (.u64 ez0),.pl (.u64 ez1),.pl (.u64 ez2),.pl (.u64 ez3)]:=by
   rw [s0l hlt2 (congrArg Prod.fst hof) (congrArg Prod.snd hof)];exact hres
  have hln:n0h (lastB kc t)=0:=by rw [hlt2];rfl
  have o1:=Lv (q:=kc) (i:=t/8) (by omega)
  obtain ⟨c,hc8⟩: ∃ c,kc.getD (t/8) 0=c:=⟨_,rfl⟩
  rw [hc8] at o1
  have hbw:(t1p c (t%8)).toUInt64&&&1=0:=by rw [o0h,if_neg (by rw [←hc8];exact hbit)]
  have hj:(0:Int)≤((t/8:Nat):Int)∧((t/8:Nat):Int)<32∧t/8+1≤32∧(0:Int)≤((t%8:Nat):Int)∧(0:Int)≤((t:Nat):Int):=by omega
  have htd:((t:Nat):Int).tdiv 8=((t/8:Nat):Int):=rfl
  have htm:((t:Nat):Int).tmod 8=((t%8:Nat):Int):=rfl
  have hi:dn (t+1)=((t:Nat):Int):=by unfold dn;omega
  simp only [hr,hl8]
  obtain ⟨hs1,hwd⟩:Go.RowKit.wrap64 (((t:Nat):Int)-1)=dn t∧Go.RowKit.wrap64 ((t/8:Nat):Int)=((t/8:Nat):Int):=⟨b2u (by omega),Gy rfl (by omega)⟩
  have F0:=yA o1<|yA hbw<|yA hj<|yA htd<|yA htm<|yA hi<|yA hs1<|yA hwd<|yA @Fj<|yA @x00<|yA @x01<|yA @x10<|yA @x11<|F0
  have cq:=yA (Ct.cv (hS))<|yA (CtM.ch [] (hT.told))<|trivial
  have zr0:DS 9:=⟨⟩
  have zq:DP 0 6 [39,40,41,42,43,44] [0,0,0,6,15,0,63,127] []∧DN 2 8∧True:=⟨⟨⟩,⟨⟩,trivial⟩
  refine (fun zX=>goW) ?_
  refine xhN0 ⟨t,by omega⟩ _ ?_ ?_ ?_
  ·(exact yQ t)
  ·(simp only [hln,go_sem,leX,yB,yC];first|done|rfl|(simp [leX,look];done))
  (simp only [hnx,go_sem,leX,yB,yC];first|done|rfl|(simp [leX,look];done))
 have ht:t<255:=by omega
 obtain ⟨fx0,fx1,fx2,fx3,hfx,hvfx⟩:=Cz (Q1) (pm4 l2)
 have hufx:w4C (Q1)=[.pl (.u64 fx0),.pl (.u64 fx1),.pl (.u64 fx2),.pl (.u64 fx3)]:=by rw [w4C,hfx];rfl
 obtain ⟨fz0,fz1,fz2,fz3,hfz,hvfz⟩:=Cz (Q2) (pm4 l3)
 have hufz:w4C (Q2)=[.pl (.u64 fz0),.pl (.u64 fz1),.pl (.u64 fz2),.pl (.u64 fz3)]:=by rw [w4C,hfz];rfl
 obtain ⟨sx0,sx1,sx2,sx3,hsx,hvsx⟩:=Cz (P1) (pm4 l0)
 have husx:w4C (P1)=[.pl (.u64 sx0),.pl (.u64 sx1),.pl (.u64 sx2),.pl (.u64 sx3)]:=by rw [w4C,hsx];rfl
 obtain ⟨sz0,sz1,sz2,sz3,hsz,hvsz⟩:=Cz (P2) (pm4 l1)
 have husz:w4C (P2)=[.pl (.u64 sz0),.pl (.u64 sz1),.pl (.u64 sz2),.pl (.u64 sz3)]:=by rw [w4C,hsz];rfl
 have hr:g0u kc U (t+1)=[.pl (.u64 fx0),.pl (.u64 fx1),.pl (.u64 fx2),.pl (.u64 fx3),.pl (.u64 sx0),.pl (.u64 sx1),.pl (.u64 sx2),.pl (.u64 sx3),.pl (.u64 fz0),.pl (.u64 fz1),.pl (.u64 fz2),.pl (.u64 fz3),.pl (.u64 sz0),.pl (.u64 sz1),.pl (.u64 sz2),.pl (.u64 sz3)]:=by rw [y0a hL hP hQ,o0v];simp only [hufx,hufz,husx,husz];rfl
 have hl8:n0h (lastB kc (t+1))=1:=by rw [hL];rfl
 have hS:=c2m fx0 fx1 fx2 fx3 sx0 sx1 sx2 sx3 fz0 fz1 fz2 fz3 sz0 sz1 sz2 sz3
 have hT:=x1i fx0 fx1 fx2 fx3 sx0 sx1 sx2 sx3 fz0 fz1 fz2 fz3 sz0 sz1 sz2 sz3 f0 f1 f2 f3 Q1 P1 Q2 P2 U hvfx l2 hvsx l0 hvfz l3 hvsz l1 hvf hUl
 rw [h1g,f1b] at hT
 obtain ⟨⟨D1,D2⟩,hD⟩: ∃ p,w0k ⟨Q1,Q2⟩=p:=⟨_,rfl⟩
 have hDo:=l0x ⟨Q1,Q2⟩
 obtain ⟨⟨E1,E2⟩,hE⟩: ∃ p,d0d ⟨P1,P2⟩ ⟨Q1,Q2⟩ U=p:=⟨_,rfl⟩
 have hEo:=g0a ⟨P1,P2⟩ ⟨Q1,Q2⟩ U
 rw [hD] at hT hDo
 rw [hE] at hT hEo
 obtain ⟨m0,m1⟩:=hDo
 obtain ⟨m2,m3⟩:=hEo
 change D1<p25 at m0
 change D2<p25 at m1
 change E1<p25 at m2
 change E2<p25 at m3
 obtain ⟨gx0,gx1,gx2,gx3,hgx,hvgx⟩:=Cz (D1) (pm4 m0)
 have hugx:w4C (D1)=[.pl (.u64 gx0),.pl (.u64 gx1),.pl (.u64 gx2),.pl (.u64 gx3)]:=by rw [w4C,hgx];rfl
 obtain ⟨gz0,gz1,gz2,gz3,hgz,hvgz⟩:=Cz (D2) (pm4 m1)
 have hugz:w4C (D2)=[.pl (.u64 gz0),.pl (.u64 gz1),.pl (.u64 gz2),.pl (.u64 gz3)]:=by rw [w4C,hgz];rfl
 obtain ⟨ex0,ex1,ex2,ex3,hex,hvex⟩:=Cz (E1) (pm4 m2)
 have huex:w4C (E1)=[.pl (.u64 ex0),.pl (.u64 ex1),.pl (.u64 ex2),.pl (.u64 ex3)]:=by rw [w4C,hex];rfl
 obtain ⟨ez0,ez1,ez2,ez3,hez,hvez⟩:=Cz (E2) (pm4 m3)
 have huez:w4C (E2)=[.pl (.u64 ez0),.pl (.u64 ez1),.pl (.u64 ez2),.pl (.u64 ez3)]:=by rw [w4C,hez];rfl
 have hres:w4C D1++(w4C E1++(w4C D2++w4C E2))=[.pl (.u64 gx0),.pl (.u64 gx1),.pl (.u64 gx2),.pl (.u64 gx3),.pl (.u64 ex0),.pl (.u64 ex1),.pl (.u64 ex2),.pl (.u64 ex3),.pl (.u64 gz0),.pl (.u64 gz1),.pl (.u64 gz2),.pl (.u64 gz3),.pl (.u64 ez0),.pl (.u64 ez1),.pl (.u64 ez2),.pl (.u64 ez3)]:=by simp only [hugx,hugz,huex,huez];rfl
 simp only [hres] at hT
 have hlt2:lastB kc t=true:=by rw [last_at ht,decide_eq_true hbit]
 have hof:=m2i ht hP hQ hbit
 rw [hD,hE] at hof
 have hnx:g0u kc U t=[.pl (.u64 gx0),.pl (.u64 gx1),.pl (.u64 gx2),.pl (.u64 gx3),.pl (.u64 ex0),.pl (.u64 ex1),.pl (.u64 ex2),.pl (.u64 ex3),.pl (.u64 gz0),.pl (.u64 gz1),.pl (.u64 gz2),.pl (.u64 gz3),.pl (.u64 ez0),.pl (.u64 ez1),.pl (.u64 ez2),.pl (.u64 ez3)]:=by
  rw [y0a hlt2 (congrArg Prod.fst hof) (congrArg Prod.snd hof)];exact hres
 have hln:n0h (lastB kc t)=1:=by rw [hlt2];rfl
 have o1:=Lv (q:=kc) (i:=t/8) (by omega)
 obtain ⟨c,hc8⟩: ∃ c,kc.getD (t/8) 0=c:=⟨_,rfl⟩
 rw [hc8] at o1
 have hbw:(t1p c (t%8)).toUInt64&&&1=1:=by rw [o0h,if_pos (by rw [←hc8];exact hbit)]
 have hj:(0:Int)≤((t/8:Nat):Int)∧((t/8:Nat):Int)<32∧t/8+1≤32∧(0:Int)≤((t%8:Nat):Int)∧(0:Int)≤((t:Nat):Int):=by omega
 have htd:((t:Nat):Int).tdiv 8=((t/8:Nat):Int):=rfl
 have htm:((t:Nat):Int).tmod 8=((t%8:Nat):Int):=rfl
 have hi:dn (t+1)=((t:Nat):Int):=by unfold dn;omega
 simp only [hr,hl8]
 obtain ⟨hs1,hwd⟩:Go.RowKit.wrap64 (((t:Nat):Int)-1)=dn t∧Go.RowKit.wrap64 ((t/8:Nat):Int)=((t/8:Nat):Int):=⟨b2u (by omega),Gy rfl (by omega)⟩
 have F0:=yA o1<|yA hbw<|yA hj<|yA htd<|yA htm<|yA hi<|yA hs1<|yA hwd<|yA @Fj<|yA @x00<|yA @x01<|yA @x10<|yA @x11<|F0
 have cq:=yA (Ct.cv (hS))<|yA (CtM.ch [] (hT.told))<|trivial
 have zr0:DS 9:=⟨⟩
 have zq:DP 0 6 [39,40,41,42,43,44] [0,0,0,6,15,0,63,127] []∧DN 2 8∧True:=⟨⟨⟩,⟨⟩,trivial⟩
 refine (fun zX=>goW) ?_
 refine xhN0 ⟨t,by omega⟩ _ ?_ ?_ ?_
 ·(exact yQ t)
 ·(simp only [hln,go_sem,leX,yB,yC];first|done|rfl|(simp [leX,look];done))
 (simp only [hnx,go_sem,leX,yB,yC];first|done|rfl|(simp [leX,look];done))
end Lk
end Go.Sy
namespace Go.Sy
namespace Lk
open Go.Proofs
attribute [local irreducible] Bw HT Aj Jk onC onE onO onG goV goA goS Lx Bz
def s0q :List UInt64:=[18446744073709551597,18446744073709551615,18446744073709551615,9223372036854775807]
def nine :List UInt8:=9::List.replicate 31 0
theorem p0j :nine.length=32:=rfl
theorem r2c (k:List UInt8) (hk:k.length=32):
 CtM Tryz.prog 12 [.w (.agg (Az k))] [(1000001,⟨false,gPr⟩)] (Told (fun v m=>v=.w (.agg (Az (wB (t0c k nine))))∧m=[])):=by
 obtain ⟨n,hn⟩: ∃ n,t0c k nine=n:=⟨_,rfl⟩
 obtain ⟨b,hb⟩: ∃ b,wB n=b:=⟨_,rfl⟩
 have hbl:b.length=32:=by rw [←hb];exact Zy n
 obtain ⟨t,ht⟩: ∃ t,(!decide (b=List.replicate 32 0))=t:=⟨_,rfl⟩
 have hM:=q2w k nine hk p0j
 rw [hn,tell,hb,ht] at hM
 rw [hn,hb]
 have F0:=yA hk<|hbl
 refine CtM.go Tryz.func12 rfl Tryz.ntmps12 Tryz.results12 fun w0 ro may fx zZ zhY=>?_
 have cq:=yA (CtM.ch [] (hM.told))<|trivial
 refine (fun zX=>goW) ?_
 refine zhY _ _ ?_
 simp only [go_sem,F0]
 all_goals (exact told_plain (by simp [Dv,Ew,Az]) ⟨rfl,rfl⟩)
theorem q2f (k:List UInt8) (hk:k.length=32):
 CtM Tryz.prog 19 [.w (.agg (Az k))] [(1000000,⟨false,Dz Nw⟩)] (Told (fun v m=>v=.w (.agg (Az (wB (t0c k nine))))∧m=[])):=by
 obtain ⟨n,hn⟩: ∃ n,t0c k nine=n:=⟨_,rfl⟩
 obtain ⟨b,hb⟩: ∃ b,wB n=b:=⟨_,rfl⟩
 have hbl:b.length=32:=by rw [←hb];exact Zy n
 obtain ⟨t,ht⟩: ∃ t,(!decide (b=List.replicate 32 0))=t:=⟨_,rfl⟩
 have hM:=q2b k nine hk p0j
 rw [hn,tell,hb,ht] at hM
 rw [hn,hb]
 have F0:=yA hk<|hbl
 refine CtM.go Tryz.func19 rfl Tryz.ntmps19 Tryz.results19 fun w0 ro may fx zZ zhY=>?_
 have cq:=yA (CtM.ch [] (hM.told))<|trivial
 refine (fun zX=>goW) ?_
 refine zhY _ _ ?_
 simp only [go_sem,F0]
 all_goals (exact told_plain (by simp [Dv,Ew,Az]) ⟨rfl,rfl⟩)
end Lk
end Go.Sy
namespace Go.Sy
namespace Rk
open Go.Proofs
attribute [local irreducible] Bw HT Aj Jk onC onE onO onG goV goA goS Lx Bz
abbrev Z32 :List UInt8:=List.replicate 32 0
structure l1i where
 root:List UInt8
 own:List UInt8
 peer:List UInt8
 send:List UInt8
 out:Int
 recv:List UInt8
 inn:Int
 last:Int
 can:Bool
 hear:Bool
 ks:List Gz
def l1i.ok (t:l1i):Prop:=t.root.length=32∧t.own.length=32∧t.peer.length=32∧t.send.length=32∧t.recv.length=32∧(∀ k∈t.ks,k.ok)∧t.ks.length≤1000
abbrev l1i.c (t:l1i):List L:=rtC t.root t.own t.peer t.send t.out t.recv t.inn t.last t.can t.hear t.ks
def c1o (key:List UInt8) (last n:Int):List L:=Az key++[.pl (.i last),.pl (.i n)]
def s0y :l1i:=⟨Z32,Z32,Z32,Z32,0,Z32,0,0,false,false,[]⟩
theorem o1x :s0y.ok:=⟨rfl,rfl,rfl,rfl,rfl,fun k h=>(by cases h),by decide⟩
structure SlO where
 t:l1i
 key:List UInt8
 last:Int
 n:Int
 b:List UInt8
 e:Int
def SlO.ok (o:SlO):Prop:=o.t.ok∧o.key.length=32
abbrev SlO.v (o:SlO):V:=.tup [.agg o.t.c,.agg (c1o o.key o.last o.n),.one (.pl (.R false 1 (Av o.b))),.one (.pl (.i o.e))]
def SlO.R (o:SlO) (v:V) (m:List (Nat×Ob)):Prop:=v=o.v∧m=[]
def h0w (e:Int):SlO:=⟨s0y,Z32,0,0,[],e⟩
def rtX (ex:Bool) (sz:Nat) (root own peer send:List UInt8) (out:Int) (recv:List UInt8) (inn last:Int) (can hear:Bool) (rows:List (List PL)):List L:=
 Az root++(Az own++(Az peer++(Az send++(.pl (.i out)::(Az recv++(.pl (.i inn)::.pl (.i last)::.pl (.b can)::.pl (.b hear)::[.pl (.R ex sz rows)]))))))
theorem a1x {d:Va} {a a':L} (h: ∀ y,a.den d y→a'.den d y): ∀ {xs:List L} {vs:List Value},Fv (L.den d) (xs++[a]) vs→Fv (L.den d) (xs++[a']) vs
 | [],_,.cons h1 h2=>.cons (h _ h1) h2
 |x::xs,_,.cons h1 h2=>.cons h1 (a1x h h2)
theorem Yk {e:Int} {m:List (Nat×Ob)}:Told (h0w e).R (.tup [.agg (rtX true 1 Z32 Z32 Z32 Z32 0 Z32 0 0 false false []),.agg (c1o Z32 0 0),.one (.pl (.R true 1 [])),.one (.pl (.i e))]) m:=by
 refine i0w (v':=(h0w e).v) (fun d y hv=>?_) (told_plain (by simp [Dv,Ew,Az,rtC,c1o,h0w,s0y]) ⟨rfl,rfl⟩)
 obtain ⟨vs,rfl,hv⟩:=hv
 refine ⟨vs,rfl,?_⟩
 generalize vs.toList=l at hv
 cases hv with
 |cons h1 hv=>cases hv with
  |cons h2 hv=>cases hv with
   |cons h3 h4=>
    obtain ⟨us,rfl,h1⟩:=h1
    refine .cons ⟨us,rfl,?_⟩ (.cons h2 (.cons ?_ h4))
    ·have e1:rtX true 1 Z32 Z32 Z32 Z32 0 Z32 0 0 false false []=(Az Z32++(Az Z32++(Az Z32++(Az Z32++(.pl (.i 0)::(Az Z32++[.pl (.i 0),.pl (.i 0),.pl (.b false),.pl (.b false)]))))))++[.pl (.R true 1 [])]:=by simp [rtX]
     have e2:s0y.c=(Az Z32++(Az Z32++(Az Z32++(Az Z32++(.pl (.i 0)::(Az Z32++[.pl (.i 0),.pl (.i 0),.pl (.b false),.pl (.b false)]))))))++[.pl (.R false 65 [])]:=by simp [rtC,s0y]
     rw [e1] at h1
     rw [show (h0w e).t.c=s0y.c from rfl,e2]
     exact a1x (a:=.pl (.R true 1 [])) (a':=.pl (.R false 65 [])) (fun y h=>k0l d y (r0d h)) h1
    exact k0l d _ h3
end Rk
end Go.Sy
namespace Go.Sy
namespace Rk
open Go.Proofs
attribute [local irreducible] Bw HT Aj Jk onC onE onO onG goV goA goS Lx Bz
theorem i1g (root own peer send:List UInt8) (out:Int) (recv:List UInt8) (inn last:Int) (can hear:Bool) (ks:List Gz) (hr:root.length=32) (hw:own.length=32) (hp:peer.length=32) (hs:send.length=32) (hv:recv.length=32) (hk: ∀ k∈ks,k.ok) (ad text:List UInt8) (ex1 ex2:Bool) (hte:Tv out inn last ks=9):
 CtM Tryz.prog 5 [.w (.agg (rtC root own peer send out recv inn last can hear ks)),.w (.one (.pl (.R ex1 1 (Av ad)))),.w (.one (.pl (.R ex2 1 (Av text))))] [(1000001,⟨false,gPr⟩),(1000002,⟨false,gFi⟩),(1000004,⟨false,Bk.j0h⟩)] (Told (h0w 9).R):=by
 have hA:=l0h root own peer send out recv inn last can hear ks hr hw hp hs hv hk
 rw [hte] at hA
 have F0:=yA rtC.eq_1<|yA hr<|yA hw<|yA hp<|yA hs<|yA hv<|@Aw
 refine CtM.go Tryz.func5 rfl Tryz.ntmps5 Tryz.results5 fun w0 ro may fx zZ zhY=>?_
 have cq:=yA ((hA.plain fun _ _ h=>h))<|trivial
 refine (fun zX=>goW) ?_
 refine zhY _ _ ?_
 simp only [go_sem,F0]
 all_goals (exact Yk)
theorem x0c (root own peer send:List UInt8) (out:Int) (recv:List UInt8) (inn last:Int) (can hear:Bool) (ks:List Gz) (hr:root.length=32) (hw:own.length=32) (hp:peer.length=32) (hs:send.length=32) (hv:recv.length=32) (hk: ∀ k∈ks,k.ok) (ad text:List UInt8) (ex1 ex2:Bool) (hlen:ks.length≤9223372036854775807) (hte:Tv out inn last ks=9):
 CtM Tryz.prog 6 [.w (.agg (rtC root own peer send out recv inn last can hear ks)),.w (.one (.pl (.R ex1 1 (Av ad)))),.w (.one (.pl (.R ex2 1 (Av text))))] [(1000000,⟨false,Dz Nw⟩),(1000003,⟨false,gFi⟩)] (Told (h0w 9).R):=by
 have hA:=l0g root own peer send out recv inn last can hear ks hr hw hp hs hv hk hlen
 rw [hte] at hA
 have F0:=yA rtC.eq_1<|yA hr<|yA hw<|yA hp<|yA hs<|yA hv<|@Aw
 refine CtM.go Tryz.func6 rfl Tryz.ntmps6 Tryz.results6 fun w0 ro may fx zZ zhY=>?_
 have cq:=yA ((hA.plain fun _ _ h=>h))<|trivial
 refine (fun zX=>goW) ?_
 refine zhY _ _ ?_
 simp only [go_sem,F0]
 all_goals (exact Yk)
theorem i1f (root own peer send:List UInt8) (out:Int) (recv:List UInt8) (inn last:Int) (can hear:Bool) (ks:List Gz) (hr:root.length=32) (hw:own.length=32) (hp:peer.length=32) (hs:send.length=32) (hv:recv.length=32) (hk: ∀ k∈ks,k.ok) (ad text:List UInt8) (ex1 ex2:Bool) (hte:Tv out inn last ks=0) (hcan:can=false):
 CtM Tryz.prog 5 [.w (.agg (rtC root own peer send out recv inn last can hear ks)),.w (.one (.pl (.R ex1 1 (Av ad)))),.w (.one (.pl (.R ex2 1 (Av text))))] [(1000001,⟨false,gPr⟩),(1000002,⟨false,gFi⟩),(1000004,⟨false,Bk.j0h⟩)] (Told (h0w 9).R):=by
 have hA:=l0h root own peer send out recv inn last can hear ks hr hw hp hs hv hk
 rw [hte] at hA
 have F0:=yA rtC.eq_1<|yA hr<|yA hw<|yA hp<|yA hs<|yA hv<|yA @Aw<|hcan
 refine CtM.go Tryz.func5 rfl Tryz.ntmps5 Tryz.results5 fun w0 ro may fx zZ zhY=>?_
 have cq:=yA ((hA.plain fun _ _ h=>h))<|trivial
 refine (fun zX=>goW) ?_
 refine zhY _ _ ?_
 simp only [go_sem,F0]
 all_goals (exact Yk)
theorem x0b (root own peer send:List UInt8) (out:Int) (recv:List UInt8) (inn last:Int) (can hear:Bool) (ks:List Gz) (hr:root.length=32) (hw:own.length=32) (hp:peer.length=32) (hs:send.length=32) (hv:recv.length=32) (hk: ∀ k∈ks,k.ok) (ad text:List UInt8) (ex1 ex2:Bool) (hlen:ks.length≤9223372036854775807) (hte:Tv out inn last ks=0) (hcan:can=false):
 CtM Tryz.prog 6 [.w (.agg (rtC root own peer send out recv inn last can hear ks)),.w (.one (.pl (.R ex1 1 (Av ad)))),.w (.one (.pl (.R ex2 1 (Av text))))] [(1000000,⟨false,Dz Nw⟩),(1000003,⟨false,gFi⟩)] (Told (h0w 9).R):=by
 have hA:=l0g root own peer send out recv inn last can hear ks hr hw hp hs hv hk hlen
 rw [hte] at hA
 have F0:=yA rtC.eq_1<|yA hr<|yA hw<|yA hp<|yA hs<|yA hv<|yA @Aw<|hcan
 refine CtM.go Tryz.func6 rfl Tryz.ntmps6 Tryz.results6 fun w0 ro may fx zZ zhY=>?_
 have cq:=yA ((hA.plain fun _ _ h=>h))<|trivial
 refine (fun zX=>goW) ?_
 refine zhY _ _ ?_
 simp only [go_sem,F0]
 all_goals (exact Yk)
theorem i1e (root own peer send:List UInt8) (out:Int) (recv:List UInt8) (inn last:Int) (can hear:Bool) (ks:List Gz) (hr:root.length=32) (hw:own.length=32) (hp:peer.length=32) (hs:send.length=32) (hv:recv.length=32) (hk: ∀ k∈ks,k.ok) (ad text:List UInt8) (ex1 ex2:Bool) (hte:Tv out inn last ks=0) (hcan:can=true) (g1:(400:Int)<((text.length:Nat):Int)):
 CtM Tryz.prog 5 [.w (.agg (rtC root own peer send out recv inn last can hear ks)),.w (.one (.pl (.R ex1 1 (Av ad)))),.w (.one (.pl (.R ex2 1 (Av text))))] [(1000001,⟨false,gPr⟩),(1000002,⟨false,gFi⟩),(1000004,⟨false,Bk.j0h⟩)] (Told (h0w 1).R):=by
 have hA:=l0h root own peer send out recv inn last can hear ks hr hw hp hs hv hk
 rw [hte] at hA
 have F0:=yA rtC.eq_1<|yA hr<|yA hw<|yA hp<|yA hs<|yA hv<|yA @Aw<|yA hcan<|g1
 refine CtM.go Tryz.func5 rfl Tryz.ntmps5 Tryz.results5 fun w0 ro may fx zZ zhY=>?_
 have cq:=yA ((hA.plain fun _ _ h=>h))<|trivial
 refine (fun zX=>goW) ?_
 refine zhY _ _ ?_
 simp only [go_sem,F0]
 all_goals (exact Yk)
theorem w0z (root own peer send:List UInt8) (out:Int) (recv:List UInt8) (inn last:Int) (can hear:Bool) (ks:List Gz) (hr:root.length=32) (hw:own.length=32) (hp:peer.length=32) (hs:send.length=32) (hv:recv.length=32) (hk: ∀ k∈ks,k.ok) (ad text:List UInt8) (ex1 ex2:Bool) (hlen:ks.length≤9223372036854775807) (hte:Tv out inn last ks=0) (hcan:can=true) (g1:(400:Int)<((text.length:Nat):Int)):
 CtM Tryz.prog 6 [.w (.agg (rtC root own peer send out recv inn last can hear ks)),.w (.one (.pl (.R ex1 1 (Av ad)))),.w (.one (.pl (.R ex2 1 (Av text))))] [(1000000,⟨false,Dz Nw⟩),(1000003,⟨false,gFi⟩)] (Told (h0w 1).R):=by
 have hA:=l0g root own peer send out recv inn last can hear ks hr hw hp hs hv hk hlen
 rw [hte] at hA
 have F0:=yA rtC.eq_1<|yA hr<|yA hw<|yA hp<|yA hs<|yA hv<|yA @Aw<|yA hcan<|g1
 refine CtM.go Tryz.func6 rfl Tryz.ntmps6 Tryz.results6 fun w0 ro may fx zZ zhY=>?_
 have cq:=yA ((hA.plain fun _ _ h=>h))<|trivial
 refine (fun zX=>goW) ?_
 refine zhY _ _ ?_
 simp only [go_sem,F0]
 all_goals (exact Yk)
theorem i1d (root own peer send:List UInt8) (out:Int) (recv:List UInt8) (inn last:Int) (can hear:Bool) (ks:List Gz) (hr:root.length=32) (hw:own.length=32) (hp:peer.length=32) (hs:send.length=32) (hv:recv.length=32) (hk: ∀ k∈ks,k.ok) (ad text:List UInt8) (ex1 ex2:Bool) (hte:Tv out inn last ks=0) (hcan:can=true) (g1:¬(400:Int)<((text.length:Nat):Int)) (g2:(160:Int)<((ad.length:Nat):Int)):
 CtM Tryz.prog 5 [.w (.agg (rtC root own peer send out recv inn last can hear ks)),.w (.one (.pl (.R ex1 1 (Av ad)))),.w (.one (.pl (.R ex2 1 (Av text))))] [(1000001,⟨false,gPr⟩),(1000002,⟨false,gFi⟩),(1000004,⟨false,Bk.j0h⟩)] (Told (h0w 1).R):=by
 have hA:=l0h root own peer send out recv inn last can hear ks hr hw hp hs hv hk
 rw [hte] at hA
 have F0:=yA rtC.eq_1<|yA hr<|yA hw<|yA hp<|yA hs<|yA hv<|yA @Aw<|yA hcan<|yA g1<|g2
 refine CtM.go Tryz.func5 rfl Tryz.ntmps5 Tryz.results5 fun w0 ro may fx zZ zhY=>?_
 have cq:=yA ((hA.plain fun _ _ h=>h))<|trivial
 refine (fun zX=>goW) ?_
 refine zhY _ _ ?_
 simp only [go_sem,F0]
 all_goals (exact Yk)
theorem w0y (root own peer send:List UInt8) (out:Int) (recv:List UInt8) (inn last:Int) (can hear:Bool) (ks:List Gz) (hr:root.length=32) (hw:own.length=32) (hp:peer.length=32) (hs:send.length=32) (hv:recv.length=32) (hk: ∀ k∈ks,k.ok) (ad text:List UInt8) (ex1 ex2:Bool) (hlen:ks.length≤9223372036854775807) (hte:Tv out inn last ks=0) (hcan:can=true) (g1:¬(400:Int)<((text.length:Nat):Int)) (g2:(160:Int)<((ad.length:Nat):Int)):
 CtM Tryz.prog 6 [.w (.agg (rtC root own peer send out recv inn last can hear ks)),.w (.one (.pl (.R ex1 1 (Av ad)))),.w (.one (.pl (.R ex2 1 (Av text))))] [(1000000,⟨false,Dz Nw⟩),(1000003,⟨false,gFi⟩)] (Told (h0w 1).R):=by
 have hA:=l0g root own peer send out recv inn last can hear ks hr hw hp hs hv hk hlen
 rw [hte] at hA
 have F0:=yA rtC.eq_1<|yA hr<|yA hw<|yA hp<|yA hs<|yA hv<|yA @Aw<|yA hcan<|yA g1<|g2
 refine CtM.go Tryz.func6 rfl Tryz.ntmps6 Tryz.results6 fun w0 ro may fx zZ zhY=>?_
 have cq:=yA ((hA.plain fun _ _ h=>h))<|trivial
 refine (fun zX=>goW) ?_
 refine zhY _ _ ?_
 simp only [go_sem,F0]
 all_goals (exact Yk)
theorem i1c (root own peer send:List UInt8) (out:Int) (recv:List UInt8) (inn last:Int) (can hear:Bool) (ks:List Gz) (hr:root.length=32) (hw:own.length=32) (hp:peer.length=32) (hs:send.length=32) (hv:recv.length=32) (hk: ∀ k∈ks,k.ok) (ad text:List UInt8) (ex1 ex2:Bool) (hte:Tv out inn last ks=0) (hcan:can=true) (g1:¬(400:Int)<((text.length:Nat):Int)) (g2:¬(160:Int)<((ad.length:Nat):Int)) (g3:out=1073741824):
 CtM Tryz.prog 5 [.w (.agg (rtC root own peer send out recv inn last can hear ks)),.w (.one (.pl (.R ex1 1 (Av ad)))),.w (.one (.pl (.R ex2 1 (Av text))))] [(1000001,⟨false,gPr⟩),(1000002,⟨false,gFi⟩),(1000004,⟨false,Bk.j0h⟩)] (Told (h0w 11).R):=by
 have hA:=l0h root own peer send out recv inn last can hear ks hr hw hp hs hv hk
 rw [hte] at hA
 have g4:(1073741824:Int)≤out:=by omega
 have F0:=yA rtC.eq_1<|yA hr<|yA hw<|yA hp<|yA hs<|yA hv<|yA @Aw<|yA hcan<|yA g1<|yA g2<|yA g3<|g4
 refine CtM.go Tryz.func5 rfl Tryz.ntmps5 Tryz.results5 fun w0 ro may fx zZ zhY=>?_
 have cq:=yA ((hA.plain fun _ _ h=>h))<|trivial
 refine (fun zX=>goW) ?_
 refine zhY _ _ ?_
 simp only [go_sem,F0]
 all_goals (exact Yk)
theorem w0x (root own peer send:List UInt8) (out:Int) (recv:List UInt8) (inn last:Int) (can hear:Bool) (ks:List Gz) (hr:root.length=32) (hw:own.length=32) (hp:peer.length=32) (hs:send.length=32) (hv:recv.length=32) (hk: ∀ k∈ks,k.ok) (ad text:List UInt8) (ex1 ex2:Bool) (hlen:ks.length≤9223372036854775807) (hte:Tv out inn last ks=0) (hcan:can=true) (g1:¬(400:Int)<((text.length:Nat):Int)) (g2:¬(160:Int)<((ad.length:Nat):Int)) (g3:out=1073741824):
 CtM Tryz.prog 6 [.w (.agg (rtC root own peer send out recv inn last can hear ks)),.w (.one (.pl (.R ex1 1 (Av ad)))),.w (.one (.pl (.R ex2 1 (Av text))))] [(1000000,⟨false,Dz Nw⟩),(1000003,⟨false,gFi⟩)] (Told (h0w 11).R):=by
 have hA:=l0g root own peer send out recv inn last can hear ks hr hw hp hs hv hk hlen
 rw [hte] at hA
 have g4:(1073741824:Int)≤out:=by omega
 have F0:=yA rtC.eq_1<|yA hr<|yA hw<|yA hp<|yA hs<|yA hv<|yA @Aw<|yA hcan<|yA g1<|yA g2<|yA g3<|g4
 refine CtM.go Tryz.func6 rfl Tryz.ntmps6 Tryz.results6 fun w0 ro may fx zZ zhY=>?_
 have cq:=yA ((hA.plain fun _ _ h=>h))<|trivial
 refine (fun zX=>goW) ?_
 refine zhY _ _ ?_
 simp only [go_sem,F0]
 all_goals (exact Yk)
def slT (root own peer send:List UInt8) (out:Int) (recv:List UInt8) (inn last:Int) (can hear:Bool) (ks:List Gz) (ad text:List UInt8):SlO:=
 ⟨⟨root,own,peer,r0v send,out+1,recv,inn,last,can,hear,ks⟩,wB (t0c own Lk.nine),last,out,slV (r0w send) (List.replicate 12 0) (ad++j0u (wB (t0c own Lk.nine)) last out) text,0⟩
theorem u1c (root own peer send:List UInt8) (out:Int) (recv:List UInt8) (inn last:Int) (can hear:Bool) (ks:List Gz) (hr:root.length=32) (hw:own.length=32) (hp:peer.length=32) (hs:send.length=32) (hv:recv.length=32) (hk: ∀ k∈ks,k.ok) (ad text:List UInt8) (ex1 ex2:Bool) (hte:Tv out inn last ks=0) (hcan:can=true) (g1:¬(400:Int)<((text.length:Nat):Int)) (g2:¬(160:Int)<((ad.length:Nat):Int)) (g3:¬out=1073741824) (hio:inN out=true) (hil:inN last=true) (h12:ks.length≤12):
 CtM Tryz.prog 5 [.w (.agg (rtC root own peer send out recv inn last can hear ks)),.w (.one (.pl (.R ex1 1 (Av ad)))),.w (.one (.pl (.R ex2 1 (Av text))))] [(1000001,⟨false,gPr⟩),(1000002,⟨false,gFi⟩),(1000004,⟨false,Bk.j0h⟩)] (Told (slT root own peer send out recv inn last can hear ks ad text).R):=by
 subst hcan
 have hA:=l0h root own peer send out recv inn last true hear ks hr hw hp hs hv hk
 rw [hte] at hA
 obtain ⟨o1,o2⟩:=f0e.mp hio
 obtain ⟨l1,l2⟩:=f0e.mp hil
 have hout:Go.RowKit.wrap64 (out+1)=out+1:=w64 (by omega)
 have g5:¬(1073741824:Int)≤out:=by omega
 have hfin:(slT root own peer send out recv inn last true hear ks ad text).v=.tup [.agg (rtC root own peer (r0v send) (out+1) recv inn last true hear ks),.agg (c1o (wB (t0c own Lk.nine)) last out),.one (.pl (.R false 1 (Av (slV (r0w send) (List.replicate 12 0) (ad++j0u (wB (t0c own Lk.nine)) last out) text)))),.one (.pl (.i 0))]:=rfl
 have hB:=Lk.r2c own hw
 obtain ⟨pk,hpk⟩: ∃ k,wB (t0c own Lk.nine)=k:=⟨_,rfl⟩
 have hpkl:pk.length=32:=by rw [←hpk];exact Zy _
 rw [hpk] at hB hfin
 have hH:=(q1g pk hpkl last out (by omega) (by omega) (by omega) (by omega)).told
 obtain ⟨hd,hhd⟩: ∃ k,j0u pk last out=k:=⟨_,rfl⟩
 have hdl:hd.length=40:=by rw [←hhd];exact m0s hpkl _ _
 rw [hhd] at hH hfin
 have hN:=q2q send hs
 obtain ⟨k1,hk1⟩: ∃ k,r0w send=k:=⟨_,rfl⟩
 obtain ⟨k2,hk2⟩: ∃ k,r0v send=k:=⟨_,rfl⟩
 have hl1:k1.length=32:=by rw [←hk1];exact b0k _
 have hl2:k2.length=32:=by rw [←hk2];exact Zj _
 have hD:=i2l ad hd ex1 false (by omega)
 rw [hk1,hk2] at hN
 obtain ⟨bh,hbh⟩: ∃ k,ad++hd=k:=⟨_,rfl⟩
 have hbl:bh.length=ad.length+40:=by rw [←hbh,yG,hdl]
 have hS:=(c2y k1 (List.replicate 12 0) bh text hl1 (by simp) false ex2 (by omega) (by omega)).told
 rw [hk1,hk2,hbh] at hfin
 obtain ⟨cs,hcs⟩: ∃ k,slV k1 (List.replicate 12 0) bh text=k:=⟨_,rfl⟩
 rw [hcs] at hS hfin
 have hcap:ad.length≤9223372036854775807:=by omega
 have hcp2:ad.length+40≤9223372036854775807:=by omega
 have hcp3:ad.length+40≤140737488355328:=by omega
 rw [hbh] at hD
 have hF:=o2b root own peer send out recv inn last true hear ks hr hw hp hs hv hk h12
 have F0:=yA rtC.eq_1<|yA hr<|yA hw<|yA hp<|yA hs<|yA hv<|yA @Aw<|yA (@wM L)<|yA g1<|yA g2<|yA g3<|yA g5<|yA hout<|yA hpkl<|yA hdl<|yA hl1<|yA hl2<|yA hbl<|yA hcap<|yA hcp2<|hcp3
 refine CtM.go Tryz.func5 rfl Tryz.ntmps5 Tryz.results5 fun w0 ro may fx zZ zhY=>?_
 have cq:=yA ((hA.plain fun _ _ h=>h))<|yA hB.told<|yA (CtM.ch [] (hH))<|yA (CtM.ch [] (hN.told))<|trivial
 have zr0:DS 10:=⟨⟩
 have zq:DP 0 9 [48,49,50,51,52,53,54,55,11] [0,1,3,0,8,0,32,127,0,511] []∧DN 1 10∧True:=⟨⟨⟩,⟨⟩,trivial⟩
 refine (fun zX=>goW) ?_
 refine c1z (id:=13) mixed fun zE zhE=>?_
 refine Ij (p:=0) 6 [68,69,70,71,72,73] [0,0,0,0,12,0,63,127,255,255,511,2047] [] rfl (by kernel_rfl) rfl (by simp only [go_sem]) fun zR zK zhR zhK=>?_
 simp only [go_sem,F0]
 repeat' (first|apply yA|intro _)
 all_goals (refine t0n false (fun k=>k) (.w (.one (.pl (.R false 1 (Av bh))))) [] (fun _ _=>rfl) ?_ ?_ ?_ hD.told ?_ ?_;(iterate 2 (focus (first|rfl|(simp only [go_sem,F0]<;>first|done|rfl|simp))));(first|kernel_rfl|rfl|simp [o0d,r0k,pls]))
 all_goals try (refine yA ?_ (yA ?_ (yA ?_ ?_))<;>(first|rfl|(simp only [go_sem,F0];done)|(simp [go_sem,look,F0];done)))
 all_goals (try simp only [go_sem,F0])
 all_goals (try simp only [go_sem,F0])
 all_goals repeat' (first|apply yA|intro _)
 refine zhK _ _ trivial (zhR _ ?_)
 refine Mx 2 8 rfl (by kernel_rfl) rfl rfl fun zR zhR=>?_
 simp only [go_sem,F0]
 repeat' (first|apply yA|intro _)
 all_goals (refine Kz false [] (fun k=>k) (fun _ _=>rfl) ?_ (by decide) ?_ hS ?_;iterate 2 (focus (first|rfl|(simp only [go_sem,F0]<;>first|done|rfl|simp))))
 all_goals (rintro v m ⟨hR,hm⟩;subst hR;subst hm)
 all_goals (refine yA ?_ (yA ?_ (yA ?_ ?_));iterate 3 (focus (first|rfl|(simp only [go_sem,F0];done)|(simp [go_sem,look,F0];done))))
 all_goals (try simp only [go_sem,F0])
 all_goals (try simp only [go_sem,F0])
 all_goals repeat' (first|apply yA|intro _)
 refine zhR _ ?_
 refine Ij (p:=8) 11 [75,76,16] [0,0,0,0,12,0,63,127,255,255,511,2047] [] rfl (by kernel_rfl) rfl (by simp only [go_sem]) fun zR zK zhR zhK=>?_
 simp only [go_sem,F0]
 repeat' (first|apply yA|intro _)
 refine zhK _ _ trivial (zhR _ ?_)
 refine Mx 1 12 rfl (by kernel_rfl) rfl rfl fun zR zhR=>?_
 simp only [go_sem,F0]
 repeat' (first|apply yA|intro _)
 refine zhR _ ?_
 refine b0b rfl (zhE _ ?_)
 have cq:=yA (CtM.ch [] (hF.told))<|trivial
 have zd0:DQ 18 [90,91,92,8,9] [0,0,0,1,11,31,63] [(1,3),(2,3),(2,4)]:=⟨⟩
 refine (fun zX=>goW) ?_
 refine zhY _ _ ?_
 simp only [go_sem,F0]
 all_goals (exact told_plain (by simp [Dv,Ew,Az]) ⟨by rw [hfin];simp [rtC,c1o,Az],rfl⟩)
theorem i1b (root own peer send:List UInt8) (out:Int) (recv:List UInt8) (inn last:Int) (can hear:Bool) (ks:List Gz) (hr:root.length=32) (hw:own.length=32) (hp:peer.length=32) (hs:send.length=32) (hv:recv.length=32) (hk: ∀ k∈ks,k.ok) (ad text:List UInt8) (ex1 ex2:Bool) (hlen:ks.length≤9223372036854775807) (hte:Tv out inn last ks=0) (hcan:can=true) (g1:¬(400:Int)<((text.length:Nat):Int)) (g2:¬(160:Int)<((ad.length:Nat):Int)) (g3:¬out=1073741824) (hio:inN out=true) (hil:inN last=true) (h12:ks.length≤12):
 CtM Tryz.prog 6 [.w (.agg (rtC root own peer send out recv inn last can hear ks)),.w (.one (.pl (.R ex1 1 (Av ad)))),.w (.one (.pl (.R ex2 1 (Av text))))] [(1000000,⟨false,Dz Nw⟩),(1000003,⟨false,gFi⟩)] (Told (slT root own peer send out recv inn last can hear ks ad text).R):=by
 subst hcan
 have hA:=l0g root own peer send out recv inn last true hear ks hr hw hp hs hv hk hlen
 rw [hte] at hA
 obtain ⟨o1,o2⟩:=f0e.mp hio
 obtain ⟨l1,l2⟩:=f0e.mp hil
 have hout:Go.RowKit.wrap64 (out+1)=out+1:=w64 (by omega)
 have g5:¬(1073741824:Int)≤out:=by omega
 have hfin:(slT root own peer send out recv inn last true hear ks ad text).v=.tup [.agg (rtC root own peer (r0v send) (out+1) recv inn last true hear ks),.agg (c1o (wB (t0c own Lk.nine)) last out),.one (.pl (.R false 1 (Av (slV (r0w send) (List.replicate 12 0) (ad++j0u (wB (t0c own Lk.nine)) last out) text)))),.one (.pl (.i 0))]:=rfl
 have hB:=Lk.q2f own hw
 obtain ⟨pk,hpk⟩: ∃ k,wB (t0c own Lk.nine)=k:=⟨_,rfl⟩
 have hpkl:pk.length=32:=by rw [←hpk];exact Zy _
 rw [hpk] at hB hfin
 have hH:=(g2c pk hpkl last out hil hio).told
 obtain ⟨hd,hhd⟩: ∃ k,j0u pk last out=k:=⟨_,rfl⟩
 have hdl:hd.length=40:=by rw [←hhd];exact m0s hpkl _ _
 rw [hhd] at hH hfin
 have hN:=n2r send hs
 have hP:=e2d send hs
 obtain ⟨k1,hk1⟩: ∃ k,r0w send=k:=⟨_,rfl⟩
 obtain ⟨k2,hk2⟩: ∃ k,r0v send=k:=⟨_,rfl⟩
 have hl1:k1.length=32:=by rw [←hk1];exact b0k _
 have hl2:k2.length=32:=by rw [←hk2];exact Zj _
 rw [hk1] at hN
 rw [hk2] at hP
 obtain ⟨bh,hbh⟩: ∃ k,ad++hd=k:=⟨_,rfl⟩
 have hbl:bh.length=ad.length+40:=by rw [←hbh,yG,hdl]
 have hS:=(n1h k1 (List.replicate 12 0) bh text hl1 (by simp) false ex2 (by omega) (by omega)).told
 rw [hk1,hk2,hbh] at hfin
 obtain ⟨cs,hcs⟩: ∃ k,slV k1 (List.replicate 12 0) bh text=k:=⟨_,rfl⟩
 rw [hcs] at hS hfin
 have hcap:ad.length≤9223372036854775807:=by omega
 have hcp2:ad.length+40≤9223372036854775807:=by omega
 have hcp3:ad.length+40≤140737488355328:=by omega
 have F0:=yA rtC.eq_1<|yA hr<|yA hw<|yA hp<|yA hs<|yA hv<|yA @Aw<|yA (@wM L)<|yA g1<|yA g2<|yA g3<|yA g5<|yA hout<|yA hpkl<|yA hdl<|yA hl1<|yA hl2<|yA hbl<|yA hcap<|yA hcp2<|yA hcp3<|hbh
 refine CtM.go Tryz.func6 rfl Tryz.ntmps6 Tryz.results6 fun w0 ro may fx zZ zhY=>?_
 have cq:=yA ((hA.plain fun _ _ h=>h))<|yA hB.told<|yA (CtM.ch [] (hH))<|trivial
 have zr0:DS 11:=⟨⟩
 have zq:DP 0 9 [42,43,44,45,46,47,48,49,11] [0,1,3,0,8,0,32,127,0,511] []∧DN 1 10∧True:=⟨⟨⟩,⟨⟩,trivial⟩
 refine (fun zX=>goW) ?_
 refine c1z (id:=13) mixed fun zE zhE=>?_
 refine Ij (p:=0) 11 [56,57,58,59,60,61,62,63,64,65,66] [0,1,3,0,0,16,0,64,240,496,0,2047,4095,8191,8191,16383,65535] [] rfl (by kernel_rfl) rfl (by simp only [go_sem]) fun zR zK zhR zhK=>?_
 simp only [go_sem,F0]
 repeat' (first|apply yA|intro _)
 all_goals (refine Hz (fun k=>k) (.w (.agg (Az k1))) [] (fun _ _=>rfl) ?_ ?_ ?_ hN.told ?_ ?_;(iterate 2 (focus (first|rfl|(simp only [go_sem,F0]<;>first|done|rfl|simp))));(first|kernel_rfl|rfl|simp [o0d,r0k,pls]))
 all_goals try (refine yA ?_ (yA ?_ (yA ?_ ?_))<;>(first|rfl|(simp only [go_sem,F0];done)|(simp [go_sem,look,F0];done)))
 all_goals (try simp only [go_sem,F0])
 all_goals (try simp only [go_sem,F0])
 all_goals repeat' (first|apply yA|intro _)
 refine zhK _ _ trivial (zhR _ ?_)
 refine Mx 2 13 rfl (by kernel_rfl) rfl rfl fun zR zhR=>?_
 simp only [go_sem,F0]
 repeat' (first|apply yA|intro _)
 all_goals (refine Kz true [] (fun _=>87) (fun _ _=>rfl) ?_ (by decide) ?_ hS ?_;iterate 2 (focus (first|rfl|(simp only [go_sem,F0]<;>first|done|rfl|simp))))
 all_goals (rintro v m ⟨hR,hm⟩;subst hR;subst hm)
 all_goals (refine yA ?_ (yA ?_ (yA ?_ ?_));iterate 3 (focus (first|rfl|(simp only [go_sem,F0];done)|(simp [go_sem,look,F0];done))))
 all_goals (try simp only [go_sem,F0])
 all_goals (try simp only [go_sem,F0])
 all_goals repeat' (first|apply yA|intro _)
 refine zhR _ ?_
 refine Ij (p:=13) 16 [68,69,14] [0,1,3,0,0,16,0,64,240,496,0,2047,4095,8191,8191,16383,65535] [] rfl (by kernel_rfl) rfl (by simp only [go_sem]) fun zR zK zhR zhK=>?_
 simp only [go_sem,F0]
 repeat' (first|apply yA|intro _)
 refine zhK _ _ trivial (zhR _ ?_)
 refine Mx 1 17 rfl (by kernel_rfl) rfl rfl fun zR zhR=>?_
 simp only [go_sem,F0]
 repeat' (first|apply yA|intro _)
 refine zhR _ ?_
 refine b0b rfl (zhE _ ?_)
 have cq:=yA (CtM.ch [] (hP.told))<|trivial
 have zd0:DQ 18 [83,84,85,8,9] [0,0,0,1,11,31,63] [(1,3),(2,3),(2,4)]:=⟨⟩
 refine (fun zX=>goW) ?_
 refine zhY _ _ ?_
 simp only [go_sem,F0]
 all_goals (exact c0e 87 (b:=.b true) (cs.map .u8) (by rw [Uz];simp [look]) (by decide) (by simp only [r0q,x0v,xQ,z0g,yL,vO,u0h,g0d rfl];exact told_plain (by simp [Dv,Ew,Az]) ⟨by rw [hfin];simp [rtC,c1o,Az],rfl⟩))
end Rk
end Go.Sy
namespace Go.Sy
namespace Rk
open Go.Proofs
attribute [local irreducible] Bw HT Aj Jk onC onE onO onG goV goA goS Lx Bz
theorem beqB (b:Bool):(b==b)=true:=by cases b<;>rfl
theorem p1u {k:Gz} (h:k.ok):(Az k.peer++(L.pl (.i k.n)::Az k.key)).map Tq=((List.replicate 32 (Kd.int .u8)++(Kd.int .i64::List.replicate 32 (Kd.int .u8)):List Kd)).map some:=by
 rw [xQ,yL,Sj h.1,Sj h.2.1];rfl
theorem u1s {k:Gz} (h:k.ok):c0d Tryz.prog 50 (Az k.peer++(.pl (.i k.n)::Az k.key)) (Az k.peer++(.pl (.i k.n)::Az k.key))=some true:=by
 rw [ae50 (p1u h) (p1u h),q0f rfl,o0f,k0a rfl,y1q];simp
theorem p1v {key:List UInt8} (h:key.length=32) (a b:Int):(Az key++[L.pl (.i a),L.pl (.i b)]).map Tq=((List.replicate 32 (Kd.int .u8)++(Kd.int .i64::Kd.int .i64::[]):List Kd)).map some:=by
 rw [xQ,Sj h];rfl
theorem u1t {key:List UInt8} (h:key.length=32) (a b:Int):c0d Tryz.prog 29 (Az key++[.pl (.i a),.pl (.i b)]) (Az key++[.pl (.i a),.pl (.i b)])=some true:=by
 rw [ae29 (p1v h a b) (p1v h a b),q0f rfl,o0f,o0f,y1q,y1q,r1j];simp
@[go_sem] theorem b2o {P:Program} {t:TypeId} (ht:P.underlying t=some .bool) (a b:Bool):Kv P .eql t (.w (.one (.pl (.b a)))) (.w (.one (.pl (.b b))))=some (.w (.one (.pl (.b (a==b))))):=by simp [Kv,ht]
theorem sameKey {p:List UInt8} (h:p.length=32):c0d Tryz.prog 23 (Az p) (Az p)=some true:=by
 rw [y1r h h];simp
theorem n1j (root own peer send:List UInt8) (out:Int) (recv:List UInt8) (inn last:Int) (can hear:Bool) (ks:List Gz) (hr:root.length=32) (hw:own.length=32) (hp:peer.length=32) (hs:send.length=32) (hv:recv.length=32) (hk: ∀ k∈ks,k.ok) (hlen:ks.length≤9223372036854775807):
 Ct Tryz.prog 7 [.w (.agg (rtC root own peer send out recv inn last can hear ks)),.w (.agg (rtC root own peer send out recv inn last can hear ks))] (fun v m=>v=.w (.one (.pl (.b true)))):=by
 have h1:=sameKey hr
 have h2:=sameKey hw
 have h3:=sameKey hp
 have h4:=sameKey hs
 have h5:=sameKey hv
 have hb:Tryz.prog.underlying 4=some .bool:=Tryz.underlying4
 have F0:=yA rtC.eq_1<|yA hr<|yA hw<|yA hp<|yA hs<|yA hv<|yA @Aw<|yA h1<|yA h2<|yA h3<|yA h4<|yA h5<|yA hb<|yA (@List.append_eq Oper)<|@beqB
 refine Ct.go Tryz.func7 rfl Tryz.ntmps7 Tryz.results7 fun w0 ro zZ zhY=>?_
 refine (fun zX=>goW) ?_
 refine Bv [0,1,6,7,8,9,10,11,12,13,14] ?_
 simp only [Bj,Cx,Bq,yI,yK,Nat.reduceBEq,beq_self_eq_true,yS,yV,yY,yT,yE,reduceIte]
 refine Gx (fun y=>[(16,.w (.one (.pl (.i ((y.1:Nat):Int)))))]) (fun _=>[]) (fun y=>ks.length-y.1) (⟨0,xA _⟩:{y:Nat//y≤ks.length}) ?_
 intro ⟨i,hi⟩ xN0 xM0 xhN0 xhM0
 simp only [yB,yC]
 rcases yZ i ks.length with hlt|hge
 ·obtain ⟨k,hkx⟩:=g1w hlt
  have hkk:=hk k (wF hkx)
  have hpk:=hkk.1
  have hqk:=hkk.2.1
  have hlk:=Aq hkk
  have hgk:=getD_map (f:=b0x) (d:=([]:List PL)) hkx
  have hsk:=Zv k
  have hci:((i:Nat):Int)<((ks.length:Nat):Int):=Int.ofNat_lt.mpr hlt
  have hii:=b2d i
  have hEq:=u1s hkk
  have hsi:Go.RowKit.wrap64 (((i:Nat):Int)+1)=((i+1:Nat):Int):=Gy rfl (xR hlt hlen)
  have F0:=yA hpk<|yA hqk<|yA hlk<|yA hgk<|yA hsk<|yA hci<|yA hii<|yA hEq<|yA hsi<|F0
  have zd0:DQ 6 [19,20,21,22,23,24,25,26,27,28,29] [0,1,0,7,15,0,32,0,224,480,1023] []:=⟨⟩
  have zL:=fun S2=>xhN0 ⟨i+1,hlt⟩ S2 (by (exact yP hlt (yQ _)))
  exact goW
 obtain rfl:i=ks.length:=Nat.le_antisymm hi hge
 have hci:¬((ks.length:Nat):Int)<((ks.length:Nat):Int):=Int.lt_irrefl _
 have F0:=yA hci<|F0
 refine (fun zX=>goW) ?_
 refine zhY _ _ ?_
 simp only [go_sem,F0]
 all_goals (first|rfl|simp)
theorem m1h {out inn last:Int} {ks:List Gz} (h:¬Tv out inn last ks=0):Tv out inn last ks=9:=by
 unfold Tv at h ⊢
 split
 ·rename_i h2;rw [if_pos h2] at h;exact absurd rfl h
 rfl
theorem m1g {out inn last:Int} {ks:List Gz} (h:Tv out inn last ks=0):inN out=true∧inN last=true∧ks.length≤12:=by
 unfold Tv at h
 split at h
 ·rename_i hh
  simp only [yD,z0m,decide_eq_true_eq] at hh
  exact ⟨hh.1.1.1,hh.1.2,hh.2.1.1⟩
 cases h
theorem r2m (root own peer send:List UInt8) (out:Int) (recv:List UInt8) (inn last:Int) (can hear:Bool) (ks:List Gz) (hr:root.length=32) (hw:own.length=32) (hp:peer.length=32) (hs:send.length=32) (hv:recv.length=32) (hk: ∀ k∈ks,k.ok) (ad text:List UInt8) (ex1 ex2:Bool) (hlen:ks.length≤9223372036854775807): ∃ o:SlO,o.ok∧CtM Tryz.prog 5 [.w (.agg (rtC root own peer send out recv inn last can hear ks)),.w (.one (.pl (.R ex1 1 (Av ad)))),.w (.one (.pl (.R ex2 1 (Av text))))] [(1000001,⟨false,gPr⟩),(1000002,⟨false,gFi⟩),(1000004,⟨false,Bk.j0h⟩)] o.R∧CtM Tryz.prog 6 [.w (.agg (rtC root own peer send out recv inn last can hear ks)),.w (.one (.pl (.R ex1 1 (Av ad)))),.w (.one (.pl (.R ex2 1 (Av text))))] [(1000000,⟨false,Dz Nw⟩),(1000003,⟨false,gFi⟩)] o.R:=by
 have bad: ∀ e,(h0w e).ok:=fun e=>⟨o1x,rfl⟩
 by_cases hte:Tv out inn last ks=0
 ·obtain ⟨hio,hil,h12⟩:=m1g hte
  cases can with
  |false=>exact ⟨_,bad _,(i1f root own peer send out recv inn last false hear ks hr hw hp hs hv hk ad text ex1 ex2 hte rfl).told,(x0b root own peer send out recv inn last false hear ks hr hw hp hs hv hk ad text ex1 ex2 hlen hte rfl).told⟩
  |true=>
   by_cases g1:(400:Int)<((text.length:Nat):Int)
   ·exact ⟨_,bad _,(i1e root own peer send out recv inn last true hear ks hr hw hp hs hv hk ad text ex1 ex2 hte rfl g1).told,(w0z root own peer send out recv inn last true hear ks hr hw hp hs hv hk ad text ex1 ex2 hlen hte rfl g1).told⟩
   by_cases g2:(160:Int)<((ad.length:Nat):Int)
   ·exact ⟨_,bad _,(i1d root own peer send out recv inn last true hear ks hr hw hp hs hv hk ad text ex1 ex2 hte rfl g1 g2).told,(w0y root own peer send out recv inn last true hear ks hr hw hp hs hv hk ad text ex1 ex2 hlen hte rfl g1 g2).told⟩
   by_cases g3:out=1073741824
   ·exact ⟨_,bad _,(i1c root own peer send out recv inn last true hear ks hr hw hp hs hv hk ad text ex1 ex2 hte rfl g1 g2 g3).told,(w0x root own peer send out recv inn last true hear ks hr hw hp hs hv hk ad text ex1 ex2 hlen hte rfl g1 g2 g3).told⟩
   exact ⟨(slT root own peer send out recv inn last true hear ks ad text),⟨⟨hr,hw,hp,Zj _,hv,hk,by show ks.length≤1000;omega⟩,Zy _⟩,(u1c root own peer send out recv inn last true hear ks hr hw hp hs hv hk ad text ex1 ex2 hte rfl g1 g2 g3 hio hil h12).told,(i1b root own peer send out recv inn last true hear ks hr hw hp hs hv hk ad text ex1 ex2 hlen hte rfl g1 g2 g3 hio hil h12).told⟩
 have h9:=m1h hte
 exact ⟨_,bad _,(i1g root own peer send out recv inn last can hear ks hr hw hp hs hv hk ad text ex1 ex2 h9).told,(x0c root own peer send out recv inn last can hear ks hr hw hp hs hv hk ad text ex1 ex2 hlen h9).told⟩
theorem y0i (root own peer send:List UInt8) (out:Int) (recv:List UInt8) (inn last:Int) (can hear:Bool) (ks:List Gz) (hr:root.length=32) (hw:own.length=32) (hp:peer.length=32) (hs:send.length=32) (hv:recv.length=32) (hk: ∀ k∈ks,k.ok) (ad text:List UInt8) (ex1 ex2:Bool) (hlen:ks.length≤9223372036854775807):
 CtM Tryz.prog 3 [.w (.agg (rtC root own peer send out recv inn last can hear ks)),.w (.one (.pl (.R ex1 1 (Av ad)))),.w (.one (.pl (.R ex2 1 (Av text))))] [(1000000,⟨false,Dz Nw⟩),(1000001,⟨false,gPr⟩),(1000002,⟨false,gFi⟩),(1000003,⟨false,gFi⟩),(1000004,⟨false,Bk.j0h⟩)] (Told (fun v m=>v=.w (.one (.pl (.b true)))∧m=[])):=by
 obtain ⟨⟨⟨r1,r2,r3,r4,n1,r5,n2,n3,b1,b2,ks2⟩,pk,l2,m2,cs,e⟩,⟨⟨q1,q2,q3,q4,q5,q6,q7⟩,q8⟩,hF,hG⟩:=r2m root own peer send out recv inn last can hear ks hr hw hp hs hv hk ad text ex1 ex2 hlen
 simp only at q1 q2 q3 q4 q5 q6 q7 q8
 have hT:=n1j r1 r2 r3 r4 n1 r5 n2 n3 b1 b2 ks2 q1 q2 q3 q4 q5 q6 (by omega)
 have hH:=u1t q8 l2 m2
 have hU:=b1o false false cs cs
 have hF:CtM Tryz.prog 5 [.w (.agg (rtC root own peer send out recv inn last can hear ks)),.w (.one (.pl (.R ex1 1 (Av ad)))),.w (.one (.pl (.R ex2 1 (Av text))))] [(1000001,⟨false,gPr⟩),(1000002,⟨false,gFi⟩),(1000004,⟨false,Bk.j0h⟩)] (fun v m=>v=.tup [.agg (rtC r1 r2 r3 r4 n1 r5 n2 n3 b1 b2 ks2),.agg (Az pk++[.pl (.i l2),.pl (.i m2)]),.one (.pl (.R false 1 (Av cs))),.one (.pl (.i e))]∧m=[]):=hF
 have hG:CtM Tryz.prog 6 [.w (.agg (rtC root own peer send out recv inn last can hear ks)),.w (.one (.pl (.R ex1 1 (Av ad)))),.w (.one (.pl (.R ex2 1 (Av text))))] [(1000000,⟨false,Dz Nw⟩),(1000003,⟨false,gFi⟩)] (fun v m=>v=.tup [.agg (rtC r1 r2 r3 r4 n1 r5 n2 n3 b1 b2 ks2),.agg (Az pk++[.pl (.i l2),.pl (.i m2)]),.one (.pl (.R false 1 (Av cs))),.one (.pl (.i e))]∧m=[]):=hG
 simp only [rtC] at hF hG hT
 have F0:=yA rtC.eq_1<|yA hr<|yA hw<|yA hp<|yA hs<|yA hv<|yA q1<|yA q2<|yA q3<|yA q4<|yA q5<|yA q8<|hH
 refine CtM.go Tryz.func3 rfl Tryz.ntmps3 Tryz.results3 fun w0 ro may fx zZ zhY=>?_
 have cq:=yA (CtM.ch [] (hF))<|yA (CtM.ch [] (hG))<|yA ((hT.plain fun _ _ h=>h))<|yA ((hU.plain fun _ _ h=>h))<|trivial
 refine (fun zX=>goW) ?_
 refine zhY _ _ ?_
 simp only [go_sem,F0]
 all_goals (exact told_plain rfl ⟨rfl,rfl⟩)
end Rk
end Go.Sy
