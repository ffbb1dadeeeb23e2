/- Walks and what they compute. CONDITIONS: those that each theorem names. -/
import Derived.Test.YtijngjidkdkmeaavS22
import Derived.Test.YtijngjidkdkmeaavE3
import Derived.Test.YtijngjidkdkmeaavS23
set_option linter.unusedVariables false
set_option linter.unusedSimpArgs false
set_option maxHeartbeats 1600000
set_option maxRecDepth 100000
namespace Go.Sy
open Go.Proofs
attribute [local irreducible] Cj HT Bv Rj onC onE onO onG goV goA goS Tj Ck
theorem w1r (bs:List UInt8) (ps:List (List PL)) (p0 p1:List Int) (ts:List (List Int)) (h1:¬((ts.length:Nat):Int)<1) (h2:¬(5:Int)<((ts.length:Nat):Int)):
 Ct Try.prog 34 [.w (.agg (Ow bs false ps p0 p1 ts))] (fun v m=>v=.w (.one (.pl (.i (Uj false p0 p1 ts))))):=by
 have hlen:¬(ts.length<1∨5<ts.length):=by omega
 have hbb:(2+ts.length)*24≤140737488355328:=by omega
 have F0:=yA Ow.eq_1<|yA Fz<|yA Fx<|yA h1<|yA h2<|yA hbb<|yA s0b<|yA k0x<|a0g
 refine Ct.k Try.func34 rfl Try.ntmps34 (congrArg Array.toList Try.results34) (by simp) fun w0 ro=>?_
 refine a1v fun zZ zhZ=>?_
 refine l0n fun zK zhK=>?_
 simp only [go_sem,F0]
 repeat' (first|apply yA|intro _)
 refine zhK _ ?_
 refine a0m fun zN zM zhN zhM=>?_
 refine l0n fun zK zhK=>?_
 simp only [go_sem,F0]
 repeat' (first|apply yA|intro _)
 refine zhK _ ?_
 (refine Rv ?_ ?_;focus (first|rfl|(simp [go_sem,F0];done)))
 refine Yv ?_
 refine zhN _ ?_;clear zhN zhM
 refine a0m fun zN zM zhN zhM=>?_
 refine o2j (id:=3) [27,28,29,30,31,32,33,34,35] [0,0,2,7,0,16,63,127,0] [(3,4),(3,5),(3,8),(6,8)] mixed (by kernel_rfl) (by simp only [go_sem]) fun zK zhK=>?_
 simp only [go_sem,F0]
 repeat' (first|apply yA|intro _)
 refine zhK _ _ ?_ ?_
 focus (first|trivial|(simp only [go_sem];done)|(simp only [go_sem];simp;done)|(simp only [go_sem];simp;simp only [go_sem]))
 refine Rq fun zB zbn zbx zbr zbi=>?_
 refine b0s (fun y=>[(35,.w (.one (.pl (.i ((y.1:Nat):Int)))))]) (fun _=>[]) (fun y=>(2+ts.length)-y.1) (⟨0,yP _,rfl⟩:{y:Nat//y≤(2+ts.length)∧scan ((p0::p1::ts).drop y)=scan (p0::p1::ts)}) ?_ ?_ ?_
 ·(simp only [go_sem,leX,yC,yD,F0];try simp)
 ·(simp only [go_sem,leX,yC,yD,F0];try simp)
 intro yy zN zM zhN zhM
 simp only [yC,yD]
 have yN0:=zhN
 obtain ⟨i,h1,h4⟩:=yy
 have hd:(i<(2+ts.length)∧6<((p0::p1::ts).getD i []).length)∨(i<(2+ts.length)∧¬6<((p0::p1::ts).getD i []).length)∨i=(2+ts.length):=by omega
 rcases hd with ⟨hlt,hlg⟩|⟨hlt,hlg⟩|rfl
 ·try simp only at h1 h4
  have hcq:((i:Nat):Int)<((2+ts.length:Nat):Int):=by omega
  have hi0:(0:Int)≤((i:Nat):Int):=by omega
  have hil:i<(p0::p1::ts).length:=by simp only [yH];omega
  have hil3:i≤ts.length+1:=by omega
  have hg:=o0x hil
  obtain ⟨l,hl⟩: ∃ l,(p0::p1::ts).getD i []=l:=⟨_,rfl⟩
  rw [Ak (z:=[]) hil,scan,hl] at h4
  rw [hl] at hg hlg
  rw [if_pos hlg] at h4
  have hlg2:(6:Int)<((l.length:Nat):Int):=by omega
  have F0:=yA hcq<|yA hi0<|yA hil<|yA hil3<|yA hlt<|yA hg<|yA hlg2<|F0
  have zE:=h0q (lt:=false) hlen h4 (by decide)
  exact HT.w
 ·try simp only at h1 h4
  have hcq:((i:Nat):Int)<((2+ts.length:Nat):Int):=by omega
  have hi0:(0:Int)≤((i:Nat):Int):=by omega
  have hil:i<(p0::p1::ts).length:=by simp only [yH];omega
  have hil3:i≤ts.length+1:=by omega
  have hg:=o0x hil
  obtain ⟨l,hl⟩: ∃ l,(p0::p1::ts).getD i []=l:=⟨_,rfl⟩
  rw [Ak (z:=[]) hil,scan,hl] at h4
  rw [hl] at hg hlg
  rw [if_neg hlg] at h4
  have hlg2:¬(6:Int)<((l.length:Nat):Int):=by omega
  have F0:=yA hcq<|yA hi0<|yA hil<|yA hil3<|yA hlt<|yA hg<|yA hlg2<|F0
  iterate 19 first
   |(refine l0n fun zK zhK=>?_;simp only [go_sem,F0];(repeat' (first|apply yA|intro _)))
   |refine zhK _ ?_
   |refine Yv ?_
   |(refine zhN _ ?_;clear zhN zhM)
   |refine Rq fun zB zbn zbx zbr zbi=>?_
   |refine a0m fun zN zM zhN zhM=>?_
   |(refine Xz ?_ ?_;focus (first|rfl|(simp [go_sem,F0];done)))
   |(refine Rv ?_ ?_;focus (first|rfl|(simp [go_sem,F0];done)))
  refine b0s (fun y=>[(44,.w (.one (.pl (.i ((y.1:Nat):Int)))))]) (fun _=>[]) (fun y=>l.length-y.1) (⟨0,yP _,rfl⟩:{y:Nat//y≤l.length∧a0d (l.drop y)=a0d l}) ?_ ?_ ?_
  ·(simp only [go_sem,leX,yC,yD,F0];try simp)
  ·(simp only [go_sem,leX,yC,yD,F0];try simp)
  intro zz zN zM zhN zhM
  simp only [yC,yD]
  have yN1:=zhN
  obtain ⟨j,g1,g4⟩:=zz
  have hd:(j<l.length∧l.getD j 0<1)∨(j<l.length∧¬l.getD j 0<1∧7<l.getD j 0)∨(j<l.length∧¬(l.getD j 0<1∨7<l.getD j 0))∨j=l.length:=by omega
  rcases hd with ⟨glt,hbad⟩|⟨glt,hbad,hb2⟩|⟨glt,hbad⟩|rfl
  ·try simp only at g1 g4
   have gcq:((j:Nat):Int)<((l.length:Nat):Int):=by omega
   have gj:(0:Int)≤((j:Nat):Int):=by omega
   have gg:=Bj glt
   obtain ⟨x,hx⟩: ∃ x,l.getD j 0=x:=⟨_,rfl⟩
   rw [Ak (z:=0) glt,a0d,hx] at g4
   rw [hx] at hbad gg
   rw [if_pos (.inl hbad)] at g4
   rw [if_neg (by rw [←g4];decide),←g4] at h4
   have F0:=yA gcq<|yA gj<|yA glt<|yA gg<|yA hbad<|F0
   have zE:=h0q (lt:=false) hlen h4 (by decide)
   exact HT.w
  ·try simp only at g1 g4
   have gcq:((j:Nat):Int)<((l.length:Nat):Int):=by omega
   have gj:(0:Int)≤((j:Nat):Int):=by omega
   have gg:=Bj glt
   obtain ⟨x,hx⟩: ∃ x,l.getD j 0=x:=⟨_,rfl⟩
   rw [Ak (z:=0) glt,a0d,hx] at g4
   rw [hx] at hbad hb2 gg
   rw [if_pos (.inr hb2)] at g4
   rw [if_neg (by rw [←g4];decide),←g4] at h4
   have F0:=yA gcq<|yA gj<|yA glt<|yA gg<|yA hbad<|yA hb2<|F0
   have zE:=h0q (lt:=false) hlen h4 (by decide)
   exact HT.w
  ·try simp only at g1 g4
   have gcq:((j:Nat):Int)<((l.length:Nat):Int):=by omega
   have gj:(0:Int)≤((j:Nat):Int):=by omega
   have gg:=Bj glt
   obtain ⟨x,hx⟩: ∃ x,l.getD j 0=x:=⟨_,rfl⟩
   rw [Ak (z:=0) glt,a0d,hx] at g4
   rw [hx] at hbad gg
   rw [if_neg hbad] at g4
   have hb1:¬x<1:=by omega
   have hb2:¬7<x:=by omega
   have gs1:Go.RowKit.wrap64 (((j:Nat):Int)+1)=((j+1:Nat):Int):=b0l (by omega) (by omega)
   have F0:=yA gcq<|yA gj<|yA glt<|yA gg<|yA hb1<|yA hb2<|yA gs1<|F0
   have zL:=fun S2=>yN1 ⟨j+1,glt,g4⟩ S2 (by (exact yB glt (yE j)))
   exact HT.w
  try simp only at g1 g4
  rw [yG,a0d] at g4
  have gcq:¬((l.length:Nat):Int)<((l.length:Nat):Int):=by omega
  rw [if_pos g4.symm] at h4
  have hs1:Go.RowKit.wrap64 (((i:Nat):Int)+1)=((i+1:Nat):Int):=b0l (by omega) (by omega)
  have F0:=yA gcq<|yA hs1<|F0
  have zL:=fun S2=>yN0 ⟨i+1,hlt,h4⟩ S2 (by (exact yB hlt (yE i)))
  exact HT.w
 try simp only at h1 h4
 have hcq:¬((2+ts.length:Nat):Int)<((2+ts.length:Nat):Int):=by omega
 have hz:scan (p0::p1::ts)=0:=by rw [←h4,List.drop_eq_nil_of_le (by simp only [yH];omega),scan]
 have hrng:=i0r hz
 have hp0:=(hrng p0 (by simp)).2
 have hp1:=(hrng p1 (by simp)).2
 have F0:=yA hcq<|F0
 iterate 30 first
  |refine b1h fun zN zM zhN zhM=>?_
  |(refine l0n fun zK zhK=>?_;simp only [go_sem,F0];(repeat' (first|apply yA|intro _)))
  |refine zhK _ ?_
  |refine Rq fun zB zbn zbx zbr zbi=>?_
  |(refine zhM _ _ ?_;clear zhN zhM)
  |(refine zhN _ ?_;clear zhN zhM)
  |refine f0b ?_
  |(refine zbx _ ?_;clear zbn zbx zbr zbi)
  |refine n0p (x:=.seq (.region 17 _ _) _) 3 ?_
  |refine Yv ?_
  |refine a0m fun zN zM zhN zhM=>?_
  |(refine Rv ?_ ?_;focus (first|rfl|(simp [go_sem,F0];done)))
  |(refine Xz ?_ ?_;focus (first|rfl|(simp [go_sem,F0];done)))
 refine b0s (fun y=>[(66,.w (.one (.pl (.i ((y.1.1:Nat):Int)))))]) (fun y=>[(57,⟨false,y.1.2.ls⟩)]) (fun y=>p0.length-y.1.1) (⟨(0,Jd.nil),yP _,rfl⟩:{y:Nat×Jd//y.1≤p0.length∧h0c y.2 false (p0.drop y.1)=h0c Jd.nil false p0}) ?_ ?_ ?_
 ·(simp only [go_sem,leX,yC,yD,F0];try simp)
 ·(simp only [go_sem,leX,yC,yD];first|done|trivial|rfl|simp [Jd.ls,Jd.nil])
 intro zz zN zM zhN zhM
 simp only [yC,yD]
 have yN1:=zhN
 obtain ⟨⟨j,q0⟩,g1,g4⟩:=zz
 simp only at g1 g4
 have hd:(j<p0.length∧2<p0.getD j 0)∨(j<p0.length∧¬2<p0.getD j 0∧q0.flag false (p0.getD j 0)=true)∨(j<p0.length∧¬2<p0.getD j 0∧q0.flag false (p0.getD j 0)=false)∨j=p0.length:=by
  cases q0.flag false (p0.getD j 0)<;>simp<;>omega
 rcases hd with ⟨glt,hbad⟩|⟨glt,hbad,hfl⟩|⟨glt,hbad,hfl⟩|rfl
 ·have gcq:((j:Nat):Int)<((p0.length:Nat):Int):=by omega
  have gj:(0:Int)≤((j:Nat):Int):=by omega
  have gg:=Bj glt
  obtain ⟨x,hx⟩: ∃ x,p0.getD j 0=x:=⟨_,rfl⟩
  have hxr:=Dk (hrng p0 (by simp)).1 x (hx▸Cw glt)
  rw [Ak (z:=0) glt,h0c,hx] at g4
  rw [hx] at gg hbad
  rw [if_pos (.inl hbad)] at g4
  have F0:=yA gcq<|yA gj<|yA glt<|yA gg<|yA hbad<|F0
  have zE:=o0v (lt:=false) hlen hz g4
  exact HT.w
 ·have gcq:((j:Nat):Int)<((p0.length:Nat):Int):=by omega
  have gj:(0:Int)≤((j:Nat):Int):=by omega
  have gg:=Bj glt
  obtain ⟨x,hx⟩: ∃ x,p0.getD j 0=x:=⟨_,rfl⟩
  have hxr:=Dk (hrng p0 (by simp)).1 x (hx▸Cw glt)
  rw [Ak (z:=0) glt,h0c,hx] at g4
  rw [hx] at gg hbad
  rw [hx] at hfl
  have ht:x=1∨x=2:=by omega
  have hC:=a0l q0 false true x ht hfl
  rw [if_pos (.inr hfl)] at g4
  have F0:=yA gcq<|yA gj<|yA glt<|yA gg<|yA hbad<|F0
  have ch0:=CtM.ch [(500000,57)] (hC)
  have zE:=o0v (lt:=false) hlen hz g4
  exact HT.w
 ·have gcq:((j:Nat):Int)<((p0.length:Nat):Int):=by omega
  have gj:(0:Int)≤((j:Nat):Int):=by omega
  have gg:=Bj glt
  obtain ⟨x,hx⟩: ∃ x,p0.getD j 0=x:=⟨_,rfl⟩
  have hxr:=Dk (hrng p0 (by simp)).1 x (hx▸Cw glt)
  rw [Ak (z:=0) glt,h0c,hx] at g4
  rw [hx] at gg hbad
  rw [hx] at hfl
  have ht:x=1∨x=2:=by omega
  have hC:=a0l q0 false false x ht hfl
  rw [if_neg (by simp [hbad,hfl])] at g4
  have gs1:Go.RowKit.wrap64 (((j:Nat):Int)+1)=((j+1:Nat):Int):=b0l (by omega) (by omega)
  have F0:=yA gcq<|yA gj<|yA glt<|yA gg<|yA hbad<|yA gs1<|F0
  have ch0:=CtM.ch [(500000,57)] (hC)
  have zL:=fun S2=>yN1 ⟨(j+1,q0.tell false x),glt,g4⟩ S2 (by (exact yB glt (yE j)))
  exact HT.w
 rw [yG,h0c] at g4
 have gcq:¬((p0.length:Nat):Int)<((p0.length:Nat):Int):=by omega
 have hq0:=g4
 have F0:=yA gcq<|F0
 iterate 27 first
  |(refine b0g (x:=.seq (.region 17 _ _) _) [8,9,11,61,62,63,64,65,66,67,68,69,70,71,72,73,74,75,76,77,78,79,80] ?_;simp only [go_sem,St.forget,fgt];refine b1h fun zN zM zhN zhM=>?_)
  |refine zhK _ ?_
  |(refine l0n fun zK zhK=>?_;simp only [go_sem,F0];(repeat' (first|apply yA|intro _)))
  |(refine zhN _ ?_;clear zhN zhM)
  |(refine zhM _ _ ?_;clear zhN zhM)
  |refine Rq fun zB zbn zbx zbr zbi=>?_
  |refine f0b ?_
  |(refine zbx _ ?_;clear zbn zbx zbr zbi)
  |(refine zbn _ ?_;clear zbn zbx zbr zbi)
  |(refine Jv fun zK zhK=>?_;simp only [go_sem,F0];(repeat' (first|apply yA|intro _)))
  |refine Yv ?_
  |refine a0m fun zN zM zhN zhM=>?_
  |(refine Rv ?_ ?_;focus (first|rfl|(simp [go_sem,F0];done)))
  |(refine Xz ?_ ?_;focus (first|rfl|(simp [go_sem,F0];done)))
 refine b0s (fun y=>[(66,.w (.one (.pl (.i ((y.1.1:Nat):Int)))))]) (fun y=>[(57,⟨false,y.1.2.ls⟩)]) (fun y=>p1.length-y.1.1) (⟨(0,q0),yP _,rfl⟩:{y:Nat×Jd//y.1≤p1.length∧h0c y.2 true (p1.drop y.1)=h0c q0 true p1}) ?_ ?_ ?_
 ·(simp only [go_sem,leX,yC,yD,F0];try simp)
 ·(simp only [go_sem,leX,yC,yD];first|done|trivial|rfl|simp [Jd.ls,Jd.nil])
 intro zz zN zM zhN zhM
 simp only [yC,yD]
 have yN2:=zhN
 obtain ⟨⟨j,q1⟩,g1,g4⟩:=zz
 simp only at g1 g4
 have hd:(j<p1.length∧2<p1.getD j 0)∨(j<p1.length∧¬2<p1.getD j 0∧q1.flag true (p1.getD j 0)=true)∨(j<p1.length∧¬2<p1.getD j 0∧q1.flag true (p1.getD j 0)=false)∨j=p1.length:=by
  cases q1.flag true (p1.getD j 0)<;>simp<;>omega
 rcases hd with ⟨glt,hbad⟩|⟨glt,hbad,hfl⟩|⟨glt,hbad,hfl⟩|rfl
 ·have gcq:((j:Nat):Int)<((p1.length:Nat):Int):=by omega
  have gj:(0:Int)≤((j:Nat):Int):=by omega
  have gg:=Bj glt
  obtain ⟨x,hx⟩: ∃ x,p1.getD j 0=x:=⟨_,rfl⟩
  have hxr:=Dk (hrng p1 (by simp)).1 x (hx▸Cw glt)
  rw [Ak (z:=0) glt,h0c,hx] at g4
  rw [hx] at gg hbad
  rw [if_pos (.inl hbad)] at g4
  have F0:=yA gcq<|yA gj<|yA glt<|yA gg<|yA hbad<|F0
  have zE:=o0u (lt:=false) hlen hz hq0 g4
  exact HT.w
 ·have gcq:((j:Nat):Int)<((p1.length:Nat):Int):=by omega
  have gj:(0:Int)≤((j:Nat):Int):=by omega
  have gg:=Bj glt
  obtain ⟨x,hx⟩: ∃ x,p1.getD j 0=x:=⟨_,rfl⟩
  have hxr:=Dk (hrng p1 (by simp)).1 x (hx▸Cw glt)
  rw [Ak (z:=0) glt,h0c,hx] at g4
  rw [hx] at gg hbad
  rw [hx] at hfl
  have ht:x=1∨x=2:=by omega
  have hC:=a0l q1 true true x ht hfl
  rw [if_pos (.inr hfl)] at g4
  have F0:=yA gcq<|yA gj<|yA glt<|yA gg<|yA hbad<|F0
  have ch0:=CtM.ch [(500000,57)] (hC)
  have zE:=o0u (lt:=false) hlen hz hq0 g4
  exact HT.w
 ·have gcq:((j:Nat):Int)<((p1.length:Nat):Int):=by omega
  have gj:(0:Int)≤((j:Nat):Int):=by omega
  have gg:=Bj glt
  obtain ⟨x,hx⟩: ∃ x,p1.getD j 0=x:=⟨_,rfl⟩
  have hxr:=Dk (hrng p1 (by simp)).1 x (hx▸Cw glt)
  rw [Ak (z:=0) glt,h0c,hx] at g4
  rw [hx] at gg hbad
  rw [hx] at hfl
  have ht:x=1∨x=2:=by omega
  have hC:=a0l q1 true false x ht hfl
  rw [if_neg (by simp [hbad,hfl])] at g4
  have gs1:Go.RowKit.wrap64 (((j:Nat):Int)+1)=((j+1:Nat):Int):=b0l (by omega) (by omega)
  have F0:=yA gcq<|yA gj<|yA glt<|yA gg<|yA hbad<|yA gs1<|F0
  have ch0:=CtM.ch [(500000,57)] (hC)
  have zL:=fun S2=>yN2 ⟨(j+1,q1.tell true x),glt,g4⟩ S2 (by (exact yB glt (yE j)))
  exact HT.w
 rw [yG,h0c] at g4
 have gcq:¬((p1.length:Nat):Int)<((p1.length:Nat):Int):=by omega
 have hq1:=g4
 have F0:=yA gcq<|F0
 iterate 27 first
  |(refine b0g (x:=.seq (.region 17 _ _) _) [8,9,11,61,62,63,64,65,66,67,68,69,70,71,72,73,74,75,76,77,78,79,80] ?_;simp only [go_sem,St.forget,fgt];refine b1h fun zN zM zhN zhM=>?_)
  |refine zhK _ ?_
  |(refine zhM _ _ ?_;clear zhN zhM)
  |(refine l0n fun zK zhK=>?_;simp only [go_sem,F0];(repeat' (first|apply yA|intro _)))
  |(refine zhN _ ?_;clear zhN zhM)
  |refine f0b ?_
  |(refine zbx _ ?_;clear zbn zbx zbr zbi)
  |(refine zbn _ ?_;clear zbn zbx zbr zbi)
  |(refine Jv fun zK zhK=>?_;simp only [go_sem,F0];(repeat' (first|apply yA|intro _)))
  |refine Rq fun zB zbn zbx zbr zbi=>?_
  |refine a0m fun zN zM zhN zhM=>?_
  |(refine Rv ?_ ?_;focus (first|rfl|(simp [go_sem,F0];done)))
 refine b0s (fun y=>[(84,.w (.one (.pl (.i ((y.1.1:Nat):Int)))))]) (fun y=>[(57,⟨false,y.1.2.ls⟩)]) (fun y=>ts.length-y.1.1) (⟨(0,q1),yP _,rfl⟩:{y:Nat×Jd//y.1≤ts.length∧d0h false y.2 y.1 (ts.drop y.1)=d0h false q1 0 ts}) ?_ ?_ ?_
 ·(simp only [go_sem,leX,yC,yD,F0];try simp)
 ·(simp only [go_sem,leX,yC,yD,F0];try simp)
 intro yy zN zM zhN zhM
 simp only [yC,yD]
 have yN3:=zhN
 obtain ⟨⟨i,q2⟩,h1,h4⟩:=yy
 simp only at h1 h4
 rcases (by omega:i<ts.length∨i=ts.length) with hlt|rfl
 ·have hcq:((i:Nat):Int)<((ts.length:Nat):Int):=by omega
  have hi0:(0:Int)≤((i:Nat):Int):=by omega
  have hg:=Vq hlt
  obtain ⟨l,hl⟩: ∃ l,ts.getD i []=l:=⟨_,rfl⟩
  have hlm:l∈ts:=hl▸Cw hlt
  have hlr:=hrng l (by simp [hlm])
  obtain ⟨wb,hwb⟩: ∃ wb,d0f false i=wb:=⟨_,rfl⟩
  rw [Ak (z:=[]) hlt,d0h,hl,hwb] at h4
  rw [hl] at hg
  have hs1:Go.RowKit.wrap64 (((i:Nat):Int)+1)=((i+1:Nat):Int):=b0l (by omega) (by omega)
  have hw1:=a1s i
  rw [hwb] at hw1
  have F0:=yA hcq<|yA hi0<|yA hlt<|yA hg<|yA hs1<|yA hw1<|F0
  iterate 22 first
   |(refine l0n fun zK zhK=>?_;simp only [go_sem,F0];(repeat' (first|apply yA|intro _)))
   |refine zhK _ ?_
   |refine Yv ?_
   |(refine zhN _ ?_;clear zhN zhM)
   |refine Rq fun zB zbn zbx zbr zbi=>?_
   |refine a0m fun zN zM zhN zhM=>?_
   |(refine Xz ?_ ?_;focus (first|rfl|(simp [go_sem,F0];done)))
   |(refine Rv ?_ ?_;focus (first|rfl|(simp [go_sem,F0];done)))
  refine b0s (fun y=>[(97,.w (.one (.pl (.i ((y.1.1:Nat):Int)))))]) (fun y=>[(57,⟨false,y.1.2.ls⟩)]) (fun y=>l.length-y.1.1) (⟨(0,q2),yP _,rfl⟩:{y:Nat×Jd//y.1≤l.length∧e0e y.2 wb (l.drop y.1)=e0e q2 wb l}) ?_ ?_ ?_
  ·(simp only [go_sem,leX,yC,yD,F0];try simp)
  ·(simp only [go_sem,leX,yC,yD,F0];try simp)
  intro zz zN zM zhN zhM
  simp only [yC,yD]
  have yN4:=zhN
  obtain ⟨⟨j,q3⟩,g1,g4⟩:=zz
  simp only at g1 g4
  have hd:(j<l.length∧(q3.token wb (l.getD j 0)).1=false)∨(j<l.length∧(q3.token wb (l.getD j 0)).1=true)∨(j=l.length∧q3.locks=false)∨(j=l.length∧q3.locks=true∧q3.may wb=true)∨(j=l.length∧q3.locks=true∧q3.may wb=false):=by
   cases (q3.token wb (l.getD j 0)).1<;>cases q3.locks<;>cases q3.may wb<;>simp<;>omega
  rcases hd with ⟨glt,hfl⟩|⟨glt,hfl⟩|⟨rfl,hlk⟩|⟨rfl,hlk,hmy⟩|⟨rfl,hlk,hmy⟩
  ·have gcq:((j:Nat):Int)<((l.length:Nat):Int):=by omega
   have gj:(0:Int)≤((j:Nat):Int):=by omega
   have gg:=Bj glt
   obtain ⟨x,hx⟩: ∃ x,l.getD j 0=x:=⟨_,rfl⟩
   have hxr:=Dk hlr.1 x (hx▸Cw glt)
   rw [Ak (z:=0) glt,e0e,hx] at g4
   rw [hx] at gg hfl
   have hC:=u0j q3 wb x hxr.1 hxr.2
   rw [hfl] at hC
   rw [hfl] at g4
   simp only [reduceIte,yQ] at g4
   rw [←g4] at h4
   have F0:=yA gcq<|yA gj<|yA glt<|yA gg<|yA hfl<|F0
   have ch0:=CtM.ch [(500000,57)] (hC)
   have zE:=(e0a (lt:=false) hlen hz hq0 hq1).trans (h4).symm
   exact HT.w
  ·have gcq:((j:Nat):Int)<((l.length:Nat):Int):=by omega
   have gj:(0:Int)≤((j:Nat):Int):=by omega
   have gg:=Bj glt
   obtain ⟨x,hx⟩: ∃ x,l.getD j 0=x:=⟨_,rfl⟩
   have hxr:=Dk hlr.1 x (hx▸Cw glt)
   rw [Ak (z:=0) glt,e0e,hx] at g4
   rw [hx] at gg hfl
   have hC:=u0j q3 wb x hxr.1 hxr.2
   rw [hfl] at hC
   rw [hfl] at g4
   simp only [reduceIte] at g4
   have gs1:Go.RowKit.wrap64 (((j:Nat):Int)+1)=((j+1:Nat):Int):=b0l (by omega) (by omega)
   have F0:=yA gcq<|yA gj<|yA glt<|yA gg<|yA hfl<|yA gs1<|F0
   have ch0:=CtM.ch [(500000,57)] (hC)
   have zL:=fun S2=>yN4 ⟨(j+1,(q3.token wb x).2),glt,g4⟩ S2 (by (exact yB glt (yE j)))
   exact HT.w
  ·rw [yG,e0e] at g4
   have gcq:¬((l.length:Nat):Int)<((l.length:Nat):Int):=by omega
   have hL:=a0y q3
   rw [hlk] at hL g4
   simp only [wJ,reduceIte,yQ] at g4
   rw [←g4] at h4
   have F0:=yA gcq<|F0
   have ch0:=CtM.ch [(500000,57)] (hL)
   have zL:=fun S2=>yN3 ⟨(i+1,q3),hlt,h4⟩ S2 (by (exact yB hlt (yE i)))
   exact HT.w
  ·rw [yG,e0e] at g4
   have gcq:¬((l.length:Nat):Int)<((l.length:Nat):Int):=by omega
   have hL:=a0y q3
   rw [hlk] at hL g4
   have hM:=v0g q3 wb
   rw [hmy] at hM g4
   simp only [xY,Bool.not_true,reduceIte,yQ] at g4
   rw [←g4] at h4
   have F0:=yA gcq<|F0
   have ch0:=CtM.ch [(500000,57)] (hL)
   have ch1:=CtM.ch [(500000,57)] (hM)
   have zL:=fun S2=>yN3 ⟨(i+1,q3),hlt,h4⟩ S2 (by (exact yB hlt (yE i)))
   exact HT.w
  rw [yG,e0e] at g4
  have gcq:¬((l.length:Nat):Int)<((l.length:Nat):Int):=by omega
  have hL:=a0y q3
  rw [hlk] at hL g4
  have hM:=v0g q3 wb
  rw [hmy] at hM g4
  simp only [xY,wG,reduceIte] at g4
  rw [←g4] at h4
  have F0:=yA gcq<|F0
  have ch0:=CtM.ch [(500000,57)] (hL)
  have ch1:=CtM.ch [(500000,57)] (hM)
  have zE:=(e0a (lt:=false) hlen hz hq0 hq1).trans (h4).symm
  exact HT.w
 rw [yG,d0h] at h4
 have hcq:¬((ts.length:Nat):Int)<((ts.length:Nat):Int):=by omega
 have F0:=yA hcq<|F0
 have zE:=(e0a (lt:=false) hlen hz hq0 hq1).trans (h4).symm
 exact HT.w
theorem w1q (bs:List UInt8) (ps:List (List PL)) (p0 p1:List Int) (ts:List (List Int)) (h1:¬((ts.length:Nat):Int)<1) (h2:¬(5:Int)<((ts.length:Nat):Int)):
 Ct Try.prog 34 [.w (.agg (Ow bs true ps p0 p1 ts))] (fun v m=>v=.w (.one (.pl (.i (Uj true p0 p1 ts))))):=by
 have hlen:¬(ts.length<1∨5<ts.length):=by omega
 have hbb:(2+ts.length)*24≤140737488355328:=by omega
 have F0:=yA Ow.eq_1<|yA Fz<|yA Fx<|yA h1<|yA h2<|yA hbb<|yA s0b<|yA k0x<|a0g
 refine Ct.k Try.func34 rfl Try.ntmps34 (congrArg Array.toList Try.results34) (by simp) fun w0 ro=>?_
 refine a1v fun zZ zhZ=>?_
 refine l0n fun zK zhK=>?_
 simp only [go_sem,F0]
 repeat' (first|apply yA|intro _)
 refine zhK _ ?_
 refine a0m fun zN zM zhN zhM=>?_
 refine l0n fun zK zhK=>?_
 simp only [go_sem,F0]
 repeat' (first|apply yA|intro _)
 refine zhK _ ?_
 (refine Rv ?_ ?_;focus (first|rfl|(simp [go_sem,F0];done)))
 refine Yv ?_
 refine zhN _ ?_;clear zhN zhM
 refine a0m fun zN zM zhN zhM=>?_
 refine o2j (id:=3) [27,28,29,30,31,32,33,34,35] [0,0,2,7,0,16,63,127,0] [(3,4),(3,5),(3,8),(6,8)] mixed (by kernel_rfl) (by simp only [go_sem]) fun zK zhK=>?_
 simp only [go_sem,F0]
 repeat' (first|apply yA|intro _)
 refine zhK _ _ ?_ ?_
 focus (first|trivial|(simp only [go_sem];done)|(simp only [go_sem];simp;done)|(simp only [go_sem];simp;simp only [go_sem]))
 refine Rq fun zB zbn zbx zbr zbi=>?_
 refine b0s (fun y=>[(35,.w (.one (.pl (.i ((y.1:Nat):Int)))))]) (fun _=>[]) (fun y=>(2+ts.length)-y.1) (⟨0,yP _,rfl⟩:{y:Nat//y≤(2+ts.length)∧scan ((p0::p1::ts).drop y)=scan (p0::p1::ts)}) ?_ ?_ ?_
 ·(simp only [go_sem,leX,yC,yD,F0];try simp)
 ·(simp only [go_sem,leX,yC,yD,F0];try simp)
 intro yy zN zM zhN zhM
 simp only [yC,yD]
 have yN0:=zhN
 obtain ⟨i,h1,h4⟩:=yy
 have hd:(i<(2+ts.length)∧6<((p0::p1::ts).getD i []).length)∨(i<(2+ts.length)∧¬6<((p0::p1::ts).getD i []).length)∨i=(2+ts.length):=by omega
 rcases hd with ⟨hlt,hlg⟩|⟨hlt,hlg⟩|rfl
 ·try simp only at h1 h4
  have hcq:((i:Nat):Int)<((2+ts.length:Nat):Int):=by omega
  have hi0:(0:Int)≤((i:Nat):Int):=by omega
  have hil:i<(p0::p1::ts).length:=by simp only [yH];omega
  have hil3:i≤ts.length+1:=by omega
  have hg:=o0x hil
  obtain ⟨l,hl⟩: ∃ l,(p0::p1::ts).getD i []=l:=⟨_,rfl⟩
  rw [Ak (z:=[]) hil,scan,hl] at h4
  rw [hl] at hg hlg
  rw [if_pos hlg] at h4
  have hlg2:(6:Int)<((l.length:Nat):Int):=by omega
  have F0:=yA hcq<|yA hi0<|yA hil<|yA hil3<|yA hlt<|yA hg<|yA hlg2<|F0
  have zE:=h0q (lt:=true) hlen h4 (by decide)
  exact HT.w
 ·try simp only at h1 h4
  have hcq:((i:Nat):Int)<((2+ts.length:Nat):Int):=by omega
  have hi0:(0:Int)≤((i:Nat):Int):=by omega
  have hil:i<(p0::p1::ts).length:=by simp only [yH];omega
  have hil3:i≤ts.length+1:=by omega
  have hg:=o0x hil
  obtain ⟨l,hl⟩: ∃ l,(p0::p1::ts).getD i []=l:=⟨_,rfl⟩
  rw [Ak (z:=[]) hil,scan,hl] at h4
  rw [hl] at hg hlg
  rw [if_neg hlg] at h4
  have hlg2:¬(6:Int)<((l.length:Nat):Int):=by omega
  have F0:=yA hcq<|yA hi0<|yA hil<|yA hil3<|yA hlt<|yA hg<|yA hlg2<|F0
  iterate 19 first
   |(refine l0n fun zK zhK=>?_;simp only [go_sem,F0];(repeat' (first|apply yA|intro _)))
   |refine zhK _ ?_
   |refine Yv ?_
   |(refine zhN _ ?_;clear zhN zhM)
   |refine Rq fun zB zbn zbx zbr zbi=>?_
   |refine a0m fun zN zM zhN zhM=>?_
   |(refine Xz ?_ ?_;focus (first|rfl|(simp [go_sem,F0];done)))
   |(refine Rv ?_ ?_;focus (first|rfl|(simp [go_sem,F0];done)))
  refine b0s (fun y=>[(44,.w (.one (.pl (.i ((y.1:Nat):Int)))))]) (fun _=>[]) (fun y=>l.length-y.1) (⟨0,yP _,rfl⟩:{y:Nat//y≤l.length∧a0d (l.drop y)=a0d l}) ?_ ?_ ?_
  ·(simp only [go_sem,leX,yC,yD,F0];try simp)
  ·(simp only [go_sem,leX,yC,yD,F0];try simp)
  intro zz zN zM zhN zhM
  simp only [yC,yD]
  have yN1:=zhN
  obtain ⟨j,g1,g4⟩:=zz
  have hd:(j<l.length∧l.getD j 0<1)∨(j<l.length∧¬l.getD j 0<1∧7<l.getD j 0)∨(j<l.length∧¬(l.getD j 0<1∨7<l.getD j 0))∨j=l.length:=by omega
  rcases hd with ⟨glt,hbad⟩|⟨glt,hbad,hb2⟩|⟨glt,hbad⟩|rfl
  ·try simp only at g1 g4
   have gcq:((j:Nat):Int)<((l.length:Nat):Int):=by omega
   have gj:(0:Int)≤((j:Nat):Int):=by omega
   have gg:=Bj glt
   obtain ⟨x,hx⟩: ∃ x,l.getD j 0=x:=⟨_,rfl⟩
   rw [Ak (z:=0) glt,a0d,hx] at g4
   rw [hx] at hbad gg
   rw [if_pos (.inl hbad)] at g4
   rw [if_neg (by rw [←g4];decide),←g4] at h4
   have F0:=yA gcq<|yA gj<|yA glt<|yA gg<|yA hbad<|F0
   have zE:=h0q (lt:=true) hlen h4 (by decide)
   exact HT.w
  ·try simp only at g1 g4
   have gcq:((j:Nat):Int)<((l.length:Nat):Int):=by omega
   have gj:(0:Int)≤((j:Nat):Int):=by omega
   have gg:=Bj glt
   obtain ⟨x,hx⟩: ∃ x,l.getD j 0=x:=⟨_,rfl⟩
   rw [Ak (z:=0) glt,a0d,hx] at g4
   rw [hx] at hbad hb2 gg
   rw [if_pos (.inr hb2)] at g4
   rw [if_neg (by rw [←g4];decide),←g4] at h4
   have F0:=yA gcq<|yA gj<|yA glt<|yA gg<|yA hbad<|yA hb2<|F0
   have zE:=h0q (lt:=true) hlen h4 (by decide)
   exact HT.w
  ·try simp only at g1 g4
   have gcq:((j:Nat):Int)<((l.length:Nat):Int):=by omega
   have gj:(0:Int)≤((j:Nat):Int):=by omega
   have gg:=Bj glt
   obtain ⟨x,hx⟩: ∃ x,l.getD j 0=x:=⟨_,rfl⟩
   rw [Ak (z:=0) glt,a0d,hx] at g4
   rw [hx] at hbad gg
   rw [if_neg hbad] at g4
   have hb1:¬x<1:=by omega
   have hb2:¬7<x:=by omega
   have gs1:Go.RowKit.wrap64 (((j:Nat):Int)+1)=((j+1:Nat):Int):=b0l (by omega) (by omega)
   have F0:=yA gcq<|yA gj<|yA glt<|yA gg<|yA hb1<|yA hb2<|yA gs1<|F0
   have zL:=fun S2=>yN1 ⟨j+1,glt,g4⟩ S2 (by (exact yB glt (yE j)))
   exact HT.w
  try simp only at g1 g4
  rw [yG,a0d] at g4
  have gcq:¬((l.length:Nat):Int)<((l.length:Nat):Int):=by omega
  rw [if_pos g4.symm] at h4
  have hs1:Go.RowKit.wrap64 (((i:Nat):Int)+1)=((i+1:Nat):Int):=b0l (by omega) (by omega)
  have F0:=yA gcq<|yA hs1<|F0
  have zL:=fun S2=>yN0 ⟨i+1,hlt,h4⟩ S2 (by (exact yB hlt (yE i)))
  exact HT.w
 try simp only at h1 h4
 have hcq:¬((2+ts.length:Nat):Int)<((2+ts.length:Nat):Int):=by omega
 have hz:scan (p0::p1::ts)=0:=by rw [←h4,List.drop_eq_nil_of_le (by simp only [yH];omega),scan]
 have hrng:=i0r hz
 have hp0:=(hrng p0 (by simp)).2
 have hp1:=(hrng p1 (by simp)).2
 have F0:=yA hcq<|F0
 iterate 30 first
  |refine b1h fun zN zM zhN zhM=>?_
  |(refine l0n fun zK zhK=>?_;simp only [go_sem,F0];(repeat' (first|apply yA|intro _)))
  |refine zhK _ ?_
  |refine Rq fun zB zbn zbx zbr zbi=>?_
  |(refine zhM _ _ ?_;clear zhN zhM)
  |(refine zhN _ ?_;clear zhN zhM)
  |refine f0b ?_
  |(refine zbx _ ?_;clear zbn zbx zbr zbi)
  |refine n0p (x:=.seq (.region 17 _ _) _) 3 ?_
  |refine Yv ?_
  |refine a0m fun zN zM zhN zhM=>?_
  |(refine Rv ?_ ?_;focus (first|rfl|(simp [go_sem,F0];done)))
  |(refine Xz ?_ ?_;focus (first|rfl|(simp [go_sem,F0];done)))
 refine b0s (fun y=>[(66,.w (.one (.pl (.i ((y.1.1:Nat):Int)))))]) (fun y=>[(57,⟨false,y.1.2.ls⟩)]) (fun y=>p0.length-y.1.1) (⟨(0,Jd.nil),yP _,rfl⟩:{y:Nat×Jd//y.1≤p0.length∧h0c y.2 false (p0.drop y.1)=h0c Jd.nil false p0}) ?_ ?_ ?_
 ·(simp only [go_sem,leX,yC,yD,F0];try simp)
 ·(simp only [go_sem,leX,yC,yD];first|done|trivial|rfl|simp [Jd.ls,Jd.nil])
 intro zz zN zM zhN zhM
 simp only [yC,yD]
 have yN1:=zhN
 obtain ⟨⟨j,q0⟩,g1,g4⟩:=zz
 simp only at g1 g4
 have hd:(j<p0.length∧2<p0.getD j 0)∨(j<p0.length∧¬2<p0.getD j 0∧q0.flag false (p0.getD j 0)=true)∨(j<p0.length∧¬2<p0.getD j 0∧q0.flag false (p0.getD j 0)=false)∨j=p0.length:=by
  cases q0.flag false (p0.getD j 0)<;>simp<;>omega
 rcases hd with ⟨glt,hbad⟩|⟨glt,hbad,hfl⟩|⟨glt,hbad,hfl⟩|rfl
 ·have gcq:((j:Nat):Int)<((p0.length:Nat):Int):=by omega
  have gj:(0:Int)≤((j:Nat):Int):=by omega
  have gg:=Bj glt
  obtain ⟨x,hx⟩: ∃ x,p0.getD j 0=x:=⟨_,rfl⟩
  have hxr:=Dk (hrng p0 (by simp)).1 x (hx▸Cw glt)
  rw [Ak (z:=0) glt,h0c,hx] at g4
  rw [hx] at gg hbad
  rw [if_pos (.inl hbad)] at g4
  have F0:=yA gcq<|yA gj<|yA glt<|yA gg<|yA hbad<|F0
  have zE:=o0v (lt:=true) hlen hz g4
  exact HT.w
 ·have gcq:((j:Nat):Int)<((p0.length:Nat):Int):=by omega
  have gj:(0:Int)≤((j:Nat):Int):=by omega
  have gg:=Bj glt
  obtain ⟨x,hx⟩: ∃ x,p0.getD j 0=x:=⟨_,rfl⟩
  have hxr:=Dk (hrng p0 (by simp)).1 x (hx▸Cw glt)
  rw [Ak (z:=0) glt,h0c,hx] at g4
  rw [hx] at gg hbad
  rw [hx] at hfl
  have ht:x=1∨x=2:=by omega
  have hC:=a0l q0 false true x ht hfl
  rw [if_pos (.inr hfl)] at g4
  have F0:=yA gcq<|yA gj<|yA glt<|yA gg<|yA hbad<|F0
  have ch0:=CtM.ch [(500000,57)] (hC)
  have zE:=o0v (lt:=true) hlen hz g4
  exact HT.w
 ·have gcq:((j:Nat):Int)<((p0.length:Nat):Int):=by omega
  have gj:(0:Int)≤((j:Nat):Int):=by omega
  have gg:=Bj glt
  obtain ⟨x,hx⟩: ∃ x,p0.getD j 0=x:=⟨_,rfl⟩
  have hxr:=Dk (hrng p0 (by simp)).1 x (hx▸Cw glt)
  rw [Ak (z:=0) glt,h0c,hx] at g4
  rw [hx] at gg hbad
  rw [hx] at hfl
  have ht:x=1∨x=2:=by omega
  have hC:=a0l q0 false false x ht hfl
  rw [if_neg (by simp [hbad,hfl])] at g4
  have gs1:Go.RowKit.wrap64 (((j:Nat):Int)+1)=((j+1:Nat):Int):=b0l (by omega) (by omega)
  have F0:=yA gcq<|yA gj<|yA glt<|yA gg<|yA hbad<|yA gs1<|F0
  have ch0:=CtM.ch [(500000,57)] (hC)
  have zL:=fun S2=>yN1 ⟨(j+1,q0.tell false x),glt,g4⟩ S2 (by (exact yB glt (yE j)))
  exact HT.w
 rw [yG,h0c] at g4
 have gcq:¬((p0.length:Nat):Int)<((p0.length:Nat):Int):=by omega
 have hq0:=g4
 have F0:=yA gcq<|F0
 iterate 27 first
  |(refine b0g (x:=.seq (.region 17 _ _) _) [8,9,11,61,62,63,64,65,66,67,68,69,70,71,72,73,74,75,76,77,78,79,80] ?_;simp only [go_sem,St.forget,fgt];refine b1h fun zN zM zhN zhM=>?_)
  |refine zhK _ ?_
  |(refine l0n fun zK zhK=>?_;simp only [go_sem,F0];(repeat' (first|apply yA|intro _)))
  |(refine zhN _ ?_;clear zhN zhM)
  |(refine zhM _ _ ?_;clear zhN zhM)
  |refine Rq fun zB zbn zbx zbr zbi=>?_
  |refine f0b ?_
  |(refine zbx _ ?_;clear zbn zbx zbr zbi)
  |(refine zbn _ ?_;clear zbn zbx zbr zbi)
  |(refine Jv fun zK zhK=>?_;simp only [go_sem,F0];(repeat' (first|apply yA|intro _)))
  |refine Yv ?_
  |refine a0m fun zN zM zhN zhM=>?_
  |(refine Rv ?_ ?_;focus (first|rfl|(simp [go_sem,F0];done)))
  |(refine Xz ?_ ?_;focus (first|rfl|(simp [go_sem,F0];done)))
 refine b0s (fun y=>[(66,.w (.one (.pl (.i ((y.1.1:Nat):Int)))))]) (fun y=>[(57,⟨false,y.1.2.ls⟩)]) (fun y=>p1.length-y.1.1) (⟨(0,q0),yP _,rfl⟩:{y:Nat×Jd//y.1≤p1.length∧h0c y.2 true (p1.drop y.1)=h0c q0 true p1}) ?_ ?_ ?_
 ·(simp only [go_sem,leX,yC,yD,F0];try simp)
 ·(simp only [go_sem,leX,yC,yD];first|done|trivial|rfl|simp [Jd.ls,Jd.nil])
 intro zz zN zM zhN zhM
 simp only [yC,yD]
 have yN2:=zhN
 obtain ⟨⟨j,q1⟩,g1,g4⟩:=zz
 simp only at g1 g4
 have hd:(j<p1.length∧2<p1.getD j 0)∨(j<p1.length∧¬2<p1.getD j 0∧q1.flag true (p1.getD j 0)=true)∨(j<p1.length∧¬2<p1.getD j 0∧q1.flag true (p1.getD j 0)=false)∨j=p1.length:=by
  cases q1.flag true (p1.getD j 0)<;>simp<;>omega
 rcases hd with ⟨glt,hbad⟩|⟨glt,hbad,hfl⟩|⟨glt,hbad,hfl⟩|rfl
 ·have gcq:((j:Nat):Int)<((p1.length:Nat):Int):=by omega
  have gj:(0:Int)≤((j:Nat):Int):=by omega
  have gg:=Bj glt
  obtain ⟨x,hx⟩: ∃ x,p1.getD j 0=x:=⟨_,rfl⟩
  have hxr:=Dk (hrng p1 (by simp)).1 x (hx▸Cw glt)
  rw [Ak (z:=0) glt,h0c,hx] at g4
  rw [hx] at gg hbad
  rw [if_pos (.inl hbad)] at g4
  have F0:=yA gcq<|yA gj<|yA glt<|yA gg<|yA hbad<|F0
  have zE:=o0u (lt:=true) hlen hz hq0 g4
  exact HT.w
 ·have gcq:((j:Nat):Int)<((p1.length:Nat):Int):=by omega
  have gj:(0:Int)≤((j:Nat):Int):=by omega
  have gg:=Bj glt
  obtain ⟨x,hx⟩: ∃ x,p1.getD j 0=x:=⟨_,rfl⟩
  have hxr:=Dk (hrng p1 (by simp)).1 x (hx▸Cw glt)
  rw [Ak (z:=0) glt,h0c,hx] at g4
  rw [hx] at gg hbad
  rw [hx] at hfl
  have ht:x=1∨x=2:=by omega
  have hC:=a0l q1 true true x ht hfl
  rw [if_pos (.inr hfl)] at g4
  have F0:=yA gcq<|yA gj<|yA glt<|yA gg<|yA hbad<|F0
  have ch0:=CtM.ch [(500000,57)] (hC)
  have zE:=o0u (lt:=true) hlen hz hq0 g4
  exact HT.w
 ·have gcq:((j:Nat):Int)<((p1.length:Nat):Int):=by omega
  have gj:(0:Int)≤((j:Nat):Int):=by omega
  have gg:=Bj glt
  obtain ⟨x,hx⟩: ∃ x,p1.getD j 0=x:=⟨_,rfl⟩
  have hxr:=Dk (hrng p1 (by simp)).1 x (hx▸Cw glt)
  rw [Ak (z:=0) glt,h0c,hx] at g4
  rw [hx] at gg hbad
  rw [hx] at hfl
  have ht:x=1∨x=2:=by omega
  have hC:=a0l q1 true false x ht hfl
  rw [if_neg (by simp [hbad,hfl])] at g4
  have gs1:Go.RowKit.wrap64 (((j:Nat):Int)+1)=((j+1:Nat):Int):=b0l (by omega) (by omega)
  have F0:=yA gcq<|yA gj<|yA glt<|yA gg<|yA hbad<|yA gs1<|F0
  have ch0:=CtM.ch [(500000,57)] (hC)
  have zL:=fun S2=>yN2 ⟨(j+1,q1.tell true x),glt,g4⟩ S2 (by (exact yB glt (yE j)))
  exact HT.w
 rw [yG,h0c] at g4
 have gcq:¬((p1.length:Nat):Int)<((p1.length:Nat):Int):=by omega
 have hq1:=g4
 have F0:=yA gcq<|F0
 iterate 27 first
  |(refine b0g (x:=.seq (.region 17 _ _) _) [8,9,11,61,62,63,64,65,66,67,68,69,70,71,72,73,74,75,76,77,78,79,80] ?_;simp only [go_sem,St.forget,fgt];refine b1h fun zN zM zhN zhM=>?_)
  |refine zhK _ ?_
  |(refine zhM _ _ ?_;clear zhN zhM)
  |(refine l0n fun zK zhK=>?_;simp only [go_sem,F0];(repeat' (first|apply yA|intro _)))
  |(refine zhN _ ?_;clear zhN zhM)
  |refine f0b ?_
  |(refine zbx _ ?_;clear zbn zbx zbr zbi)
  |(refine zbn _ ?_;clear zbn zbx zbr zbi)
  |(refine Jv fun zK zhK=>?_;simp only [go_sem,F0];(repeat' (first|apply yA|intro _)))
  |refine Rq fun zB zbn zbx zbr zbi=>?_
  |refine a0m fun zN zM zhN zhM=>?_
  |(refine Rv ?_ ?_;focus (first|rfl|(simp [go_sem,F0];done)))
 refine b0s (fun y=>[(84,.w (.one (.pl (.i ((y.1.1:Nat):Int)))))]) (fun y=>[(57,⟨false,y.1.2.ls⟩)]) (fun y=>ts.length-y.1.1) (⟨(0,q1),yP _,rfl⟩:{y:Nat×Jd//y.1≤ts.length∧d0h true y.2 y.1 (ts.drop y.1)=d0h true q1 0 ts}) ?_ ?_ ?_
 ·(simp only [go_sem,leX,yC,yD,F0];try simp)
 ·(simp only [go_sem,leX,yC,yD,F0];try simp)
 intro yy zN zM zhN zhM
 simp only [yC,yD]
 have yN3:=zhN
 obtain ⟨⟨i,q2⟩,h1,h4⟩:=yy
 simp only at h1 h4
 rcases (by omega:i<ts.length∨i=ts.length) with hlt|rfl
 ·have hcq:((i:Nat):Int)<((ts.length:Nat):Int):=by omega
  have hi0:(0:Int)≤((i:Nat):Int):=by omega
  have hg:=Vq hlt
  obtain ⟨l,hl⟩: ∃ l,ts.getD i []=l:=⟨_,rfl⟩
  have hlm:l∈ts:=hl▸Cw hlt
  have hlr:=hrng l (by simp [hlm])
  obtain ⟨wb,hwb⟩: ∃ wb,d0f true i=wb:=⟨_,rfl⟩
  rw [Ak (z:=[]) hlt,d0h,hl,hwb] at h4
  rw [hl] at hg
  have hs1:Go.RowKit.wrap64 (((i:Nat):Int)+1)=((i+1:Nat):Int):=b0l (by omega) (by omega)
  have hw1:=s1k i
  rw [hwb] at hw1
  have hw2:=s1l wb
  have F0:=yA hcq<|yA hi0<|yA hlt<|yA hg<|yA hs1<|yA hw1<|yA hw2<|F0
  iterate 23 first
   |refine zhK _ ?_
   |(refine l0n fun zK zhK=>?_;simp only [go_sem,F0];(repeat' (first|apply yA|intro _)))
   |(refine zhN _ ?_;clear zhN zhM)
   |refine Rq fun zB zbn zbx zbr zbi=>?_
   |refine Yv ?_
   |(refine Jv fun zK zhK=>?_;simp only [go_sem,F0];(repeat' (first|apply yA|intro _)))
   |refine a0m fun zN zM zhN zhM=>?_
   |(refine Xz ?_ ?_;focus (first|rfl|(simp [go_sem,F0];done)))
  refine b0s (fun y=>[(97,.w (.one (.pl (.i ((y.1.1:Nat):Int)))))]) (fun y=>[(57,⟨false,y.1.2.ls⟩)]) (fun y=>l.length-y.1.1) (⟨(0,q2),yP _,rfl⟩:{y:Nat×Jd//y.1≤l.length∧e0e y.2 wb (l.drop y.1)=e0e q2 wb l}) ?_ ?_ ?_
  ·(simp only [go_sem,leX,yC,yD,F0];try simp)
  ·(simp only [go_sem,leX,yC,yD,F0];try simp)
  intro zz zN zM zhN zhM
  simp only [yC,yD]
  have yN4:=zhN
  obtain ⟨⟨j,q3⟩,g1,g4⟩:=zz
  simp only at g1 g4
  have hd:(j<l.length∧(q3.token wb (l.getD j 0)).1=false)∨(j<l.length∧(q3.token wb (l.getD j 0)).1=true)∨(j=l.length∧q3.locks=false)∨(j=l.length∧q3.locks=true∧q3.may wb=true)∨(j=l.length∧q3.locks=true∧q3.may wb=false):=by
   cases (q3.token wb (l.getD j 0)).1<;>cases q3.locks<;>cases q3.may wb<;>simp<;>omega
  rcases hd with ⟨glt,hfl⟩|⟨glt,hfl⟩|⟨rfl,hlk⟩|⟨rfl,hlk,hmy⟩|⟨rfl,hlk,hmy⟩
  ·have gcq:((j:Nat):Int)<((l.length:Nat):Int):=by omega
   have gj:(0:Int)≤((j:Nat):Int):=by omega
   have gg:=Bj glt
   obtain ⟨x,hx⟩: ∃ x,l.getD j 0=x:=⟨_,rfl⟩
   have hxr:=Dk hlr.1 x (hx▸Cw glt)
   rw [Ak (z:=0) glt,e0e,hx] at g4
   rw [hx] at gg hfl
   have hC:=u0j q3 wb x hxr.1 hxr.2
   rw [hfl] at hC
   rw [hfl] at g4
   simp only [reduceIte,yQ] at g4
   rw [←g4] at h4
   have F0:=yA gcq<|yA gj<|yA glt<|yA gg<|yA hfl<|F0
   have ch0:=CtM.ch [(500000,57)] (hC)
   have zE:=(e0a (lt:=true) hlen hz hq0 hq1).trans (h4).symm
   exact HT.w
  ·have gcq:((j:Nat):Int)<((l.length:Nat):Int):=by omega
   have gj:(0:Int)≤((j:Nat):Int):=by omega
   have gg:=Bj glt
   obtain ⟨x,hx⟩: ∃ x,l.getD j 0=x:=⟨_,rfl⟩
   have hxr:=Dk hlr.1 x (hx▸Cw glt)
   rw [Ak (z:=0) glt,e0e,hx] at g4
   rw [hx] at gg hfl
   have hC:=u0j q3 wb x hxr.1 hxr.2
   rw [hfl] at hC
   rw [hfl] at g4
   simp only [reduceIte] at g4
   have gs1:Go.RowKit.wrap64 (((j:Nat):Int)+1)=((j+1:Nat):Int):=b0l (by omega) (by omega)
   have F0:=yA gcq<|yA gj<|yA glt<|yA gg<|yA hfl<|yA gs1<|F0
   have ch0:=CtM.ch [(500000,57)] (hC)
   have zL:=fun S2=>yN4 ⟨(j+1,(q3.token wb x).2),glt,g4⟩ S2 (by (exact yB glt (yE j)))
   exact HT.w
  ·rw [yG,e0e] at g4
   have gcq:¬((l.length:Nat):Int)<((l.length:Nat):Int):=by omega
   have hL:=a0y q3
   rw [hlk] at hL g4
   simp only [wJ,reduceIte,yQ] at g4
   rw [←g4] at h4
   have F0:=yA gcq<|F0
   have ch0:=CtM.ch [(500000,57)] (hL)
   have zL:=fun S2=>yN3 ⟨(i+1,q3),hlt,h4⟩ S2 (by (exact yB hlt (yE i)))
   exact HT.w
  ·rw [yG,e0e] at g4
   have gcq:¬((l.length:Nat):Int)<((l.length:Nat):Int):=by omega
   have hL:=a0y q3
   rw [hlk] at hL g4
   have hM:=v0g q3 wb
   rw [hmy] at hM g4
   simp only [xY,Bool.not_true,reduceIte,yQ] at g4
   rw [←g4] at h4
   have F0:=yA gcq<|F0
   have ch0:=CtM.ch [(500000,57)] (hL)
   have ch1:=CtM.ch [(500000,57)] (hM)
   have zL:=fun S2=>yN3 ⟨(i+1,q3),hlt,h4⟩ S2 (by (exact yB hlt (yE i)))
   exact HT.w
  rw [yG,e0e] at g4
  have gcq:¬((l.length:Nat):Int)<((l.length:Nat):Int):=by omega
  have hL:=a0y q3
  rw [hlk] at hL g4
  have hM:=v0g q3 wb
  rw [hmy] at hM g4
  simp only [xY,wG,reduceIte] at g4
  rw [←g4] at h4
  have F0:=yA gcq<|F0
  have ch0:=CtM.ch [(500000,57)] (hL)
  have ch1:=CtM.ch [(500000,57)] (hM)
  have zE:=(e0a (lt:=true) hlen hz hq0 hq1).trans (h4).symm
  exact HT.w
 rw [yG,d0h] at h4
 have hcq:¬((ts.length:Nat):Int)<((ts.length:Nat):Int):=by omega
 have F0:=yA hcq<|F0
 have zE:=(e0a (lt:=true) hlen hz hq0 hq1).trans (h4).symm
 exact HT.w
theorem f2h (bs:List UInt8) (lt:Bool) (ps:List (List PL)) (p0 p1:List Int) (ts:List (List Int)):Ct Try.prog 34 [.w (.agg (Ow bs lt ps p0 p1 ts))] (fun v m=>v=.w (.one (.pl (.i (Uj lt p0 p1 ts))))):=by
 by_cases h1:((ts.length:Nat):Int)<1
 ·exact b1t bs lt ps p0 p1 ts h1
 by_cases h2:(5:Int)<((ts.length:Nat):Int)
 ·exact b1s bs lt ps p0 p1 ts h1 h2
 cases lt
 ·exact w1r bs ps p0 p1 ts h1 h2
 exact w1q bs ps p0 p1 ts h1 h2
end Go.Sy
namespace Go.Sy
open Go.Proofs
attribute [local irreducible] Cj HT Bv Rj onC onE onO onG goV goA goS Tj Ck
theorem b1r (bs:List UInt8) (lt:Bool) (ps:List (List PL)) (p0 p1:List Int) (ts:List (List Int)) (h1:((ts.length:Nat):Int)=0):
 Ct Try.prog 38 [.w (.agg (Ow bs lt ps p0 p1 ts))] (fun v m=>v=.w (.one (.pl (.i (a0p lt p0 p1 ts))))):=by
 have zE:=q1u (lt:=lt) (p0:=p0) (p1:=p1) (ts:=ts) (.inl h1)
 have F0:=yA Ow.eq_1<|yA Fz<|h1
 exact Ct.go Try.func38 rfl Try.ntmps38 Try.results38
theorem b1q (bs:List UInt8) (lt:Bool) (ps:List (List PL)) (p0 p1:List Int) (ts:List (List Int)) (h1:¬((ts.length:Nat):Int)=0) (h2:(5:Int)<((ts.length:Nat):Int)):
 Ct Try.prog 38 [.w (.agg (Ow bs lt ps p0 p1 ts))] (fun v m=>v=.w (.one (.pl (.i (a0p lt p0 p1 ts))))):=by
 have zE:=q1u (lt:=lt) (p0:=p0) (p1:=p1) (ts:=ts) (.inr h2)
 have F0:=yA Ow.eq_1<|yA Fz<|yA h1<|h2
 exact Ct.go Try.func38 rfl Try.ntmps38 Try.results38
theorem b1p (bs:List UInt8) (lt:Bool) (ps:List (List PL)) (p0 p1:List Int) (ts:List (List Int)) (h1:¬((ts.length:Nat):Int)=0) (h2:¬(5:Int)<((ts.length:Nat):Int)) (e:Int) (he:scan (p0::p1::ts)=e) (hz:¬e=0):
 Ct Try.prog 38 [.w (.agg (Ow bs lt ps p0 p1 ts))] (fun v m=>v=.w (.one (.pl (.i e)))):=by
 have hlen:¬(ts.length<1∨5<ts.length):=by omega
 have hts:ts.length≤1000000:=by omega
 have ht5:ts.length≤5:=by omega
 have hbb:(2+ts.length)*24≤140737488355328:=by omega
 have hfo:=v0v (p0::p1::ts) false (by simp only [yH];omega)
 have hch:=e0u (p0::p1::ts)
 have hsz:(p0::p1::ts).length=2+ts.length:=by simp only [yH];omega
 rw [hsz] at hch
 rw [he] at hfo
 have F0:=yA Ow.eq_1<|yA Fz<|yA Fx<|yA h1<|yA h2<|yA hbb<|yA Ez<|yA s0b<|yA k0x<|yA a0g<|yA s0a<|yA hch<|yA hsz<|yA m0b<|yA w0d<|yA c1e<|yA k1e<|yA k1d<|yA (@w0a 64 1 (by decide))<|yA m0e<|yA w0c<|yA c1n<|yA h0o<|yA v0x<|yA v0z<|hz
 have cv0:=Ct.cv (hfo)
 have cq:=yA cv0<|trivial
 exact Ct.go Try.func38 rfl Try.ntmps38 Try.results38
theorem f2g (bs:List UInt8) (lt:Bool) (ps:List (List PL)) (p0 p1:List Int) (ts:List (List Int)):Ct Try.prog 38 [.w (.agg (Ow bs lt ps p0 p1 ts))] (fun v m=>v=.w (.one (.pl (.i (a0p lt p0 p1 ts))))):=by
 by_cases h1:((ts.length:Nat):Int)=0
 ·exact b1r bs lt ps p0 p1 ts h1
 by_cases h2:(5:Int)<((ts.length:Nat):Int)
 ·exact b1q bs lt ps p0 p1 ts h1 h2
 by_cases hz:scan (p0::p1::ts)=0
 ·cases h0:c0g [] false p0 with
  |none=>exact q0c bs lt ps p0 p1 ts h1 h2 hz fun q0 q1 ha=>by rw [h0] at ha;cases ha
  |some q0=>
   cases hb:c0g q0 true p1 with
   |none=>exact q0c bs lt ps p0 p1 ts h1 h2 hz fun a b ha hc=>by rw [h0] at ha;cases ha;rw [hb] at hc;cases hc
   |some q1=>
    by_cases hn:q1=[]
    ·exact i1j bs lt ps p0 p1 ts h1 h2 hz fun a b ha hc=>by rw [h0] at ha;cases ha;rw [hb] at hc;cases hc;exact hn
    exact q0c bs lt ps p0 p1 ts h1 h2 hz fun a b ha hc=>by rw [h0] at ha;cases ha;rw [hb] at hc;cases hc;exact hn
 rw [b2f (lt:=lt) (by omega) rfl hz]
 exact b1p bs lt ps p0 p1 ts h1 h2 _ rfl hz
end Go.Sy
