/- Walks and what they compute. CONDITIONS: those that each theorem names. -/
import Derived.Test.YtkfcbhgkpknagaaGreatDoorvE3
import Derived.Test.YtkfcbhgkpknagaaGreatDoorvS5
import Derived.Test.YtkfcbhgkpknagaaGreatDoorvS6
import Derived.Test.YtkfcbhgkpknagaaGreatDoorvS7
set_option linter.unusedVariables false
set_option linter.unusedSimpArgs false
set_option maxHeartbeats 1600000
set_option maxRecDepth 100000
namespace Go.Sy
namespace Bk
open Go.Proofs
attribute [local irreducible] Bw HT Aj Jk onC onE onO onG goV goA goS Lx Bz
theorem f2v (h0 h1 h2 h3 h4 h5 h6 h7:UInt32) (held:List UInt8) (hh:held.length=64) (k l:Nat) (hok:HashOk held (k:Int) (l:Int)):
 CtM Tryz.prog 85 [.w (.agg (Dx ⟨h0,h1,h2,h3,h4,h5,h6,h7⟩ held (k:Int) (l:Int)))] [(1000002,⟨false,gFi⟩),(1000004,⟨false,j0h⟩)] (Told (fun v m=>v=.tup [.agg (Az (q1a (h0v ⟨h0,h1,h2,h3,h4,h5,h6,h7⟩ held l true).l)),.one (.pl (.i 0))]∧m=[])):=by
 have he:=f0g hok
 have hb:=d0p hok
 have hl3:l≤1073741824:=by have:=hok.mx;omega
 obtain ⟨s,hs⟩: ∃ s,h0v ⟨h0,h1,h2,h3,h4,h5,h6,h7⟩ held l true=s:=⟨_,rfl⟩
 have hlsl:=s.ls_l
 have hl8:=s.l_length
 have hul:=a0t s.l
 rw [hl8] at hul
 have hsq:=f1s h0 h1 h2 h3 h4 h5 h6 h7 held hh (k:Int) l hl3 true
 rw [hs,hlsl] at hsq
 have F0:=yA Dx.eq_1<|yA H8.ls.eq_1<|yA hh<|yA he<|hul
 refine CtM.go Tryz.func85 rfl Tryz.ntmps85 Tryz.results85 fun w0 ro may fx zZ zhY=>?_
 have cq:=yA (Ct.cv (l0p h0 h1 h2 h3 h4 h5 h6 h7 held hh (k:Int) (l:Int)))<|yA (CtM.ch [] (hsq.told))<|trivial
 refine (fun zX=>goW) ?_
 refine Bv [0,1,4,8,9,10,11,12,13,14,15] ?_
 simp only [Bj,Cx,Bq,yI,yK,Nat.reduceBEq,beq_self_eq_true,yS,yV,yY,yT,yE,reduceIte]
 refine Gx (fun y=>[(16,.w (.one (.pl (.i ((y.1.1:Nat):Int)))))]) (fun y=>[(6,⟨false,Az y.1.2⟩)]) (fun y=>32-y.1.1) (⟨(0,List.replicate 32 0),xA _,by simp,rfl⟩:{y:Nat×List UInt8//y.1≤32∧y.2.length=32∧y.2.take y.1=(q1a s.l).take y.1}) ?_
 intro yy xN0 xM0 xhN0 xhM0
 simp only [yB,yC]
 obtain ⟨⟨i,q⟩,hi,hq,hv⟩:=yy
 simp only at hi hq hv
 rcases yZ i 32 with hlt|hge
 ·have hcq:((i:Nat):Int)<32:=by omega
  have hc0:(0:Int)≤((i:Nat):Int)∧(0:Int)≤((i/4:Nat):Int)∧((i/4:Nat):Int)<8∧(0:Int)≤((8*(i%4):Nat):Int)∧i+1≤32∧i/4+1≤8:=by omega
  have hdv:((i:Nat):Int).tdiv 4=((i/4:Nat):Int):=rfl
  have hmv:((i:Nat):Int).tmod 4=((i%4:Nat):Int):=rfl
  have hu1:=d0e (l:=s.l) (i:=i/4) (by omega)
  have hke:=f2u s i hlt
  obtain ⟨x,hx⟩: ∃ x,(q1a s.l).getD i 0=x:=⟨_,rfl⟩
  have hst:=u1p hq (i0g s) hlt hv
  rw [hx] at hke hst
  obtain ⟨hwd,hw8,hs1⟩:Go.RowKit.wrap64 ((i/4:Nat):Int)=((i/4:Nat):Int)∧Go.RowKit.wrap64 (8*((i%4:Nat):Int))=((8*(i%4):Nat):Int)∧Go.RowKit.wrap64 (((i:Nat):Int)+1)=((i+1:Nat):Int):=⟨Gy rfl (by omega),Gy (by omega) (by omega),Gy (by omega) (by omega)⟩
  have hput:Az (List.take i q)++[L.pl (PL.u8 x)]++Az (List.drop (i+1) q)=Az (q.take i++x::q.drop (i+1)):=by simp [Az]
  have n2:=d2s hq hlt x
  have F0:=yA hq<|yA hcq<|yA hc0<|yA hdv<|yA hmv<|yA hwd<|yA hw8<|yA hs1<|yA hu1<|yA hke<|yA hput<|F0
  have zL:=fun S2=>xhN0 ⟨(i+1,q.take i++x::q.drop (i+1)),hlt,n2,hst⟩ S2 (by (exact yP hlt (yQ i)))
  exact goW
 obtain rfl:i=32:=by omega
 have hcq:¬((32:Nat):Int)<32:=by omega
 have hqe:q=q1a s.l:=by rw [xE (by omega),xE (by rw [i0g];omega)] at hv;exact hv
 have F0:=yA hq<|yA hcq<|F0
 refine (fun zX=>goW) ?_
 refine zhY _ _ ?_
 simp only [go_sem,F0]
 all_goals (exact told_plain (y0o _ _) ⟨by rw [hqe,hs],rfl⟩)
theorem q1f (h0 h1 h2 h3 h4 h5 h6 h7:UInt32) (held:List UInt8) (hh:held.length=64) (k l:Nat) (hok:HashOk held (k:Int) (l:Int)):
 CtM Tryz.prog 104 [.w (.agg (Dx ⟨h0,h1,h2,h3,h4,h5,h6,h7⟩ held (k:Int) (l:Int)))] [(1000003,⟨false,gFi⟩)] (Told (fun v m=>v=.tup [.agg (Az (q1a (h0v ⟨h0,h1,h2,h3,h4,h5,h6,h7⟩ held l true).l)),.one (.pl (.i 0))]∧m=[])):=by
 have he:=f0g hok
 have hb:=d0p hok
 have hl3:l≤1073741824:=by have:=hok.mx;omega
 obtain ⟨s,hs⟩: ∃ s,h0v ⟨h0,h1,h2,h3,h4,h5,h6,h7⟩ held l true=s:=⟨_,rfl⟩
 obtain ⟨s0,s1,s2,s3,s4,s5,s6,s7⟩:=s
 have F0:=yA hh<|yA hb<|hs
 refine CtM.k Tryz.func104 rfl Tryz.ntmps104 (congrArg Array.toList Tryz.results104) (by simp) fun w0 ro may fx=>?_
 refine b0q fun zZ zhZ=>?_
 iterate 186 first
  |(refine Ez (x:=.seq (.region 6 _ _) _) [7,21,22,23,24,25,26,27,28] ?_;simp only [go_sem,St.forget,fgt];refine Oz fun zN zM zhN zhM=>?_)
  |refine Oz fun zN zM zhN zhM=>?_
  |refine zhK _ ?_
  |(refine zhN _ ?_;clear zhN zhM)
  |(refine Lj fun zK zhK=>?_;simp only [go_sem,Dx,H8.ls,Ay,F0];(repeat' (first|apply yA|intro _)))
  |(refine Cw fun zK zhK=>?_;simp only [go_sem,Dx,H8.ls,Ay,F0];(repeat' (first|apply yA|intro _)))
  |refine Gq ?_
  |refine Cj fun zB zbn zbx zbr zbi=>?_
  |(refine zbn _ ?_;clear zbn zbx zbr zbi)
  |(refine zhM _ _ ?_;clear zhN zhM)
  |refine Jz (x:=.seq (.region 6 _ _) _) 9 ?_
  |refine Jv ?_
  |(refine zbx _ ?_;clear zbn zbx zbr zbi)
  |refine Tk ?_
  |(refine zhZ _ _ ?_;simp only [go_sem,Dx,H8.ls,Ay,F0];(all_goals (exact told_plain (y0o _ _) ⟨by simp [q1a,H8.l,wM],rfl⟩)))
  |((all_goals refine Cv (fun k=>k) (fun _ _=>rfl) (by first|rfl|(simp only [go_sem,Dx,H8.ls,Ay,F0]<;>rfl)) ((j1l _ 4 (by decide)).plain fun _ _ h=>h) ?_);(all_goals (rintro v m ⟨hR,hm⟩;subst hR;subst hm));(all_goals refine yA (by first|rfl|simp only [go_sem,Dx,H8.ls,Ay,F0]) (yA (by first|rfl|simp only [go_sem,Dx,H8.ls,Ay,F0]) ?_));(all_goals simp only [go_sem,Dx,H8.ls,Ay,F0]);(all_goals repeat' (first|apply yA|intro _)))
  |((all_goals (refine Cv (fun k=>k) (fun _ _=>rfl) ?_ ((v0m h0 h1 h2 h3 h4 h5 h6 h7 held hh (k:Int) (l:Int)).plain fun _ _ h=>h) ?_;focus (first|rfl|(simp only [go_sem,Dx,H8.ls,Ay,F0]<;>rfl))));(all_goals (rintro v m ⟨hR,hm⟩;subst hR;subst hm));(all_goals refine yA (by first|rfl|simp only [go_sem,Dx,H8.ls,Ay,F0]) (yA (by first|rfl|simp only [go_sem,Dx,H8.ls,Ay,F0]) ?_));(all_goals simp only [go_sem,Dx,H8.ls,Ay,F0]);(all_goals repeat' (first|apply yA|intro _)))
  |(refine c1z (id:=5) mixed fun zE zhE=>?_;refine Ij (p:=0) 8 [13,14,15,16,17,18,19,20] [0,1,0,4,0,16,63,0] [] rfl (by kernel_rfl) rfl (by simp only [go_sem]) fun zR zK zhR zhK=>?_;simp only [go_sem,Dx,H8.ls,Ay,F0];(repeat' (first|apply yA|intro _));(all_goals (refine Hz (fun k=>k) _ [] (fun _ _=>rfl) ?_ ?_ ?_ (x0l h0 h1 h2 h3 h4 h5 h6 h7 held hh l hl3 true).told ?_ ?_;(iterate 2 (focus (first|rfl|(simp only [go_sem,Dx,H8.ls,Ay,F0]<;>first|done|rfl|simp))));(first|kernel_rfl|rfl|simp [o0d,r0k,pls])));(all_goals try (refine yA ?_ (yA ?_ (yA ?_ ?_))<;>(first|rfl|(simp only [go_sem,Dx,H8.ls,Ay,F0];done)|(simp [go_sem,look,Dx,H8.ls,Ay,F0];done))));(all_goals (try simp only [go_sem,Dx,H8.ls,Ay,F0]));(all_goals (try simp only [go_sem,Dx,H8.ls,Ay,F0]));(all_goals repeat' (first|apply yA|intro _));refine zhK _ _ trivial (zhR _ ?_);refine b0b rfl (zhE _ ?_))
  |((all_goals refine Cv (fun k=>k) (fun _ _=>rfl) (by first|rfl|(simp only [go_sem,Dx,H8.ls,Ay,F0]<;>rfl)) ((key_ _ (by first|rfl|simp [Ay])).plain fun _ _ h=>h) ?_);(all_goals (rintro v m ⟨hR,hm⟩;subst hR;subst hm));(all_goals refine yA (by first|rfl|simp only [go_sem,Dx,H8.ls,Ay,F0]) (yA (by first|rfl|simp only [go_sem,Dx,H8.ls,Ay,F0]) ?_));(all_goals simp only [go_sem,Dx,H8.ls,Ay,F0]);(all_goals repeat' (first|apply yA|intro _)))
  |refine Fw fun zN zM zhN zhM=>?_
  |(refine Dw ?_ ?_;focus (first|rfl|(simp [go_sem,Dx,H8.ls,Ay,F0];done)))
  |(refine Dk ?_ ?_;focus (first|rfl|(simp [go_sem,Dx,H8.ls,Ay,F0];done)))
end Bk
end Go.Sy
namespace Go.Sy
namespace Bk
open Go.Proofs
attribute [local irreducible] Bw HT Aj Jk onC onE onO onG goV goA goS Lx Bz
theorem u1j {s:HSt} (c:UInt8) (h:s.done%64=0):(b0s s c).done%64=0∧¬(b0s s c).rest.length=0:=by
 unfold b0s
 split
 ·exact ⟨by show (s.done+64)%64=0;omega,by simp⟩
 exact ⟨h,by simp⟩
theorem t1m : ∀ {l:List UInt8} {s:HSt},s.done%64=0→(s.rest.length=0→s.done=0)→(b0g s l).done%64=0∧((b0g s l).rest.length=0→(b0g s l).done=0)
 | [],_,h,h2=>⟨h,h2⟩
 |c::l,s,h,_=>by
  obtain ⟨h3,h4⟩:=u1j (s:=s) c h
  exact t1m (l:=l) h3 (fun e=>absurd e h4)
def j2i :HSt:=⟨⟨0,0,0,0,0,0,0,0⟩,0,[]⟩
def k0o :HSt:=⟨(⟨(1779033703^^^16842784),3144134277,1013904242,2773480762,1359893119,2600822924,528734635,1541459225⟩:H8),0,[]⟩
def x0i (b:List UInt8):HSt:=if 1073741824<b.length then j2i else b0g k0o b
theorem Vv (l:List UInt8):Dv (.w (.agg (Az l)))=true:=p0d l
def i2u (b:List UInt8):Int:=if 1073741824<b.length then 1 else 0
def c0f (b:List UInt8):List UInt8:=q1a (h0v (x0i b).h (Qx (x0i b).rest) (x0i b).len true).l
theorem Hw (b:List UInt8):(c0f b).length=32:=i0g _
theorem u0c (b:List UInt8):(x0i b).ok:=by
 unfold x0i
 split
 ·exact ⟨by decide,by decide,by decide,fun _=>rfl⟩
 obtain ⟨h1,h2⟩:=t1m (l:=b) (s:=k0o) rfl (fun _=>rfl)
 obtain ⟨h3,h4⟩:=k0u (l:=b) (s:=k0o) (by decide)
 have h5:k0o.done=0∧k0o.rest.length=0:=⟨rfl,rfl⟩
 exact ⟨h3,by show (b0g k0o b).done+(b0g k0o b).rest.length≤_;omega,h1,h2⟩
theorem f1r :stB j2i=Dx ⟨0,0,0,0,0,0,0,0⟩ (List.replicate 64 0) 0 0:=rfl
theorem y1b (b:List UInt8) (hbl:b.length≤9223372036854775807) (ex:Bool):CtM Tryz.prog 83 [.w (.agg (Dx (⟨(1779033703^^^16842784),3144134277,1013904242,2773480762,1359893119,2600822924,528734635,1541459225⟩:H8) (List.replicate 64 0) 0 0)),.w (.one (.pl (.R ex 1 (Av b))))] [(1000002,⟨false,gFi⟩),(1000004,⟨false,j0h⟩)] (Told (fun v m=>v=.tup [.agg (stB (x0i b)),.one (.pl (.i (i2u b)))]∧m=[])):=by
 have hok:HashOk (List.replicate 64 0) ((0:Nat):Int) ((0:Nat):Int):=m0g (s:=k0o) ⟨by decide,by decide,by decide,fun _=>rfl⟩
 by_cases h:1073741824<b.length
 ·rw [x0i,i2u,if_pos h,if_pos h,f1r]
  exact q1l (1779033703^^^16842784) 3144134277 1013904242 2773480762 1359893119 2600822924 528734635 1541459225 (List.replicate 64 0) (by simp) 0 0 hok b (by omega) ex (by omega)
 rw [x0i,i2u,if_neg h,if_neg h]
 exact j1s (1779033703^^^16842784) 3144134277 1013904242 2773480762 1359893119 2600822924 528734635 1541459225 (List.replicate 64 0) (by simp) 0 0 hok b (by omega) ex (by omega)
theorem j1q (b:List UInt8) (hbl:b.length≤9223372036854775807) (ex:Bool):CtM Tryz.prog 102 [.w (.agg (Dx (⟨(1779033703^^^16842784),3144134277,1013904242,2773480762,1359893119,2600822924,528734635,1541459225⟩:H8) (List.replicate 64 0) 0 0)),.w (.one (.pl (.R ex 1 (Av b))))] [(1000003,⟨false,gFi⟩)] (Told (fun v m=>v=.tup [.agg (stB (x0i b)),.one (.pl (.i (i2u b)))]∧m=[])):=by
 have hok:HashOk (List.replicate 64 0) ((0:Nat):Int) ((0:Nat):Int):=m0g (s:=k0o) ⟨by decide,by decide,by decide,fun _=>rfl⟩
 by_cases h:1073741824<b.length
 ·rw [x0i,i2u,if_pos h,if_pos h,f1r]
  exact c1q (1779033703^^^16842784) 3144134277 1013904242 2773480762 1359893119 2600822924 528734635 1541459225 (List.replicate 64 0) (by simp) 0 0 hok b (by omega) ex (by omega)
 rw [x0i,i2u,if_neg h,if_neg h]
 exact z0r (1779033703^^^16842784) 3144134277 1013904242 2773480762 1359893119 2600822924 528734635 1541459225 (List.replicate 64 0) (by simp) 0 0 hok b (by omega) ex (by omega)
theorem x1w (b:List UInt8):CtM Tryz.prog 85 [.w (.agg (stB (x0i b)))] [(1000002,⟨false,gFi⟩),(1000004,⟨false,j0h⟩)] (Told (fun v m=>v=.tup [.agg (Az (c0f b)),.one (.pl (.i 0))]∧m=[])):=by
 have h:=u0c b
 unfold c0f
 obtain ⟨⟨⟨h0,h1,h2,h3,h4,h5,h6,h7⟩,d,r⟩,hs⟩: ∃ s,x0i b=s:=⟨_,rfl⟩
 rw [hs] at h ⊢
 exact f2v h0 h1 h2 h3 h4 h5 h6 h7 (Qx r) (Fy h.1) r.length _ (m0g h)
theorem j1p (b:List UInt8):CtM Tryz.prog 104 [.w (.agg (stB (x0i b)))] [(1000003,⟨false,gFi⟩)] (Told (fun v m=>v=.tup [.agg (Az (c0f b)),.one (.pl (.i 0))]∧m=[])):=by
 have h:=u0c b
 unfold c0f
 obtain ⟨⟨⟨h0,h1,h2,h3,h4,h5,h6,h7⟩,d,r⟩,hs⟩: ∃ s,x0i b=s:=⟨_,rfl⟩
 rw [hs] at h ⊢
 exact q1f h0 h1 h2 h3 h4 h5 h6 h7 (Qx r) (Fy h.1) r.length _ (m0g h)
theorem f1o (b:List UInt8) (hbl:b.length≤9223372036854775807) (ex:Bool):
 CtM Tryz.prog 54 [.w (.one (.pl (.R ex 1 (Av b))))] [(1000002,⟨false,gFi⟩),(1000004,⟨false,j0h⟩)] (Told (fun v m=>v=.w (.agg (Az (c0f b)))∧m=[])):=by
 obtain ⟨⟨⟨q0,q1,q2,q3,q4,q5,q6,q7⟩,d,q⟩,hs⟩: ∃ s,x0i b=s:=⟨_,rfl⟩
 have hok:=u0c b
 rw [hs] at hok
 have hpq:=Fy (r:=q) hok.1
 have hkl:=Hw b
 have hA:=y1b b hbl ex
 rw [hs] at hA
 have hE:=x1w b
 rw [hs] at hE
 have F0:=yA stB.eq_1<|yA Dx.eq_1<|yA H8.ls.eq_1<|yA hpq<|hkl
 refine CtM.go Tryz.func54 rfl Tryz.ntmps54 Tryz.results54 fun w0 ro may fx zZ zhY=>?_
 have cq:=yA (CtM.ch [] (n2u.told))<|yA (CtM.ch [] (hA.told))<|yA (CtM.ch [] (hE.told))<|trivial
 refine (fun zX=>goW) ?_
 refine zhY _ _ ?_
 simp only [go_sem,F0]
 all_goals (exact told_plain (Vv _) ⟨rfl,rfl⟩)
theorem p0x (b:List UInt8) (hbl:b.length≤9223372036854775807):
 CtM Tryz.prog 72 [.w (.one (.pl (.str b)))] [(1000003,⟨false,gFi⟩)] (Told (fun v m=>v=.w (.agg (Az (c0f b)))∧m=[])):=by
 obtain ⟨⟨⟨q0,q1,q2,q3,q4,q5,q6,q7⟩,d,q⟩,hs⟩: ∃ s,x0i b=s:=⟨_,rfl⟩
 have hok:=u0c b
 rw [hs] at hok
 have hpq:=Fy (r:=q) hok.1
 have hkl:=Hw b
 have hA:=j1q b hbl false
 rw [hs] at hA
 have hE:=j1p b
 rw [hs] at hE
 have hbl2:b.length≤9223372036854775807:=by omega
 have F0:=yA stB.eq_1<|yA Dx.eq_1<|yA H8.ls.eq_1<|yA hpq<|yA hkl<|hbl2
 refine CtM.go Tryz.func72 rfl Tryz.ntmps72 Tryz.results72 fun w0 ro may fx zZ zhY=>?_
 have cq:=yA (CtM.ch [] (n2t.told))<|yA (CtM.ch [] (hA.told) (vw:=true))<|yA (CtM.ch [] (hE.told))<|trivial
 refine (fun zX=>goW) ?_
 refine zhY _ _ ?_
 simp only [go_sem,F0]
 all_goals (exact told_plain (Vv _) ⟨rfl,rfl⟩)
end Bk
end Go.Sy
