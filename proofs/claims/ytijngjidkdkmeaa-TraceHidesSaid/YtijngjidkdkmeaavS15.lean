/- Walks and what they compute. CONDITIONS: those that each theorem names. -/
import Derived.Test.YtijngjidkdkmeaavE3
import Derived.Test.YtijngjidkdkmeaavS14
import Derived.Test.YtijngjidkdkmeaavE7
set_option linter.unusedVariables false
set_option linter.unusedSimpArgs false
set_option maxHeartbeats 1600000
set_option maxRecDepth 100000
namespace Go.Sy
open Go.Proofs
attribute [local irreducible] Cj HT Bv Rj onC onE onO onG goV goA goS Tj Ck
theorem r0t {a b s:List UInt8} (h:a++b=s) (hl:a.length+b.length≤9223372036854775807):Tq Try.prog .add 9 (.w (.one (.pl (.str a)))) (.w (.one (.pl (.str b))))=some (.w (.one (.pl (.str s)))):=by rw [←h];exact j0e Try.prog 9 a b hl
theorem b1b (k i o:Nat) (l:List Aw):Jq (.mk k i o l)=[40]++f0g k++[46]++f0g i++[46]++f0g o++i0b l++[41]:=by rw [Jq];rfl
theorem w1a :i0b []=[]:=by rw [i0b]
theorem x0v (a:Aw) (l:List Aw):i0b (a::l)=Jq a++i0b l:=by rw [i0b]
theorem p2e (k i o:Nat) (l:List Aw) (hk:k≤9223372036854775807) (hi:i≤9223372036854775807) (ho:o≤9223372036854775807) (hl:l.length≤9223372036854775807) (hz:(Jq (.mk k i o l)).length≤100000000) (ih: ∀ a,a∈l→Ct Try.prog 17 [Yy a] (fun v m=>v=.w (.one (.pl (.str (Jq a)))))):
 Ct Try.prog 17 [Jy k i o l] (fun v m=>v=.w (.one (.pl (.str (Jq (.mk k i o l)))))):=by
 have ck:=o2t k hk
 have ci:=o2t i hi
 have co:=o2t o ho
 have hzl:=hz
 rw [b1b] at hzl
 simp only [yL,yH,xE] at hzl
 obtain ⟨s1,h1⟩: ∃ s,[40]++f0g k=s:=⟨_,rfl⟩
 have e1:=congrArg List.length h1
 simp only [yL,yH,xE] at e1
 have c1:=r0t (a:=[40]) (b:=f0g k) h1 (by (try simp only [yH,xE]);omega)
 obtain ⟨s2,h2⟩: ∃ s,s1++[46]=s:=⟨_,rfl⟩
 have e2:=congrArg List.length h2
 simp only [yL,yH,xE] at e2
 have c2:=r0t (a:=s1) (b:=[46]) h2 (by (try simp only [yH,xE]);omega)
 obtain ⟨s3,h3⟩: ∃ s,s2++f0g i=s:=⟨_,rfl⟩
 have e3:=congrArg List.length h3
 simp only [yL,yH,xE] at e3
 have c3:=r0t (a:=s2) (b:=f0g i) h3 (by (try simp only [yH,xE]);omega)
 obtain ⟨s4,h4⟩: ∃ s,s3++[46]=s:=⟨_,rfl⟩
 have e4:=congrArg List.length h4
 simp only [yL,yH,xE] at e4
 have c4:=r0t (a:=s3) (b:=[46]) h4 (by (try simp only [yH,xE]);omega)
 obtain ⟨s5,h5⟩: ∃ s,s4++f0g o=s:=⟨_,rfl⟩
 have e5:=congrArg List.length h5
 simp only [yL,yH,xE] at e5
 have c5:=r0t (a:=s4) (b:=f0g o) h5 (by (try simp only [yH,xE]);omega)
 have hs5:Jq (.mk k i o l)=s5++i0b l++[41]:=by rw [b1b,←h5,←h4,←h3,←h2,←h1]
 have h5l:s5.length+(i0b l).length≤100000000:=by rw [hs5] at hz;simp only [yL,yH,xE] at hz;omega
 have F0:=yA @Az<|yA c1<|yA c2<|yA c3<|yA c4<|c5
 refine Ct.go Try.func17 rfl Try.ntmps17 Try.results17 fun w0 ro zZ zhZ=>?_
 refine (fun zX=>goW) ?_
 refine Zq (id:=1) mixed fun zE zhE=>?_
 refine Aq (p:=0) 13 [6,7,8,9,10,11,12,13,14,15,16,17,18] [0,1,3,7,15,0,32,103,255,511,0,1024,3303,8191,16383] [] rfl (by kernel_rfl) rfl (by simp only [go_sem]) fun zR zK zhR zhK=>?_
 simp only [go_sem,F0]
 repeat' (first|apply yA|intro _)
 all_goals (refine Oy (fun k=>k) (.w (.one (.pl (.str (f0g k))))) [] (fun _ _=>rfl) ?_ ((ck).plain fun _ _ h=>h) ?_ ?_;focus (first|rfl|(simp only [go_sem,F0]<;>rfl)))
 all_goals try (refine yA ?_ (yA ?_ (yA ?_ ?_))<;>first|rfl|simp only [go_sem])
 all_goals simp only [go_sem,F0]
 all_goals repeat' (first|apply yA|intro _)
 all_goals (refine Oy (fun k=>k) (.w (.one (.pl (.str (f0g i))))) [] (fun _ _=>rfl) ?_ ((ci).plain fun _ _ h=>h) ?_ ?_;focus (first|rfl|(simp only [go_sem,F0]<;>rfl)))
 all_goals try (refine yA ?_ (yA ?_ (yA ?_ ?_))<;>first|rfl|simp only [go_sem])
 all_goals simp only [go_sem,F0]
 all_goals repeat' (first|apply yA|intro _)
 all_goals (refine Oy (fun k=>k) (.w (.one (.pl (.str (f0g o))))) [] (fun _ _=>rfl) ?_ ((co).plain fun _ _ h=>h) ?_ ?_;focus (first|rfl|(simp only [go_sem,F0]<;>rfl)))
 all_goals try (refine yA ?_ (yA ?_ (yA ?_ ?_))<;>first|rfl|simp only [go_sem])
 all_goals simp only [go_sem,F0]
 all_goals repeat' (first|apply yA|intro _)
 refine zhK _ _ trivial (zhR _ ?_)
 refine Cz 2 15 rfl (by kernel_rfl) rfl rfl fun zR zhR=>?_
 simp only [go_sem,F0]
 repeat' (first|apply yA|intro _)
 refine zhR _ ?_
 refine Gv rfl (zhE _ ?_)
 refine (fun zX=>goW) ?_
 refine Kj [0,1,6,7,8,9,10,11,12,13,14,15,16,17,18,19,20] ?_
 simp only [Lx,Oq,Kk,xA,xG,Nat.reduceBEq,beq_self_eq_true,xM,xP,xO,xD,yQ,reduceIte]
 refine Nw (fun y=>[(23,.w (.one (.pl (.i ((y.1.1:Nat):Int))))),(3,.w (.one (.pl (.str y.1.2))))]) (fun _=>[]) (fun y=>l.length-y.1.1) (⟨(0,s5),yP _,rfl⟩:{y:Nat×List UInt8//y.1≤l.length∧y.2++i0b (l.drop y.1)=s5++i0b l}) ?_
 intro ⟨⟨j,s⟩,g1,g4⟩ xN0 xM0 xhN0 xhM0
 simp only [yC,yD]
 have g1:j≤l.length:=g1
 have g4:s++i0b (l.drop j)=s5++i0b l:=g4
 rcases yZ j l.length with hlt|hge
 ·obtain ⟨k2,i2,o2,m2,he,hm,hdr,hg⟩:=Cy hlt
  have hc:=ih _ hm
  rw [Bw] at hc
  have hci:=ltI hlt
  have hj:(0:Int)≤((j:Nat):Int):=yN j
  have hjl:j<(Ay l).length:=by rw [Az];exact hlt
  have hs1:=Zj hlt hl
  rw [hdr,x0v] at g4
  obtain ⟨w,hw⟩: ∃ w,Jq (.mk k2 i2 o2 m2)=w:=⟨_,rfl⟩
  rw [hw] at hc g4
  have hgl:=congrArg List.length g4
  simp only [yL] at hgl
  have hcc:=r0t (a:=s) (b:=w) rfl (by omega)
  have F0:=yA hci<|yA hj<|yA hjl<|yA hg<|yA xC<|yA Az<|yA hs1<|yA hcc<|F0
  have cv0:=Ct.cv (hc)
  have zL:=fun S2=>xhN0 ⟨(j+1,s++w),hlt,by rw [wD];exact g4⟩ S2 (by (exact yB hlt (yE j)))
  exact goW
 obtain rfl:j=l.length:=xJ g1 hge
 rw [yG,w1a,xX] at g4
 have hgl:=congrArg List.length g4
 simp only [yL] at hgl
 obtain ⟨z,hz2⟩: ∃ z,s++[41]=z:=⟨_,rfl⟩
 have hcc:=r0t (a:=s) (b:=[41]) hz2 (by simp only [yH,xE];omega)
 have zE:V.w (.one (.pl (.str z)))=V.w (.one (.pl (.str (Jq (.mk k i o l))))):=by rw [hs5,←g4,hz2]
 have F0:=yA (@a1p l.length)<|yA hcc<|F0
 exact goW
theorem e1u : ∀ {l:List Aw} {a:Aw},a∈l→(Jq a).length≤(i0b l).length
 |b::l,a,h=>by
  rw [x0v,yL]
  rcases yT.mp h with rfl|h
  ·omega
  have:=e1u h;omega
theorem b2s {k i o:Int} {l:List Aw} (h:wfT (.mk k i o l)):1≤k∧k≤7∧0≤i∧0≤o:=by
 obtain ⟨h1,h2,_⟩:=o0m h.2
 rw [okT,yF,yF,yF,decide_eq_true_eq,decide_eq_true_eq,decide_eq_true_eq] at h2
 exact ⟨by omega,by omega,h2.1.1.2,h2.1.2⟩
theorem s0y : ∀ (t:Aw),wfT t→(Jq t).length≤100000000→Ct Try.prog 17 [Yy t] (fun v m=>v=.w (.one (.pl (.str (Jq t)))))
 | .mk k i o l,hw,hz=>by
  obtain ⟨n1,_,n2,n3⟩:=b2s hw
  have ht:=hw.1
  rw [Aw.ok] at ht
  obtain ⟨k',rfl⟩:=Int.eq_ofNat_of_zero_le (show 0≤k by omega)
  obtain ⟨i',rfl⟩:=Int.eq_ofNat_of_zero_le n2
  obtain ⟨o',rfl⟩:=Int.eq_ofNat_of_zero_le n3
  rw [Bw]
  refine p2e k' i' o' l ?_ ?_ ?_ ht.2.2.2.1 hz fun a ha=>s0y a (o0z hw a ha) ?_
  ·have:=ht.1.2;omega
  ·have:=ht.2.1.2;omega
  ·have:=ht.2.2.1.2;omega
  have h1:=e1u ha
  rw [b1b] at hz
  simp only [yL] at hz
  omega
termination_by t=>SizeOf.sizeOf t
decreasing_by
 have:=vB ha
 simp only [Aw.mk.sizeOf_spec]
 omega
end Go.Sy
namespace Go.Sy
open Go.Proofs
attribute [local irreducible] Cj HT Bv Rj onC onE onO onG goV goA goS Tj Ck
theorem u0m (k i o:Int) (l:List Aw):Lj (.mk k i o l)=.mk k i o l::Nz l:=by rw [Lj]
theorem x0h :Nz []=[]:=by rw [Nz]
theorem l0l (a:Aw) (l:List Aw):Nz (a::l)=Lj a++Nz l:=by rw [Nz]
theorem o0p (a b:List Aw):pls (Ay (a++b)).flatten=pls (Ay a).flatten++pls (Ay b).flatten:=by simp [Xx,pls]
theorem o0o (k i o:Int) (l:List Aw):pls (Ay [.mk k i o l]).flatten=[.pl (.i k),.pl (.i i),.pl (.i o),.pl (.R false 4 (Ay l))]:=by simp [Ay,Aw.cells,pls]
theorem o2x (k i o:Int) (l:List Aw) (hl:l.length≤9223372036854775807) (hz:(Lj (.mk k i o l)).length≤1000000) (ih: ∀ a,a∈l→Ct Try.prog 16 [Yy a] (fun v m=>v=.w (.one (.s 7 [] (Lj a).length 4))∧m=[(7,⟨true,pls (Ay (Lj a)).flatten⟩)])):
 Ct Try.prog 16 [Jy k i o l] (Told (fun v m=>v=.w (.one (.s 7 [] (Lj (.mk k i o l)).length 4))∧m=[(7,⟨true,pls (Ay (Lj (.mk k i o l))).flatten⟩)])):=by
 have hzl:=congrArg List.length (u0m k i o l)
 simp only [yH] at hzl
 have F0:=yA @Az<|o0o
 refine Ct.go Try.func16 rfl Try.ntmps16 Try.results16 fun w0 ro zZ zhY=>?_
 refine (fun zX=>goW) ?_
 refine Kj [0,1,6,7,8] ?_
 simp only [Lx,Oq,Kk,xA,xG,Nat.reduceBEq,beq_self_eq_true,xM,xP,xO,xD,yQ,reduceIte]
 refine Nw (fun y=>[(11,.w (.one (.pl (.i ((y.1.1:Nat):Int))))),(3,.w (.one (.s 7 [] y.1.2.length 4)))]) (fun y=>[(7,⟨true,pls (Ay y.1.2).flatten⟩)]) (fun y=>l.length-y.1.1) (⟨(0,[.mk k i o l]),yP _,rfl⟩:{y:Nat×List Aw//y.1≤l.length∧y.2++Nz (l.drop y.1)=.mk k i o l::Nz l}) ?_
 intro ⟨⟨j,b⟩,g1,g4⟩ xN0 xM0 xhN0 xhM0
 simp only [yC,yD]
 have g1:j≤l.length:=g1
 have g4:b++Nz (l.drop j)=.mk k i o l::Nz l:=g4
 rcases yZ j l.length with hlt|hge
 ·obtain ⟨k2,i2,o2,m2,he,hm,hdr,hg⟩:=Cy hlt
  have hc:=ih _ hm
  rw [Bw] at hc
  have hci:=ltI hlt
  have hj:(0:Int)≤((j:Nat):Int):=yN j
  have hjl:j<(Ay l).length:=by rw [Az];exact hlt
  have hs1:=Zj hlt hl
  rw [hdr,l0l] at g4
  obtain ⟨w,hw⟩: ∃ w,Lj (.mk k2 i2 o2 m2)=w:=⟨_,rfl⟩
  rw [hw] at hc g4
  have hgl:=congrArg List.length g4
  simp only [yL,yH] at hgl
  have hcap:(b.length+w.length)*48≤140737488355328:=by omega
  have hbl:=Fj b
  have hwl:=Fj w
  have hla:(b++w).length=b.length+w.length:=yL
  have hfa:=o0p b w
  have F0:=yA hci<|yA hj<|yA hjl<|yA hg<|yA xC<|yA Az<|yA hs1<|yA hcap<|yA hbl<|yA hwl<|yA hla<|yA hfa<|yA Fq<|yA Ez<|F0
  have zS:ZS 5:=⟨⟩
  refine (fun zX=>goW) ?_
  refine ⟨?_⟩;clear zS
  refine Jv fun zK zhK=>?_
  simp only [go_sem,F0]
  repeat' (first|apply yA|intro _)
  all_goals (refine Iq false [] (fun x=>x+10) (fun _ _=>rfl) ?_ (by decide) ?_ (hc).hands ?_;iterate 2 (focus (first|rfl|(simp only [go_sem,F0]<;>first|done|rfl|simp))))
  all_goals (rintro v m ⟨hR,hm⟩;subst hR;subst hm)
  all_goals (refine yA ?_ (yA ?_ (yA ?_ ?_));iterate 3 (focus (first|rfl|(simp only [go_sem,F0];done)|(simp [go_sem,look,F0];done))))
  all_goals (try simp only [go_sem,F0])
  all_goals (try simp only [go_sem,F0])
  all_goals repeat' (first|apply yA|intro _)
  refine zhK _ ?_
  have zL:=fun S2=>xhN0 ⟨(j+1,b++w),hlt,by rw [wD];exact g4⟩ S2 (by (exact yB hlt (yE j)))
  exact goW
 obtain rfl:j=l.length:=xJ g1 hge
 rw [yG,x0h,xX] at g4
 have hb:b=Lj (.mk k i o l):=by rw [u0m];exact g4
 have F0:=yA (@a1p l.length)<|F0
 refine (fun zX=>goW) ?_
 refine zhY _ _ ?_
 simp only [go_sem,F0]
 all_goals (subst hb;exact Vv (m2:=[(7,⟨true,pls (Ay (Lj (.mk k i o l))).flatten⟩)]) (by simp [look]) ⟨rfl,rfl⟩)
theorem x0i : ∀ {l:List Aw} {a:Aw},a∈l→(Lj a).length≤(Nz l).length
 |b::l,a,h=>by
  rw [l0l,yL]
  rcases yT.mp h with rfl|h
  ·omega
  have:=x0i h;omega
theorem o2y : ∀ (t:Aw),t.ok→(Lj t).length≤1000000→Ct Try.prog 16 [Yy t] (fun v m=>v=.w (.one (.s 7 [] (Lj t).length 4))∧m=[(7,⟨true,pls (Ay (Lj t)).flatten⟩)])
 | .mk k i o l,ht,hz=>by
  rw [Aw.ok] at ht
  rw [Bw]
  refine (o2x k i o l ht.2.2.2.1 hz fun a ha=>o2y a (Dw ht.2.2.2.2 a ha) ?_).told
  have h1:=x0i ha
  rw [u0m] at hz
  simp only [yH] at hz
  omega
termination_by t=>SizeOf.sizeOf t
decreasing_by
 have:=vB ha
 simp only [Aw.mk.sizeOf_spec]
 omega
end Go.Sy
