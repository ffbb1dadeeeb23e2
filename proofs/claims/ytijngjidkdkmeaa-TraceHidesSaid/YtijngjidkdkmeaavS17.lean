/- Walks: what the document says one can make. -/
import Derived.Test.YtijngjidkdkmeaavE3
import Derived.Test.YtijngjidkdkmeaavS16
import Derived.Test.YtijngjidkdkmeaavE8
set_option linter.unusedVariables false
set_option linter.unusedSimpArgs false
namespace Go.Sy
open Go.Proofs
attribute [local irreducible] Cj HT Bv Rj onC onE onO onG goV goA goS Tj Ck
theorem i1r (k:Int) (a p c:Bool):k=1∨k=2∨(k=3∧a=false∧c=false)∨(k=3∧a=false∧c=true)∨(k=3∧a=true∧p=false∧c=false)∨(k=3∧a=true∧p=false∧c=true)∨(k=3∧a=true∧p=true)∨(¬k=1∧¬k=2∧¬k=3):=by
 by_cases h1:k=1
 ·exact .inl h1
 by_cases h2:k=2
 ·exact .inr (.inl h2)
 by_cases h3:k=3
 ·cases a<;>cases p<;>cases c<;>simp [h3]
 simp [h1,h2,h3]
set_option maxHeartbeats 3200000 in
set_option maxRecDepth 100000 in
theorem p2a (l:List Aw) (hl:l.length≤9223372036854775807) (hk:Dq l) (k i o:Int) (ms:List Aw) (ht:(Aw.mk k i o ms).ok) (hf:Jz Ej l=0) (hg:Tv (.mk k i o ms)=0) (hwl: ∀ a∈l,wfT a) (hwt:wfT (.mk k i o ms)) (hsz: ∀ a∈.mk k i o ms::l,(Jq a).length≤100000000) (hsu: ∀ a∈.mk k i o ms::l,(Lj a).length≤1000000) (hst:(Lj (.mk k i o ms)).length+(Nz l).length≤1000000) (AL:List Aw) (hA:Lj (.mk k i o ms)++Nz l=AL) (hAb:AL.length≤1000000) (hwA: ∀ x∈AL,wfT x) (hzA: ∀ x∈AL,(Jq x).length≤100000000) (hcA: ∀ x∈AL,∀ b∈x.args,b∈AL) (G:Mp→Prop) (NN:Nat) (hG: ∀ q,G q→G (Nv q AL)∧q.length≤(Nv q AL).length∧q.length≤NN) (hG0:G (f0p [] l)) (FM:Mp) (hF:f0e AL NN (f0p [] l)=FM):
 Ct Try.prog 6 [(.w (.one (.pl (.R false 4 (Ay l))))),Jy k i o ms] (fun v m=>v=.tup [.one (.pl (.b (knB FM (.mk k i o ms)))),.one (.pl (.i (0)))]):=by
 have hd:=c2l _ ht
 rw [Bw,hg] at hd
 have hwin:=o2y _ hwt.1 (hsu _ (by simp))
 rw [Bw] at hwin
 have F0:=Az
 refine Ct.go Try.func6 rfl Try.ntmps6 Try.results6 fun w0 ro zZ zhZ=>?_
 refine (fun zX=>goW) ?_
 refine Nw (fun y=>[(6,.w (.one (.pl (.i y.1.2)))),(29,.w (.one (.pl (.i ((y.1.1:Nat):Int)))))]) (fun _=>[]) (fun y=>l.length-y.1.1) (⟨(0,0),yP _,by decide,by decide,rfl⟩:{y:Nat×Int//y.1≤l.length∧0≤y.2∧y.2≤300∧l0a Ej (l.drop y.1) y.2=l0a Ej l 0}) ?_
 intro ⟨⟨j,n⟩,h1,h2,h3,h4⟩ xN0 xM0 xhN0 xhM0
 simp only [yC,yD]
 have h1:j≤l.length:=h1
 have h2:0≤n:=h2
 have h3:n≤300:=h3
 have h4:l0a Ej (l.drop j) n=l0a Ej l 0:=h4
 rcases yZ j l.length with hlt|hge
 rcases Int.lt_or_le 300 (n+Ej (l.getD j (.mk 0 0 0 [])) 1) with hbig|hbig
 ·obtain ⟨k2,i2,o2,m2,he,hm,hdr,hg⟩:=Cy hlt
  have hj:(0:Int)≤((j:Nat):Int):=yN j
  have hjl:j<(Ay l).length:=by rw [Az];exact hlt
  have hci:=ltI hlt
  have hs1:=Zj hlt hl
  have hc:=j0i _ (Dw hk _ hm) 1 (by decide) (by decide)
  rw [Bw] at hc
  have hr:=Zk (.mk k2 i2 o2 m2)
  rw [hdr,Sj] at h4
  obtain ⟨w,hw⟩: ∃ w,Ej (.mk k2 i2 o2 m2) 1=w:=⟨_,rfl⟩
  rw [hw] at hc hr h4
  have hwr:Go.RowKit.wrap64 (n+w)=n+w:=w64 (by omega)
  rw [he,hw] at hbig
  rw [if_pos hbig] at h4
  have hfe:Jz Ej l=1:=by rw [Jz,if_pos (by rw [←h4];exact hbig)]
  have F0:=yA hci<|yA hj<|yA hjl<|yA hg<|yA xC<|yA Az<|yA hs1<|yA hwr<|yA hbig<|F0
  have cv0:=Ct.cv (hc)
  exact absurd (hfe.symm.trans hf) (by decide)
 ·obtain ⟨k2,i2,o2,m2,he,hm,hdr,hg⟩:=Cy hlt
  have hj:(0:Int)≤((j:Nat):Int):=yN j
  have hjl:j<(Ay l).length:=by rw [Az];exact hlt
  have hci:=ltI hlt
  have hs1:=Zj hlt hl
  have hc:=j0i _ (Dw hk _ hm) 1 (by decide) (by decide)
  rw [Bw] at hc
  have hr:=Zk (.mk k2 i2 o2 m2)
  rw [hdr,Sj] at h4
  obtain ⟨w,hw⟩: ∃ w,Ej (.mk k2 i2 o2 m2) 1=w:=⟨_,rfl⟩
  rw [hw] at hc hr h4
  have hwr:Go.RowKit.wrap64 (n+w)=n+w:=w64 (by omega)
  rw [he,hw] at hbig
  have hnb:¬300<n+w:=by omega
  rw [if_neg hnb] at h4
  have F0:=yA hci<|yA hj<|yA hjl<|yA hg<|yA xC<|yA Az<|yA hs1<|yA hwr<|yA hnb<|F0
  have cv0:=Ct.cv (hc)
  have zL:=fun S2=>xhN0 ⟨(j+1,n+w),hlt,by omega,hbig,h4⟩ S2 (by (exact yB hlt (yE j)))
  exact goW
 obtain rfl:j=l.length:=xJ h1 hge
 rw [yG,c0k] at h4
 have hfl:Jz Ej l=Cq l:=by rw [Jz,if_neg (by rw [←h4];omega)]
 have F0:=yA (@a1p l.length)<|F0
 refine (fun zX=>goW) ?_
 refine Nw (fun y=>[(42,.w (.one (.pl (.i ((y.1:Nat):Int)))))]) (fun _=>[]) (fun y=>l.length-y.1) (⟨0,yP _,rfl⟩:{y:Nat//y≤l.length∧Cq (l.drop y)=Cq l}) ?_
 intro ⟨j,h1,h4⟩ xN1 xM1 xhN1 xhM1
 simp only [yC,yD]
 have h1:j≤l.length:=h1
 have h4:Cq (l.drop j)=Cq l:=h4
 rcases yZ j l.length with hlt|hge
 rcases Int.decEq (Bq (l.getD j (.mk 0 0 0 []))) 0 with hbad|hbad
 ·obtain ⟨k2,i2,o2,m2,he,hm,hdr,hg⟩:=Cy hlt
  have hj:(0:Int)≤((j:Nat):Int):=yN j
  have hjl:j<(Ay l).length:=by rw [Az];exact hlt
  have hci:=ltI hlt
  have hs1:=Zj hlt hl
  have hc:=j0r _ (Dw hk _ hm)
  rw [Bw] at hc
  rw [hdr,Uq] at h4
  obtain ⟨w,hw⟩: ∃ w,Bq (.mk k2 i2 o2 m2)=w:=⟨_,rfl⟩
  rw [hw] at hc h4
  rw [he,hw] at hbad
  rw [if_neg hbad] at h4
  have F0:=yA hci<|yA hj<|yA hjl<|yA hg<|yA xC<|yA Az<|yA hs1<|yA hbad<|F0
  have cv0:=Ct.cv (hc)
  exact absurd (h4.trans (hfl.symm.trans hf)) hbad
 ·obtain ⟨k2,i2,o2,m2,he,hm,hdr,hg⟩:=Cy hlt
  have hj:(0:Int)≤((j:Nat):Int):=yN j
  have hjl:j<(Ay l).length:=by rw [Az];exact hlt
  have hci:=ltI hlt
  have hs1:=Zj hlt hl
  have hc:=j0r _ (Dw hk _ hm)
  rw [Bw] at hc
  rw [hdr,Uq] at h4
  obtain ⟨w,hw⟩: ∃ w,Bq (.mk k2 i2 o2 m2)=w:=⟨_,rfl⟩
  rw [hw] at hc h4
  rw [he,hw] at hbad
  rw [if_pos hbad] at h4
  have F0:=yA hci<|yA hj<|yA hjl<|yA hg<|yA xC<|yA Az<|yA hs1<|yA hbad<|F0
  have cv0:=Ct.cv (hc)
  have zL:=fun S2=>xhN1 ⟨j+1,hlt,h4⟩ S2 (by (exact yB hlt (yE j)))
  exact goW
 obtain rfl:j=l.length:=xJ h1 hge
 rw [yG,g0j] at h4
 have F0:=yA (@a1p l.length)<|yA hg<|yA o0o<|yA @Fj<|F0
 have cq:=yA (Ct.cv (hd))<|trivial
 have zS:ZS 19:=⟨⟩
 refine (fun zX=>goW) ?_
 refine ⟨?_⟩;clear zS
 refine l0n fun zK zhK=>?_
 simp only [go_sem,F0]
 repeat' (first|apply yA|intro _)
 all_goals (refine mk_k ?_ fun mb hmb=>?_;focus (first|decide|(simp only [go_sem];done)))
 all_goals (try simp only [go_sem,a0c,F0])
 all_goals repeat' (first|apply yA|intro _)
 refine zhK _ ?_
 refine l0n fun zK zhK=>?_
 simp only [go_sem,F0]
 repeat' (first|apply yA|intro _)
 all_goals (refine Iq false [] (fun x=>x+52) (fun _ _=>rfl) ?_ (by decide) ?_ (hwin).hands ?_;iterate 2 (focus (first|rfl|(simp only [go_sem,F0]<;>first|done|rfl|simp))))
 all_goals (rintro v m ⟨hR,hm⟩;subst hR;subst hm)
 all_goals (refine yA ?_ (yA ?_ (yA ?_ ?_));iterate 3 (focus (first|rfl|(simp only [go_sem,F0];done)|(simp [go_sem,look,F0];done))))
 all_goals (try simp only [go_sem,F0])
 all_goals (try simp only [go_sem,F0])
 all_goals repeat' (first|apply yA|intro _)
 refine zhK _ ?_
 refine (fun zX=>goW) ?_
 refine Kj [0,1,6,8,10,11,12,27,28,29,30,31,32,33,34,35,36,37,38,39,40,41,42,43,44,45,46,47,48,49,50,51,52,53,54,55,56,57,58,59] ?_
 simp only [Lx,Oq,Kk,xA,xG,Nat.reduceBEq,beq_self_eq_true,xM,xP,xO,xD,yQ,reduceIte]
 refine Nw (fun y=>[(62,.w (.one (.pl (.i ((y.1.1:Nat):Int))))),(14,.w (.one (.s 59 [] y.1.2.2.length 4)))]) (fun y=>[(2000000+mb,⟨.m y.1.2.1,[]⟩),(59,⟨true,pls (Ay y.1.2.2).flatten⟩)]) (fun y=>l.length-y.1.1) (⟨(0,[],Lj (.mk k i o ms)),yP _,rfl,rfl⟩:{y:Nat×Mp×List Aw//y.1≤l.length∧f0p y.2.1 (l.drop y.1)=f0p [] l∧y.2.2++Nz (l.drop y.1)=Lj (.mk k i o ms)++Nz l}) ?_
 intro ⟨⟨j,mp,a⟩,g1,g4,g5⟩ xN2 xM2 xhN2 xhM2
 simp only [yC,yD]
 have g1:j≤l.length:=g1
 have g4:f0p mp (l.drop j)=f0p [] l:=g4
 have g5:a++Nz (l.drop j)=Lj (.mk k i o ms)++Nz l:=g5
 rcases yZ j l.length with hlt|hge
 ·obtain ⟨k2,i2,o2,m2,he,hm,hdr,hg2⟩:=Cy hlt
  have hj:(0:Int)≤((j:Nat):Int):=yN j
  have hjl:j<(Ay l).length:=by rw [Az];exact hlt
  have hci:=ltI hlt
  have hs1:=Zj hlt hl
  have hwm:=hwl _ hm
  have hzm:(Jq (.mk k2 i2 o2 m2)).length≤100000000:=hsz _ (by simp [hm])
  have hc:=s0y _ hwm hzm
  have hsm:(Lj (.mk k2 i2 o2 m2)).length≤1000000:=hsu _ (by simp [hm])
  have hd2:=o2y _ hwm.1 hsm
  rw [Bw] at hc hd2
  rw [hdr,l0q] at g4
  rw [hdr,l0l] at g5
  obtain ⟨w,hw⟩: ∃ w,Lj (.mk k2 i2 o2 m2)=w:=⟨_,rfl⟩
  rw [hw] at hd2 g5
  have hgl:=congrArg List.length g5
  simp only [yL] at hgl
  have hcap:(a.length+w.length)*48≤140737488355328:=by omega
  have hbl:=Fj a
  have hwl2:=Fj w
  have hla:(a++w).length=a.length+w.length:=yL
  have hfa:=o0p a w
  have F0:=yA hci<|yA hj<|yA hjl<|yA hg2<|yA xC<|yA Az<|yA hs1<|yA hcap<|yA hbl<|yA hwl2<|yA hla<|yA hfa<|yA Fq<|yA Ez<|F0
  refine (fun zX=>goW) ?_
  refine Zq (id:=24) mixed fun zE zhE=>?_
  refine Aq (p:=0) 3 [66,67,68] [0,0,2,7] [] rfl (by kernel_rfl) rfl (by simp only [go_sem]) fun zR zK zhR zhK=>?_
  simp only [go_sem,F0]
  repeat' (first|apply yA|intro _)
  all_goals (refine Oy (fun k=>k) (.w (.one (.pl (.str (Jq (.mk k2 i2 o2 m2)))))) [] (fun _ _=>rfl) ?_ ((hc).plain fun _ _ h=>h) ?_ ?_;focus (first|rfl|(simp only [go_sem,F0]<;>rfl)))
  all_goals try (refine yA ?_ (yA ?_ (yA ?_ ?_))<;>first|rfl|simp only [go_sem])
  all_goals simp only [go_sem,F0]
  all_goals repeat' (first|apply yA|intro _)
  refine zhK _ _ trivial (zhR _ ?_)
  refine Cz 1 4 rfl (by kernel_rfl) rfl rfl fun zR zhR=>?_
  simp only [go_sem,F0]
  repeat' (first|apply yA|intro _)
  all_goals refine d2c Try.underlying42 Try.underlying9 hmb ?_
  all_goals (try simp only [go_sem,a0c,F0])
  all_goals repeat' (first|apply yA|intro _)
  refine zhR _ ?_
  refine Gv rfl (zhE _ ?_)
  have zS:ZS 25:=⟨⟩
  refine (fun zX=>goW) ?_
  refine ⟨?_⟩;clear zS
  refine Jv fun zK zhK=>?_
  simp only [go_sem,F0]
  repeat' (first|apply yA|intro _)
  all_goals (refine Iq false [] (fun x=>x+64) (fun _ _=>rfl) ?_ (by decide) ?_ (hd2).hands ?_;iterate 2 (focus (first|rfl|(simp only [go_sem,F0]<;>first|done|rfl|simp))))
  all_goals (rintro v m ⟨hR,hm⟩;subst hR;subst hm)
  all_goals (refine yA ?_ (yA ?_ (yA ?_ ?_));iterate 3 (focus (first|rfl|(simp only [go_sem,F0];done)|(simp [go_sem,look,F0];done))))
  all_goals (try simp only [go_sem,F0])
  all_goals (try simp only [go_sem,F0])
  all_goals repeat' (first|apply yA|intro _)
  refine zhK _ ?_
  have zL:=fun S2=>xhN2 ⟨(j+1,Oj mp (Jq (.mk k2 i2 o2 m2)) 1,a++w),hlt,g4,by rw [wD];exact g5⟩ S2 (by (exact yB hlt (yE j)))
  exact goW
 obtain rfl:j=l.length:=xJ g1 hge
 rw [yG,m1g] at g4
 rw [yG,x0h,xX] at g5
 obtain rfl:a=AL:=g5.trans hA
 have hAl:=Fj a
 have hAn:a.length≤9223372036854775807:=yJ hAb (by decide)
 have F0:=yA (@a1p l.length)<|F0
 refine (fun zX=>goW) ?_
 refine Nq [(3,.w (.one (.p 3 []))),(13,.w (.one (.p 13 []))),(14,.w (.one (.s 59 [] a.length 4))),(17,.w (.one (.p 17 []))),(18,.w (.one (.p 18 []))),(19,.w (.one (.fn 20 [18,17])))] [(3,⟨false,[.pl (.i k),.pl (.i i),.pl (.i o),.pl (.R false 4 (Ay ms))]⟩),(13,⟨false,[.pl (.val (.map (some mb)))]⟩),(59,⟨true,pls (Ay a).flatten⟩),(17,⟨false,[.fn 18 [13]]⟩),(18,⟨false,[.fn 19 [17]]⟩)] (fun _=>[]) (fun y=>[(2000000+mb,⟨.m y.1.2,[]⟩)]) (fun y=>y.1.1) (⟨(NN,mp),(by rw [g4];exact hG0),(by rw [g4];exact Nat.sub_le _ _),(by rw [g4];exact hF)⟩:{y:Nat×Mp//G y.2∧NN-y.2.length≤y.1∧f0e a y.1 y.2=FM}) ?_
 intro ⟨⟨n3,q3⟩,r1,r2,r3⟩ xN3 xM3 xhN3 xhM3
 simp only [yC,yD]
 have r1:G q3:=r1
 have r2:NN-q3.length≤n3:=r2
 have r3:f0e a n3 q3=FM:=r3
 obtain ⟨r4,r5,r6⟩:=hG q3 r1
 skip
 have F0:=yA Try.underlying42<|F0
 refine (fun zX=>goW) ?_
 refine Nq [(3,.w (.one (.p 3 []))),(13,.w (.one (.p 13 []))),(14,.w (.one (.s 59 [] a.length 4))),(17,.w (.one (.p 17 []))),(18,.w (.one (.p 18 []))),(19,.w (.one (.fn 20 [18,17]))),(20,.w (.one (.pl (.i ((q3.length:Nat):Int))))),(79,.w (.one (.s 59 [] a.length 4))),(80,.w (.one (.pl (.i ((a.length:Nat):Int)))))] [(3,⟨false,[.pl (.i k),.pl (.i i),.pl (.i o),.pl (.R false 4 (Ay ms))]⟩),(13,⟨false,[.pl (.val (.map (some mb)))]⟩),(59,⟨true,pls (Ay a).flatten⟩),(17,⟨false,[.fn 18 [13]]⟩),(18,⟨false,[.fn 19 [17]]⟩)] (fun y=>[(81,.w (.one (.pl (.i ((y.1.1:Nat):Int)))))]) (fun y=>[(2000000+mb,⟨.m y.1.2,[]⟩)]) (fun y=>a.length-y.1.1) (⟨(0,q3),yP _,rfl⟩:{y:Nat×Mp//y.1≤a.length∧Nv y.2 (a.drop y.1)=Nv q3 a}) ?_
 intro ⟨⟨i4,q4⟩,u1,u4⟩ xN4 xM4 xhN4 xhM4
 simp only [yC,yD]
 have u1:i4≤a.length:=u1
 have u4:Nv q4 (a.drop i4)=Nv q3 a:=u4
 rcases yZ i4 a.length with hlt|hge
 ·obtain ⟨kx,ix,ox,lx,he,hm,hdr,hg9⟩:=Cy hlt
  have hgt:=b1e hlt he
  have hi4:i4*4+4≤a.length*4:=by omega
  have hci:=ltI hlt
  have hj:(0:Int)≤((i4:Nat):Int):=yN i4
  have hs1:=Zj hlt hAn
  have hwx:=hwA _ hm
  have hzx:=hzA _ hm
  have hax:=hcA _ hm
  rw [hdr,h0d] at u4
  have hln:=hwx.1
  rw [Aw.ok] at hln
  have hlx:=hln.2.2.2.1
  have hnx:=b2s hwx
  have hix:0≤ix∧ix≤9223372036854775807:=⟨hnx.2.2.1,hln.2.1.2⟩
  have hox:0≤ox∧ox≤9223372036854775807:=⟨hnx.2.2.2,hln.2.2.1.2⟩
  have F0:=yA hci<|yA hj<|yA hgt<|yA hi4<|yA xC<|yA Az<|yA hs1<|yA hAl<|yA Fq<|yA Ez<|F0
  refine (fun zX=>goW) ?_
  refine Nw (fun y=>[(23,.w (.one (.pl (.i ((y.1.2:Nat):Int))))),(88,.w (.one (.pl (.i ((y.1.1:Nat):Int)))))]) (fun _=>[]) (fun y=>lx.length-y.1.1) (⟨(0,0),yP _,wY _⟩:{y:Nat×Nat//y.1≤lx.length∧y.2+k1a q4 (lx.drop y.1)=k1a q4 lx}) ?_
  intro ⟨⟨j5,c5⟩,v1,v4⟩ xN5 xM5 xhN5 xhM5
  simp only [yC,yD]
  have v1:j5≤lx.length:=v1
  have v4:c5+k1a q4 (lx.drop j5)=k1a q4 lx:=v4
  rcases yZ j5 lx.length with vlt|vge
  rcases hkn:knB q4 (lx.getD j5 (.mk 0 0 0 [])) with _|_
  ·obtain ⟨ky,iy,oy,ly,he5,hm5,hdr5,hg5⟩:=Cy vlt
   rw [he5] at hkn
   have hk5:=g0b mb q4 (.mk ky iy oy ly) (hwA _ (hax _ hm5)) (hzA _ (hax _ hm5))
   rw [Bw,hkn] at hk5
   have vci:=ltI vlt
   have vj:(0:Int)≤((j5:Nat):Int):=yN j5
   have vjl:j5<(Ay lx).length:=by rw [Az];exact vlt
   have vs1:=Zj vlt hlx
   rw [hdr5,g0n,hkn] at v4
   rw [if_neg (by simp),wY] at v4
   have F0:=yA vci<|yA vj<|yA vjl<|yA hg5<|yA xC<|yA Az<|yA vs1<|F0
   have cq:=yA (yA (CF.mk [13] [(500000,13)]) (hk5))<|trivial
   have zL:=fun S2=>xhN5 ⟨(j5+1,c5),vlt,v4⟩ S2 (by (exact yB vlt (yE j5)))
   exact goW
  ·obtain ⟨ky,iy,oy,ly,he5,hm5,hdr5,hg5⟩:=Cy vlt
   rw [he5] at hkn
   have hk5:=g0b mb q4 (.mk ky iy oy ly) (hwA _ (hax _ hm5)) (hzA _ (hax _ hm5))
   rw [Bw,hkn] at hk5
   have vci:=ltI vlt
   have vj:(0:Int)≤((j5:Nat):Int):=yN j5
   have vjl:j5<(Ay lx).length:=by rw [Az];exact vlt
   have vs1:=Zj vlt hlx
   rw [hdr5,g0n,hkn] at v4
   rw [if_pos rfl,←Nat.add_assoc] at v4
   have hcl:=q1r q4 lx
   have hcw:Go.RowKit.wrap64 ((c5:Int)+1)=((c5+1:Nat):Int):=Zj (n:=lx.length) (by omega) hlx
   have F0:=yA vci<|yA vj<|yA vjl<|yA hg5<|yA xC<|yA Az<|yA vs1<|yA hcw<|F0
   have cq:=yA (yA (CF.mk [13] [(500000,13)]) (hk5))<|trivial
   have zL:=fun S2=>xhN5 ⟨(j5+1,c5+1),vlt,v4⟩ S2 (by (exact yB vlt (yE j5)))
   exact goW
  obtain rfl:j5=lx.length:=xJ v1 vge
  rw [yG,b2e,vN] at v4
  have F0:=yA (@a1p lx.length)<|yA v4<|F0
  have zG:ZG 42:=⟨⟩
  refine (fun zX=>goW) ?_
  refine ⟨?_⟩;clear zG
  refine g0d (fun w:Bool=>[(26,.w (.one (.pl (.b w))))]) (fun _=>[]) (fun w=>w=mkB q4 (.mk kx ix ox lx)) (fun xNj xMj xhNj xhMj=>?_) (fun w hw=>?_)
  ·rcases i1r kx (kaB q4 ix) (kpB q4 ox) (kaB q4 ox) with hk1|hk1|⟨hk1,hai,hao⟩|⟨hk1,hai,hao⟩|⟨hk1,hai,hpo,hao⟩|⟨hk1,hai,hpo,hao⟩|⟨hk1,hai,hpo⟩|⟨n1,n2,n3⟩
   ·have hw1:false=mkB q4 (.mk kx ix ox lx):=by rw [mkB,if_pos hk1]
    have F0:=yA hk1<|F0
    have zL:=fun S2=>xhNj false hw1 S2
    exact goW
   ·have hw1:kaB q4 ix=mkB q4 (.mk kx ix ox lx):=by rw [mkB,if_neg (by rw [hk1];decide),if_pos hk1]
    have ca:=g0c mb q4 ix hix
    have F0:=yA hk1<|F0
    have cf0:=ca
    have cg0:=CF.mk [17] [(500000,17),(500001,13)]
    have zL:=fun S2=>xhNj (kaB q4 ix) hw1 S2
    exact goW
   ·have ca:=g0c mb q4 ix hix
    have cp:=s0l mb q4 ox hox
    have cc:=g0c mb q4 ox hox
    have cd:=s0l mb q4 ix hix
    rw [hai] at ca
    rw [hao] at cc
    have hw1:false=mkB q4 (.mk kx ix ox lx):=by rw [mkB,if_neg (by rw [hk1];decide),if_neg (by rw [hk1];decide),if_pos hk1,kdB];simp [hai,hao]
    have F0:=yA hk1<|F0
    have cf0:=ca
    have cg0:=CF.mk [17] [(500000,17),(500001,13)]
    have cf1:=cc
    have cg1:=CF.mk [17] [(500000,17),(500001,13)]
    have zL:=fun S2=>xhNj false hw1 S2
    exact goW
   ·have ca:=g0c mb q4 ix hix
    have cp:=s0l mb q4 ox hox
    have cc:=g0c mb q4 ox hox
    have cd:=s0l mb q4 ix hix
    rw [hai] at ca
    rw [hao] at cc
    have hw1:(kpB q4 ix)=mkB q4 (.mk kx ix ox lx):=by rw [mkB,if_neg (by rw [hk1];decide),if_neg (by rw [hk1];decide),if_pos hk1,kdB];simp [hai,hao]
    have F0:=yA hk1<|F0
    have cf0:=ca
    have cg0:=CF.mk [17] [(500000,17),(500001,13)]
    have cf1:=cc
    have cg1:=CF.mk [17] [(500000,17),(500001,13)]
    have cf2:=cd
    have cg2:=CF.mk [18,17] [(500000,18),(500001,17),(500002,13)]
    have zL:=fun S2=>xhNj (kpB q4 ix) hw1 S2
    exact goW
   ·have ca:=g0c mb q4 ix hix
    have cp:=s0l mb q4 ox hox
    have cc:=g0c mb q4 ox hox
    have cd:=s0l mb q4 ix hix
    rw [hai] at ca
    rw [hpo] at cp
    rw [hao] at cc
    have hw1:false=mkB q4 (.mk kx ix ox lx):=by rw [mkB,if_neg (by rw [hk1];decide),if_neg (by rw [hk1];decide),if_pos hk1,kdB];simp [hai,hpo,hao]
    have F0:=yA hk1<|F0
    have cf0:=ca
    have cg0:=CF.mk [17] [(500000,17),(500001,13)]
    have cf1:=cp
    have cg1:=CF.mk [18,17] [(500000,18),(500001,17),(500002,13)]
    have cf2:=cc
    have cg2:=CF.mk [17] [(500000,17),(500001,13)]
    have zL:=fun S2=>xhNj false hw1 S2
    exact goW
   ·have ca:=g0c mb q4 ix hix
    have cp:=s0l mb q4 ox hox
    have cc:=g0c mb q4 ox hox
    have cd:=s0l mb q4 ix hix
    rw [hai] at ca
    rw [hpo] at cp
    rw [hao] at cc
    have hw1:(kpB q4 ix)=mkB q4 (.mk kx ix ox lx):=by rw [mkB,if_neg (by rw [hk1];decide),if_neg (by rw [hk1];decide),if_pos hk1,kdB];simp [hai,hpo,hao]
    have F0:=yA hk1<|F0
    have cf0:=ca
    have cg0:=CF.mk [17] [(500000,17),(500001,13)]
    have cf1:=cp
    have cg1:=CF.mk [18,17] [(500000,18),(500001,17),(500002,13)]
    have cf2:=cc
    have cg2:=CF.mk [17] [(500000,17),(500001,13)]
    have cf3:=cd
    have cg3:=CF.mk [18,17] [(500000,18),(500001,17),(500002,13)]
    have zL:=fun S2=>xhNj (kpB q4 ix) hw1 S2
    exact goW
   ·have ca:=g0c mb q4 ix hix
    have cp:=s0l mb q4 ox hox
    have cc:=g0c mb q4 ox hox
    have cd:=s0l mb q4 ix hix
    rw [hai] at ca
    rw [hpo] at cp
    have hw1:true=mkB q4 (.mk kx ix ox lx):=by rw [mkB,if_neg (by rw [hk1];decide),if_neg (by rw [hk1];decide),if_pos hk1,kdB];simp [hai,hpo]
    have F0:=yA hk1<|F0
    have cf0:=ca
    have cg0:=CF.mk [17] [(500000,17),(500001,13)]
    have cf1:=cp
    have cg1:=CF.mk [18,17] [(500000,18),(500001,17),(500002,13)]
    have zL:=fun S2=>xhNj true hw1 S2
    exact goW
   have hw1:decide ((c5:Int)=((lx.length:Nat):Int))=mkB q4 (.mk kx ix ox lx):=by rw [mkB,if_neg n1,if_neg n2,if_neg n3,←v4];exact decide_eq_decide.mpr Int.ofNat_inj
   have F0:=yA n1<|yA n2<|yA n3<|F0
   have zL:=fun S2=>xhNj (decide ((c5:Int)=((lx.length:Nat):Int))) hw1 S2
   exact goW
  skip
  have hsp:(w=false∧knB q4 (.mk kx ix ox lx)=false)∨(w=false∧knB q4 (.mk kx ix ox lx)=true∧¬kx=4∧¬kx=7)∨(w=false∧knB q4 (.mk kx ix ox lx)=true∧kx=7∧knB q4 (lx.getD 0 zT)=false)∨(w=false∧knB q4 (.mk kx ix ox lx)=true∧kx=7∧knB q4 (lx.getD 0 zT)=true)∨(w=true∧¬kx=4∧¬kx=7)∨(w=true∧kx=7∧knB (Oj q4 (Jq (.mk kx ix ox lx)) 1) (lx.getD 0 zT)=false)∨(w=true∧kx=7∧knB (Oj q4 (Jq (.mk kx ix ox lx)) 1) (lx.getD 0 zT)=true)∨(w=false∧knB q4 (.mk kx ix ox lx)=true∧kx=4)∨(w=true∧kx=4):=by
   rcases Int.decEq kx 4 with h4|h4<;>rcases Int.decEq kx 7 with h7|h7<;>cases w<;>cases knB q4 (.mk kx ix ox lx)<;>cases knB q4 (lx.getD 0 zT)<;>cases knB (Oj q4 (Jq (.mk kx ix ox lx)) 1) (lx.getD 0 zT)<;>simp [h4,h7]
  rcases hsp with ⟨rfl,hkn⟩|⟨rfl,hkn,h4,h7⟩|⟨rfl,hkn,h7,hq7⟩|⟨rfl,hkn,h7,hq7⟩|⟨rfl,h4,h7⟩|⟨rfl,h7,hq7⟩|⟨rfl,h7,hq7⟩|⟨rfl,hkn,h4⟩|⟨rfl,h4⟩
  ·have hkx:=g0b mb q4 (.mk kx ix ox lx) hwx hzx
   rw [Bw,hkn] at hkx
   have hun:Nv q4 (a.drop (i4+1))=Nv q3 a:=by rw [←u4,d2y hw.symm hkn]
   have hsx:=s0y _ hwx hzx
   rw [Bw] at hsx
   have hk0:=hkx
   have hs2:=hsx
   have cf0:=hkx
   have cg0:=CF.mk [13] [(500000,13)]
   have cq:=yA (yA (CF.mk [13] [(500000,13)]) (hkx))<|trivial
   have zL:=fun S2=>xhN4 ⟨(i4+1,_),hlt,hun⟩ S2 (by (exact yB hlt (yE i4)))
   exact goW
  ·have hkx:=g0b mb q4 (.mk kx ix ox lx) hwx hzx
   rw [Bw,hkn] at hkx
   have hsx:=s0y _ hwx hzx
   rw [Bw] at hsx
   have hk0:=hkx
   have hs2:=hsx
   have hun:Nv q4 (a.drop (i4+1))=Nv q3 a:=by rw [←u4,u0p hw.symm hkn,v0c _ _ _ _ h4 h7]
   have F0:=yA h4<|yA h7<|F0
   have cq:=yA (yA (CF.mk [13] [(500000,13)]) (hkx))<|trivial
   refine (fun zX=>goW) ?_
   refine Zq (id:=54) mixed fun zE zhE=>?_
   refine Cz 4 4 rfl (by kernel_rfl) rfl rfl fun zR zhR=>?_
   simp only [go_sem,F0]
   repeat' (first|apply yA|intro _)
   refine zhR _ ?_
   refine Aq (p:=4) 9 [168,169,170,171,172] [0,1,3,7,15,15,47,111,239,511,1023] [] rfl (by kernel_rfl) rfl (by simp only [go_sem]) fun zR zK zhR zhK=>?_
   simp only [go_sem,F0]
   repeat' (first|apply yA|intro _)
   refine zhK _ _ trivial (zhR _ ?_)
   refine Cz 2 11 rfl (by kernel_rfl) rfl rfl fun zR zhR=>?_
   simp only [go_sem,F0]
   repeat' (first|apply yA|intro _)
   all_goals try (((refine a0w (caps:=[13]) false [(500000,13)] (fun k=>k) ?_ ?_ (fun _ _=>rfl) ?_ (by decide) ?_ hk0 ?_;iterate 4 (focus (first|rfl|(simp only [go_sem,F0]<;>first|done|rfl|simp)))));((rintro v m ⟨hR,hm⟩;subst hR;subst hm));((refine yA ?_ (yA ?_ (yA ?_ ?_));iterate 3 (focus (first|rfl|(simp only [go_sem,F0];done)|(simp [go_sem,look,F0];done)))));((try simp only [go_sem,F0]));((try simp only [go_sem,F0]));(repeat' (first|apply yA|intro _)))
   refine zhR _ ?_
   refine Gv rfl (zhE _ ?_)
   have zL:=fun S2=>xhN4 ⟨(i4+1,_),hlt,hun⟩ S2 (by (exact yB hlt (yE i4)))
   exact goW
  ·subst h7
   obtain ⟨y0,y1,y2,hl3⟩:=g2y ((f0i hwx).trans rfl)
   obtain ⟨ka,ia,oa,la⟩:=y0
   obtain ⟨kc,ic,oc,lc⟩:=y2
   subst hl3
   have hr3:Ay [.mk ka ia oa la,y1,.mk kc ic oc lc]=[[.i ka,.i ia,.i oa,.R false 4 (Ay la)],y1.cells,[.i kc,.i ic,.i oc,.R false 4 (Ay lc)]]:=by simp [Ay,Aw.cells]
   have hkx:=g0b mb q4 (.mk 7 ix ox [.mk ka ia oa la,y1,.mk kc ic oc lc]) hwx hzx
   rw [Bw,hkn] at hkx
   have hsx:=s0y _ hwx hzx
   rw [Bw] at hsx
   simp only [Jy,hr3] at hkx hsx
   have hy0:=hax (.mk ka ia oa la) (by simp [Aw.args])
   have hy2:=hax (.mk kc ic oc lc) (by simp [Aw.args])
   have hk0:=g0b mb q4 (.mk ka ia oa la) (hwA _ hy0) (hzA _ hy0)
   have hs2:=s0y (.mk kc ic oc lc) (hwA _ hy2) (hzA _ hy2)
   rw [Bw] at hk0 hs2
   have hkn0:knB q4 (.mk ka ia oa la)=false:=hq7
   rw [hkn0] at hk0
   have hun:Nv q4 (a.drop (i4+1))=Nv q3 a:=by rw [←u4,u0p hw.symm hkn,f2q _ _ rfl hkn0]
   have F0:=yA hr3<|yA (@wU (List PL))<|yA (@wV (List PL))<|F0
   have cq:=yA (yA (CF.mk [13] [(500000,13)]) (hkx))<|trivial
   refine (fun zX=>goW) ?_
   refine Zq (id:=54) mixed fun zE zhE=>?_
   refine Cz 4 4 rfl (by kernel_rfl) rfl rfl fun zR zhR=>?_
   simp only [go_sem,F0]
   repeat' (first|apply yA|intro _)
   refine zhR _ ?_
   refine Aq (p:=4) 9 [168,169,170,171,172] [0,1,3,7,15,15,47,111,239,511,1023] [] rfl (by kernel_rfl) rfl (by simp only [go_sem]) fun zR zK zhR zhK=>?_
   simp only [go_sem,F0]
   repeat' (first|apply yA|intro _)
   refine zhK _ _ trivial (zhR _ ?_)
   refine Cz 2 11 rfl (by kernel_rfl) rfl rfl fun zR zhR=>?_
   simp only [go_sem,F0]
   repeat' (first|apply yA|intro _)
   all_goals try (((refine a0w (caps:=[13]) false [(500000,13)] (fun k=>k) ?_ ?_ (fun _ _=>rfl) ?_ (by decide) ?_ hk0 ?_;iterate 4 (focus (first|rfl|(simp only [go_sem,F0]<;>first|done|rfl|simp)))));((rintro v m ⟨hR,hm⟩;subst hR;subst hm));((refine yA ?_ (yA ?_ (yA ?_ ?_));iterate 3 (focus (first|rfl|(simp only [go_sem,F0];done)|(simp [go_sem,look,F0];done)))));((try simp only [go_sem,F0]));((try simp only [go_sem,F0]));(repeat' (first|apply yA|intro _)))
   refine zhR _ ?_
   refine Gv rfl (zhE _ ?_)
   have zL:=fun S2=>xhN4 ⟨(i4+1,_),hlt,hun⟩ S2 (by (exact yB hlt (yE i4)))
   exact goW
  ·subst h7
   obtain ⟨y0,y1,y2,hl3⟩:=g2y ((f0i hwx).trans rfl)
   obtain ⟨ka,ia,oa,la⟩:=y0
   obtain ⟨kc,ic,oc,lc⟩:=y2
   subst hl3
   have hr3:Ay [.mk ka ia oa la,y1,.mk kc ic oc lc]=[[.i ka,.i ia,.i oa,.R false 4 (Ay la)],y1.cells,[.i kc,.i ic,.i oc,.R false 4 (Ay lc)]]:=by simp [Ay,Aw.cells]
   have hkx:=g0b mb q4 (.mk 7 ix ox [.mk ka ia oa la,y1,.mk kc ic oc lc]) hwx hzx
   rw [Bw,hkn] at hkx
   have hsx:=s0y _ hwx hzx
   rw [Bw] at hsx
   simp only [Jy,hr3] at hkx hsx
   have hy0:=hax (.mk ka ia oa la) (by simp [Aw.args])
   have hy2:=hax (.mk kc ic oc lc) (by simp [Aw.args])
   have hk0:=g0b mb q4 (.mk ka ia oa la) (hwA _ hy0) (hzA _ hy0)
   have hs2:=s0y (.mk kc ic oc lc) (hwA _ hy2) (hzA _ hy2)
   rw [Bw] at hk0 hs2
   have hkn0:knB q4 (.mk ka ia oa la)=true:=hq7
   rw [hkn0] at hk0
   have hun:Nv (Oj q4 (Jq (.mk kc ic oc lc)) 1) (a.drop (i4+1))=Nv q3 a:=by rw [←u4,u0p hw.symm hkn,x1d _ _ rfl hkn0]
   have F0:=yA hr3<|yA (@wU (List PL))<|yA (@wV (List PL))<|F0
   have cq:=yA (yA (CF.mk [13] [(500000,13)]) (hkx))<|trivial
   refine (fun zX=>goW) ?_
   refine Zq (id:=54) mixed fun zE zhE=>?_
   refine Cz 4 4 rfl (by kernel_rfl) rfl rfl fun zR zhR=>?_
   simp only [go_sem,F0]
   repeat' (first|apply yA|intro _)
   refine zhR _ ?_
   refine Aq (p:=4) 9 [168,169,170,171,172] [0,1,3,7,15,15,47,111,239,511,1023] [] rfl (by kernel_rfl) rfl (by simp only [go_sem]) fun zR zK zhR zhK=>?_
   simp only [go_sem,F0]
   repeat' (first|apply yA|intro _)
   refine zhK _ _ trivial (zhR _ ?_)
   refine Cz 2 11 rfl (by kernel_rfl) rfl rfl fun zR zhR=>?_
   simp only [go_sem,F0]
   repeat' (first|apply yA|intro _)
   all_goals try (((refine a0w (caps:=[13]) false [(500000,13)] (fun k=>k) ?_ ?_ (fun _ _=>rfl) ?_ (by decide) ?_ hk0 ?_;iterate 4 (focus (first|rfl|(simp only [go_sem,F0]<;>first|done|rfl|simp)))));((rintro v m ⟨hR,hm⟩;subst hR;subst hm));((refine yA ?_ (yA ?_ (yA ?_ ?_));iterate 3 (focus (first|rfl|(simp only [go_sem,F0];done)|(simp [go_sem,look,F0];done)))));((try simp only [go_sem,F0]));((try simp only [go_sem,F0]));(repeat' (first|apply yA|intro _)))
   refine zhR _ ?_
   refine Gv rfl (zhE _ ?_)
   refine (fun zX=>goW) ?_
   refine Zq (id:=55) mixed fun zE zhE=>?_
   refine Aq (p:=0) 6 [175,176,177,178,179,180] [0,0,2,6,14,30,63] [] rfl (by kernel_rfl) rfl (by simp only [go_sem]) fun zR zK zhR zhK=>?_
   simp only [go_sem,F0]
   repeat' (first|apply yA|intro _)
   all_goals (refine Oy (fun k=>k) (.w (.one (.pl (.str (Jq (.mk kc ic oc lc)))))) [] (fun _ _=>rfl) ?_ ((hs2).plain fun _ _ h=>h) ?_ ?_;focus (first|rfl|(simp only [go_sem,F0]<;>rfl)))
   all_goals try (refine yA ?_ (yA ?_ (yA ?_ ?_))<;>first|rfl|simp only [go_sem])
   all_goals simp only [go_sem,F0]
   all_goals repeat' (first|apply yA|intro _)
   refine zhK _ _ trivial (zhR _ ?_)
   refine Cz 1 7 rfl (by kernel_rfl) rfl rfl fun zR zhR=>?_
   simp only [go_sem,F0]
   repeat' (first|apply yA|intro _)
   all_goals refine d2c Try.underlying42 Try.underlying9 hmb ?_
   all_goals (try simp only [go_sem,a0c,F0])
   all_goals repeat' (first|apply yA|intro _)
   refine zhR _ ?_
   refine Gv rfl (zhE _ ?_)
   have zL:=fun S2=>xhN4 ⟨(i4+1,_),hlt,hun⟩ S2 (by (exact yB hlt (yE i4)))
   exact goW
  ·have hkx:=g0b mb (Oj q4 (Jq (.mk kx ix ox lx)) 1) (.mk kx ix ox lx) hwx hzx
   rw [Bw,i0e] at hkx
   have hsx:=s0y _ hwx hzx
   rw [Bw] at hsx
   have hk0:=hkx
   have hs2:=hsx
   have hun:Nv (Oj q4 (Jq (.mk kx ix ox lx)) 1) (a.drop (i4+1))=Nv q3 a:=by rw [←u4,step_mk hw.symm,v0c _ _ _ _ h4 h7]
   have F0:=yA h4<|yA h7<|F0
   refine (fun zX=>goW) ?_
   refine Zq (id:=50) mixed fun zE zhE=>?_
   refine Aq (p:=0) 3 [138,139,140] [0,0,2,7] [] rfl (by kernel_rfl) rfl (by simp only [go_sem]) fun zR zK zhR zhK=>?_
   simp only [go_sem,F0]
   repeat' (first|apply yA|intro _)
   all_goals (refine Oy (fun k=>k) _ [] (fun _ _=>rfl) ?_ ((hsx).plain fun _ _ h=>h) ?_ ?_;focus (first|rfl|(simp only [go_sem,F0]<;>rfl)))
   all_goals try (refine yA ?_ (yA ?_ (yA ?_ ?_))<;>first|rfl|simp only [go_sem])
   all_goals simp only [go_sem,F0]
   all_goals repeat' (first|apply yA|intro _)
   refine zhK _ _ trivial (zhR _ ?_)
   refine Cz 1 4 rfl (by kernel_rfl) rfl rfl fun zR zhR=>?_
   simp only [go_sem,F0]
   repeat' (first|apply yA|intro _)
   all_goals refine d2c Try.underlying42 Try.underlying9 hmb ?_
   all_goals (try simp only [go_sem,a0c,F0])
   all_goals repeat' (first|apply yA|intro _)
   refine zhR _ ?_
   refine Gv rfl (zhE _ ?_)
   have cq:=yA (yA (CF.mk [13] [(500000,13)]) (hkx))<|trivial
   refine (fun zX=>goW) ?_
   refine Zq (id:=54) mixed fun zE zhE=>?_
   refine Cz 4 4 rfl (by kernel_rfl) rfl rfl fun zR zhR=>?_
   simp only [go_sem,F0]
   repeat' (first|apply yA|intro _)
   refine zhR _ ?_
   refine Aq (p:=4) 9 [168,169,170,171,172] [0,1,3,7,15,15,47,111,239,511,1023] [] rfl (by kernel_rfl) rfl (by simp only [go_sem]) fun zR zK zhR zhK=>?_
   simp only [go_sem,F0]
   repeat' (first|apply yA|intro _)
   refine zhK _ _ trivial (zhR _ ?_)
   refine Cz 2 11 rfl (by kernel_rfl) rfl rfl fun zR zhR=>?_
   simp only [go_sem,F0]
   repeat' (first|apply yA|intro _)
   all_goals try (((refine a0w (caps:=[13]) false [(500000,13)] (fun k=>k) ?_ ?_ (fun _ _=>rfl) ?_ (by decide) ?_ hk0 ?_;iterate 4 (focus (first|rfl|(simp only [go_sem,F0]<;>first|done|rfl|simp)))));((rintro v m ⟨hR,hm⟩;subst hR;subst hm));((refine yA ?_ (yA ?_ (yA ?_ ?_));iterate 3 (focus (first|rfl|(simp only [go_sem,F0];done)|(simp [go_sem,look,F0];done)))));((try simp only [go_sem,F0]));((try simp only [go_sem,F0]));(repeat' (first|apply yA|intro _)))
   refine zhR _ ?_
   refine Gv rfl (zhE _ ?_)
   have zL:=fun S2=>xhN4 ⟨(i4+1,_),hlt,hun⟩ S2 (by (exact yB hlt (yE i4)))
   exact goW
  ·subst h7
   obtain ⟨y0,y1,y2,hl3⟩:=g2y ((f0i hwx).trans rfl)
   obtain ⟨ka,ia,oa,la⟩:=y0
   obtain ⟨kc,ic,oc,lc⟩:=y2
   subst hl3
   have hr3:Ay [.mk ka ia oa la,y1,.mk kc ic oc lc]=[[.i ka,.i ia,.i oa,.R false 4 (Ay la)],y1.cells,[.i kc,.i ic,.i oc,.R false 4 (Ay lc)]]:=by simp [Ay,Aw.cells]
   have hkx:=g0b mb (Oj q4 (Jq (.mk 7 ix ox [.mk ka ia oa la,y1,.mk kc ic oc lc])) 1) (.mk 7 ix ox [.mk ka ia oa la,y1,.mk kc ic oc lc]) hwx hzx
   rw [Bw,i0e] at hkx
   have hsx:=s0y _ hwx hzx
   rw [Bw] at hsx
   simp only [Jy,hr3] at hkx hsx
   have hy0:=hax (.mk ka ia oa la) (by simp [Aw.args])
   have hy2:=hax (.mk kc ic oc lc) (by simp [Aw.args])
   have hk0:=g0b mb (Oj q4 (Jq (.mk 7 ix ox [.mk ka ia oa la,y1,.mk kc ic oc lc])) 1) (.mk ka ia oa la) (hwA _ hy0) (hzA _ hy0)
   have hs2:=s0y (.mk kc ic oc lc) (hwA _ hy2) (hzA _ hy2)
   rw [Bw] at hk0 hs2
   have hkn0:knB (Oj q4 (Jq (.mk 7 ix ox [.mk ka ia oa la,y1,.mk kc ic oc lc])) 1) (.mk ka ia oa la)=false:=hq7
   rw [hkn0] at hk0
   have hun:Nv (Oj q4 (Jq (.mk 7 ix ox [.mk ka ia oa la,y1,.mk kc ic oc lc])) 1) (a.drop (i4+1))=Nv q3 a:=by rw [←u4,step_mk hw.symm,f2q _ _ rfl hkn0]
   have F0:=yA hr3<|yA (@wU (List PL))<|yA (@wV (List PL))<|F0
   refine (fun zX=>goW) ?_
   refine Zq (id:=50) mixed fun zE zhE=>?_
   refine Aq (p:=0) 3 [138,139,140] [0,0,2,7] [] rfl (by kernel_rfl) rfl (by simp only [go_sem]) fun zR zK zhR zhK=>?_
   simp only [go_sem,F0]
   repeat' (first|apply yA|intro _)
   all_goals (refine Oy (fun k=>k) _ [] (fun _ _=>rfl) ?_ ((hsx).plain fun _ _ h=>h) ?_ ?_;focus (first|rfl|(simp only [go_sem,F0]<;>rfl)))
   all_goals try (refine yA ?_ (yA ?_ (yA ?_ ?_))<;>first|rfl|simp only [go_sem])
   all_goals simp only [go_sem,F0]
   all_goals repeat' (first|apply yA|intro _)
   refine zhK _ _ trivial (zhR _ ?_)
   refine Cz 1 4 rfl (by kernel_rfl) rfl rfl fun zR zhR=>?_
   simp only [go_sem,F0]
   repeat' (first|apply yA|intro _)
   all_goals refine d2c Try.underlying42 Try.underlying9 hmb ?_
   all_goals (try simp only [go_sem,a0c,F0])
   all_goals repeat' (first|apply yA|intro _)
   refine zhR _ ?_
   refine Gv rfl (zhE _ ?_)
   have cq:=yA (yA (CF.mk [13] [(500000,13)]) (hkx))<|trivial
   refine (fun zX=>goW) ?_
   refine Zq (id:=54) mixed fun zE zhE=>?_
   refine Cz 4 4 rfl (by kernel_rfl) rfl rfl fun zR zhR=>?_
   simp only [go_sem,F0]
   repeat' (first|apply yA|intro _)
   refine zhR _ ?_
   refine Aq (p:=4) 9 [168,169,170,171,172] [0,1,3,7,15,15,47,111,239,511,1023] [] rfl (by kernel_rfl) rfl (by simp only [go_sem]) fun zR zK zhR zhK=>?_
   simp only [go_sem,F0]
   repeat' (first|apply yA|intro _)
   refine zhK _ _ trivial (zhR _ ?_)
   refine Cz 2 11 rfl (by kernel_rfl) rfl rfl fun zR zhR=>?_
   simp only [go_sem,F0]
   repeat' (first|apply yA|intro _)
   all_goals try (((refine a0w (caps:=[13]) false [(500000,13)] (fun k=>k) ?_ ?_ (fun _ _=>rfl) ?_ (by decide) ?_ hk0 ?_;iterate 4 (focus (first|rfl|(simp only [go_sem,F0]<;>first|done|rfl|simp)))));((rintro v m ⟨hR,hm⟩;subst hR;subst hm));((refine yA ?_ (yA ?_ (yA ?_ ?_));iterate 3 (focus (first|rfl|(simp only [go_sem,F0];done)|(simp [go_sem,look,F0];done)))));((try simp only [go_sem,F0]));((try simp only [go_sem,F0]));(repeat' (first|apply yA|intro _)))
   refine zhR _ ?_
   refine Gv rfl (zhE _ ?_)
   have zL:=fun S2=>xhN4 ⟨(i4+1,_),hlt,hun⟩ S2 (by (exact yB hlt (yE i4)))
   exact goW
  ·subst h7
   obtain ⟨y0,y1,y2,hl3⟩:=g2y ((f0i hwx).trans rfl)
   obtain ⟨ka,ia,oa,la⟩:=y0
   obtain ⟨kc,ic,oc,lc⟩:=y2
   subst hl3
   have hr3:Ay [.mk ka ia oa la,y1,.mk kc ic oc lc]=[[.i ka,.i ia,.i oa,.R false 4 (Ay la)],y1.cells,[.i kc,.i ic,.i oc,.R false 4 (Ay lc)]]:=by simp [Ay,Aw.cells]
   have hkx:=g0b mb (Oj q4 (Jq (.mk 7 ix ox [.mk ka ia oa la,y1,.mk kc ic oc lc])) 1) (.mk 7 ix ox [.mk ka ia oa la,y1,.mk kc ic oc lc]) hwx hzx
   rw [Bw,i0e] at hkx
   have hsx:=s0y _ hwx hzx
   rw [Bw] at hsx
   simp only [Jy,hr3] at hkx hsx
   have hy0:=hax (.mk ka ia oa la) (by simp [Aw.args])
   have hy2:=hax (.mk kc ic oc lc) (by simp [Aw.args])
   have hk0:=g0b mb (Oj q4 (Jq (.mk 7 ix ox [.mk ka ia oa la,y1,.mk kc ic oc lc])) 1) (.mk ka ia oa la) (hwA _ hy0) (hzA _ hy0)
   have hs2:=s0y (.mk kc ic oc lc) (hwA _ hy2) (hzA _ hy2)
   rw [Bw] at hk0 hs2
   have hkn0:knB (Oj q4 (Jq (.mk 7 ix ox [.mk ka ia oa la,y1,.mk kc ic oc lc])) 1) (.mk ka ia oa la)=true:=hq7
   rw [hkn0] at hk0
   have hun:Nv (Oj (Oj q4 (Jq (.mk 7 ix ox [.mk ka ia oa la,y1,.mk kc ic oc lc])) 1) (Jq (.mk kc ic oc lc)) 1) (a.drop (i4+1))=Nv q3 a:=by rw [←u4,step_mk hw.symm,x1d _ _ rfl hkn0]
   have F0:=yA hr3<|yA (@wU (List PL))<|yA (@wV (List PL))<|F0
   refine (fun zX=>goW) ?_
   refine Zq (id:=50) mixed fun zE zhE=>?_
   refine Aq (p:=0) 3 [138,139,140] [0,0,2,7] [] rfl (by kernel_rfl) rfl (by simp only [go_sem]) fun zR zK zhR zhK=>?_
   simp only [go_sem,F0]
   repeat' (first|apply yA|intro _)
   all_goals (refine Oy (fun k=>k) _ [] (fun _ _=>rfl) ?_ ((hsx).plain fun _ _ h=>h) ?_ ?_;focus (first|rfl|(simp only [go_sem,F0]<;>rfl)))
   all_goals try (refine yA ?_ (yA ?_ (yA ?_ ?_))<;>first|rfl|simp only [go_sem])
   all_goals simp only [go_sem,F0]
   all_goals repeat' (first|apply yA|intro _)
   refine zhK _ _ trivial (zhR _ ?_)
   refine Cz 1 4 rfl (by kernel_rfl) rfl rfl fun zR zhR=>?_
   simp only [go_sem,F0]
   repeat' (first|apply yA|intro _)
   all_goals refine d2c Try.underlying42 Try.underlying9 hmb ?_
   all_goals (try simp only [go_sem,a0c,F0])
   all_goals repeat' (first|apply yA|intro _)
   refine zhR _ ?_
   refine Gv rfl (zhE _ ?_)
   have cq:=yA (yA (CF.mk [13] [(500000,13)]) (hkx))<|trivial
   refine (fun zX=>goW) ?_
   refine Zq (id:=54) mixed fun zE zhE=>?_
   refine Cz 4 4 rfl (by kernel_rfl) rfl rfl fun zR zhR=>?_
   simp only [go_sem,F0]
   repeat' (first|apply yA|intro _)
   refine zhR _ ?_
   refine Aq (p:=4) 9 [168,169,170,171,172] [0,1,3,7,15,15,47,111,239,511,1023] [] rfl (by kernel_rfl) rfl (by simp only [go_sem]) fun zR zK zhR zhK=>?_
   simp only [go_sem,F0]
   repeat' (first|apply yA|intro _)
   refine zhK _ _ trivial (zhR _ ?_)
   refine Cz 2 11 rfl (by kernel_rfl) rfl rfl fun zR zhR=>?_
   simp only [go_sem,F0]
   repeat' (first|apply yA|intro _)
   all_goals try (((refine a0w (caps:=[13]) false [(500000,13)] (fun k=>k) ?_ ?_ (fun _ _=>rfl) ?_ (by decide) ?_ hk0 ?_;iterate 4 (focus (first|rfl|(simp only [go_sem,F0]<;>first|done|rfl|simp)))));((rintro v m ⟨hR,hm⟩;subst hR;subst hm));((refine yA ?_ (yA ?_ (yA ?_ ?_));iterate 3 (focus (first|rfl|(simp only [go_sem,F0];done)|(simp [go_sem,look,F0];done)))));((try simp only [go_sem,F0]));((try simp only [go_sem,F0]));(repeat' (first|apply yA|intro _)))
   refine zhR _ ?_
   refine Gv rfl (zhE _ ?_)
   refine (fun zX=>goW) ?_
   refine Zq (id:=55) mixed fun zE zhE=>?_
   refine Aq (p:=0) 6 [175,176,177,178,179,180] [0,0,2,6,14,30,63] [] rfl (by kernel_rfl) rfl (by simp only [go_sem]) fun zR zK zhR zhK=>?_
   simp only [go_sem,F0]
   repeat' (first|apply yA|intro _)
   all_goals (refine Oy (fun k=>k) (.w (.one (.pl (.str (Jq (.mk kc ic oc lc)))))) [] (fun _ _=>rfl) ?_ ((hs2).plain fun _ _ h=>h) ?_ ?_;focus (first|rfl|(simp only [go_sem,F0]<;>rfl)))
   all_goals try (refine yA ?_ (yA ?_ (yA ?_ ?_))<;>first|rfl|simp only [go_sem])
   all_goals simp only [go_sem,F0]
   all_goals repeat' (first|apply yA|intro _)
   refine zhK _ _ trivial (zhR _ ?_)
   refine Cz 1 7 rfl (by kernel_rfl) rfl rfl fun zR zhR=>?_
   simp only [go_sem,F0]
   repeat' (first|apply yA|intro _)
   all_goals refine d2c Try.underlying42 Try.underlying9 hmb ?_
   all_goals (try simp only [go_sem,a0c,F0])
   all_goals repeat' (first|apply yA|intro _)
   refine zhR _ ?_
   refine Gv rfl (zhE _ ?_)
   have zL:=fun S2=>xhN4 ⟨(i4+1,_),hlt,hun⟩ S2 (by (exact yB hlt (yE i4)))
   exact goW
  ·subst h4
   obtain ⟨y0,y1,hl3⟩:=len2 ((f0i hwx).trans rfl)
   obtain ⟨ka,ia,oa,la⟩:=y0
   obtain ⟨kc,ic,oc,lc⟩:=y1
   subst hl3
   have hr3:Ay [.mk ka ia oa la,.mk kc ic oc lc]=[[.i ka,.i ia,.i oa,.R false 4 (Ay la)],[.i kc,.i ic,.i oc,.R false 4 (Ay lc)]]:=by simp [Ay,Aw.cells]
   have hkx:=g0b mb q4 (.mk 4 ix ox [.mk ka ia oa la,.mk kc ic oc lc]) hwx hzx
   rw [Bw,hkn] at hkx
   have hsx:=s0y _ hwx hzx
   rw [Bw] at hsx
   simp only [Jy,hr3] at hkx hsx
   have hy0:=hax (.mk ka ia oa la) (by simp [Aw.args])
   have hy2:=hax (.mk kc ic oc lc) (by simp [Aw.args])
   have hs0:=s0y (.mk ka ia oa la) (hwA _ hy0) (hzA _ hy0)
   have hs1:=s0y (.mk kc ic oc lc) (hwA _ hy2) (hzA _ hy2)
   rw [Bw] at hs0 hs1
   have hk0:=hkx
   have hs2:=hsx
   have hun:Nv (Oj (Oj q4 (Jq (.mk ka ia oa la)) 1) (Jq (.mk kc ic oc lc)) 1) (a.drop (i4+1))=Nv q3 a:=by rw [←u4,u0p hw.symm hkn,o2k _ _ rfl]
   have F0:=yA hr3<|yA (@wU (List PL))<|yA (@wV (List PL))<|F0
   have cq:=yA (yA (CF.mk [13] [(500000,13)]) (hkx))<|trivial
   refine (fun zX=>goW) ?_
   refine Zq (id:=53) mixed fun zE zhE=>?_
   refine q1l 15 [(148,.w (.one (.pl (.val (.map (some mb)))))),(149,.w (.one (.p 22 [(3,1)]))),(150,.w (.one (.pl (.R false 4 [[.i ka,.i ia,.i oa,.R false 4 (Ay la)],[.i kc,.i ic,.i oc,.R false 4 (Ay lc)]])))),(151,.w (.one (.pl (.q [.i ka,.i ia,.i oa,.R false 4 (Ay la)] [])))),(152,.w (.agg [.pl (.i ka),.pl (.i ia),.pl (.i oa),.pl (.R false 4 (Ay la))])),(153,.w (.one (.pl (.str (Jq (.mk ka ia oa la)))))),(154,.w (.one (.pl (.val (.map (some mb)))))),(155,.w (.one (.p 22 [(3,1)]))),(156,.w (.one (.pl (.R false 4 [[.i ka,.i ia,.i oa,.R false 4 (Ay la)],[.i kc,.i ic,.i oc,.R false 4 (Ay lc)]])))),(157,.w (.one (.pl (.q [.i kc,.i ic,.i oc,.R false 4 (Ay lc)] [])))),(158,.w (.agg [.pl (.i kc),.pl (.i ic),.pl (.i oc),.pl (.R false 4 (Ay lc))])),(159,.w (.one (.pl (.str (Jq (.mk kc ic oc lc)))))),(160,.tup [.one (.pl (.i (getM q4 (Jq (.mk ka ia oa la))))),.one (.pl (.i ((o0i q4 (Jq (.mk ka ia oa la)):Nat):Int)))]),(161,.w (.one (.pl (.i ((o0i q4 (Jq (.mk ka ia oa la)):Nat):Int))))),(3,.w (.one (.p 3 [])))] (2000000+mb) 12 ⟨.m (Qy q4 (Jq (.mk ka ia oa la))),[]⟩ 14 ⟨.m (Oj q4 (Jq (.mk ka ia oa la)) 1),[]⟩ [false,false,false,false,false,false,false,false,false,false,false,false,false,false,false,false,false,false] [true,true,true,true,true,true,true,true,true,true,true,true,true,true,true,false,false,false] rfl (by decide) rfl rfl rfl rfl ?_ ?_
   ·intro E0 V0 M0 hE hV hM
    have hnd:(V0.map (·.1)).Nodup:=by rw [hV];simp only [yM,wC];decide
    have hm0:look M0 (2000000+mb)=some ⟨.m q4,[]⟩:=by rw [hM];first|rfl|(simp only [go_sem];done)|(simp [look,go_sem,F0];done)
    have hm1:look M0 (13)=some ⟨false,[.pl (.val (.map (some mb)))]⟩:=by rw [hM];first|rfl|(simp only [go_sem];done)|(simp [look,go_sem,F0];done)
    have hm2:look M0 (22)=some ⟨false,[.pl (.i 4),.pl (.i ix),.pl (.i ox),.pl (.R false 4 [[.i ka,.i ia,.i oa,.R false 4 (Ay la)],[.i kc,.i ic,.i oc,.R false 4 (Ay lc)]])]⟩:=by rw [hM];first|rfl|(simp only [go_sem];done)|(simp [look,go_sem,F0];done)
    have he0:look E0 3=some (.w (.one (.p 3 []))):=by rw [hE];first|rfl|(simp only [go_sem];done)|(simp [look,go_sem,F0];done)
    have he1:look E0 13=some (.w (.one (.p 13 []))):=by rw [hE];first|rfl|(simp only [go_sem];done)|(simp [look,go_sem,F0];done)
    have he2:look E0 22=some (.w (.one (.p 22 []))):=by rw [hE];first|rfl|(simp only [go_sem];done)|(simp [look,go_sem,F0];done)
    skip
    have hz1: ∀ dn,look (f0d E0 V0 dn) 13=look E0 13:=fun dn=>h0e (by rw [hV];rfl)
    have hz2: ∀ dn,look (f0d E0 V0 dn) 22=look E0 22:=fun dn=>h0e (by rw [hV];rfl)
    have hq1: ∀ dn,look (m0d M0 (2000000+mb) 12 ⟨.m (Qy q4 (Jq (.mk ka ia oa la))),[]⟩ 14 ⟨.m (Oj q4 (Jq (.mk ka ia oa la)) 1),[]⟩ dn) (13)=some ⟨false,[.pl (.val (.map (some mb)))]⟩:=fun dn=>(o0r (by omega)).trans hm1
    have hq2: ∀ dn,look (m0d M0 (2000000+mb) 12 ⟨.m (Qy q4 (Jq (.mk ka ia oa la))),[]⟩ 14 ⟨.m (Oj q4 (Jq (.mk ka ia oa la)) 1),[]⟩ dn) (22)=some ⟨false,[.pl (.i 4),.pl (.i ix),.pl (.i ox),.pl (.R false 4 [[.i ka,.i ia,.i oa,.R false 4 (Ay la)],[.i kc,.i ic,.i oc,.R false 4 (Ay lc)]])]⟩:=fun dn=>(o0r (by omega)).trans hm2
    simp only [z0n]
    refine ⟨⟨⟨⟨⟨⟨⟨⟨⟨⟨⟨⟨⟨⟨⟨trivial,?_⟩,?_⟩,?_⟩,?_⟩,?_⟩,?_⟩,?_⟩,?_⟩,?_⟩,?_⟩,?_⟩,?_⟩,?_⟩,?_⟩,?_⟩
    ·intro dn hp hd hnot N hN
     have hi:0<dn.length:=by rw [hp.len];decide
     have r13:=(hz1 dn).trans he1
     refine ⟨_,rfl,?_⟩
     simp only [go_sem,F0,r13,hq1,hq2]
     repeat' (first|apply yA|intro _)
     refine hN _ (Qx hi (show V0[0]? =_ by rw [hV];rfl) hnd ?_)
     exact Hy (by decide) (by decide)
    ·intro dn hp hd hnot N hN
     have hi:1<dn.length:=by rw [hp.len];decide
     have r22:=(hz2 dn).trans he2
     refine ⟨_,rfl,?_⟩
     simp only [go_sem,F0,r22,hq1,hq2]
     repeat' (first|apply yA|intro _)
     refine hN _ (Qx hi (show V0[1]? =_ by rw [hV];rfl) hnd ?_)
     exact Hy (by decide) (by decide)
    ·intro dn hp hd hnot N hN
     have hi:2<dn.length:=by rw [hp.len];decide
     have r149:=Ky (r:=E0) (k:=149) (v:=.w (.one (.p 22 [(3,1)]))) (hd 1 (by decide)) (show V0[1]? =_ by rw [hV];rfl) hnd
     refine ⟨_,rfl,?_⟩
     simp only [go_sem,F0,r149,hq1,hq2]
     repeat' (first|apply yA|intro _)
     refine hN _ (Qx hi (show V0[2]? =_ by rw [hV];rfl) hnd ?_)
     exact Hy (by decide) (by decide)
    ·intro dn hp hd hnot N hN
     have hi:3<dn.length:=by rw [hp.len];decide
     have r150:=Ky (r:=E0) (k:=150) (v:=.w (.one (.pl (.R false 4 [[.i ka,.i ia,.i oa,.R false 4 (Ay la)],[.i kc,.i ic,.i oc,.R false 4 (Ay lc)]])))) (hd 2 (by decide)) (show V0[2]? =_ by rw [hV];rfl) hnd
     refine ⟨_,rfl,?_⟩
     simp only [go_sem,F0,r150,hq1,hq2]
     repeat' (first|apply yA|intro _)
     refine hN _ (Qx hi (show V0[3]? =_ by rw [hV];rfl) hnd ?_)
     exact Hy (by decide) (by decide)
    ·intro dn hp hd hnot N hN
     have hi:4<dn.length:=by rw [hp.len];decide
     have r151:=Ky (r:=E0) (k:=151) (v:=.w (.one (.pl (.q [.i ka,.i ia,.i oa,.R false 4 (Ay la)] [])))) (hd 3 (by decide)) (show V0[3]? =_ by rw [hV];rfl) hnd
     refine ⟨_,rfl,?_⟩
     simp only [go_sem,F0,r151,hq1,hq2]
     repeat' (first|apply yA|intro _)
     refine hN _ (Qx hi (show V0[4]? =_ by rw [hV];rfl) hnd ?_)
     exact Hy (by decide) (by decide)
    ·intro dn hp hd hnot N hN
     have hi:5<dn.length:=by rw [hp.len];decide
     have r152:=Ky (r:=E0) (k:=152) (v:=.w (.agg [.pl (.i ka),.pl (.i ia),.pl (.i oa),.pl (.R false 4 (Ay la))])) (hd 4 (by decide)) (show V0[4]? =_ by rw [hV];rfl) hnd
     refine ⟨_,rfl,?_⟩
     simp only [go_sem,F0,r152,hq1,hq2]
     repeat' (first|apply yA|intro _)
     all_goals (refine Wx (fun k=>k) (fun _ _=>rfl) ?_ ((hs0).plain fun _ _ h=>h) ?_;focus (first|rfl|(simp only [go_sem,F0,r152,hq1,hq2]<;>rfl)))
     all_goals (rintro v m ⟨hR,hm⟩;subst hR;subst hm)
     all_goals refine yA (by first|rfl|simp only [go_sem,F0,r152,hq1,hq2]) (yA (by first|rfl|simp only [go_sem,F0,r152,hq1,hq2]) ?_)
     all_goals simp only [go_sem,F0,r152,hq1,hq2]
     all_goals repeat' (first|apply yA|intro _)
     refine hN _ (Qx hi (show V0[5]? =_ by rw [hV];rfl) hnd ?_)
     exact Hy (by decide) (by decide)
    ·intro dn hp hd hnot N hN
     have hi:6<dn.length:=by rw [hp.len];decide
     have r13:=(hz1 dn).trans he1
     refine ⟨_,rfl,?_⟩
     simp only [go_sem,F0,r13,hq1,hq2]
     repeat' (first|apply yA|intro _)
     refine hN _ (Qx hi (show V0[6]? =_ by rw [hV];rfl) hnd ?_)
     exact Hy (by decide) (by decide)
    ·intro dn hp hd hnot N hN
     have hi:7<dn.length:=by rw [hp.len];decide
     have r22:=(hz2 dn).trans he2
     refine ⟨_,rfl,?_⟩
     simp only [go_sem,F0,r22,hq1,hq2]
     repeat' (first|apply yA|intro _)
     refine hN _ (Qx hi (show V0[7]? =_ by rw [hV];rfl) hnd ?_)
     exact Hy (by decide) (by decide)
    ·intro dn hp hd hnot N hN
     have hi:8<dn.length:=by rw [hp.len];decide
     have r155:=Ky (r:=E0) (k:=155) (v:=.w (.one (.p 22 [(3,1)]))) (hd 7 (by decide)) (show V0[7]? =_ by rw [hV];rfl) hnd
     refine ⟨_,rfl,?_⟩
     simp only [go_sem,F0,r155,hq1,hq2]
     repeat' (first|apply yA|intro _)
     refine hN _ (Qx hi (show V0[8]? =_ by rw [hV];rfl) hnd ?_)
     exact Hy (by decide) (by decide)
    ·intro dn hp hd hnot N hN
     have hi:9<dn.length:=by rw [hp.len];decide
     have r156:=Ky (r:=E0) (k:=156) (v:=.w (.one (.pl (.R false 4 [[.i ka,.i ia,.i oa,.R false 4 (Ay la)],[.i kc,.i ic,.i oc,.R false 4 (Ay lc)]])))) (hd 8 (by decide)) (show V0[8]? =_ by rw [hV];rfl) hnd
     refine ⟨_,rfl,?_⟩
     simp only [go_sem,F0,r156,hq1,hq2]
     repeat' (first|apply yA|intro _)
     refine hN _ (Qx hi (show V0[9]? =_ by rw [hV];rfl) hnd ?_)
     exact Hy (by decide) (by decide)
    ·intro dn hp hd hnot N hN
     have hi:10<dn.length:=by rw [hp.len];decide
     have r157:=Ky (r:=E0) (k:=157) (v:=.w (.one (.pl (.q [.i kc,.i ic,.i oc,.R false 4 (Ay lc)] [])))) (hd 9 (by decide)) (show V0[9]? =_ by rw [hV];rfl) hnd
     refine ⟨_,rfl,?_⟩
     simp only [go_sem,F0,r157,hq1,hq2]
     repeat' (first|apply yA|intro _)
     refine hN _ (Qx hi (show V0[10]? =_ by rw [hV];rfl) hnd ?_)
     exact Hy (by decide) (by decide)
    ·intro dn hp hd hnot N hN
     have hi:11<dn.length:=by rw [hp.len];decide
     have r158:=Ky (r:=E0) (k:=158) (v:=.w (.agg [.pl (.i kc),.pl (.i ic),.pl (.i oc),.pl (.R false 4 (Ay lc))])) (hd 10 (by decide)) (show V0[10]? =_ by rw [hV];rfl) hnd
     refine ⟨_,rfl,?_⟩
     simp only [go_sem,F0,r158,hq1,hq2]
     repeat' (first|apply yA|intro _)
     all_goals (refine Wx (fun k=>k) (fun _ _=>rfl) ?_ ((hs1).plain fun _ _ h=>h) ?_;focus (first|rfl|(simp only [go_sem,F0,r158,hq1,hq2]<;>rfl)))
     all_goals (rintro v m ⟨hR,hm⟩;subst hR;subst hm)
     all_goals refine yA (by first|rfl|simp only [go_sem,F0,r158,hq1,hq2]) (yA (by first|rfl|simp only [go_sem,F0,r158,hq1,hq2]) ?_)
     all_goals simp only [go_sem,F0,r158,hq1,hq2]
     all_goals repeat' (first|apply yA|intro _)
     refine hN _ (Qx hi (show V0[11]? =_ by rw [hV];rfl) hnd ?_)
     exact Hy (by decide) (by decide)
    ·intro dn hp hd hnot N hN
     have hi:12<dn.length:=by rw [hp.len];decide
     have r148:=Ky (r:=E0) (k:=148) (v:=.w (.one (.pl (.val (.map (some mb)))))) (hd 0 (by decide)) (show V0[0]? =_ by rw [hV];rfl) hnd
     have r153:=Ky (r:=E0) (k:=153) (v:=.w (.one (.pl (.str (Jq (.mk ka ia oa la)))))) (hd 5 (by decide)) (show V0[5]? =_ by rw [hV];rfl) hnd
     have h14:dn.getD 14 false=false:=z0m hp (by decide) (by decide) hnot
     obtain ⟨g1,g2⟩:=g1r (M:=M0) (mk:=2000000+mb) (o1:=⟨.m (Qy q4 (Jq (.mk ka ia oa la))),[]⟩) (o2:=⟨.m (Oj q4 (Jq (.mk ka ia oa la)) 1),[]⟩) h14 hnot hi (by decide)
     rw [g1]
     refine ⟨_,rfl,?_⟩
     simp only [go_sem,F0,r148,r153,hm0]
     repeat' (first|apply yA|intro _)
     refine o2s Try.underlying42 Try.underlying9 (by kernel_rfl) hmb ?_
     (try simp only [go_sem,F0,r148,r153,hm0])
     all_goals repeat' (first|apply yA|intro _)
     refine hN _ (Qx hi (show V0[12]? =_ by rw [hV];rfl) hnd ?_)
     rw [g2];exact fun _ _ h=>h
    ·intro dn hp hd hnot N hN
     have hi:13<dn.length:=by rw [hp.len];decide
     have r160:=Ky (r:=E0) (k:=160) (v:=.tup [.one (.pl (.i (getM q4 (Jq (.mk ka ia oa la))))),.one (.pl (.i ((o0i q4 (Jq (.mk ka ia oa la)):Nat):Int)))]) (hd 12 (by decide)) (show V0[12]? =_ by rw [hV];rfl) hnd
     refine ⟨_,rfl,?_⟩
     simp only [go_sem,F0,r160,hq1,hq2]
     repeat' (first|apply yA|intro _)
     refine hN _ (Qx hi (show V0[13]? =_ by rw [hV];rfl) hnd ?_)
     exact Hy (by decide) (by decide)
    intro dn hp hd hnot N hN
    have hi:14<dn.length:=by rw [hp.len];decide
    have r148:=Ky (r:=E0) (k:=148) (v:=.w (.one (.pl (.val (.map (some mb)))))) (hd 0 (by decide)) (show V0[0]? =_ by rw [hV];rfl) hnd
    have r161:=Ky (r:=E0) (k:=161) (v:=.w (.one (.pl (.i ((o0i q4 (Jq (.mk ka ia oa la)):Nat):Int))))) (hd 13 (by decide)) (show V0[13]? =_ by rw [hV];rfl) hnd
    have h12:dn.getD 12 false=true:=hd 12 (by decide)
    obtain ⟨g1,g2⟩:=g1q (M:=M0) (mk:=2000000+mb) (o1:=⟨.m (Qy q4 (Jq (.mk ka ia oa la))),[]⟩) (o2:=⟨.m (Oj q4 (Jq (.mk ka ia oa la)) 1),[]⟩) hnot h12 hi
    rw [g1]
    have gm:=i0d (o':=⟨.m (Qy q4 (Jq (.mk ka ia oa la))),[]⟩) hm0
    refine ⟨_,rfl,?_⟩
    simp only [go_sem,F0,r148,r161,gm]
    repeat' (first|apply yA|intro _)
    (refine o2h (m:=1) q4 (Jq (.mk ka ia oa la)) hmb ?_ ?_ ?_ ?_ ?_;iterate 4 (focus (first|rfl|(simp only [go_sem,F0,r148,r161,gm];done))))
    (try simp only [go_sem,F0,r148,r161,gm])
    refine hN _ (o1p hi (show V0[14]? =_ by rw [hV];rfl) hnd ((b1v hnot (show V0[14]? =_ by rw [hV];rfl) hnd).trans he0) ?_)
    rw [g2];exact s0v
   simp only [f0d,m0d,wU,wV,yQ,reduceIte,go_sem,a0c,F0]
   refine Cz 3 18 rfl (by kernel_rfl) rfl rfl fun zR zhR=>?_
   simp only [go_sem,F0]
   repeat' (first|apply yA|intro _)
   refine o2s Try.underlying42 Try.underlying9 (by kernel_rfl) hmb ?_
   (try simp only [go_sem,a0c,F0])
   repeat' (first|apply yA|intro _)
   (refine o2h (m:=1) (Oj q4 (Jq (.mk ka ia oa la)) 1) (Jq (.mk kc ic oc lc)) hmb ?_ ?_ ?_ ?_ ?_;iterate 4 (focus (first|rfl|(simp only [go_sem,F0];done)|(simp [look,go_sem,F0];done))))
   (try simp only [go_sem,a0c,F0])
   refine zhR _ ?_
   refine Gv rfl (zhE _ ?_)
   refine (fun zX=>goW) ?_
   refine Zq (id:=54) mixed fun zE zhE=>?_
   refine Cz 4 4 rfl (by kernel_rfl) rfl rfl fun zR zhR=>?_
   simp only [go_sem,F0]
   repeat' (first|apply yA|intro _)
   refine zhR _ ?_
   refine Aq (p:=4) 9 [168,169,170,171,172] [0,1,3,7,15,15,47,111,239,511,1023] [] rfl (by kernel_rfl) rfl (by simp only [go_sem]) fun zR zK zhR zhK=>?_
   simp only [go_sem,F0]
   repeat' (first|apply yA|intro _)
   refine zhK _ _ trivial (zhR _ ?_)
   refine Cz 2 11 rfl (by kernel_rfl) rfl rfl fun zR zhR=>?_
   simp only [go_sem,F0]
   repeat' (first|apply yA|intro _)
   all_goals try (((refine a0w (caps:=[13]) false [(500000,13)] (fun k=>k) ?_ ?_ (fun _ _=>rfl) ?_ (by decide) ?_ hk0 ?_;iterate 4 (focus (first|rfl|(simp only [go_sem,F0]<;>first|done|rfl|simp)))));((rintro v m ⟨hR,hm⟩;subst hR;subst hm));((refine yA ?_ (yA ?_ (yA ?_ ?_));iterate 3 (focus (first|rfl|(simp only [go_sem,F0];done)|(simp [go_sem,look,F0];done)))));((try simp only [go_sem,F0]));((try simp only [go_sem,F0]));(repeat' (first|apply yA|intro _)))
   refine zhR _ ?_
   refine Gv rfl (zhE _ ?_)
   have zL:=fun S2=>xhN4 ⟨(i4+1,_),hlt,hun⟩ S2 (by (exact yB hlt (yE i4)))
   exact goW
  subst h4
  obtain ⟨y0,y1,hl3⟩:=len2 ((f0i hwx).trans rfl)
  obtain ⟨ka,ia,oa,la⟩:=y0
  obtain ⟨kc,ic,oc,lc⟩:=y1
  subst hl3
  have hr3:Ay [.mk ka ia oa la,.mk kc ic oc lc]=[[.i ka,.i ia,.i oa,.R false 4 (Ay la)],[.i kc,.i ic,.i oc,.R false 4 (Ay lc)]]:=by simp [Ay,Aw.cells]
  have hkx:=g0b mb (Oj q4 (Jq (.mk 4 ix ox [.mk ka ia oa la,.mk kc ic oc lc])) 1) (.mk 4 ix ox [.mk ka ia oa la,.mk kc ic oc lc]) hwx hzx
  rw [Bw,i0e] at hkx
  have hsx:=s0y _ hwx hzx
  rw [Bw] at hsx
  simp only [Jy,hr3] at hkx hsx
  have hy0:=hax (.mk ka ia oa la) (by simp [Aw.args])
  have hy2:=hax (.mk kc ic oc lc) (by simp [Aw.args])
  have hs0:=s0y (.mk ka ia oa la) (hwA _ hy0) (hzA _ hy0)
  have hs1:=s0y (.mk kc ic oc lc) (hwA _ hy2) (hzA _ hy2)
  rw [Bw] at hs0 hs1
  have hk0:=hkx
  have hs2:=hsx
  have hun:Nv (Oj (Oj (Oj q4 (Jq (.mk 4 ix ox [.mk ka ia oa la,.mk kc ic oc lc])) 1) (Jq (.mk ka ia oa la)) 1) (Jq (.mk kc ic oc lc)) 1) (a.drop (i4+1))=Nv q3 a:=by rw [←u4,step_mk hw.symm,o2k _ _ rfl]
  have F0:=yA hr3<|yA (@wU (List PL))<|yA (@wV (List PL))<|F0
  refine (fun zX=>goW) ?_
  refine Zq (id:=50) mixed fun zE zhE=>?_
  refine Aq (p:=0) 3 [138,139,140] [0,0,2,7] [] rfl (by kernel_rfl) rfl (by simp only [go_sem]) fun zR zK zhR zhK=>?_
  simp only [go_sem,F0]
  repeat' (first|apply yA|intro _)
  all_goals (refine Oy (fun k=>k) _ [] (fun _ _=>rfl) ?_ ((hsx).plain fun _ _ h=>h) ?_ ?_;focus (first|rfl|(simp only [go_sem,F0]<;>rfl)))
  all_goals try (refine yA ?_ (yA ?_ (yA ?_ ?_))<;>first|rfl|simp only [go_sem])
  all_goals simp only [go_sem,F0]
  all_goals repeat' (first|apply yA|intro _)
  refine zhK _ _ trivial (zhR _ ?_)
  refine Cz 1 4 rfl (by kernel_rfl) rfl rfl fun zR zhR=>?_
  simp only [go_sem,F0]
  repeat' (first|apply yA|intro _)
  all_goals refine d2c Try.underlying42 Try.underlying9 hmb ?_
  all_goals (try simp only [go_sem,a0c,F0])
  all_goals repeat' (first|apply yA|intro _)
  refine zhR _ ?_
  refine Gv rfl (zhE _ ?_)
  have cq:=yA (yA (CF.mk [13] [(500000,13)]) (hkx))<|trivial
  refine (fun zX=>goW) ?_
  refine Zq (id:=53) mixed fun zE zhE=>?_
  refine q1l 15 [(148,.w (.one (.pl (.val (.map (some mb)))))),(149,.w (.one (.p 22 [(3,1)]))),(150,.w (.one (.pl (.R false 4 [[.i ka,.i ia,.i oa,.R false 4 (Ay la)],[.i kc,.i ic,.i oc,.R false 4 (Ay lc)]])))),(151,.w (.one (.pl (.q [.i ka,.i ia,.i oa,.R false 4 (Ay la)] [])))),(152,.w (.agg [.pl (.i ka),.pl (.i ia),.pl (.i oa),.pl (.R false 4 (Ay la))])),(153,.w (.one (.pl (.str (Jq (.mk ka ia oa la)))))),(154,.w (.one (.pl (.val (.map (some mb)))))),(155,.w (.one (.p 22 [(3,1)]))),(156,.w (.one (.pl (.R false 4 [[.i ka,.i ia,.i oa,.R false 4 (Ay la)],[.i kc,.i ic,.i oc,.R false 4 (Ay lc)]])))),(157,.w (.one (.pl (.q [.i kc,.i ic,.i oc,.R false 4 (Ay lc)] [])))),(158,.w (.agg [.pl (.i kc),.pl (.i ic),.pl (.i oc),.pl (.R false 4 (Ay lc))])),(159,.w (.one (.pl (.str (Jq (.mk kc ic oc lc)))))),(160,.tup [.one (.pl (.i (getM (Oj q4 (Jq (.mk 4 ix ox [.mk ka ia oa la,.mk kc ic oc lc])) 1) (Jq (.mk ka ia oa la))))),.one (.pl (.i ((o0i (Oj q4 (Jq (.mk 4 ix ox [.mk ka ia oa la,.mk kc ic oc lc])) 1) (Jq (.mk ka ia oa la)):Nat):Int)))]),(161,.w (.one (.pl (.i ((o0i (Oj q4 (Jq (.mk 4 ix ox [.mk ka ia oa la,.mk kc ic oc lc])) 1) (Jq (.mk ka ia oa la)):Nat):Int))))),(3,.w (.one (.p 3 [])))] (2000000+mb) 12 ⟨.m (Qy (Oj q4 (Jq (.mk 4 ix ox [.mk ka ia oa la,.mk kc ic oc lc])) 1) (Jq (.mk ka ia oa la))),[]⟩ 14 ⟨.m (Oj (Oj q4 (Jq (.mk 4 ix ox [.mk ka ia oa la,.mk kc ic oc lc])) 1) (Jq (.mk ka ia oa la)) 1),[]⟩ [false,false,false,false,false,false,false,false,false,false,false,false,false,false,false,false,false,false] [true,true,true,true,true,true,true,true,true,true,true,true,true,true,true,false,false,false] rfl (by decide) rfl rfl rfl rfl ?_ ?_
  ·intro E0 V0 M0 hE hV hM
   have hnd:(V0.map (·.1)).Nodup:=by rw [hV];simp only [yM,wC];decide
   have hm0:look M0 (2000000+mb)=some ⟨.m (Oj q4 (Jq (.mk 4 ix ox [.mk ka ia oa la,.mk kc ic oc lc])) 1),[]⟩:=by rw [hM];first|rfl|(simp only [go_sem];done)|(simp [look,go_sem,F0];done)
   have hm1:look M0 (13)=some ⟨false,[.pl (.val (.map (some mb)))]⟩:=by rw [hM];first|rfl|(simp only [go_sem];done)|(simp [look,go_sem,F0];done)
   have hm2:look M0 (22)=some ⟨false,[.pl (.i 4),.pl (.i ix),.pl (.i ox),.pl (.R false 4 [[.i ka,.i ia,.i oa,.R false 4 (Ay la)],[.i kc,.i ic,.i oc,.R false 4 (Ay lc)]])]⟩:=by rw [hM];first|rfl|(simp only [go_sem];done)|(simp [look,go_sem,F0];done)
   have he0:look E0 3=some (.w (.one (.p 3 []))):=by rw [hE];first|rfl|(simp only [go_sem];done)|(simp [look,go_sem,F0];done)
   have he1:look E0 13=some (.w (.one (.p 13 []))):=by rw [hE];first|rfl|(simp only [go_sem];done)|(simp [look,go_sem,F0];done)
   have he2:look E0 22=some (.w (.one (.p 22 []))):=by rw [hE];first|rfl|(simp only [go_sem];done)|(simp [look,go_sem,F0];done)
   skip
   have hz1: ∀ dn,look (f0d E0 V0 dn) 13=look E0 13:=fun dn=>h0e (by rw [hV];rfl)
   have hz2: ∀ dn,look (f0d E0 V0 dn) 22=look E0 22:=fun dn=>h0e (by rw [hV];rfl)
   have hq1: ∀ dn,look (m0d M0 (2000000+mb) 12 ⟨.m (Qy (Oj q4 (Jq (.mk 4 ix ox [.mk ka ia oa la,.mk kc ic oc lc])) 1) (Jq (.mk ka ia oa la))),[]⟩ 14 ⟨.m (Oj (Oj q4 (Jq (.mk 4 ix ox [.mk ka ia oa la,.mk kc ic oc lc])) 1) (Jq (.mk ka ia oa la)) 1),[]⟩ dn) (13)=some ⟨false,[.pl (.val (.map (some mb)))]⟩:=fun dn=>(o0r (by omega)).trans hm1
   have hq2: ∀ dn,look (m0d M0 (2000000+mb) 12 ⟨.m (Qy (Oj q4 (Jq (.mk 4 ix ox [.mk ka ia oa la,.mk kc ic oc lc])) 1) (Jq (.mk ka ia oa la))),[]⟩ 14 ⟨.m (Oj (Oj q4 (Jq (.mk 4 ix ox [.mk ka ia oa la,.mk kc ic oc lc])) 1) (Jq (.mk ka ia oa la)) 1),[]⟩ dn) (22)=some ⟨false,[.pl (.i 4),.pl (.i ix),.pl (.i ox),.pl (.R false 4 [[.i ka,.i ia,.i oa,.R false 4 (Ay la)],[.i kc,.i ic,.i oc,.R false 4 (Ay lc)]])]⟩:=fun dn=>(o0r (by omega)).trans hm2
   simp only [z0n]
   refine ⟨⟨⟨⟨⟨⟨⟨⟨⟨⟨⟨⟨⟨⟨⟨trivial,?_⟩,?_⟩,?_⟩,?_⟩,?_⟩,?_⟩,?_⟩,?_⟩,?_⟩,?_⟩,?_⟩,?_⟩,?_⟩,?_⟩,?_⟩
   ·intro dn hp hd hnot N hN
    have hi:0<dn.length:=by rw [hp.len];decide
    have r13:=(hz1 dn).trans he1
    refine ⟨_,rfl,?_⟩
    simp only [go_sem,F0,r13,hq1,hq2]
    repeat' (first|apply yA|intro _)
    refine hN _ (Qx hi (show V0[0]? =_ by rw [hV];rfl) hnd ?_)
    exact Hy (by decide) (by decide)
   ·intro dn hp hd hnot N hN
    have hi:1<dn.length:=by rw [hp.len];decide
    have r22:=(hz2 dn).trans he2
    refine ⟨_,rfl,?_⟩
    simp only [go_sem,F0,r22,hq1,hq2]
    repeat' (first|apply yA|intro _)
    refine hN _ (Qx hi (show V0[1]? =_ by rw [hV];rfl) hnd ?_)
    exact Hy (by decide) (by decide)
   ·intro dn hp hd hnot N hN
    have hi:2<dn.length:=by rw [hp.len];decide
    have r149:=Ky (r:=E0) (k:=149) (v:=.w (.one (.p 22 [(3,1)]))) (hd 1 (by decide)) (show V0[1]? =_ by rw [hV];rfl) hnd
    refine ⟨_,rfl,?_⟩
    simp only [go_sem,F0,r149,hq1,hq2]
    repeat' (first|apply yA|intro _)
    refine hN _ (Qx hi (show V0[2]? =_ by rw [hV];rfl) hnd ?_)
    exact Hy (by decide) (by decide)
   ·intro dn hp hd hnot N hN
    have hi:3<dn.length:=by rw [hp.len];decide
    have r150:=Ky (r:=E0) (k:=150) (v:=.w (.one (.pl (.R false 4 [[.i ka,.i ia,.i oa,.R false 4 (Ay la)],[.i kc,.i ic,.i oc,.R false 4 (Ay lc)]])))) (hd 2 (by decide)) (show V0[2]? =_ by rw [hV];rfl) hnd
    refine ⟨_,rfl,?_⟩
    simp only [go_sem,F0,r150,hq1,hq2]
    repeat' (first|apply yA|intro _)
    refine hN _ (Qx hi (show V0[3]? =_ by rw [hV];rfl) hnd ?_)
    exact Hy (by decide) (by decide)
   ·intro dn hp hd hnot N hN
    have hi:4<dn.length:=by rw [hp.len];decide
    have r151:=Ky (r:=E0) (k:=151) (v:=.w (.one (.pl (.q [.i ka,.i ia,.i oa,.R false 4 (Ay la)] [])))) (hd 3 (by decide)) (show V0[3]? =_ by rw [hV];rfl) hnd
    refine ⟨_,rfl,?_⟩
    simp only [go_sem,F0,r151,hq1,hq2]
    repeat' (first|apply yA|intro _)
    refine hN _ (Qx hi (show V0[4]? =_ by rw [hV];rfl) hnd ?_)
    exact Hy (by decide) (by decide)
   ·intro dn hp hd hnot N hN
    have hi:5<dn.length:=by rw [hp.len];decide
    have r152:=Ky (r:=E0) (k:=152) (v:=.w (.agg [.pl (.i ka),.pl (.i ia),.pl (.i oa),.pl (.R false 4 (Ay la))])) (hd 4 (by decide)) (show V0[4]? =_ by rw [hV];rfl) hnd
    refine ⟨_,rfl,?_⟩
    simp only [go_sem,F0,r152,hq1,hq2]
    repeat' (first|apply yA|intro _)
    all_goals (refine Wx (fun k=>k) (fun _ _=>rfl) ?_ ((hs0).plain fun _ _ h=>h) ?_;focus (first|rfl|(simp only [go_sem,F0,r152,hq1,hq2]<;>rfl)))
    all_goals (rintro v m ⟨hR,hm⟩;subst hR;subst hm)
    all_goals refine yA (by first|rfl|simp only [go_sem,F0,r152,hq1,hq2]) (yA (by first|rfl|simp only [go_sem,F0,r152,hq1,hq2]) ?_)
    all_goals simp only [go_sem,F0,r152,hq1,hq2]
    all_goals repeat' (first|apply yA|intro _)
    refine hN _ (Qx hi (show V0[5]? =_ by rw [hV];rfl) hnd ?_)
    exact Hy (by decide) (by decide)
   ·intro dn hp hd hnot N hN
    have hi:6<dn.length:=by rw [hp.len];decide
    have r13:=(hz1 dn).trans he1
    refine ⟨_,rfl,?_⟩
    simp only [go_sem,F0,r13,hq1,hq2]
    repeat' (first|apply yA|intro _)
    refine hN _ (Qx hi (show V0[6]? =_ by rw [hV];rfl) hnd ?_)
    exact Hy (by decide) (by decide)
   ·intro dn hp hd hnot N hN
    have hi:7<dn.length:=by rw [hp.len];decide
    have r22:=(hz2 dn).trans he2
    refine ⟨_,rfl,?_⟩
    simp only [go_sem,F0,r22,hq1,hq2]
    repeat' (first|apply yA|intro _)
    refine hN _ (Qx hi (show V0[7]? =_ by rw [hV];rfl) hnd ?_)
    exact Hy (by decide) (by decide)
   ·intro dn hp hd hnot N hN
    have hi:8<dn.length:=by rw [hp.len];decide
    have r155:=Ky (r:=E0) (k:=155) (v:=.w (.one (.p 22 [(3,1)]))) (hd 7 (by decide)) (show V0[7]? =_ by rw [hV];rfl) hnd
    refine ⟨_,rfl,?_⟩
    simp only [go_sem,F0,r155,hq1,hq2]
    repeat' (first|apply yA|intro _)
    refine hN _ (Qx hi (show V0[8]? =_ by rw [hV];rfl) hnd ?_)
    exact Hy (by decide) (by decide)
   ·intro dn hp hd hnot N hN
    have hi:9<dn.length:=by rw [hp.len];decide
    have r156:=Ky (r:=E0) (k:=156) (v:=.w (.one (.pl (.R false 4 [[.i ka,.i ia,.i oa,.R false 4 (Ay la)],[.i kc,.i ic,.i oc,.R false 4 (Ay lc)]])))) (hd 8 (by decide)) (show V0[8]? =_ by rw [hV];rfl) hnd
    refine ⟨_,rfl,?_⟩
    simp only [go_sem,F0,r156,hq1,hq2]
    repeat' (first|apply yA|intro _)
    refine hN _ (Qx hi (show V0[9]? =_ by rw [hV];rfl) hnd ?_)
    exact Hy (by decide) (by decide)
   ·intro dn hp hd hnot N hN
    have hi:10<dn.length:=by rw [hp.len];decide
    have r157:=Ky (r:=E0) (k:=157) (v:=.w (.one (.pl (.q [.i kc,.i ic,.i oc,.R false 4 (Ay lc)] [])))) (hd 9 (by decide)) (show V0[9]? =_ by rw [hV];rfl) hnd
    refine ⟨_,rfl,?_⟩
    simp only [go_sem,F0,r157,hq1,hq2]
    repeat' (first|apply yA|intro _)
    refine hN _ (Qx hi (show V0[10]? =_ by rw [hV];rfl) hnd ?_)
    exact Hy (by decide) (by decide)
   ·intro dn hp hd hnot N hN
    have hi:11<dn.length:=by rw [hp.len];decide
    have r158:=Ky (r:=E0) (k:=158) (v:=.w (.agg [.pl (.i kc),.pl (.i ic),.pl (.i oc),.pl (.R false 4 (Ay lc))])) (hd 10 (by decide)) (show V0[10]? =_ by rw [hV];rfl) hnd
    refine ⟨_,rfl,?_⟩
    simp only [go_sem,F0,r158,hq1,hq2]
    repeat' (first|apply yA|intro _)
    all_goals (refine Wx (fun k=>k) (fun _ _=>rfl) ?_ ((hs1).plain fun _ _ h=>h) ?_;focus (first|rfl|(simp only [go_sem,F0,r158,hq1,hq2]<;>rfl)))
    all_goals (rintro v m ⟨hR,hm⟩;subst hR;subst hm)
    all_goals refine yA (by first|rfl|simp only [go_sem,F0,r158,hq1,hq2]) (yA (by first|rfl|simp only [go_sem,F0,r158,hq1,hq2]) ?_)
    all_goals simp only [go_sem,F0,r158,hq1,hq2]
    all_goals repeat' (first|apply yA|intro _)
    refine hN _ (Qx hi (show V0[11]? =_ by rw [hV];rfl) hnd ?_)
    exact Hy (by decide) (by decide)
   ·intro dn hp hd hnot N hN
    have hi:12<dn.length:=by rw [hp.len];decide
    have r148:=Ky (r:=E0) (k:=148) (v:=.w (.one (.pl (.val (.map (some mb)))))) (hd 0 (by decide)) (show V0[0]? =_ by rw [hV];rfl) hnd
    have r153:=Ky (r:=E0) (k:=153) (v:=.w (.one (.pl (.str (Jq (.mk ka ia oa la)))))) (hd 5 (by decide)) (show V0[5]? =_ by rw [hV];rfl) hnd
    have h14:dn.getD 14 false=false:=z0m hp (by decide) (by decide) hnot
    obtain ⟨g1,g2⟩:=g1r (M:=M0) (mk:=2000000+mb) (o1:=⟨.m (Qy (Oj q4 (Jq (.mk 4 ix ox [.mk ka ia oa la,.mk kc ic oc lc])) 1) (Jq (.mk ka ia oa la))),[]⟩) (o2:=⟨.m (Oj (Oj q4 (Jq (.mk 4 ix ox [.mk ka ia oa la,.mk kc ic oc lc])) 1) (Jq (.mk ka ia oa la)) 1),[]⟩) h14 hnot hi (by decide)
    rw [g1]
    refine ⟨_,rfl,?_⟩
    simp only [go_sem,F0,r148,r153,hm0]
    repeat' (first|apply yA|intro _)
    refine o2s Try.underlying42 Try.underlying9 (by kernel_rfl) hmb ?_
    (try simp only [go_sem,F0,r148,r153,hm0])
    all_goals repeat' (first|apply yA|intro _)
    refine hN _ (Qx hi (show V0[12]? =_ by rw [hV];rfl) hnd ?_)
    rw [g2];exact fun _ _ h=>h
   ·intro dn hp hd hnot N hN
    have hi:13<dn.length:=by rw [hp.len];decide
    have r160:=Ky (r:=E0) (k:=160) (v:=.tup [.one (.pl (.i (getM (Oj q4 (Jq (.mk 4 ix ox [.mk ka ia oa la,.mk kc ic oc lc])) 1) (Jq (.mk ka ia oa la))))),.one (.pl (.i ((o0i (Oj q4 (Jq (.mk 4 ix ox [.mk ka ia oa la,.mk kc ic oc lc])) 1) (Jq (.mk ka ia oa la)):Nat):Int)))]) (hd 12 (by decide)) (show V0[12]? =_ by rw [hV];rfl) hnd
    refine ⟨_,rfl,?_⟩
    simp only [go_sem,F0,r160,hq1,hq2]
    repeat' (first|apply yA|intro _)
    refine hN _ (Qx hi (show V0[13]? =_ by rw [hV];rfl) hnd ?_)
    exact Hy (by decide) (by decide)
   intro dn hp hd hnot N hN
   have hi:14<dn.length:=by rw [hp.len];decide
   have r148:=Ky (r:=E0) (k:=148) (v:=.w (.one (.pl (.val (.map (some mb)))))) (hd 0 (by decide)) (show V0[0]? =_ by rw [hV];rfl) hnd
   have r161:=Ky (r:=E0) (k:=161) (v:=.w (.one (.pl (.i ((o0i (Oj q4 (Jq (.mk 4 ix ox [.mk ka ia oa la,.mk kc ic oc lc])) 1) (Jq (.mk ka ia oa la)):Nat):Int))))) (hd 13 (by decide)) (show V0[13]? =_ by rw [hV];rfl) hnd
   have h12:dn.getD 12 false=true:=hd 12 (by decide)
   obtain ⟨g1,g2⟩:=g1q (M:=M0) (mk:=2000000+mb) (o1:=⟨.m (Qy (Oj q4 (Jq (.mk 4 ix ox [.mk ka ia oa la,.mk kc ic oc lc])) 1) (Jq (.mk ka ia oa la))),[]⟩) (o2:=⟨.m (Oj (Oj q4 (Jq (.mk 4 ix ox [.mk ka ia oa la,.mk kc ic oc lc])) 1) (Jq (.mk ka ia oa la)) 1),[]⟩) hnot h12 hi
   rw [g1]
   have gm:=i0d (o':=⟨.m (Qy (Oj q4 (Jq (.mk 4 ix ox [.mk ka ia oa la,.mk kc ic oc lc])) 1) (Jq (.mk ka ia oa la))),[]⟩) hm0
   refine ⟨_,rfl,?_⟩
   simp only [go_sem,F0,r148,r161,gm]
   repeat' (first|apply yA|intro _)
   (refine o2h (m:=1) (Oj q4 (Jq (.mk 4 ix ox [.mk ka ia oa la,.mk kc ic oc lc])) 1) (Jq (.mk ka ia oa la)) hmb ?_ ?_ ?_ ?_ ?_;iterate 4 (focus (first|rfl|(simp only [go_sem,F0,r148,r161,gm];done))))
   (try simp only [go_sem,F0,r148,r161,gm])
   refine hN _ (o1p hi (show V0[14]? =_ by rw [hV];rfl) hnd ((b1v hnot (show V0[14]? =_ by rw [hV];rfl) hnd).trans he0) ?_)
   rw [g2];exact s0v
  simp only [f0d,m0d,wU,wV,yQ,reduceIte,go_sem,a0c,F0]
  refine Cz 3 18 rfl (by kernel_rfl) rfl rfl fun zR zhR=>?_
  simp only [go_sem,F0]
  repeat' (first|apply yA|intro _)
  refine o2s Try.underlying42 Try.underlying9 (by kernel_rfl) hmb ?_
  (try simp only [go_sem,a0c,F0])
  repeat' (first|apply yA|intro _)
  (refine o2h (m:=1) (Oj (Oj q4 (Jq (.mk 4 ix ox [.mk ka ia oa la,.mk kc ic oc lc])) 1) (Jq (.mk ka ia oa la)) 1) (Jq (.mk kc ic oc lc)) hmb ?_ ?_ ?_ ?_ ?_;iterate 4 (focus (first|rfl|(simp only [go_sem,F0];done)|(simp [look,go_sem,F0];done))))
  (try simp only [go_sem,a0c,F0])
  refine zhR _ ?_
  refine Gv rfl (zhE _ ?_)
  refine (fun zX=>goW) ?_
  refine Zq (id:=54) mixed fun zE zhE=>?_
  refine Cz 4 4 rfl (by kernel_rfl) rfl rfl fun zR zhR=>?_
  simp only [go_sem,F0]
  repeat' (first|apply yA|intro _)
  refine zhR _ ?_
  refine Aq (p:=4) 9 [168,169,170,171,172] [0,1,3,7,15,15,47,111,239,511,1023] [] rfl (by kernel_rfl) rfl (by simp only [go_sem]) fun zR zK zhR zhK=>?_
  simp only [go_sem,F0]
  repeat' (first|apply yA|intro _)
  refine zhK _ _ trivial (zhR _ ?_)
  refine Cz 2 11 rfl (by kernel_rfl) rfl rfl fun zR zhR=>?_
  simp only [go_sem,F0]
  repeat' (first|apply yA|intro _)
  all_goals try (((refine a0w (caps:=[13]) false [(500000,13)] (fun k=>k) ?_ ?_ (fun _ _=>rfl) ?_ (by decide) ?_ hk0 ?_;iterate 4 (focus (first|rfl|(simp only [go_sem,F0]<;>first|done|rfl|simp)))));((rintro v m ⟨hR,hm⟩;subst hR;subst hm));((refine yA ?_ (yA ?_ (yA ?_ ?_));iterate 3 (focus (first|rfl|(simp only [go_sem,F0];done)|(simp [go_sem,look,F0];done)))));((try simp only [go_sem,F0]));((try simp only [go_sem,F0]));(repeat' (first|apply yA|intro _)))
  refine zhR _ ?_
  refine Gv rfl (zhE _ ?_)
  have zL:=fun S2=>xhN4 ⟨(i4+1,_),hlt,hun⟩ S2 (by (exact yB hlt (yE i4)))
  exact goW
 obtain rfl:i4=a.length:=xJ u1 hge
 rw [yG,n1f] at u4
 have F0:=yA (@a1p a.length)<|yA u4<|F0
 have zS:ZS 57:=⟨⟩
 refine (fun zX=>goW) ?_
 refine ⟨?_⟩;clear zS
 rcases Nat.decEq (Nv q3 a).length q3.length with hq|hq
 ·obtain ⟨n4,hn4⟩: ∃ n4,n3=n4+1:=⟨n3-1,by have:=(hG _ r4).2.2;omega⟩
  have r7:f0e a n4 (Nv q3 a)=FM:=by rw [←r3,hn4,o1j hq]
  have r8:NN-(Nv q3 a).length≤n4:=by have:=(hG _ r4).2.2;omega
  have hqi:¬(((Nv q3 a).length:Nat):Int)=((q3.length:Nat):Int):=fun e=>hq (Int.ofNat_inj.mp e)
  have F0:=yA hqi<|F0
  have zL:=fun S2=>xhN3 ⟨(n4,Nv q3 a),r4,r8,r7⟩ S2 (by (show n4<n3;omega))
  exact goW
 have hqi:(((Nv q3 a).length:Nat):Int)=((q3.length:Nat):Int):=by rw [hq]
 have r7:Nv q3 a=FM:=by rw [←r3,o1i hq]
 have hfin:=g0b mb (Nv q3 a) (.mk k i o ms) hwt (hsz _ (by simp))
 rw [Bw] at hfin
 have zE:V.tup [.one (.pl (.b (knB (Nv q3 a) (.mk k i o ms)))),.one (.pl (.i 0))]=V.tup [.one (.pl (.b (knB FM (.mk k i o ms)))),.one (.pl (.i 0))]:=by rw [r7]
 have F0:=yA hqi<|F0
 have cq:=yA (yA (CF.mk [13] [(500000,13)]) (hfin))<|trivial
 exact goW
end Go.Sy
