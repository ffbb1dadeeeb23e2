/- Walks and what they compute. CONDITIONS: those that each theorem names. -/
import Derived.Test.YtkfcbhgkpknagaaGreatDoorvS17
import Derived.Test.YtkfcbhgkpknagaaGreatDoorvE3
import Derived.Test.YtkfcbhgkpknagaaGreatDoorvS18
set_option linter.unusedVariables false
set_option linter.unusedSimpArgs false
set_option maxHeartbeats 1600000
set_option maxRecDepth 100000
namespace Go.Sy
structure PSt where
 acc:T3
 rest:List UInt8
def h0u (r0 r1:UInt64) (a:T3) (l:List UInt8):T3:=⟨sp0 (Qy a.a a.b a.c r0 r1 l),sp1 (Qy a.a a.b a.c r0 r1 l),sp2 (Qy a.a a.b a.c r0 r1 l)⟩
theorem x0n (r0 r1:UInt64) (a:T3) (l:List UInt8):Nj (h0u r0 r1 a l).a (h0u r0 r1 a l).b (h0u r0 r1 a l).c<pP:=by
 have h:=u1n a.a a.b a.c r0 r1 l
 show Nj (sp0 _) (sp1 _) (sp2 _)<pP
 rw [a2f]
 ·exact h
 exact wZ h (by decide)
def l0e (r0 r1:UInt64) (s:PSt) (c:UInt8):PSt:=if s.rest.length=15 then ⟨h0u r0 r1 s.acc (s.rest++[c]),[]⟩ else ⟨s.acc,s.rest++[c]⟩
def Iy (r0 r1:UInt64) (s:PSt) (l:List UInt8):PSt:=l.foldl (l0e r0 r1) s
def PSt.ok (s:PSt):Prop:=s.rest.length≤15∧Nj s.acc.a s.acc.b s.acc.c<pP
section
variable {r0 r1:UInt64} {s:PSt} {l:List UInt8}
theorem step_ok (h:s.ok) (c:UInt8):(l0e r0 r1 s c).ok:=by
 unfold l0e
 split
 ·exact ⟨xA _,x0n _ _ _ _⟩
 have:=h.1
 exact ⟨by simp only [yG,xD,xW];omega,h.2⟩
theorem d0c : ∀ {l:List UInt8} {s:PSt},s.ok→(Iy r0 r1 s l).ok
 | [],_,h=>h
 |c::l,_,h=>d0c (l:=l) (step_ok h c)
theorem r0b {i:Nat} (h:i<l.length):Iy r0 r1 s (l.take (i+1))=l0e r0 r1 (Iy r0 r1 s (l.take i)) (l.getD i 0):=by
 have e:l.take (i+1)=l.take i++[l.getD i 0]:=by
  rw [wI h];simp [List.getD,yO h]
 rw [e,Iy,List.foldl_append];rfl
theorem d0z (a b:List UInt8):Iy r0 r1 s (a++b)=Iy r0 r1 (Iy r0 r1 s a) b:=List.foldl_append
theorem b0o : ∀ {l:List UInt8} {a:T3} {r:List UInt8},r.length+l.length≤15→Iy r0 r1 ⟨a,r⟩ l=⟨a,r++l⟩
 | [],a,r,_=>by simp [Iy]
 |c::l,a,r,h=>by
   simp only [xD] at h
   show Iy r0 r1 (l0e r0 r1 ⟨a,r⟩ c) l=_
   have e:l0e r0 r1 ⟨a,r⟩ c=⟨a,r++[c]⟩:=by unfold l0e;rw [if_neg (by show ¬r.length=15;omega)]
   rw [e,b0o (by simp only [yG,xD,xW];omega)]
   simp
theorem e1u {a:T3} {r:List UInt8} (h:r.length≤15) (b:List UInt8):Iy r0 r1 ⟨a,r⟩ b=Iy r0 r1 ⟨a,[]⟩ (r++b):=by
 have e:Iy r0 r1 ⟨a,[]⟩ r=⟨a,r⟩:=by rw [b0o (by simpa using h)];rfl
 rw [d0z,e]
theorem b1b {a:T3} (h:16≤l.length):Iy r0 r1 ⟨a,[]⟩ l=Iy r0 r1 ⟨h0u r0 r1 a (l.take 16),[]⟩ (l.drop 16):=by
 have e:l.take 16=l.take 15++[l.getD 15 0]:=by
  rw [wI (show 15<l.length by omega)];simp [List.getD,yO (show 15<l.length by omega)]
 have l15:(l.take 15).length=15:=by rw [yH];omega
 have key:Iy r0 r1 ⟨a,[]⟩ (l.take 16)=⟨h0u r0 r1 a (l.take 16),[]⟩:=by
  have e2:Iy r0 r1 ⟨a,[]⟩ (l.take 15)=⟨a,l.take 15⟩:=by rw [b0o (by simp;omega)];rfl
  rw [e,d0z,e2]
  show l0e r0 r1 ⟨a,l.take 15⟩ _=_
  unfold l0e
  rw [if_pos l15]
 conv=>lhs;rw [←wS 16 l]
 rw [d0z,key]
end
def Ov (r:List UInt8):List UInt8:=r++List.replicate (16-r.length) 0
theorem Hq {r:List UInt8} (h:r.length≤16):(Ov r).length=16:=by simp [Ov];omega
theorem c0k {r:List UInt8} (h:r.length≤16): ∀ j,r.length≤j→j<16→(Ov r).getD j 0=0:=by
 intro j h1 h2
 rw [Ov,List.getD,vP h1,List.getElem?_replicate]
 split<;>rfl
theorem Yw (r:List UInt8):(Ov r).take r.length=r:=List.take_left' rfl
theorem y0s {r:List UInt8} (h:r.length<16) (c:UInt8):r++(c::(Ov r).drop (r.length+1))=Ov (r++[c]):=by
 rw [Ov,Ov,List.drop_append,xY (by omega),List.drop_replicate,yC,wM]
 simp only [yG,xD,xW,yB,yC]
 congr 3;omega
end Go.Sy
namespace Go.Sy
open Go.Proofs
attribute [local irreducible] Bw HT Aj Jk onC onE onO onG goV goA goS Lx Bz
def stC (r0 r1 p0 p1:UInt64) (s:PSt):List L:=Cy r0 r1 p0 p1 s.acc.a s.acc.b s.acc.c (Ov s.rest) (s.rest.length:Nat)
theorem i1p {r1:UInt64} (h:r1&&&~~~1152921487695413244=0):r1.toNat<1152921504606846976:=by
 have:=(Ox r1 1152921487695413244).mpr h
 rw [←this,UInt64.toNat_and]
 exact Nat.lt_of_le_of_lt Nat.and_le_right (by decide)
theorem i1i {r0 r1:UInt64} {s:PSt} (hs:s.ok) (h0:r0&&&~~~1152921487695413247=0) (h1:r1&&&~~~1152921487695413244=0):PolyOk r0 r1 s.acc.a s.acc.b s.acc.c (Ov s.rest) (s.rest.length:Nat):=by
 have:=hs.1
 have hv:=hs.2
 refine ⟨h0,h1,?_,hs.2,by omega,by omega,fun j hj hl=>c0k (by omega) j (by simpa using hj) hl⟩
 simp only [Nj,pP] at hv
 have:=s.acc.a.toNat_lt;have:=s.acc.b.toNat_lt
 omega
theorem p1n {b:List UInt8} {i:Nat} (h:i<b.length):((i:Nat):Int)<((b.length:Nat):Int):=by omega
theorem e2f (r0 r1 p0 p1:UInt64) (s:PSt) (hs:s.ok) (hr0:r0&&&~~~1152921487695413247=0) (hr1:r1&&&~~~1152921487695413244=0) (b:List UInt8) (hbl:b.length≤140737488355328) (ex:Bool):
 Ct Tryz.prog 88 [.w (.agg (Cy r0 r1 p0 p1 s.acc.a s.acc.b s.acc.c (Ov s.rest) (s.rest.length:Nat))),.w (.one (.pl (.R ex 1 (Av b))))] (fun v m=>v=.tup [.agg (stC r0 r1 p0 p1 (Iy r0 r1 s b)),.one (.pl (.i 0))]):=by
 have hpl:=Hq (r:=s.rest) (by have:=hs.1;omega)
 have he:=e0u (i1i hs hr0 hr1)
 have hr:=i1p hr1
 have F0:=yA Cy.eq_1<|yA hpl<|he
 refine Ct.go Tryz.func88 rfl Tryz.ntmps88 Tryz.results88 fun w0 ro zZ zhY=>?_
 have cq:=yA (Ct.cv (l0j r0 r1 p0 p1 s.acc.a s.acc.b s.acc.c (Ov s.rest) hpl (s.rest.length:Nat)))<|trivial
 refine (fun zX=>goW) ?_
 refine Bv [0,1,6,9,10,11,12,13,14] ?_
 simp only [Bj,Cx,Bq,yI,yK,Nat.reduceBEq,beq_self_eq_true,yS,yV,yY,yT,yE,reduceIte]
 refine Gx (fun y=>[(17,.w (.one (.pl (.i ((y.1:Nat):Int)))))]) (fun y=>[(2,⟨false,stC r0 r1 p0 p1 (Iy r0 r1 s (b.take y.1))⟩)]) (fun y=>b.length-y.1) (⟨0,xA _⟩:{y:Nat//y≤b.length}) ?_ (by (simp only [go_sem,leX,yB,yC];try simp)) (by (simp only [stC,Iy,wH,List.foldl_nil,Cy,go_sem,leX,yB,yC];try simp [stC,Iy,Cy,leX,look]))
 intro ⟨i,hi⟩ xN0 xM0 xhN0 xhM0
 simp only [yB,yC]
 have hd:(i<b.length∧(Iy r0 r1 s (b.take i)).rest.length=15)∨(i<b.length∧¬(Iy r0 r1 s (b.take i)).rest.length=15)∨i=b.length:=by
  by_cases h1:i=b.length
  ·exact .inr (.inr h1)
  by_cases h2:(Iy r0 r1 s (b.take i)).rest.length=15
  ·exact .inl ⟨by omega,h2⟩
  exact .inr (.inl ⟨by omega,h2⟩)
 rcases hd with ⟨hlt,h15⟩|⟨hlt,h15⟩|rfl
 ·obtain ⟨⟨⟨qa,qb,qc⟩,q⟩,hq⟩: ∃ q,Iy r0 r1 s (b.take i)=q:=⟨_,rfl⟩
  have hqok:PSt.ok ⟨⟨qa,qb,qc⟩,q⟩:=hq▸d0c hs
  have hq15:q.length≤15:=hqok.1
  have hsn:=r0b (r0:=r0) (r1:=r1) (s:=s) hlt
  rw [hq] at hsn
  have hpq:=Hq (r:=q) (by omega)
  have hps:=y0s (r:=q) (by omega) (b.getD i 0)
  simp only [hq,stC]
  have hcq:=p1n hlt
  have hc0:(0:Int)≤((i:Nat):Int):=by omega
  have hg0:=Ik hlt
  have hc1:(0:Int)≤((q.length:Nat):Int):=by omega
  have hc2:((q.length:Nat):Int)<16:=by omega
  have hc3:q.length+1≤16:=by omega
  have hc4:q.length<16:=by omega
  have hpt:=Yw q
  have hput:Az q++[L.pl (PL.u8 (b.getD i 0))]++Az (List.drop (q.length+1) (Ov q))=Az (Ov (q++[b.getD i 0])):=by rw [←hps];simp [Az]
  have hpl2:=Hq (r:=q++[b.getD i 0]) (by simp;omega)
  have hle3:(16≤q.length+1+(List.drop (q.length+1) (Ov q)).length)=True:=eq_true (by rw [yU,hpq];omega)
  obtain ⟨hs1,hs2⟩:Go.RowKit.wrap64 (((i:Nat):Int)+1)=((i+1:Nat):Int)∧Go.RowKit.wrap64 (((q.length:Nat):Int)+1)=((q.length+1:Nat):Int):=⟨Gy (by omega) (by omega),Gy (by omega) (by omega)⟩
  rw [hq] at h15
  simp only at h15
  have hq16:(q++[b.getD i 0]).length=16:=by rw [yG,h15];rfl
  have hpf:Ov (q++[b.getD i 0])=q++[b.getD i 0]:=by rw [Ov,hq16];simp
  have hce:((q.length+1:Nat):Int)=16:=by omega
  have hst:l0e r0 r1 ⟨⟨qa,qb,qc⟩,q⟩ (b.getD i 0)=⟨h0u r0 r1 ⟨qa,qb,qc⟩ (q++[b.getD i 0]),[]⟩:=by unfold l0e;rw [if_pos h15]
  rw [hst] at hsn
  have F0:=yA hput<|yA hpl2<|yA hle3<|yA hcq<|yA hc0<|yA hg0<|yA hc1<|yA hc2<|yA hc3<|yA hc4<|yA hpq<|yA hpt<|yA hs1<|yA hs2<|yA hce<|F0
  have cq:=yA (Ct.cv (m1z r0 r1 p0 p1 qa qb qc (Ov (q++[b.getD i 0])) hpl2 hqok.2 hr))<|trivial
  refine (fun zX=>goW) ?_
  refine xhN0 ⟨i+1,hlt⟩ _ ?_ ?_ ?_
  ·(show b.length-(i+1)<b.length-i;clear hs1 hs2;omega)
  ·(simp only [go_sem,leX,yB,yC];try simp)
  (simp only [hsn,hpf,stC,Cy,h0u,go_sem,leX,yB,yC];first|done|(simp [hsn,hpf,stC,Cy,h0u,Ov,leX,look];done)|rfl)
 ·obtain ⟨⟨⟨qa,qb,qc⟩,q⟩,hq⟩: ∃ q,Iy r0 r1 s (b.take i)=q:=⟨_,rfl⟩
  have hqok:PSt.ok ⟨⟨qa,qb,qc⟩,q⟩:=hq▸d0c hs
  have hq15:q.length≤15:=hqok.1
  have hsn:=r0b (r0:=r0) (r1:=r1) (s:=s) hlt
  rw [hq] at hsn
  have hpq:=Hq (r:=q) (by omega)
  have hps:=y0s (r:=q) (by omega) (b.getD i 0)
  simp only [hq,stC]
  have hcq:=p1n hlt
  have hc0:(0:Int)≤((i:Nat):Int):=by omega
  have hg0:=Ik hlt
  have hc1:(0:Int)≤((q.length:Nat):Int):=by omega
  have hc2:((q.length:Nat):Int)<16:=by omega
  have hc3:q.length+1≤16:=by omega
  have hc4:q.length<16:=by omega
  have hpt:=Yw q
  have hput:Az q++[L.pl (PL.u8 (b.getD i 0))]++Az (List.drop (q.length+1) (Ov q))=Az (Ov (q++[b.getD i 0])):=by rw [←hps];simp [Az]
  have hpl2:=Hq (r:=q++[b.getD i 0]) (by simp;omega)
  have hle3:(16≤q.length+1+(List.drop (q.length+1) (Ov q)).length)=True:=eq_true (by rw [yU,hpq];omega)
  obtain ⟨hs1,hs2⟩:Go.RowKit.wrap64 (((i:Nat):Int)+1)=((i+1:Nat):Int)∧Go.RowKit.wrap64 (((q.length:Nat):Int)+1)=((q.length+1:Nat):Int):=⟨Gy (by omega) (by omega),Gy (by omega) (by omega)⟩
  rw [hq] at h15
  simp only at h15
  have hce:(((q.length+1:Nat):Int)=16)=False:=eq_false (by omega)
  have hst:l0e r0 r1 ⟨⟨qa,qb,qc⟩,q⟩ (b.getD i 0)=⟨⟨qa,qb,qc⟩,q++[b.getD i 0]⟩:=by unfold l0e;rw [if_neg h15]
  rw [hst] at hsn
  have F0:=yA hput<|yA hpl2<|yA hle3<|yA hcq<|yA hc0<|yA hg0<|yA hc1<|yA hc2<|yA hc3<|yA hc4<|yA hpq<|yA hpt<|yA hs1<|yA hs2<|yA hce<|F0
  refine (fun zX=>goW) ?_
  refine xhN0 ⟨i+1,hlt⟩ _ ?_ ?_ ?_
  ·(show b.length-(i+1)<b.length-i;clear hs1 hs2;omega)
  ·(simp only [go_sem,leX,yB,yC];try simp)
  (simp only [hsn,stC,Cy,go_sem,leX,yB,yC];first|done|(simp [hsn,stC,Cy,leX,look];done)|rfl)
 obtain ⟨⟨⟨qa,qb,qc⟩,q⟩,hq⟩: ∃ q,Iy r0 r1 s (b.take b.length)=q:=⟨_,rfl⟩
 have hqok:PSt.ok ⟨⟨qa,qb,qc⟩,q⟩:=hq▸d0c hs
 have hq15:q.length≤15:=hqok.1
 have hpq:=Hq (r:=q) (by omega)
 simp only [hq,stC]
 rw [wK] at hq
 have hcq:¬((b.length:Nat):Int)<((b.length:Nat):Int):=by omega
 have F0:=yA hcq<|yA hpq<|F0
 refine (fun zX=>goW) ?_
 refine zhY _ _ ?_
 simp only [go_sem,F0]
 all_goals (rw [hq];simp only [stC,Cy])
end Go.Sy
namespace Go.Sy
open Go.Proofs
attribute [local irreducible] Bw HT Aj Jk onC onE onO onG goV goA goS Lx Bz
theorem d2u (r0 r1 p0 p1:UInt64) (s:PSt) (hs:s.ok) (hr0:r0&&&~~~1152921487695413247=0) (hr1:r1&&&~~~1152921487695413244=0) (b:List UInt8) (hbl:b.length≤140737488355328) (ex:Bool):
 Ct Tryz.prog 99 [.w (.agg (Cy r0 r1 p0 p1 s.acc.a s.acc.b s.acc.c (Ov s.rest) (s.rest.length:Nat))),.w (.one (.pl (.R ex 1 (Av b))))] (fun v m=>v=.tup [.agg (stC r0 r1 p0 p1 (Iy r0 r1 s b)),.one (.pl (.i 0))]):=by
 have hpl:=Hq (r:=s.rest) (by have:=hs.1;omega)
 have he:=e0u (i1i hs hr0 hr1)
 have hr:=i1p hr1
 have h15:=hs.1
 have hc1:(0:Int)≤((s.rest.length:Nat):Int):=by omega
 have hc2:((s.rest.length:Nat):Int)≤16:=by omega
 have hpt:=Yw s.rest
 have hml:s.rest.length+b.length≤9223372036854775807:=by omega
 have hle:s.rest.length≤16:=by omega
 have F0:=yA Cy.eq_1<|yA hpl<|yA he<|yA @xJ<|yA @xV<|yA hc1<|yA hc2<|yA hpt<|yA hml<|hle
 refine Ct.go Tryz.func99 rfl Tryz.ntmps99 Tryz.results99 fun w0 ro zZ zhY=>?_
 have cq:=yA (Ct.cv (l0i r0 r1 p0 p1 s.acc.a s.acc.b s.acc.c (Ov s.rest) hpl (s.rest.length:Nat)))<|trivial
 have zd0:DQ 5 [17,18,19,20,21,22,23,8] [0,1,3,7,0,16,63,127] []:=⟨⟩
 refine (fun zX=>goW) ?_
 refine Bv [0,1,6,7,9,10,11,12,13,14,15,16,17,18,19,20,21,22,23] ?_
 simp only [Bj,Cx,Bq,yI,yK,Nat.reduceBEq,beq_self_eq_true,yS,yV,yY,yT,yE,reduceIte]
 refine Gx (fun y=>[(8,.w (.one (.pl (.str y.1.2.2.2))))]) (fun y=>[(2,⟨false,Cy r0 r1 p0 p1 y.1.1.a y.1.1.b y.1.1.c y.1.2.1 y.1.2.2.1⟩)]) (fun y=>y.1.2.2.2.length) (⟨(s.acc,Ov s.rest,(s.rest.length:Nat),s.rest++b),hpl,hs.2,rfl,by simp⟩:{y:T3×List UInt8×Int×List UInt8//y.2.1.length=16∧Nj y.1.a y.1.b y.1.c<pP∧Iy r0 r1 ⟨y.1,[]⟩ y.2.2.2=Iy r0 r1 ⟨s.acc,[]⟩ (s.rest++b)∧y.2.2.2.length≤s.rest.length+b.length}) ?_ (by (simp only [go_sem,leX,yB,yC];try simp)) (by (simp only [Cy,go_sem,leX,yB,yC];try simp [Cy,leX,look]))
 intro yy xN0 xM0 xhN0 xhM0
 simp only [yB,yC]
 obtain ⟨⟨q,h,k,t⟩,hh,hv,ht,hl⟩:=yy
 rcases yZ t.length 16 with hlt|hge
 rotate_left
 ·simp only at hh hv ht hl
  obtain ⟨qa,qb,qc⟩:=q
  simp only at hh hv ht hl
  have ha4:qc.toNat<4:=by
   simp only [Nj,pP] at hv
   have:=qa.toNat_lt;have:=qb.toNat_lt
   omega
  have hcq:(16:Int)≤((t.length:Nat):Int):=by omega
  have hc1:((t.length:Nat):Int).toNat=t.length:=Int.toNat_natCast _
  have hbk:=b1b (r0:=r0) (r1:=r1) (a:=⟨qa,qb,qc⟩) hge
  have htd:List.take (t.length-16) (List.drop 16 t)=List.drop 16 t:=xE (by simp)
  have F0:=yA hh<|yA hcq<|yA hc1<|yA htd<|F0
  have cq:=yA (Ct.cv (g1b r0 r1 p0 p1 qa qb qc h hh k ha4 (t.take 16) (by rw [yH];omega)))<|trivial
  have zd0:DQ 7 [27,28,29,30,31,32,8] [0,0,2,7,0,16,15,127] [(4,6),(5,6)]:=⟨⟩
  refine (fun zX=>goW) ?_
  refine xhN0 ⟨(h0u r0 r1 ⟨qa,qb,qc⟩ (t.take 16),List.replicate 16 0,0,t.drop 16),by simp,x0n _ _ _ _,by rw [←ht,hbk],by simp only [yU];omega⟩ _ ?_ ?_ ?_
  ·(show (t.drop 16).length<t.length;rw [yU];omega)
  ·(simp only [go_sem,leX,yB,yC];try simp)
  (simp only [h0u,Cy,go_sem,leX,yB,yC];first|done|(simp [h0u,Cy,leX,look];done)|rfl)
 simp only at hh hv ht hl
 obtain ⟨qa,qb,qc⟩:=q
 simp only at hh hv ht hl
 have ha4:qc.toNat<4:=by
  simp only [Nj,pP] at hv
  have:=qa.toNat_lt;have:=qb.toNat_lt
  omega
 have hcq:¬(16:Int)≤((t.length:Nat):Int):=by omega
 have hsh:=b0o (r0:=r0) (r1:=r1) (a:=⟨qa,qb,qc⟩) (r:=[]) (l:=t) (by simp;omega)
 rw [yC] at hsh
 have hres:Iy r0 r1 s b=⟨⟨qa,qb,qc⟩,t⟩:=by
  rw [←hsh,ht]
  exact e1u hs.1 b
 have hmi:min t.length 16=t.length:=by omega
 have hmi2:min 16 t.length=t.length:=by omega
 have htk:List.take t.length t=t:=wK
 have hdr:List.drop t.length (List.replicate 16 (0:UInt8))=List.replicate (16-t.length) 0:=List.drop_replicate
 have hpt:t++List.replicate (16-t.length) 0=Ov t:=rfl
 have hpl2:=Hq (r:=t) (by omega)
 have F0:=yA hh<|yA hcq<|yA hmi<|yA hmi2<|yA htk<|yA hdr<|yA hpt<|yA hpl2<|F0
 have zS:ZS 9:=⟨⟩
 refine (fun zX=>goW) ?_
 refine ⟨?_⟩;clear zS
 try refine x0s ?_
 refine m0e (id:=9) [38,39,40,41] (by simp only [go_sem]) fun zK zhK=>?_
 simp only [go_sem,F0]
 repeat' (first|apply yA|intro _)
 refine zhK _ _ ?_
 refine (fun zX=>goW) ?_
 refine zhY _ _ ?_
 simp only [go_sem,F0]
 all_goals (rw [hres];simp only [stC,Cy])
end Go.Sy
namespace Go.Sy
open Go.Proofs
attribute [local irreducible] Bw HT Aj Jk onC onE onO onG goV goA goS Lx Bz
end Go.Sy
