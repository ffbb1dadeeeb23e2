/- Walks and what they compute. CONDITIONS: those that each theorem names. -/
import Derived.Test.YtkfcbhgkpknagaaGreatDoorvS19
import Derived.Test.YtkfcbhgkpknagaaGreatDoorvE3
import Derived.Test.YtkfcbhgkpknagaaGreatDoorvS12
import Derived.Test.YtkfcbhgkpknagaaGreatDoorvS13
set_option linter.unusedVariables false
set_option linter.unusedSimpArgs false
set_option maxHeartbeats 1600000
set_option maxRecDepth 100000
namespace Go.Sy
def nB (v:Nat):Nat→List UInt8
 |0=>[]
 |k+1=>UInt8.ofNat v::nB (v/256) k
theorem z0c : ∀ (v k:Nat),(nB v k).length=k
 |_,0=>rfl
 |v,k+1=>by simp [nB,z0c]
theorem z0d : ∀ (j v k:Nat),nB v (j+k)=nB v j++nB (v/256 ^ j) k
 |0,v,k=>by simp [nB]
 |j+1,v,k=>by
   rw [show j+1+k=(j+k)+1 from by omega]
   simp only [nB,yB,z0d j]
   rw [Nat.div_div_eq_div_mul,show 256 ^ (j+1)=256*256 ^ j from by rw [vK,vF]]
theorem o1y : ∀ (k v:Nat),nB (v%256 ^ k) k=nB v k
 |0,v=>rfl
 |k+1,v=>by
   simp only [nB]
   have e:v%256 ^ (k+1)=v%256+256*(v/256%256 ^ k):=by rw [show 256 ^ (k+1)=256*256 ^ k from by rw [vK,vF],Nat.mod_mul]
   have e1:UInt8.ofNat (v%256 ^ (k+1))=UInt8.ofNat v:=by
    apply vJ.mp
    simp only [vM,e];omega
   have e2:v%256 ^ (k+1)/256=v/256%256 ^ k:=by rw [e];omega
   rw [e1,e2,o1y k]
theorem c1j : ∀ (k:Nat) (n:UInt64),Mq n k=nB n.toNat k
 |0,_=>rfl
 |k+1,n=>by
   have e:(n/256).toNat=n.toNat/256:=by rw [vV];rfl
   simp only [Mq,nB,c1j k,e]
def b1h :Nat→List UInt8→List UInt8→List UInt8
 |c,a::as',b::bs=>UInt8.ofNat (c+a.toNat+b.toNat)::b1h ((c+a.toNat+b.toNat)/256) as' bs
 |_,_,_=>[]
theorem t1j : ∀ (as' bs:List UInt8) (c:Nat),as'.length=bs.length→b1h c as' bs=nB (c+leN as'+leN bs) as'.length
 | [],[],_,_=>rfl
 | [],_::_,_,h=>by simp at h
 |_::_,[],_,h=>by simp at h
 |a::as',b::bs,c,h=>by
   simp only [b1h,xD,nB,leN]
   have e1:UInt8.ofNat (c+(a.toNat+256*leN as')+(b.toNat+256*leN bs))=UInt8.ofNat (c+a.toNat+b.toNat):=by
    apply vJ.mp
    simp only [vM];omega
   have e2:(c+(a.toNat+256*leN as')+(b.toNat+256*leN bs))/256=(c+a.toNat+b.toNat)/256+leN as'+leN bs:=by omega
   rw [e1,e2,t1j as' bs _ (by simpa using h)]
def b1g (a0 a1 p0 p1:UInt64):List UInt8:=nB (a0.toNat+a1.toNat*18446744073709551616+(p0.toNat+p1.toNat*18446744073709551616)) 16
theorem i0j (a0 a1 p0 p1:UInt64):(b1g a0 a1 p0 p1).length=16:=z0c _ _
theorem p1t (a b:UInt64):leN (Mq a 8++Mq b 8)=a.toNat+b.toNat*18446744073709551616:=by
 rw [a0r,j0q,j0q,Ay]
 have e:(256:Nat) ^ 8=18446744073709551616:=rfl
 have ha:=a.toNat_lt
 have hb:=b.toNat_lt
 rw [e,yN ha,yN hb];omega
theorem r1k (a0 a1 p0 p1:UInt64):b1h 0 (Mq a0 8++Mq a1 8) (Mq p0 8++Mq p1 8)=b1g a0 a1 p0 p1:=by
 rw [t1j _ _ _ (by simp [Ay]),p1t,p1t,b1g,xV]
 simp [Ay]
theorem g1y (a0 a1 p0 p1:UInt64):Mq (adS a0 p0 0) 8++Mq (adS a1 p1 (adC a0 p0 0)) 8=b1g a0 a1 p0 p1:=by
 obtain ⟨h1,h2⟩:=Rq a0 p0 (c:=0) (by decide)
 obtain ⟨h3,h4⟩:=Rq a1 p1 h2
 have z:(0:UInt64).toNat=0:=rfl
 rw [z] at h1
 rw [c1j,c1j,b1g,show 16=8+8 from rfl,z0d,←o1y 8 (_+_),←o1y 8 (_/_)]
 have e:(256:Nat) ^ 8=18446744073709551616:=rfl
 have b1:=(adS a0 p0 0).toNat_lt
 have b2:=(adS a1 p1 (adC a0 p0 0)).toNat_lt
 rw [e]
 generalize (adS a1 p1 (adC a0 p0 0)).toNat=u2 at*
 generalize (adC a1 p1 (adC a0 p0 0)).toNat=u3 at*
 generalize (adS a0 p0 0).toNat=u0 at*
 generalize (adC a0 p0 0).toNat=u1 at*
 generalize a0.toNat=x0 at*
 generalize a1.toNat=x1 at*
 generalize p0.toNat=y0 at*
 generalize p1.toNat=y1 at*
 have e1:(x0+x1*18446744073709551616+(y0+y1*18446744073709551616))%18446744073709551616=u0:=by omega
 have e2:(x0+x1*18446744073709551616+(y0+y1*18446744073709551616))/18446744073709551616%18446744073709551616=u2:=by omega
 rw [e1,e2]
theorem n0y (x:UInt64):Mq x 8=[(Iw x 0).toUInt8,(Iw x 8).toUInt8,(Iw x 16).toUInt8,(Iw x 24).toUInt8,(Iw x 32).toUInt8,(Iw x 40).toUInt8,(Iw x 48).toUInt8,(Iw x 56).toUInt8]:=by
 have e: ∀ y:UInt64,(y/256).toNat=y.toNat/256:=fun y=>by rw [vV];rfl
 have g: ∀ (y:UInt64) (n:Nat),y.toNat=n→UInt8.ofNat n=y.toUInt8:=fun y n h=>by
  apply vJ.mp
  rw [←h,vM,UInt64.toNat_toUInt8]
 simp only [Mq,List.cons.injEq,and_true]
 refine ⟨?_,?_,?_,?_,?_,?_,?_,?_⟩
 all_goals refine g _ _ ?_
 all_goals simp only [Wx,e,Nat.div_div_eq_div_mul]
 all_goals simp
def r0l (r0 r1:UInt64) (s:PSt):T3:=if s.rest.length=0 then s.acc else h0u r0 r1 s.acc s.rest
end Go.Sy
namespace Go.Sy
open Go.Proofs
attribute [local irreducible] Bw HT Aj Jk onC onE onO onG goV goA goS Lx Bz
theorem m1y (r0 r1 p0 p1 a0 a1 a2:UInt64) (held:List UInt8) (hh:held.length=16) (ha:Nj a0 a1 a2<pP) (hr:r1.toNat<1152921504606846976) (k:Nat) (hk:k<16) (hz: ∀ j,k≤j→j<16→held.getD j 0=0):Ct Tryz.prog 118 [.w (.agg (Cy r0 r1 p0 p1 a0 a1 a2 held (k:Int)))] (fun v m=>v=.w (.agg (Cy r0 r1 p0 p1 (sp0 (Qy a0 a1 a2 r0 r1 (held.take k))) (sp1 (Qy a0 a1 a2 r0 r1 (held.take k))) (sp2 (Qy a0 a1 a2 r0 r1 (held.take k))) (List.replicate 16 0) 0))):=by
 rcases yZ k 8 with h8|h8
 ·exact c2w r0 r1 p0 p1 a0 a1 a2 held hh ha hr k hk hz h8
 exact c2x r0 r1 p0 p1 a0 a1 a2 held hh ha hr k hk hz h8
theorem z16 :Az (List.replicate 16 0)=[.pl (.u8 0),.pl (.u8 0),.pl (.u8 0),.pl (.u8 0),.pl (.u8 0),.pl (.u8 0),.pl (.u8 0),.pl (.u8 0),.pl (.u8 0),.pl (.u8 0),.pl (.u8 0),.pl (.u8 0),.pl (.u8 0),.pl (.u8 0),.pl (.u8 0),.pl (.u8 0)]:=rfl
theorem l2w (r0 r1 p0 p1:UInt64) (s:PSt) (hs:s.ok) (hr0:r0&&&~~~1152921487695413247=0) (hr1:r1&&&~~~1152921487695413244=0) (h0:s.rest.length=0):
 Ct Tryz.prog 90 [.w (.agg (Cy r0 r1 p0 p1 s.acc.a s.acc.b s.acc.c (Ov s.rest) (s.rest.length:Nat)))] (fun v m=>v=.tup [.agg (Az (b1g (r0l r0 r1 s).a (r0l r0 r1 s).b p0 p1)),.one (.pl (.i 0))]):=by
 have h15:=hs.1
 have hpl:=Hq (r:=s.rest) (by omega)
 have hpt:=Yw s.rest
 have hpz:=c0k (r:=s.rest) (by omega)
 have he:=e0u (i1i hs hr0 hr1)
 have hr:=i1p hr1
 have hfa:r0l r0 r1 s=s.acc:=if_pos h0
 have hn0:¬(0:Int)<((s.rest.length:Nat):Int):=by omega
 have F0:=yA Cy.eq_1<|yA @z16<|yA hpl<|yA hpt<|yA he<|yA hn0<|yA @ic0<|yA @ic1<|yA @ic2<|yA @ic3<|yA @ic4<|@ic5
 have zF:FG [8,11,12,13,14,15,16,17,18,19,20,21,22,23,24,25,26,27,28,29,30,31,32,33,34,35,36,37,38,39,40,41,42,44,45,46,47,48,49,50,51,52,53,54,55,56,57,58,59,60,61,62]:=trivial
 refine Ct.go Tryz.func90 rfl Tryz.ntmps90 Tryz.results90 fun w0 ro zZ zhY=>?_
 have cq:=yA (Ct.cv (l0j r0 r1 p0 p1 s.acc.a s.acc.b s.acc.c (Ov s.rest) hpl (s.rest.length:Nat)))<|trivial
 have zS:ZS 6:=⟨⟩
 refine (fun zX=>goW) ?_
 refine ⟨?_⟩;clear zS
 iterate 6 first
  |(refine Lj fun zK zhK=>?_;simp only [go_sem,F0];(repeat' (first|apply yA|intro _)))
  |refine zhK _ ?_
  |((all_goals refine Xz (by first|rfl|(simp only [go_sem,F0]<;>rfl)) (Oj _ _ _ (by first|decide|exact (Rq _ _ (by decide)).2|exact (Rq _ _ ((Rq _ _ (by decide)).2)).2)) ?_);(all_goals simp only [go_sem,F0]);(all_goals repeat' (first|apply yA|intro _)))
 have zd0:DQ 12 [46,47,48,49,50,51,52,53,54,55,56,57,58,59,60] [0,0,2,0,0,16,56,120,0,0,512,1792,3840,249,8441,32767,65535] [(1,14),(2,14),(8,14),(9,14),(10,14),(11,14),(12,14)]:=⟨⟩
 have zU:=yA ur<|trivial
 refine (fun zX=>goW) ?_
 refine zhY _ _ ?_
 simp only [go_sem,F0]
 all_goals (rw [hfa,←g1y,n0y,n0y];rfl)
theorem l2x (r0 r1 p0 p1:UInt64) (s:PSt) (hs:s.ok) (hr0:r0&&&~~~1152921487695413247=0) (hr1:r1&&&~~~1152921487695413244=0) (h0:0<s.rest.length):
 Ct Tryz.prog 90 [.w (.agg (Cy r0 r1 p0 p1 s.acc.a s.acc.b s.acc.c (Ov s.rest) (s.rest.length:Nat)))] (fun v m=>v=.tup [.agg (Az (b1g (r0l r0 r1 s).a (r0l r0 r1 s).b p0 p1)),.one (.pl (.i 0))]):=by
 have h15:=hs.1
 have hpl:=Hq (r:=s.rest) (by omega)
 have hpt:=Yw s.rest
 have hpz:=c0k (r:=s.rest) (by omega)
 have he:=e0u (i1i hs hr0 hr1)
 have hr:=i1p hr1
 have hfa:r0l r0 r1 s=h0u r0 r1 s.acc s.rest:=if_neg (by omega)
 have hn0:(0:Int)<((s.rest.length:Nat):Int):=by omega
 have F0:=yA Cy.eq_1<|yA @z16<|yA hpl<|yA hpt<|yA he<|yA hn0<|yA @ic0<|yA @ic1<|yA @ic2<|yA @ic3<|yA @ic4<|@ic5
 have zF:FG [8,11,12,13,14,15,16,17,18,19,20,21,22,23,24,25,26,27,28,29,30,31,32,33,34,35,36,37,38,39,40,41,42,44,45,46,47,48,49,50,51,52,53,54,55,56,57,58,59,60,61,62]:=trivial
 refine Ct.go Tryz.func90 rfl Tryz.ntmps90 Tryz.results90 fun w0 ro zZ zhY=>?_
 have cq:=yA (Ct.cv (l0j r0 r1 p0 p1 s.acc.a s.acc.b s.acc.c (Ov s.rest) hpl (s.rest.length:Nat)))<|yA (Ct.cv (m1y r0 r1 p0 p1 s.acc.a s.acc.b s.acc.c (Ov s.rest) hpl hs.2 hr s.rest.length (by omega) hpz))<|trivial
 have zS:ZS 6:=⟨⟩
 refine (fun zX=>goW) ?_
 refine ⟨?_⟩;clear zS
 iterate 6 first
  |(refine Lj fun zK zhK=>?_;simp only [go_sem,F0];(repeat' (first|apply yA|intro _)))
  |refine zhK _ ?_
  |((all_goals refine Xz (by first|rfl|(simp only [go_sem,F0]<;>rfl)) (Oj _ _ _ (by first|decide|exact (Rq _ _ (by decide)).2|exact (Rq _ _ ((Rq _ _ (by decide)).2)).2)) ?_);(all_goals simp only [go_sem,F0]);(all_goals repeat' (first|apply yA|intro _)))
 have zd0:DQ 12 [46,47,48,49,50,51,52,53,54,55,56,57,58,59,60] [0,0,2,0,0,16,56,120,0,0,512,1792,3840,249,8441,32767,65535] [(1,14),(2,14),(8,14),(9,14),(10,14),(11,14),(12,14)]:=⟨⟩
 have zU:=yA ur<|trivial
 refine (fun zX=>goW) ?_
 refine zhY _ _ ?_
 simp only [go_sem,F0]
 all_goals (rw [hfa,←g1y,n0y,n0y];rfl)
theorem v1w (r0 r1 p0 p1:UInt64) (s:PSt) (hs:s.ok) (hr0:r0&&&~~~1152921487695413247=0) (hr1:r1&&&~~~1152921487695413244=0) (h0:s.rest.length=0):
 Ct Tryz.prog 101 [.w (.agg (Cy r0 r1 p0 p1 s.acc.a s.acc.b s.acc.c (Ov s.rest) (s.rest.length:Nat)))] (fun v m=>v=.tup [.agg (Az (b1g (r0l r0 r1 s).a (r0l r0 r1 s).b p0 p1)),.one (.pl (.i 0))]):=by
 have h15:=hs.1
 have hpl:=Hq (r:=s.rest) (by omega)
 have hpt:=Yw s.rest
 have hpz:=c0k (r:=s.rest) (by omega)
 have he:=e0u (i1i hs hr0 hr1)
 have hr:=i1p hr1
 have ha4:s.acc.c.toNat<4:=by
  have hv:=hs.2
  simp only [Nj,pP] at hv
  have:=s.acc.a.toNat_lt;have:=s.acc.b.toNat_lt
  omega
 have hc1:(0:Int)≤((s.rest.length:Nat):Int):=by omega
 have hc2:((s.rest.length:Nat):Int)≤16:=by omega
 have hle:s.rest.length≤16:=by omega
 have hfa:r0l r0 r1 s=s.acc:=if_pos h0
 have hn0:¬(0:Int)<((s.rest.length:Nat):Int):=by omega
 have F0:=yA Cy.eq_1<|yA hpl<|yA hpt<|yA he<|yA hn0<|yA hc1<|yA hc2<|yA hle<|yA @Ay<|yA @xJ<|@xV
 refine Ct.go Tryz.func101 rfl Tryz.ntmps101 Tryz.results101 fun w0 ro zZ zhY=>?_
 have cq:=yA (Ct.cv (l0i r0 r1 p0 p1 s.acc.a s.acc.b s.acc.c (Ov s.rest) hpl (s.rest.length:Nat)))<|trivial
 have zS:ZS 8:=⟨⟩
 refine (fun zX=>goW) ?_
 refine ⟨?_⟩;clear zS
 iterate 8 first
  |refine zhK _ _ trivial ?_
  |(refine w0i (id:=8) [28,29,30,31,32,33,34,35,36,7] [0,1,3,7,0,16,48,127,255,511] [] mixed (by kernel_rfl) (by simp only [go_sem]) fun zK zhK=>?_;simp only [go_sem,F0];(repeat' (first|apply yA|intro _)))
  |(refine w0i (id:=9) [37,38,39,40,41,42,43,44,45,8] [0,1,3,7,0,16,48,127,255,511] [] mixed (by kernel_rfl) (by simp only [go_sem]) fun zK zhK=>?_;simp only [go_sem,F0];(repeat' (first|apply yA|intro _)))
  |((all_goals refine Ck (fun k=>k) _ [] (fun _ _=>rfl) (by first|rfl|(simp only [go_sem,F0]<;>rfl)) ((j1l _ 8 (by decide)).plain fun _ _ h=>h) ?_ ?_);(all_goals try (refine yA ?_ (yA ?_ (yA ?_ ?_))<;>first|rfl|simp only [go_sem]));(all_goals simp only [go_sem,F0]);(all_goals repeat' (first|apply yA|intro _)))
 refine (fun zX=>goW) ?_
 refine Bv [0,1,4,5,11,12,13,14,15,16,17,18,19,20,21,22,23,24,25,26,27,28,29,30,31,32,33,34,35,36,37,38,39,40,41,42,43,44,45] ?_
 simp only [Bj,Cx,Bq,yI,yK,Nat.reduceBEq,beq_self_eq_true,yS,yV,yY,yT,yE,reduceIte]
 refine Gx (fun y=>[(46,.w (.one (.pl (.i ((y.1.1:Nat):Int))))),(9,.w (.one (.pl (.i ((y.1.2.1:Nat):Int)))))]) (fun y=>[(6,⟨false,Az y.1.2.2⟩)]) (fun y=>16-y.1.1) (⟨(0,0,List.replicate 16 0),xA _,xA _,by simp,rfl⟩:{y:Nat×Nat×List UInt8//y.1≤16∧y.2.1≤1∧y.2.2.length=16∧y.2.2.take y.1++b1h y.2.1 ((Mq s.acc.a 8++Mq s.acc.b 8).drop y.1) ((Mq p0 8++Mq p1 8).drop y.1)=b1h 0 (Mq s.acc.a 8++Mq s.acc.b 8) (Mq p0 8++Mq p1 8)}) ?_ (by (simp only [go_sem,leX,yB,yC];try simp)) (by (simp only [go_sem,leX,yB,yC];try simp))
 intro yy xN0 xM0 xhN0 xhM0
 simp only [yB,yC]
 obtain ⟨⟨i,c,q⟩,hi,hc,hq,hv⟩:=yy
 simp only at hi hc hq hv
 have hev:=r1k s.acc.a s.acc.b p0 p1
 obtain ⟨al,hal⟩: ∃ al,Mq s.acc.a 8++Mq s.acc.b 8=al:=⟨_,rfl⟩
 obtain ⟨bl,hbl⟩: ∃ bl,Mq p0 8++Mq p1 8=bl:=⟨_,rfl⟩
 have lal:al.length=16:=by rw [←hal];simp [Ay]
 have lbl:bl.length=16:=by rw [←hbl];simp [Ay]
 rw [hal,hbl] at hv hev
 simp only [hal,hbl]
 rcases yZ i 16 with hlt|hge
 ·obtain ⟨a,ha⟩: ∃ a,al.getD i 0=a:=⟨_,rfl⟩
  obtain ⟨b,hb⟩: ∃ b,bl.getD i 0=b:=⟨_,rfl⟩
  have hda:=drop_cons (l:=al) (j:=i) (by omega)
  have hdb:=drop_cons (l:=bl) (j:=i) (by omega)
  rw [ha] at hda
  rw [hb] at hdb
  rw [hda,hdb,b1h] at hv
  have a1:=a.toNat_lt
  have b1:=b.toNat_lt
  obtain ⟨x,hx⟩: ∃ x,UInt8.ofNat (c+a.toNat+b.toNat)=x:=⟨_,rfl⟩
  rw [hx] at hv
  have hcq:((i:Nat):Int)<16:=by omega
  have hc0:(0:Int)≤((i:Nat):Int):=by omega
  have hk2:i+1≤16:=by omega
  have hput:Az (List.take i q)++[L.pl (PL.u8 x)]++Az (List.drop (i+1) q)=Az (q.take i++x::q.drop (i+1)):=by simp [Az]
  have hmo:UInt8.ofNat ((((c+(a.toNat+b.toNat):Nat):Int)%256).toNat)=x:=by
   rw [←hx,show (((c+(a.toNat+b.toNat):Nat):Int)%256).toNat=(c+(a.toNat+b.toNat))%256 from by omega]
   apply vJ.mp
   simp only [vM];omega
  have htd:((c+(a.toNat+b.toNat):Nat):Int).tdiv 256=(((c+a.toNat+b.toNat)/256:Nat):Int):=by
   rw [show ((c+(a.toNat+b.toNat):Nat):Int).tdiv 256=(((c+(a.toNat+b.toNat))/256:Nat):Int) from rfl,Nat.add_assoc]
  have n1:(c+a.toNat+b.toNat)/256≤1:=by omega
  have n2:(q.take i++x::q.drop (i+1)).length=16:=by rw [yG,xD,yH,yU];omega
  have htl:(q.take i).length=i:=by rw [yH];omega
  have n3:(q.take i++x::q.drop (i+1)).take (i+1)++b1h ((c+a.toNat+b.toNat)/256) (al.drop (i+1)) (bl.drop (i+1))=b1h 0 al bl:=by
   rw [←hv,List.take_append,htl,xE (by omega),show i+1-i=1 from by omega,wE,wH,wM];rfl
  obtain ⟨hw1,hw2,hw4,hs1⟩:Go.RowKit.wrap64 (((a.toNat:Nat):Int)+((b.toNat:Nat):Int))=((a.toNat+b.toNat:Nat):Int)∧Go.RowKit.wrap64 (((c:Nat):Int)+((a.toNat+b.toNat:Nat):Int))=((c+(a.toNat+b.toNat):Nat):Int)∧Go.RowKit.wrap64 ((((c+a.toNat+b.toNat)/256:Nat):Int))=(((c+a.toNat+b.toNat)/256:Nat):Int)∧Go.RowKit.wrap64 (((i:Nat):Int)+1)=((i+1:Nat):Int):=⟨Gy (by omega) (by omega),Gy (by omega) (by omega),Gy rfl (by omega),Gy (by omega) (by omega)⟩
  have F0:=yA hcq<|yA hc0<|yA hk2<|yA hq<|yA lal<|yA lbl<|yA ha<|yA hb<|yA hput<|yA hmo<|yA htd<|yA hw1<|yA hw2<|yA hw4<|yA hs1<|yA xV<|F0
  have zd0:DQ 14 [49,50,51,52,53,54,55,56,57,58,59,9] [0,0,0,6,14,0,0,96,224,510,1023,2047] []:=⟨⟩
  refine (fun zX=>goW) ?_
  refine xhN0 ⟨(i+1,(c+a.toNat+b.toNat)/256,q.take i++x::q.drop (i+1)),hlt,n1,n2,by rw [hal,hbl];exact n3⟩ _ ?_ ?_ ?_
  ·(exact yP hlt (yQ i))
  ·(simp only [go_sem,leX,yB,yC];try simp [hal,hbl])
  (simp only [go_sem,leX,yB,yC];try simp)
 obtain rfl:i=16:=by omega
 have hcq:¬((16:Nat):Int)<16:=by omega
 have hfin:q=b1g s.acc.a s.acc.b p0 p1:=by
  rw [←hev,←hv,xY (by omega),xE (by omega)];simp [b1h]
 have F0:=yA hcq<|yA hq<|F0
 refine (fun zX=>goW) ?_
 refine zhY _ _ ?_
 simp only [go_sem,F0]
 all_goals (first|(rw [hfa,hfin];done)|(rw [hfa,hfin];rfl))
theorem v1x (r0 r1 p0 p1:UInt64) (s:PSt) (hs:s.ok) (hr0:r0&&&~~~1152921487695413247=0) (hr1:r1&&&~~~1152921487695413244=0) (h0:0<s.rest.length):
 Ct Tryz.prog 101 [.w (.agg (Cy r0 r1 p0 p1 s.acc.a s.acc.b s.acc.c (Ov s.rest) (s.rest.length:Nat)))] (fun v m=>v=.tup [.agg (Az (b1g (r0l r0 r1 s).a (r0l r0 r1 s).b p0 p1)),.one (.pl (.i 0))]):=by
 have h15:=hs.1
 have hpl:=Hq (r:=s.rest) (by omega)
 have hpt:=Yw s.rest
 have hpz:=c0k (r:=s.rest) (by omega)
 have he:=e0u (i1i hs hr0 hr1)
 have hr:=i1p hr1
 have ha4:s.acc.c.toNat<4:=by
  have hv:=hs.2
  simp only [Nj,pP] at hv
  have:=s.acc.a.toNat_lt;have:=s.acc.b.toNat_lt
  omega
 have hc1:(0:Int)≤((s.rest.length:Nat):Int):=by omega
 have hc2:((s.rest.length:Nat):Int)≤16:=by omega
 have hle:s.rest.length≤16:=by omega
 have hfa:r0l r0 r1 s=h0u r0 r1 s.acc s.rest:=if_neg (by omega)
 have hn0:(0:Int)<((s.rest.length:Nat):Int):=by omega
 have F0:=yA Cy.eq_1<|yA hpl<|yA hpt<|yA he<|yA hn0<|yA hc1<|yA hc2<|yA hle<|yA @Ay<|yA @xJ<|@xV
 refine Ct.go Tryz.func101 rfl Tryz.ntmps101 Tryz.results101 fun w0 ro zZ zhY=>?_
 have cq:=yA (Ct.cv (l0i r0 r1 p0 p1 s.acc.a s.acc.b s.acc.c (Ov s.rest) hpl (s.rest.length:Nat)))<|yA (Ct.cv (g1b r0 r1 p0 p1 s.acc.a s.acc.b s.acc.c (Ov s.rest) hpl (s.rest.length:Nat) ha4 s.rest (by omega)))<|trivial
 have zd0:DQ 6 [22,23,24,25,26,27] [0,0,2,6,14,31,63] []:=⟨⟩
 have zS:ZS 8:=⟨⟩
 refine (fun zX=>goW) ?_
 refine ⟨?_⟩;clear zS
 iterate 8 first
  |refine zhK _ _ trivial ?_
  |(refine w0i (id:=8) [28,29,30,31,32,33,34,35,36,7] [0,1,3,7,0,16,48,127,255,511] [] mixed (by kernel_rfl) (by simp only [go_sem]) fun zK zhK=>?_;simp only [go_sem,F0];(repeat' (first|apply yA|intro _)))
  |(refine w0i (id:=9) [37,38,39,40,41,42,43,44,45,8] [0,1,3,7,0,16,48,127,255,511] [] mixed (by kernel_rfl) (by simp only [go_sem]) fun zK zhK=>?_;simp only [go_sem,F0];(repeat' (first|apply yA|intro _)))
  |((all_goals refine Ck (fun k=>k) _ [] (fun _ _=>rfl) (by first|rfl|(simp only [go_sem,F0]<;>rfl)) ((j1l _ 8 (by decide)).plain fun _ _ h=>h) ?_ ?_);(all_goals try (refine yA ?_ (yA ?_ (yA ?_ ?_))<;>first|rfl|simp only [go_sem]));(all_goals simp only [go_sem,F0]);(all_goals repeat' (first|apply yA|intro _)))
 refine (fun zX=>goW) ?_
 refine Bv [0,1,4,5,11,12,13,14,15,16,17,18,19,20,21,22,23,24,25,26,27,28,29,30,31,32,33,34,35,36,37,38,39,40,41,42,43,44,45] ?_
 simp only [Bj,Cx,Bq,yI,yK,Nat.reduceBEq,beq_self_eq_true,yS,yV,yY,yT,yE,reduceIte]
 refine Gx (fun y=>[(46,.w (.one (.pl (.i ((y.1.1:Nat):Int))))),(9,.w (.one (.pl (.i ((y.1.2.1:Nat):Int)))))]) (fun y=>[(6,⟨false,Az y.1.2.2⟩)]) (fun y=>16-y.1.1) (⟨(0,0,List.replicate 16 0),xA _,xA _,by simp,rfl⟩:{y:Nat×Nat×List UInt8//y.1≤16∧y.2.1≤1∧y.2.2.length=16∧y.2.2.take y.1++b1h y.2.1 ((Mq (sp0 (Qy s.acc.a s.acc.b s.acc.c r0 r1 s.rest)) 8++Mq (sp1 (Qy s.acc.a s.acc.b s.acc.c r0 r1 s.rest)) 8).drop y.1) ((Mq p0 8++Mq p1 8).drop y.1)=b1h 0 (Mq (sp0 (Qy s.acc.a s.acc.b s.acc.c r0 r1 s.rest)) 8++Mq (sp1 (Qy s.acc.a s.acc.b s.acc.c r0 r1 s.rest)) 8) (Mq p0 8++Mq p1 8)}) ?_ (by (simp only [go_sem,leX,yB,yC];try simp)) (by (simp only [go_sem,leX,yB,yC];try simp))
 intro yy xN0 xM0 xhN0 xhM0
 simp only [yB,yC]
 obtain ⟨⟨i,c,q⟩,hi,hc,hq,hv⟩:=yy
 simp only at hi hc hq hv
 have hev:=r1k (sp0 (Qy s.acc.a s.acc.b s.acc.c r0 r1 s.rest)) (sp1 (Qy s.acc.a s.acc.b s.acc.c r0 r1 s.rest)) p0 p1
 obtain ⟨al,hal⟩: ∃ al,Mq (sp0 (Qy s.acc.a s.acc.b s.acc.c r0 r1 s.rest)) 8++Mq (sp1 (Qy s.acc.a s.acc.b s.acc.c r0 r1 s.rest)) 8=al:=⟨_,rfl⟩
 obtain ⟨bl,hbl⟩: ∃ bl,Mq p0 8++Mq p1 8=bl:=⟨_,rfl⟩
 have lal:al.length=16:=by rw [←hal];simp [Ay]
 have lbl:bl.length=16:=by rw [←hbl];simp [Ay]
 rw [hal,hbl] at hv hev
 simp only [hal,hbl]
 rcases yZ i 16 with hlt|hge
 ·obtain ⟨a,ha⟩: ∃ a,al.getD i 0=a:=⟨_,rfl⟩
  obtain ⟨b,hb⟩: ∃ b,bl.getD i 0=b:=⟨_,rfl⟩
  have hda:=drop_cons (l:=al) (j:=i) (by omega)
  have hdb:=drop_cons (l:=bl) (j:=i) (by omega)
  rw [ha] at hda
  rw [hb] at hdb
  rw [hda,hdb,b1h] at hv
  have a1:=a.toNat_lt
  have b1:=b.toNat_lt
  obtain ⟨x,hx⟩: ∃ x,UInt8.ofNat (c+a.toNat+b.toNat)=x:=⟨_,rfl⟩
  rw [hx] at hv
  have hcq:((i:Nat):Int)<16:=by omega
  have hc0:(0:Int)≤((i:Nat):Int):=by omega
  have hk2:i+1≤16:=by omega
  have hput:Az (List.take i q)++[L.pl (PL.u8 x)]++Az (List.drop (i+1) q)=Az (q.take i++x::q.drop (i+1)):=by simp [Az]
  have hmo:UInt8.ofNat ((((c+(a.toNat+b.toNat):Nat):Int)%256).toNat)=x:=by
   rw [←hx,show (((c+(a.toNat+b.toNat):Nat):Int)%256).toNat=(c+(a.toNat+b.toNat))%256 from by omega]
   apply vJ.mp
   simp only [vM];omega
  have htd:((c+(a.toNat+b.toNat):Nat):Int).tdiv 256=(((c+a.toNat+b.toNat)/256:Nat):Int):=by
   rw [show ((c+(a.toNat+b.toNat):Nat):Int).tdiv 256=(((c+(a.toNat+b.toNat))/256:Nat):Int) from rfl,Nat.add_assoc]
  have n1:(c+a.toNat+b.toNat)/256≤1:=by omega
  have n2:(q.take i++x::q.drop (i+1)).length=16:=by rw [yG,xD,yH,yU];omega
  have htl:(q.take i).length=i:=by rw [yH];omega
  have n3:(q.take i++x::q.drop (i+1)).take (i+1)++b1h ((c+a.toNat+b.toNat)/256) (al.drop (i+1)) (bl.drop (i+1))=b1h 0 al bl:=by
   rw [←hv,List.take_append,htl,xE (by omega),show i+1-i=1 from by omega,wE,wH,wM];rfl
  obtain ⟨hw1,hw2,hw4,hs1⟩:Go.RowKit.wrap64 (((a.toNat:Nat):Int)+((b.toNat:Nat):Int))=((a.toNat+b.toNat:Nat):Int)∧Go.RowKit.wrap64 (((c:Nat):Int)+((a.toNat+b.toNat:Nat):Int))=((c+(a.toNat+b.toNat):Nat):Int)∧Go.RowKit.wrap64 ((((c+a.toNat+b.toNat)/256:Nat):Int))=(((c+a.toNat+b.toNat)/256:Nat):Int)∧Go.RowKit.wrap64 (((i:Nat):Int)+1)=((i+1:Nat):Int):=⟨Gy (by omega) (by omega),Gy (by omega) (by omega),Gy rfl (by omega),Gy (by omega) (by omega)⟩
  have F0:=yA hcq<|yA hc0<|yA hk2<|yA hq<|yA lal<|yA lbl<|yA ha<|yA hb<|yA hput<|yA hmo<|yA htd<|yA hw1<|yA hw2<|yA hw4<|yA hs1<|yA xV<|F0
  have zd0:DQ 14 [49,50,51,52,53,54,55,56,57,58,59,9] [0,0,0,6,14,0,0,96,224,510,1023,2047] []:=⟨⟩
  refine (fun zX=>goW) ?_
  refine xhN0 ⟨(i+1,(c+a.toNat+b.toNat)/256,q.take i++x::q.drop (i+1)),hlt,n1,n2,by rw [hal,hbl];exact n3⟩ _ ?_ ?_ ?_
  ·(exact yP hlt (yQ i))
  ·(simp only [go_sem,leX,yB,yC];try simp [hal,hbl])
  (simp only [go_sem,leX,yB,yC];try simp)
 obtain rfl:i=16:=by omega
 have hcq:¬((16:Nat):Int)<16:=by omega
 have hfin:q=b1g (sp0 (Qy s.acc.a s.acc.b s.acc.c r0 r1 s.rest)) (sp1 (Qy s.acc.a s.acc.b s.acc.c r0 r1 s.rest)) p0 p1:=by
  rw [←hev,←hv,xY (by omega),xE (by omega)];simp [b1h]
 have F0:=yA hcq<|yA hq<|F0
 refine (fun zX=>goW) ?_
 refine zhY _ _ ?_
 simp only [go_sem,F0]
 all_goals (first|(rw [hfa,hfin];done)|(rw [hfa,hfin];rfl))
end Go.Sy
namespace Go.Sy
open Go.Proofs
attribute [local irreducible] Bw HT Aj Jk onC onE onO onG goV goA goS Lx Bz
theorem e2c (r0 r1 p0 p1:UInt64) (s:PSt) (hs:s.ok) (hr0:r0&&&~~~1152921487695413247=0) (hr1:r1&&&~~~1152921487695413244=0):Ct Tryz.prog 90 [.w (.agg (Cy r0 r1 p0 p1 s.acc.a s.acc.b s.acc.c (Ov s.rest) (s.rest.length:Nat)))] (fun v m=>v=.tup [.agg (Az (b1g (r0l r0 r1 s).a (r0l r0 r1 s).b p0 p1)),.one (.pl (.i 0))]):=by
 rcases Nat.eq_zero_or_pos s.rest.length with h0|h0
 ·exact l2w r0 r1 p0 p1 s hs hr0 hr1 h0
 exact l2x r0 r1 p0 p1 s hs hr0 hr1 h0
theorem o1h (r0 r1 p0 p1:UInt64) (s:PSt) (hs:s.ok) (hr0:r0&&&~~~1152921487695413247=0) (hr1:r1&&&~~~1152921487695413244=0):Ct Tryz.prog 101 [.w (.agg (Cy r0 r1 p0 p1 s.acc.a s.acc.b s.acc.c (Ov s.rest) (s.rest.length:Nat)))] (fun v m=>v=.tup [.agg (Az (b1g (r0l r0 r1 s).a (r0l r0 r1 s).b p0 p1)),.one (.pl (.i 0))]):=by
 rcases Nat.eq_zero_or_pos s.rest.length with h0|h0
 ·exact v1w r0 r1 p0 p1 s hs hr0 hr1 h0
 exact v1x r0 r1 p0 p1 s hs hr0 hr1 h0
end Go.Sy
namespace Go.Sy
open Go.Proofs
attribute [local irreducible] Bw HT Aj Jk onC onE onO onG goV goA goS Lx Bz
def tagV (key b:List UInt8):List UInt8:=
 b1g (r0l (lev (key.take 8)&&&1152921487695413247) (lev ((key.drop 8).take 8)&&&1152921487695413244) (Iy (lev (key.take 8)&&&1152921487695413247) (lev ((key.drop 8).take 8)&&&1152921487695413244) ⟨⟨0,0,0⟩,[]⟩ b)).a
  (r0l (lev (key.take 8)&&&1152921487695413247) (lev ((key.drop 8).take 8)&&&1152921487695413244) (Iy (lev (key.take 8)&&&1152921487695413247) (lev ((key.drop 8).take 8)&&&1152921487695413244) ⟨⟨0,0,0⟩,[]⟩ b)).b
  (lev ((key.drop 16).take 8)) (lev ((key.drop 24).take 8))
theorem b1k (key b:List UInt8):(tagV key b).length=16:=i0j _ _ _ _
theorem w0f (x m:UInt64):(x&&&m)&&&~~~m=0:=(Ox (x&&&m) m).mp (by rw [UInt64.and_assoc,UInt64.and_self])
theorem u1u :PSt.ok ⟨⟨0,0,0⟩,[]⟩:=⟨xA _,by decide⟩
theorem v1s (key:List UInt8) (hk:key.length=32) (b:List UInt8) (hbl:b.length≤140737488355328) (ex:Bool):
 Ct Tryz.prog 58 [.w (.agg (Az key)),.w (.one (.pl (.R ex 1 (Av b))))] (fun v m=>v=.w (.agg (Az (tagV key b)))):=by
 obtain ⟨r0,hr0⟩: ∃ r,lev (key.take 8)&&&1152921487695413247=r:=⟨_,rfl⟩
 obtain ⟨r1,hr1⟩: ∃ r,lev ((key.drop 8).take 8)&&&1152921487695413244=r:=⟨_,rfl⟩
 have ho0:r0&&&~~~1152921487695413247=0:=by rw [←hr0];exact w0f _ _
 have ho1:r1&&&~~~1152921487695413244=0:=by rw [←hr1];exact w0f _ _
 have hst:tagV key b=b1g (r0l r0 r1 (Iy r0 r1 ⟨⟨0,0,0⟩,[]⟩ b)).a (r0l r0 r1 (Iy r0 r1 ⟨⟨0,0,0⟩,[]⟩ b)).b (lev ((key.drop 16).take 8)) (lev ((key.drop 24).take 8)):=by rw [tagV,hr0,hr1]
 have hso:(Iy r0 r1 ⟨⟨0,0,0⟩,[]⟩ b).ok:=d0c u1u
 have hqq: ∀ q,Iy r0 r1 ⟨⟨0,0,0⟩,[]⟩ b=q→(Ov q.rest).length=16:=fun q h=>Hq (by rw [←h];have:=hso.1;omega)
 obtain ⟨⟨⟨qa,qb,qc⟩,q⟩,hq⟩: ∃ q,Iy r0 r1 ⟨⟨0,0,0⟩,[]⟩ b=q:=⟨_,rfl⟩
 have hpq:=hqq _ hq
 simp only at hpq
 rw [hq] at hso hst
 have F0:=yA i2n.eq_1<|yA Cy.eq_1<|yA stC.eq_1<|yA hk<|yA hr0<|yA hr1<|yA hq<|yA hpq<|@i0j
 refine Ct.go Tryz.func58 rfl Tryz.ntmps58 Tryz.results58 fun w0 ro zZ zhY=>?_
 have cq:=yA (Ct.cv (j1b key hk))<|yA (fun x=>Ct.cv (e2f r0 r1 (lev ((key.drop 16).take 8)) (lev ((key.drop 24).take 8)) ⟨⟨0,0,0⟩,[]⟩ u1u ho0 ho1 b hbl x))<|yA (Ct.cv (e2c r0 r1 (lev ((key.drop 16).take 8)) (lev ((key.drop 24).take 8)) ⟨⟨qa,qb,qc⟩,q⟩ hso ho0 ho1))<|trivial
 refine (fun zX=>goW) ?_
 refine zhY _ _ ?_
 simp only [go_sem,F0]
 all_goals (rw [hst])
theorem y0m (key:List UInt8) (hk:key.length=32) (b:List UInt8) (hbl:b.length≤140737488355328):
 Ct Tryz.prog 70 [.w (.agg (Az key)),.w (.one (.pl (.str b)))] (fun v m=>v=.w (.agg (Az (tagV key b)))):=by
 obtain ⟨r0,hr0⟩: ∃ r,lev (key.take 8)&&&1152921487695413247=r:=⟨_,rfl⟩
 obtain ⟨r1,hr1⟩: ∃ r,lev ((key.drop 8).take 8)&&&1152921487695413244=r:=⟨_,rfl⟩
 have ho0:r0&&&~~~1152921487695413247=0:=by rw [←hr0];exact w0f _ _
 have ho1:r1&&&~~~1152921487695413244=0:=by rw [←hr1];exact w0f _ _
 have hst:tagV key b=b1g (r0l r0 r1 (Iy r0 r1 ⟨⟨0,0,0⟩,[]⟩ b)).a (r0l r0 r1 (Iy r0 r1 ⟨⟨0,0,0⟩,[]⟩ b)).b (lev ((key.drop 16).take 8)) (lev ((key.drop 24).take 8)):=by rw [tagV,hr0,hr1]
 have hso:(Iy r0 r1 ⟨⟨0,0,0⟩,[]⟩ b).ok:=d0c u1u
 have hqq: ∀ q,Iy r0 r1 ⟨⟨0,0,0⟩,[]⟩ b=q→(Ov q.rest).length=16:=fun q h=>Hq (by rw [←h];have:=hso.1;omega)
 obtain ⟨⟨⟨qa,qb,qc⟩,q⟩,hq⟩: ∃ q,Iy r0 r1 ⟨⟨0,0,0⟩,[]⟩ b=q:=⟨_,rfl⟩
 have hpq:=hqq _ hq
 simp only at hpq
 rw [hq] at hso hst
 have hcb:b.length≤140737488355328:=hbl
 have F0:=yA i2n.eq_1<|yA Cy.eq_1<|yA stC.eq_1<|yA hk<|yA hr0<|yA hr1<|yA hq<|yA hpq<|yA @i0j<|hcb
 refine Ct.go Tryz.func70 rfl Tryz.ntmps70 Tryz.results70 fun w0 ro zZ zhY=>?_
 have cq:=yA (Ct.cv (s0r key hk))<|yA (fun x=>Ct.cv (d2u r0 r1 (lev ((key.drop 16).take 8)) (lev ((key.drop 24).take 8)) ⟨⟨0,0,0⟩,[]⟩ u1u ho0 ho1 b hbl x))<|yA (Ct.cv (o1h r0 r1 (lev ((key.drop 16).take 8)) (lev ((key.drop 24).take 8)) ⟨⟨qa,qb,qc⟩,q⟩ hso ho0 ho1))<|trivial
 refine (fun zX=>goW) ?_
 refine zhY _ _ ?_
 simp only [go_sem,F0]
 all_goals (rw [hst])
end Go.Sy
namespace Go.Sy
open Go.Proofs
attribute [local irreducible] Bw HT Aj Jk onC onE onO onG goV goA goS Lx Bz
def t1n (key nonce ad text:List UInt8):List UInt8:=tagV ((a0c (e0e key 0 nonce)).take 32) (Yz ad++Yz text++Kw ad.length++Kw text.length)
theorem d0f (key nonce ad text:List UInt8):(t1n key nonce ad text).length=16:=b1k _ _
theorem z0x : ∀ n:Fin 1000,Mq (UInt64.ofNat n.val) 8=Kw n.val:=by decide+kernel
theorem t1g {ad text:List UInt8} (h1:ad.length≤200) (h2:text.length≤800):(Yz ad++Yz text++Kw ad.length++Kw text.length).length≤140737488355328:=by
 simp only [yG,Yz,vI,e0f,Kw,xD,xW];omega
theorem tag_ (key nonce ad text:List UInt8) (hk:key.length=32) (hn:nonce.length=12) (h1:ad.length≤200) (h2:text.length≤800) (ex1 ex2:Bool):CtM Tryz.prog 34 [.w (.agg (Az key)),.w (.agg (Az nonce)),.w (.one (.pl (.R ex1 1 (Av ad)))),.w (.one (.pl (.R ex2 1 (Av text))))] [] (fun v m=>v=.w (.agg (Az (t1n key nonce ad text)))∧m=[]):=by
 have h64:(a0c (e0e key 0 nonce)).length=64:=a0p _
 have hB:=block_ key hk 0 nonce hn
 have hT:=v1s ((a0c (e0e key 0 nonce)).take 32) (by rw [yH];omega) (Yz ad++Yz text++Kw ad.length++Kw text.length) (t1g h1 h2) false
 have ht:=d0f key nonce ad text
 by_cases p1:e0f ad=0
 ·by_cases p2:e0f text=0
  ·by_cases q2:text.length=0
   ·exact (k2h key nonce ad text _ hk hn h64 h1 h2 ex1 ex2 _ ht p1 p2 q2 hB hT).told
   exact (k2i key nonce ad text _ hk hn h64 h1 h2 ex1 ex2 _ ht p1 p2 q2 hB hT).told
  exact (k2g key nonce ad text _ hk hn h64 h1 h2 ex1 ex2 _ ht p1 p2 hB hT).told
 by_cases p2:e0f text=0
 ·exact (k2f key nonce ad text _ hk hn h64 h1 h2 ex1 ex2 _ ht p1 p2 hB hT).told
 exact (k2e key nonce ad text _ hk hn h64 h1 h2 ex1 ex2 _ ht p1 p2 hB hT).told
theorem k2d (key nonce ad text:List UInt8) (hk:key.length=32) (hn:nonce.length=12) (h1:ad.length≤200) (h2:text.length≤800):
 Ct Tryz.prog 41 [.w (.agg (Az key)),.w (.agg (Az nonce)),.w (.one (.pl (.str ad))),.w (.one (.pl (.str text)))] (fun v m=>v=.w (.one (.pl (.str (t1n key nonce ad text))))):=by
 have h64:(a0c (e0e key 0 nonce)).length=64:=a0p _
 have hB:=h1o key hk 0 nonce hn
 have hT:=y0m ((a0c (e0e key 0 nonce)).take 32) (by rw [yH];omega) (Yz ad++Yz text++Kw ad.length++Kw text.length) (t1g h1 h2)
 have ht:=d0f key nonce ad text
 have hF1:=o2e ad (by omega)
 have hF2:=o2e text (by omega)
 have hL1:=j1l (UInt64.ofNat ad.length) 8 (by omega)
 have hL2:=j1l (UInt64.ofNat text.length) 8 (by omega)
 rw [z0x ⟨ad.length,by omega⟩] at hL1
 rw [z0x ⟨text.length,by omega⟩] at hL2
 have hu1:UInt64.ofNat (((ad.length:Nat):Int)%18446744073709551616).toNat=UInt64.ofNat ad.length:=by rw [show (((ad.length:Nat):Int)%18446744073709551616).toNat=ad.length from by omega]
 have hu2:UInt64.ofNat (((text.length:Nat):Int)%18446744073709551616).toNat=UInt64.ofNat text.length:=by rw [show (((text.length:Nat):Int)%18446744073709551616).toNat=text.length from by omega]
 have hts:tagV ((a0c (e0e key 0 nonce)).take 32) (Yz ad++Yz text++Kw ad.length++Kw text.length)=t1n key nonce ad text:=rfl
 rw [hts] at hT
 obtain ⟨tg,htg⟩: ∃ q,t1n key nonce ad text=q:=⟨_,rfl⟩
 rw [htg] at hT ht
 obtain ⟨once,hoo⟩: ∃ q,a0c (e0e key 0 nonce)=q:=⟨_,rfl⟩
 rw [hoo] at hB hT h64
 obtain ⟨o32,ho⟩: ∃ q,once.take 32=q:=⟨_,rfl⟩
 have hol:o32.length=32:=by rw [←ho,yH];omega
 rw [ho] at hT
 obtain ⟨e,he⟩: ∃ q,Kw ad.length=q:=⟨_,rfl⟩
 have hel:e.length=8:=by rw [←he];rfl
 obtain ⟨f,hf⟩: ∃ q,Kw text.length=q:=⟨_,rfl⟩
 have hfl:f.length=8:=by rw [←hf];rfl
 rw [he] at hL1 hT
 rw [hf] at hL2 hT
 obtain ⟨pa,hpa⟩: ∃ q,Yz ad=q:=⟨_,rfl⟩
 have hpl:pa.length≤300:=by rw [←hpa];simp [Yz];unfold e0f;omega
 obtain ⟨pb,hpb⟩: ∃ q,Yz text=q:=⟨_,rfl⟩
 have hbl:pb.length≤900:=by rw [←hpb];simp [Yz];unfold e0f;omega
 rw [hpa] at hF1 hT
 rw [hpb] at hF2 hT
 have hq1:pa.length+pb.length≤9223372036854775807:=by omega
 have hq2:pa.length+pb.length+8≤9223372036854775807:=by omega
 have hq3:pa.length+pb.length+8+8≤9223372036854775807:=by omega
 have hm0:min 32 32=32:=rfl
 have htk:List.take 32 o32=o32:=xE (by omega)
 have hm1:min 64 32=32:=rfl
 have hm2:min 32 64=32:=rfl
 have hdr:List.drop 32 (List.replicate 32 (0:UInt8))=[]:=rfl
 have F0:=yA hk<|yA hn<|yA h64<|yA ht<|yA hu1<|yA hu2<|yA ho<|yA hol<|yA hel<|yA hfl<|yA hq1<|yA hq2<|yA hq3<|yA hm0<|yA htk<|yA hm1<|yA hm2<|hdr
 refine Ct.go Tryz.func41 rfl Tryz.ntmps41 Tryz.results41 fun w0 ro zZ zhY=>?_
 have cq:=yA ((hB.plain fun _ _ h=>h))<|trivial
 refine (fun zX=>goW) ?_
 refine Sk (id:=3) [15,16,17] [0,0,3] [] mixed (by kernel_rfl) (by simp only [go_sem]) fun zK zhK=>?_
 simp only [go_sem,F0]
 repeat' (first|apply yA|intro _)
 refine zhK _ _ trivial ?_
 have cq:=yA ((hF1.plain fun _ _ h=>h))<|yA ((hF2.plain fun _ _ h=>h))<|yA ((hL1.plain fun _ _ h=>h))<|yA ((hL2.plain fun _ _ h=>h))<|yA ((hT.plain fun _ _ h=>h))<|trivial
 have zr0:DS 4:=⟨⟩
 have zq:DP 0 18 [18,19,20,21,22,23,24,25,26,27,28,29,30,31,32,33,34,11] [0,0,2,0,14,30,0,64,192,478,1022,0,2048,6144,15326,32766,65535,0,262143] []∧DN 1 19∧True:=⟨⟨⟩,⟨⟩,trivial⟩
 refine (fun zX=>goW) ?_
 refine zhY _ _ ?_
 simp only [go_sem,F0]
 all_goals (rw [htg])
end Go.Sy
namespace Go.Sy
open Go.Proofs
attribute [local irreducible] Bw HT Aj Jk onC onE onO onG goV goA goS Lx Bz
def slV (key nonce ad text:List UInt8):List UInt8:=u0d key 1 nonce text++t1n key nonce ad (u0d key 1 nonce text)
theorem d0g (key:List UInt8) (c:UInt32) (nonce b:List UInt8):(u0d key c nonce b).length=b.length:=Pj _ _ _
theorem ho1 {n:Nat} (h:n≤1600):¬64*(4294967296-(1:UInt32).toNat)<n:=by rw [show (1:UInt32).toNat=1 from rfl];omega
theorem k2v (key nonce ad text:List UInt8) (hk:key.length=32) (hn:nonce.length=12) (ex1 ex2:Bool) (h1:ad.length≤200) (h2:800<text.length):
 CtM Tryz.prog 15 [.w (.agg (Az key)),.w (.agg (Az nonce)),.w (.one (.pl (.R ex1 1 (Av ad)))),.w (.one (.pl (.R ex2 1 (Av text))))] [] (Told (byV [] 1)):=by
 have g1:¬(200:Int)<((ad.length:Nat):Int):=by omega
 have g2:(800:Int)<((text.length:Nat):Int):=by omega
 have F0:=yA hk<|yA hn<|yA g1<|g2
 refine CtM.go Tryz.func15 rfl Tryz.ntmps15 Tryz.results15 fun w0 ro may fx zZ zhY=>?_
 refine (fun zX=>goW) ?_
 refine zhY _ _ ?_
 simp only [go_sem,F0]
 all_goals (exact b2l)
theorem u1q (key nonce ad text:List UInt8) (hk:key.length=32) (hn:nonce.length=12) (ex1 ex2:Bool) (h1:ad.length≤200) (h2:text.length≤800):
 CtM Tryz.prog 15 [.w (.agg (Az key)),.w (.agg (Az nonce)),.w (.one (.pl (.R ex1 1 (Av ad)))),.w (.one (.pl (.R ex2 1 (Av text))))] [] (Told (byO (slV key nonce ad text) 0)):=by
 have g1:¬(200:Int)<((ad.length:Nat):Int):=by omega
 have g2:¬(800:Int)<((text.length:Nat):Int):=by omega
 have ht:=d0f key nonce ad (u0d key 1 nonce text)
 have hcl:=d0g key 1 nonce text
 have hT:=tag_ key nonce ad (u0d key 1 nonce text) hk hn h1 (by rw [d0g];exact h2) ex1 false
 have hS:=(u1g key hk 1 nonce hn text ex2 (by omega) (ho1 (by omega))).told
 have hfin:slV key nonce ad text=u0d key 1 nonce text++t1n key nonce ad (u0d key 1 nonce text):=rfl
 obtain ⟨c,hc⟩: ∃ q,u0d key 1 nonce text=q:=⟨_,rfl⟩
 rw [hc] at ht hcl hT hS hfin
 obtain ⟨tg,htg⟩: ∃ q,t1n key nonce ad c=q:=⟨_,rfl⟩
 rw [htg] at ht hT hfin
 have hch:chunks 1 text.length (c.map PL.u8)=Av c:=Gj hcl
 have hq:text.length+16≤140737488355328:=by omega
 have hq2:text.length+16≤9223372036854775807:=by omega
 have htk:List.take 16 tg=tg:=xE (by omega)
 have F0:=yA hk<|yA hn<|yA g1<|yA g2<|yA hcl<|yA ht<|yA hch<|yA hq<|yA hq2<|yA htk<|@xJ
 refine CtM.go Tryz.func15 rfl Tryz.ntmps15 Tryz.results15 fun w0 ro may fx zZ zhY=>?_
 have zS:ZS 3:=⟨⟩
 refine (fun zX=>goW) ?_
 refine ⟨?_⟩;clear zS
 refine Lj fun zK zhK=>?_
 simp only [go_sem,F0]
 repeat' (first|apply yA|intro _)
 all_goals (refine Kz false [] (fun _=>25) (fun _ _=>rfl) ?_ (by decide) ?_ hS.hands ?_;iterate 2 (focus (first|rfl|(simp only [go_sem,F0]<;>first|done|rfl|simp))))
 all_goals (rintro v m ⟨hR,hm⟩;subst hR;subst hm)
 all_goals (refine yA ?_ (yA ?_ (yA ?_ ?_));iterate 3 (focus (first|rfl|(simp only [go_sem,F0];done)|(simp [go_sem,look,F0];done))))
 all_goals (try simp only [go_sem,F0])
 all_goals (try simp only [go_sem,F0])
 all_goals repeat' (first|apply yA|intro _)
 refine zhK _ ?_
 have cq:=yA (CtM.ch [] (hT) (vw:=true))<|trivial
 refine (fun zX=>goW) ?_
 refine zhY _ _ ?_
 simp only [go_sem,F0]
 all_goals (rw [hfin];exact v0y (by simp [ht,hcl]) (by simp [look]))
theorem n1h (key nonce ad text:List UInt8) (hk:key.length=32) (hn:nonce.length=12) (ex1 ex2:Bool) (h1:ad.length≤200) (h2:text.length≤800):
 CtM Tryz.prog 21 [.w (.agg (Az key)),.w (.agg (Az nonce)),.w (.one (.pl (.R ex1 1 (Av ad)))),.w (.one (.pl (.R ex2 1 (Av text))))] [] (Told (byO (slV key nonce ad text) 0)):=by
 have g1:¬(200:Int)<((ad.length:Nat):Int):=by omega
 have g2:¬(800:Int)<((text.length:Nat):Int):=by omega
 have ht:=d0f key nonce ad (u0d key 1 nonce text)
 have hcl:=d0g key 1 nonce text
 have hT:=k2d key nonce ad (u0d key 1 nonce text) hk hn h1 (by rw [d0g];exact h2)
 have hS:=(c2q key hk 1 nonce hn text ex2 (by omega) (ho1 (by omega))).told
 have hfin:slV key nonce ad text=u0d key 1 nonce text++t1n key nonce ad (u0d key 1 nonce text):=rfl
 obtain ⟨c,hc⟩: ∃ q,u0d key 1 nonce text=q:=⟨_,rfl⟩
 rw [hc] at ht hcl hT hS hfin
 obtain ⟨tg,htg⟩: ∃ q,t1n key nonce ad c=q:=⟨_,rfl⟩
 rw [htg] at ht hT hfin
 have hch:chunks 1 text.length (c.map PL.u8)=Av c:=Gj hcl
 have hq:text.length+16≤140737488355328:=by omega
 have hq2:text.length+16≤9223372036854775807:=by omega
 have htk:List.take 16 tg=tg:=xE (by omega)
 have F0:=yA hk<|yA hn<|yA g1<|yA g2<|yA hcl<|yA ht<|yA hch<|yA hq<|yA hq2<|yA htk<|@xJ
 refine CtM.go Tryz.func21 rfl Tryz.ntmps21 Tryz.results21 fun w0 ro may fx zZ zhY=>?_
 have cq:=yA (CtM.ch [] (hS.hands))<|yA ((hT.plain fun _ _ h=>h))<|trivial
 have zr0:DS 4:=⟨⟩
 have zq:DP 0 9 [27,28,29,30,31,32,33,34,35] [0,1,0,0,0,16,0,64,252,511,1023,2047,4095] []∧DN 4 13∧True:=⟨⟨⟩,⟨⟩,trivial⟩
 refine (fun zX=>goW) ?_
 refine zhY _ _ ?_
 simp only [go_sem,F0]
 all_goals (rw [hfin];exact v0y (by simp [ht,hcl]) (by simp [look]))
theorem c2y (key nonce ad text:List UInt8) (hk:key.length=32) (hn:nonce.length=12) (ex1 ex2:Bool) (h1:ad.length≤200) (h2:text.length≤800):CtM Tryz.prog 15 [.w (.agg (Az key)),.w (.agg (Az nonce)),.w (.one (.pl (.R ex1 1 (Av ad)))),.w (.one (.pl (.R ex2 1 (Av text))))] [] (Told (byV (slV key nonce ad text) 0)):=
 (u1q key nonce ad text hk hn ex1 ex2 h1 h2).told.mono fun v m ⟨hv,hm⟩=>by subst hv;subst hm;exact r1y (b:=true) rfl rfl
end Go.Sy
