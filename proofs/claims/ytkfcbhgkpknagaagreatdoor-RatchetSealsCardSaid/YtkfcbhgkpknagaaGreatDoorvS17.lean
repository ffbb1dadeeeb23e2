/- Walks and what they compute. CONDITIONS: those that each theorem names. -/
import Derived.Test.YtkfcbhgkpknagaaGreatDoorvS15
import Derived.Test.YtkfcbhgkpknagaaGreatDoorvS2
import Derived.Test.YtkfcbhgkpknagaaGreatDoorvE3
import Derived.Test.YtkfcbhgkpknagaaGreatDoorvS16
set_option linter.unusedVariables false
set_option linter.unusedSimpArgs false
set_option maxHeartbeats 3200000
set_option maxRecDepth 100000
namespace Go.Sy
theorem a0r : ∀ (a b:List UInt8),leN (a++b)=leN a+256 ^ a.length*leN b
 | [],b=>by simp [leN]
 |x::a,b=>by
   simp only [yB,leN,a0r a b,xD,vK,vZ]
   rw [vF (256 ^ a.length) 256,vN];omega
theorem j0o (n:Nat):leN (List.replicate n 0)=0:=by
 induction n with
 |zero=>rfl
 |succ n ih=>simp [wT,leN,ih]
theorem j0p (l:List UInt8) (k:Nat) (hk:k≤l.length):leN l=leN (l.take k)+256 ^ k*leN (l.drop k):=by
 have:=a0r (l.take k) (l.drop k)
 rw [wS,yH,vD hk] at this
 exact this
theorem v1t {b:List UInt8} (h:b.length=24):Nj (lev (b.take 8)) (lev ((b.drop 8).take 8)) (lev ((b.drop 16).take 8))=leN b:=by
 have e1:=j0p b 8 (by omega)
 have e2:=j0p (b.drop 8) 8 (by rw [yU];omega)
 rw [wO] at e2
 have e3:(b.drop 16).take 8=b.drop 16:=xE (by rw [yU];omega)
 have l1:(lev (b.take 8)).toNat=leN (b.take 8):=Sq (by rw [yH];omega)
 have l2:(lev ((b.drop 8).take 8)).toNat=leN ((b.drop 8).take 8):=Sq (by rw [yH];omega)
 have l3:(lev ((b.drop 16).take 8)).toNat=leN ((b.drop 16).take 8):=Sq (by rw [yH];omega)
 simp only [Nj,l1,l2,l3]
 rw [e3,e1,e2]
 have p8:256 ^ 8=18446744073709551616:=rfl
 rw [p8,vZ,←vN]
 show _=leN (b.take 8)+(18446744073709551616*leN ((b.drop 8).take 8)+18446744073709551616*18446744073709551616*leN (b.drop 16))
 omega
def Qy (a0 a1 a2 r0 r1:UInt64) (l:List UInt8):Nat:=(Nj a0 a1 a2+(leN l+256 ^ l.length))*(r0.toNat+r1.toNat*18446744073709551616)%pP
theorem u1n (a0 a1 a2 r0 r1:UInt64) (l:List UInt8):Qy a0 a1 a2 r0 r1 l<pP:=wP _ (by decide)
theorem a1o {l:List UInt8} (h:l.length≤16):leN l+256 ^ l.length<680564733841876926926749214863536422912:=by
 have h1:=t0b l
 have h2:256 ^ l.length≤256 ^ 16:=uL (by decide) h
 have:256 ^ 16=340282366920938463463374607431768211456:=rfl
 omega
section
variable {a0 a1 a2 r0 r1 x y z:UInt64} {l:List UInt8}
theorem b1l (hn:Nj x y z=leN l+256 ^ l.length) (hl:l.length≤16) (ha:Nj a0 a1 a2<pP) (hr:r1.toNat<1152921504606846976):
 (a0h (T3.plus ⟨a0,a1,a2⟩ ⟨x,y,z⟩) r0 r1).a=sp0 (Qy a0 a1 a2 r0 r1 l)∧(a0h (T3.plus ⟨a0,a1,a2⟩ ⟨x,y,z⟩) r0 r1).b=sp1 (Qy a0 a1 a2 r0 r1 l)∧(a0h (T3.plus ⟨a0,a1,a2⟩ ⟨x,y,z⟩) r0 r1).c=sp2 (Qy a0 a1 a2 r0 r1 l):=by
 have hb:=a1o hl
 have ha2:Nj a0 a1 a2<1361129467683753853853498429727072845819:=ha
 have hp:(T3.plus ⟨a0,a1,a2⟩ ⟨x,y,z⟩).val=Nj a0 a1 a2+(leN l+256 ^ l.length):=by
  rw [Wv _ _ (by show Nj a0 a1 a2+Nj x y z<_;rw [hn];omega)]
  show Nj a0 a1 a2+Nj x y z=_
  rw [hn]
 have hv:=m1d (T3.plus ⟨a0,a1,a2⟩ ⟨x,y,z⟩) r0 r1 (by rw [hp];omega) hr
 rw [hp] at hv
 exact k2q (v:=Qy a0 a1 a2 r0 r1 l) hv
def P5.addP (p q:P5):P5:=⟨p.a+q.a,p.b+q.b,p.c+q.c,p.d+q.d,p.e+q.e⟩
theorem z1z {p q:P5} (hp:p.lt 67108864) (hq:q.lt 67108864):(p.addP q).val=p.val+q.val∧(p.addP q).lt 2305843009213693952:=by
 obtain ⟨p1,p2,p3,p4,p5⟩:=hp
 obtain ⟨q1,q2,q3,q4,q5⟩:=hq
 have e1:(p.a+q.a).toNat=p.a.toNat+q.a.toNat:=Gv (by omega)
 have e2:(p.b+q.b).toNat=p.b.toNat+q.b.toNat:=Gv (by omega)
 have e3:(p.c+q.c).toNat=p.c.toNat+q.c.toNat:=Gv (by omega)
 have e4:(p.d+q.d).toNat=p.d.toNat+q.d.toNat:=Gv (by omega)
 have e5:(p.e+q.e).toNat=p.e.toNat+q.e.toNat:=Gv (by omega)
 refine ⟨?_,?_⟩
 ·simp only [P5.addP,P5.val,e1,e2,e3,e4,e5,wN];omega
 simp only [P5.addP,P5.lt,e1,e2,e3,e4,e5];omega
theorem o1d (hn:Nj x y z=leN l+256 ^ l.length) (hl:l.length≤16) (ha:a2.toNat<4):
 P5.val (w0j ((Ey a0 a1 a2).addP (Ey x y z)).carried (Ey r0 r1 0))%pP=Qy a0 a1 a2 r0 r1 l∧(w0j ((Ey a0 a1 a2).addP (Ey x y z)).carried (Ey r0 r1 0)).lt 2305843009213693952:=by
 have hb:=a1o hl
 have hz:z.toNat<4:=by
  rw [←hn] at hb
  simp only [Nj] at hb;omega
 obtain ⟨va,la⟩:=j0d a0 a1 a2 ha
 obtain ⟨vn,ln⟩:=j0d x y z hz
 obtain ⟨vr,lr⟩:=j0d r0 r1 0 (by decide)
 obtain ⟨vs,ls⟩:=z1z la ln
 obtain ⟨vc,lc⟩:=i0o _ ls
 generalize P5.carried (P5.addP (Ey a0 a1 a2) (Ey x y z))=c at*
 generalize Ey r0 r1 0=r at*
 obtain ⟨vm,lm⟩:=x1c _ _ lc lr
 refine ⟨?_,lm⟩
 have hr:Nj r0 r1 0=r0.toNat+r1.toNat*18446744073709551616:=by unfold Nj;rw [show (0:UInt64).toNat=0 from rfl,vW,vB]
 rw [vm,vc,vs,va,vn,vr,hn,hr,Qy]
 generalize Nj a0 a1 a2+(leN l+256 ^ l.length)=u
 generalize r0.toNat+r1.toNat*18446744073709551616=w
 rw [Nat.mod_mul_mod]
theorem v1m (hn:Nj x y z=leN l+256 ^ l.length) (hl:l.length≤16) (ha:a2.toNat<4):
 ((w0j ((Ey a0 a1 a2).addP (Ey x y z)).carried (Ey r0 r1 0)).carried).w0=sp0 (Qy a0 a1 a2 r0 r1 l)∧((w0j ((Ey a0 a1 a2).addP (Ey x y z)).carried (Ey r0 r1 0)).carried).w1=sp1 (Qy a0 a1 a2 r0 r1 l)∧((w0j ((Ey a0 a1 a2).addP (Ey x y z)).carried (Ey r0 r1 0)).carried).w2=sp2 (Qy a0 a1 a2 r0 r1 l):=by
 obtain ⟨h1,h2⟩:=o1d (a0:=a0) (a1:=a1) (r0:=r0) (r1:=r1) hn hl ha
 generalize Qy a0 a1 a2 r0 r1 l=v at*
 generalize w0j ((Ey a0 a1 a2).addP (Ey x y z)).carried (Ey r0 r1 0)=m at*
 obtain ⟨vt,lt⟩:=i0o _ h2
 have hw:=w0q _ lt
 rw [vt,h1] at hw
 exact k2q hw
end
theorem x0p {held:List UInt8} {k:Nat} (hh:held.length=16) (hk:k<16) (hz: ∀ j,k≤j→j<16→held.getD j 0=0):
 (k<8→Nj (lev (held.take 8)|||Dy 1 (8*k)) (lev ((held.drop 8).take 8)) 0=leN (held.take k)+256 ^ (held.take k).length)∧
 (8≤k→Nj (lev (held.take 8)) (lev ((held.drop 8).take 8)|||Dy 1 (8*(k-8))) 0=leN (held.take k)+256 ^ (held.take k).length):=by
 have hd:held.drop k=List.replicate (16-k) 0:=by
  apply List.ext_getElem
  ·rw [yU,vI];omega
  intro i h1 h2
  rw [vI] at h2
  have:=hz (k+i) (by omega) (by omega)
  rw [List.getElem_drop,List.getElem_replicate]
  simpa [List.getD,yO (show k+i<held.length by omega)] using this
 have hlk:(held.take k).length=k:=by rw [yH];omega
 have hlt:=t0b (held.take k)
 rw [hlk] at hlt
 have l1:(lev (held.take 8)).toNat=leN (held.take 8):=Sq (by rw [yH];omega)
 have l2:(lev ((held.drop 8).take 8)).toNat=leN ((held.drop 8).take 8):=Sq (by rw [yH];omega)
 have hcat:held=held.take k++List.replicate (16-k) 0:=by rw [←hd,wS]
 have z0:(0:UInt64).toNat=0:=rfl
 have o1:(1:UInt64).toNat=1:=rfl
 rw [hlk]
 constructor
 ·intro h8
  have t8:held.take 8=held.take k++List.replicate (8-k) 0:=by
   conv=>lhs;rw [hcat]
   rw [List.take_append,hlk,xE (by omega),List.take_replicate];congr 2;omega
  have d8:(held.drop 8).take 8=List.replicate 8 0:=by
   conv=>lhs;rw [hcat]
   rw [List.drop_append,hlk,xY (by omega),List.drop_replicate,yC,List.take_replicate];congr 1;omega
  have e1:leN (held.take 8)=leN (held.take k):=by rw [t8,a0r,j0o];omega
  have e2:leN ((held.drop 8).take 8)=0:=by rw [d8,j0o]
  have hp:(256:Nat) ^ k=2 ^ (8*k):=by rw [show (256:Nat)=2 ^ 8 from rfl,←Nat.pow_mul]
  have hpl:256 ^ k≤256 ^ 7:=uL (by decide) (by omega)
  have es:(Dy 1 (8*k)).toNat=2 ^ (8*k)*1:=by
   rw [a0g,o1,←hp,yN (by omega)];omega
  have eo:=h0s (8*k) (x:=lev (held.take 8)) (by rw [l1,e1,←hp];exact hlt) es
  simp only [Nj,eo,l1,l2,e1,e2,es,z0,←hp];omega
 intro h8
 have t8:held.take 8=(held.take k).take 8:=by rw [List.take_take,vD h8]
 have d8:(held.drop 8).take 8=(held.take k).drop 8++List.replicate (16-k) 0:=by
  conv=>lhs;rw [hcat]
  rw [List.drop_append,hlk,show 8-k=0 from by omega,vR,xE]
  rw [yG,yU,hlk,vI];omega
 have e3:=j0p (held.take k) 8 (by omega)
 rw [←t8] at e3
 have e2:leN ((held.drop 8).take 8)=leN ((held.take k).drop 8):=by rw [d8,a0r,j0o];omega
 have hl2:=t0b ((held.take k).drop 8)
 rw [yU,hlk] at hl2
 have hp:(256:Nat) ^ (k-8)=2 ^ (8*(k-8)):=by rw [show (256:Nat)=2 ^ 8 from rfl,←Nat.pow_mul]
 have hpl:256 ^ (k-8)≤256 ^ 7:=uL (by decide) (by omega)
 have es:(Dy 1 (8*(k-8))).toNat=2 ^ (8*(k-8))*1:=by
  rw [a0g,o1,←hp,yN (by omega)];omega
 have eo:=h0s (8*(k-8)) (x:=lev ((held.drop 8).take 8)) (by rw [l2,e2,←hp];exact hl2) es
 have hpk:(256:Nat) ^ k=18446744073709551616*256 ^ (k-8):=by
  rw [show (18446744073709551616:Nat)=256 ^ 8 from rfl,←Nat.pow_add];congr 1;omega
 have e8:(256:Nat) ^ 8=18446744073709551616:=rfl
 rw [e8] at e3
 simp only [Nj,eo,l1,l2,e2,es,z0,←hp,hpk]
 generalize 256 ^ (k-8)=q at*
 rw [e3];omega
theorem y1i {held:List UInt8} (hh:held.length=16):Nj (lev (held.take 8)) (lev ((held.drop 8).take 8)) 1=leN held+256 ^ held.length:=by
 have e:=j0p held 8 (by omega)
 have l1:(lev (held.take 8)).toNat=leN (held.take 8):=Sq (by rw [yH];omega)
 have l2:(lev ((held.drop 8).take 8)).toNat=leN ((held.drop 8).take 8):=Sq (by rw [yH];omega)
 have t:(held.drop 8).take 8=held.drop 8:=xE (by rw [yU];omega)
 have o1:(1:UInt64).toNat=1:=rfl
 have e8:(256:Nat) ^ 8=18446744073709551616:=rfl
 have e16:(256:Nat) ^ 16=340282366920938463463374607431768211456:=rfl
 rw [e8] at e
 simp only [Nj,l1,l2,o1]
 rw [t,e,hh,e16];omega
end Go.Sy
namespace Go.Sy
open Go.Proofs
attribute [local irreducible] Bw HT Aj Jk onC onE onO onG goV goA goS Lx Bz
theorem m1z (r0 r1 p0 p1 a0 a1 a2:UInt64) (held:List UInt8) (hh:held.length=16) (ha:Nj a0 a1 a2<pP) (hr:r1.toNat<1152921504606846976):
 Ct Tryz.prog 118 [.w (.agg (Cy r0 r1 p0 p1 a0 a1 a2 held 16))] (fun v m=>v=.w (.agg (Cy r0 r1 p0 p1 (sp0 (Qy a0 a1 a2 r0 r1 held)) (sp1 (Qy a0 a1 a2 r0 r1 held)) (sp2 (Qy a0 a1 a2 r0 r1 held)) (List.replicate 16 0) 0))):=by
 have hm: ∀ l:List UInt8,l.length=8→chunks 1 8 (List.map PL.u8 l)=Av l:=fun l h=>Gj h
 have hm0:=hm (held.take 8) (by simp [hh])
 have hm1:=hm ((held.drop 8).take 8) (by simp [hh])
 have ha4:a2.toNat<4:=by have h0:=a0.toNat_lt;have h1:=a1.toNat_lt;simp only [Nj,pP] at ha;omega
 have hab: ∀ x y z:UInt64,∀ l:List UInt8,l.length≤16→Nj x y z=leN l+256 ^ l.length→(T3.plus ⟨a0,a1,a2⟩ ⟨x,y,z⟩).val<2722258935367507707706996859454145691648:=fun x y z l hl hn=>by
  have hb:=a1o hl
  have ha3:Nj a0 a1 a2<1361129467683753853853498429727072845819:=ha
  rw [Wv _ _ (by show Nj a0 a1 a2+Nj x y z<_;rw [hn];omega)]
  show Nj a0 a1 a2+Nj x y z<_
  rw [hn];omega
 have hlen:held.length≤16:=by omega
 have hn:=y1i hh
 obtain ⟨hs0,hs1,hs2⟩:=b1l (x:=(lev (held.take 8))) (y:=(lev ((held.drop 8).take 8))) (z:=1) hn hlen ha hr
 have F0:=yA Cy.eq_1<|yA W3.eq_1<|yA hh<|yA hm0<|yA hm1<|yA hs0<|yA hs1<|hs2
 refine Ct.go Tryz.func118 rfl Tryz.ntmps118 Tryz.results118 fun w0 ro zZ zhY=>?_
 have zS:ZS 2:=⟨⟩
 refine (fun zX=>goW) ?_
 refine ⟨?_⟩;clear zS
 iterate 4 first
  |(refine w0i (id:=2) [7,8,9,10,11,4] [0,1,0,7,15,0,63] [] mixed (by kernel_rfl) (by simp only [go_sem]) fun zK zhK=>?_;simp only [go_sem,F0];(repeat' (first|apply yA|intro _)))
  |refine zhK _ _ trivial ?_
  |((all_goals refine Ck (fun k=>k) _ [] (fun _ _=>rfl) (by first|rfl|(simp only [go_sem,F0]<;>rfl)) ((y1a _ (by first|(simp [yH,yU,hh];done)|(simp [yH,yU,hh];omega)) _).plain fun _ _ h=>h) ?_ ?_);(all_goals try (refine yA ?_ (yA ?_ (yA ?_ ?_))<;>first|rfl|simp only [go_sem]));(all_goals simp only [go_sem,F0]);(all_goals repeat' (first|apply yA|intro _)))
 have zS:ZS 6:=⟨⟩
 refine (fun zX=>goW) ?_
 refine ⟨?_⟩;clear zS
 refine w0i (id:=6) [28,29,30,31,32,33,34,35] [0,1,0,7,0,16,63,127,255] [] mixed (by kernel_rfl) (by simp only [go_sem]) fun zK zhK=>?_
 simp only [go_sem,F0]
 repeat' (first|apply yA|intro _)
 all_goals (refine Ck (fun k=>k) _ [] (fun _ _=>rfl) ?_ ((n0d ⟨a0,a1,a2⟩ ⟨(lev (held.take 8)),(lev ((held.drop 8).take 8)),1⟩).plain fun _ _ h=>h) ?_ ?_;focus (first|rfl|(simp only [go_sem,F0]<;>rfl)))
 all_goals try (refine yA ?_ (yA ?_ (yA ?_ ?_))<;>first|rfl|simp only [go_sem])
 all_goals simp only [go_sem,F0]
 all_goals repeat' (first|apply yA|intro _)
 all_goals refine Ck (fun k=>k) _ [] (fun _ _=>rfl) (by first|rfl|(simp only [go_sem,F0]<;>rfl)) ((m1e (T3.plus ⟨a0,a1,a2⟩ ⟨(lev (held.take 8)),(lev ((held.drop 8).take 8)),1⟩) r0 r1 (hab _ _ _ _ hlen hn) hr).plain fun _ _ h=>h) ?_ ?_
 all_goals try (refine yA ?_ (yA ?_ (yA ?_ ?_))<;>first|rfl|simp only [go_sem])
 all_goals simp only [go_sem,F0]
 all_goals repeat' (first|apply yA|intro _)
 refine zhK _ _ trivial ?_
 refine (fun zX=>goW) ?_
 refine zhY _ _ ?_
 simp only [go_sem,F0]
 all_goals (rw [hs0,hs1,hs2])
theorem c2w (r0 r1 p0 p1 a0 a1 a2:UInt64) (held:List UInt8) (hh:held.length=16) (ha:Nj a0 a1 a2<pP) (hr:r1.toNat<1152921504606846976) (k:Nat) (hk:k<16) (hz: ∀ j,k≤j→j<16→held.getD j 0=0) (h8:k<8):
 Ct Tryz.prog 118 [.w (.agg (Cy r0 r1 p0 p1 a0 a1 a2 held (k:Int)))] (fun v m=>v=.w (.agg (Cy r0 r1 p0 p1 (sp0 (Qy a0 a1 a2 r0 r1 (held.take k))) (sp1 (Qy a0 a1 a2 r0 r1 (held.take k))) (sp2 (Qy a0 a1 a2 r0 r1 (held.take k))) (List.replicate 16 0) 0))):=by
 have hm: ∀ l:List UInt8,l.length=8→chunks 1 8 (List.map PL.u8 l)=Av l:=fun l h=>Gj h
 have hm0:=hm (held.take 8) (by simp [hh])
 have hm1:=hm ((held.drop 8).take 8) (by simp [hh])
 have ha4:a2.toNat<4:=by have h0:=a0.toNat_lt;have h1:=a1.toNat_lt;simp only [Nj,pP] at ha;omega
 have hab: ∀ x y z:UInt64,∀ l:List UInt8,l.length≤16→Nj x y z=leN l+256 ^ l.length→(T3.plus ⟨a0,a1,a2⟩ ⟨x,y,z⟩).val<2722258935367507707706996859454145691648:=fun x y z l hl hn=>by
  have hb:=a1o hl
  have ha3:Nj a0 a1 a2<1361129467683753853853498429727072845819:=ha
  rw [Wv _ _ (by show Nj a0 a1 a2+Nj x y z<_;rw [hn];omega)]
  show Nj a0 a1 a2+Nj x y z<_
  rw [hn];omega
 have hlen:(held.take k).length≤16:=by rw [yH];omega
 have hc1:((k:Nat):Int)<16:=by omega
 have hq0:¬(8:Int)=0:=by omega
 have hn:=(x0p hh hk hz).1 h8
 have hq1:((k:Nat):Int).tdiv 8=0:=by rw [show ((k:Nat):Int).tdiv 8=((k/8:Nat):Int) from rfl];omega
 have hq2:((k:Nat):Int).tmod 8=((k:Nat):Int):=by rw [show ((k:Nat):Int).tmod 8=((k%8:Nat):Int) from rfl];omega
 have hq3:Go.RowKit.wrap64 (8*((k:Nat):Int))=((8*k:Nat):Int):=Gy (by omega) (by omega)
 have hq4:(0:Int)≤((8*k:Nat):Int):=by omega
 obtain ⟨hs0,hs1,hs2⟩:=b1l (x:=(lev (held.take 8))|||Dy 1 (8*k)) (y:=(lev ((held.drop 8).take 8))) (z:=0) hn hlen ha hr
 have F0:=yA Cy.eq_1<|yA W3.eq_1<|yA hh<|yA hm0<|yA hm1<|yA hs0<|yA hs1<|yA hs2<|yA hc1<|yA hq0<|yA hq1<|yA hq2<|yA hq3<|hq4
 refine Ct.go Tryz.func118 rfl Tryz.ntmps118 Tryz.results118 fun w0 ro zZ zhY=>?_
 have zS:ZS 2:=⟨⟩
 refine (fun zX=>goW) ?_
 refine ⟨?_⟩;clear zS
 iterate 4 first
  |(refine w0i (id:=2) [7,8,9,10,11,4] [0,1,0,7,15,0,63] [] mixed (by kernel_rfl) (by simp only [go_sem]) fun zK zhK=>?_;simp only [go_sem,F0];(repeat' (first|apply yA|intro _)))
  |refine zhK _ _ trivial ?_
  |((all_goals refine Ck (fun k=>k) _ [] (fun _ _=>rfl) (by first|rfl|(simp only [go_sem,F0]<;>rfl)) ((y1a _ (by first|(simp [yH,yU,hh];done)|(simp [yH,yU,hh];omega)) _).plain fun _ _ h=>h) ?_ ?_);(all_goals try (refine yA ?_ (yA ?_ (yA ?_ ?_))<;>first|rfl|simp only [go_sem]));(all_goals simp only [go_sem,F0]);(all_goals repeat' (first|apply yA|intro _)))
 have zd0:DQ 5 [16,17,18,19,20,21,22,23,24,25,26,27] [0,1,3,7,15,0,32,96,224,480,1023,2047,4095] []:=⟨⟩
 have zS:ZS 6:=⟨⟩
 refine (fun zX=>goW) ?_
 refine ⟨?_⟩;clear zS
 refine w0i (id:=6) [28,29,30,31,32,33,34,35] [0,1,0,7,0,16,63,127,255] [] mixed (by kernel_rfl) (by simp only [go_sem]) fun zK zhK=>?_
 simp only [go_sem,F0]
 repeat' (first|apply yA|intro _)
 all_goals (refine Ck (fun k=>k) _ [] (fun _ _=>rfl) ?_ ((n0d ⟨a0,a1,a2⟩ ⟨(lev (held.take 8))|||Dy 1 (8*k),(lev ((held.drop 8).take 8)),0⟩).plain fun _ _ h=>h) ?_ ?_;focus (first|rfl|(simp only [go_sem,F0]<;>rfl)))
 all_goals try (refine yA ?_ (yA ?_ (yA ?_ ?_))<;>first|rfl|simp only [go_sem])
 all_goals simp only [go_sem,F0]
 all_goals repeat' (first|apply yA|intro _)
 all_goals refine Ck (fun k=>k) _ [] (fun _ _=>rfl) (by first|rfl|(simp only [go_sem,F0]<;>rfl)) ((m1e (T3.plus ⟨a0,a1,a2⟩ ⟨(lev (held.take 8))|||Dy 1 (8*k),(lev ((held.drop 8).take 8)),0⟩) r0 r1 (hab _ _ _ _ hlen hn) hr).plain fun _ _ h=>h) ?_ ?_
 all_goals try (refine yA ?_ (yA ?_ (yA ?_ ?_))<;>first|rfl|simp only [go_sem])
 all_goals simp only [go_sem,F0]
 all_goals repeat' (first|apply yA|intro _)
 refine zhK _ _ trivial ?_
 refine (fun zX=>goW) ?_
 refine zhY _ _ ?_
 simp only [go_sem,F0]
 all_goals (rw [hs0,hs1,hs2])
theorem c2x (r0 r1 p0 p1 a0 a1 a2:UInt64) (held:List UInt8) (hh:held.length=16) (ha:Nj a0 a1 a2<pP) (hr:r1.toNat<1152921504606846976) (k:Nat) (hk:k<16) (hz: ∀ j,k≤j→j<16→held.getD j 0=0) (h8:8≤k):
 Ct Tryz.prog 118 [.w (.agg (Cy r0 r1 p0 p1 a0 a1 a2 held (k:Int)))] (fun v m=>v=.w (.agg (Cy r0 r1 p0 p1 (sp0 (Qy a0 a1 a2 r0 r1 (held.take k))) (sp1 (Qy a0 a1 a2 r0 r1 (held.take k))) (sp2 (Qy a0 a1 a2 r0 r1 (held.take k))) (List.replicate 16 0) 0))):=by
 have hm: ∀ l:List UInt8,l.length=8→chunks 1 8 (List.map PL.u8 l)=Av l:=fun l h=>Gj h
 have hm0:=hm (held.take 8) (by simp [hh])
 have hm1:=hm ((held.drop 8).take 8) (by simp [hh])
 have ha4:a2.toNat<4:=by have h0:=a0.toNat_lt;have h1:=a1.toNat_lt;simp only [Nj,pP] at ha;omega
 have hab: ∀ x y z:UInt64,∀ l:List UInt8,l.length≤16→Nj x y z=leN l+256 ^ l.length→(T3.plus ⟨a0,a1,a2⟩ ⟨x,y,z⟩).val<2722258935367507707706996859454145691648:=fun x y z l hl hn=>by
  have hb:=a1o hl
  have ha3:Nj a0 a1 a2<1361129467683753853853498429727072845819:=ha
  rw [Wv _ _ (by show Nj a0 a1 a2+Nj x y z<_;rw [hn];omega)]
  show Nj a0 a1 a2+Nj x y z<_
  rw [hn];omega
 have hlen:(held.take k).length≤16:=by rw [yH];omega
 have hc1:((k:Nat):Int)<16:=by omega
 have hq0:¬(8:Int)=0:=by omega
 have hn:=(x0p hh hk hz).2 h8
 have hq1:((k:Nat):Int).tdiv 8=1:=by rw [show ((k:Nat):Int).tdiv 8=((k/8:Nat):Int) from rfl];omega
 have hq2:((k:Nat):Int).tmod 8=((k-8:Nat):Int):=by rw [show ((k:Nat):Int).tmod 8=((k%8:Nat):Int) from rfl];omega
 have hq3:Go.RowKit.wrap64 (8*((k-8:Nat):Int))=((8*(k-8):Nat):Int):=Gy (by omega) (by omega)
 have hq4:(0:Int)≤((8*(k-8):Nat):Int):=by omega
 obtain ⟨hs0,hs1,hs2⟩:=b1l (x:=(lev (held.take 8))) (y:=(lev ((held.drop 8).take 8))|||Dy 1 (8*(k-8))) (z:=0) hn hlen ha hr
 have F0:=yA Cy.eq_1<|yA W3.eq_1<|yA hh<|yA hm0<|yA hm1<|yA hs0<|yA hs1<|yA hs2<|yA hc1<|yA hq0<|yA hq1<|yA hq2<|yA hq3<|hq4
 refine Ct.go Tryz.func118 rfl Tryz.ntmps118 Tryz.results118 fun w0 ro zZ zhY=>?_
 have zS:ZS 2:=⟨⟩
 refine (fun zX=>goW) ?_
 refine ⟨?_⟩;clear zS
 iterate 4 first
  |(refine w0i (id:=2) [7,8,9,10,11,4] [0,1,0,7,15,0,63] [] mixed (by kernel_rfl) (by simp only [go_sem]) fun zK zhK=>?_;simp only [go_sem,F0];(repeat' (first|apply yA|intro _)))
  |refine zhK _ _ trivial ?_
  |((all_goals refine Ck (fun k=>k) _ [] (fun _ _=>rfl) (by first|rfl|(simp only [go_sem,F0]<;>rfl)) ((y1a _ (by first|(simp [yH,yU,hh];done)|(simp [yH,yU,hh];omega)) _).plain fun _ _ h=>h) ?_ ?_);(all_goals try (refine yA ?_ (yA ?_ (yA ?_ ?_))<;>first|rfl|simp only [go_sem]));(all_goals simp only [go_sem,F0]);(all_goals repeat' (first|apply yA|intro _)))
 have zd0:DQ 5 [16,17,18,19,20,21,22,23,24,25,26,27] [0,1,3,7,15,0,32,96,224,480,1023,2047,4095] []:=⟨⟩
 have zS:ZS 6:=⟨⟩
 refine (fun zX=>goW) ?_
 refine ⟨?_⟩;clear zS
 refine w0i (id:=6) [28,29,30,31,32,33,34,35] [0,1,0,7,0,16,63,127,255] [] mixed (by kernel_rfl) (by simp only [go_sem]) fun zK zhK=>?_
 simp only [go_sem,F0]
 repeat' (first|apply yA|intro _)
 all_goals (refine Ck (fun k=>k) _ [] (fun _ _=>rfl) ?_ ((n0d ⟨a0,a1,a2⟩ ⟨(lev (held.take 8)),(lev ((held.drop 8).take 8))|||Dy 1 (8*(k-8)),0⟩).plain fun _ _ h=>h) ?_ ?_;focus (first|rfl|(simp only [go_sem,F0]<;>rfl)))
 all_goals try (refine yA ?_ (yA ?_ (yA ?_ ?_))<;>first|rfl|simp only [go_sem])
 all_goals simp only [go_sem,F0]
 all_goals repeat' (first|apply yA|intro _)
 all_goals refine Ck (fun k=>k) _ [] (fun _ _=>rfl) (by first|rfl|(simp only [go_sem,F0]<;>rfl)) ((m1e (T3.plus ⟨a0,a1,a2⟩ ⟨(lev (held.take 8)),(lev ((held.drop 8).take 8))|||Dy 1 (8*(k-8)),0⟩) r0 r1 (hab _ _ _ _ hlen hn) hr).plain fun _ _ h=>h) ?_ ?_
 all_goals try (refine yA ?_ (yA ?_ (yA ?_ ?_))<;>first|rfl|simp only [go_sem])
 all_goals simp only [go_sem,F0]
 all_goals repeat' (first|apply yA|intro _)
 refine zhK _ _ trivial ?_
 refine (fun zX=>goW) ?_
 refine zhY _ _ ?_
 simp only [go_sem,F0]
 all_goals (rw [hs0,hs1,hs2])
end Go.Sy
namespace Go.Sy
open Go.Proofs
attribute [local irreducible] Bw HT Aj Jk onC onE onO onG goV goA goS Lx Bz
theorem f2q (n:Nat):leN (1::List.replicate n 0)=1:=by simp only [leN,j0o];rfl
theorem i2i {l b:List UInt8} {y:Nat} (h:l++1::List.replicate y 0=b) (hl:b.length=24):Nj (lev (b.take 8)) (lev ((b.drop 8).take 8)) (lev ((b.drop 16).take 8))=leN l+256 ^ l.length:=by
 rw [v1t hl,←h,a0r,f2q,Nat.mul_one]
theorem g1b (r0 r1 p0 p1 a0 a1 a2:UInt64) (held:List UInt8) (hh:held.length=16) (n:Int) (ha:a2.toNat<4) (l:List UInt8) (hl:l.length≤16):
 Ct Tryz.prog 125 [.w (.agg (Cy r0 r1 p0 p1 a0 a1 a2 held n)),.w (.one (.pl (.str l)))] (fun v m=>v=.w (.agg (Cy r0 r1 p0 p1 (sp0 (Qy a0 a1 a2 r0 r1 l)) (sp1 (Qy a0 a1 a2 r0 r1 l)) (sp2 (Qy a0 a1 a2 r0 r1 l)) (List.replicate 16 0) 0))):=by
 have hm1:l.length+1≤9223372036854775807:=by omega
 have F0:=yA Cy.eq_1<|yA W3.eq_1<|yA P5.ls.eq_1<|yA hh<|hm1
 have zF:FG [9,10,11,12,13,14,15,16,17,18,19,20,21,22,23,24,25,26,27,28,29,31,32,33,34,35,36,37,38,39,40,41,42,43,44,45,46,47,48,49,50,51,52,53,54,55,56,57,58]:=trivial
 refine Ct.go Tryz.func125 rfl Tryz.ntmps125 Tryz.results125 fun w0 ro zZ zhY=>?_
 refine (fun zX=>goW) ?_
 refine Bv [0,1,9,10] ?_
 simp only [Bj,Cx,Bq,yI,yK,Nat.reduceBEq,beq_self_eq_true,yS,yV,yY,yT,yE,reduceIte]
 refine Gx (fun y=>[(5,.w (.one (.pl (.str (l++1::List.replicate y.1 0)))))]) (fun _=>[]) (fun y=>23-l.length-y.1) (⟨0,xA _⟩:{y:Nat//y≤23-l.length}) ?_ (by (simp only [go_sem,leX,yB,yC,List.replicate_zero];try simp)) (by (simp only [go_sem,leX,yB,yC,F0];try simp))
 intro yy xN0 xM0 xhN0 xhM0
 simp only [yB,yC]
 obtain ⟨y,hy⟩:=yy
 obtain ⟨b,hb⟩: ∃ b,l++1::List.replicate y 0=b:=⟨_,rfl⟩
 have hbl:b.length=l.length+1+y:=by rw [←hb];simp;omega
 simp only [hb]
 rcases yZ y (23-l.length) with hlt|hge
 ·have hcq:((b.length:Nat):Int)<24:=by omega
  have hml:b.length+1≤9223372036854775807:=by omega
  have hnx:b++[0]=l++1::List.replicate (y+1) 0:=by rw [←hb,wM,yB,←List.replicate_succ']
  have F0:=yA hcq<|yA hml<|F0
  refine (fun zX=>goW) ?_
  refine xhN0 ⟨y+1,hlt⟩ _ ?_ ?_ ?_
  ·(show 23-l.length-(y+1)<23-l.length-y;omega)
  ·(simp only [hnx,go_sem,leX,yB,yC];try simp [hnx])
  (simp only [go_sem,leX,yB,yC,F0];try simp)
 have hbl:b.length=24:=by omega
 have hn:=i2i hb hbl
 have hcq:¬((24:Nat):Int)<24:=by omega
 obtain ⟨ps0,ps1,ps2⟩:=v1m (r0:=r0) (r1:=r1) (a0:=a0) (a1:=a1) hn hl ha
 have F0:=yA hcq<|yA hbl<|F0
 have zS:ZS 4:=⟨⟩
 refine (fun zX=>goW) ?_
 refine ⟨?_⟩;clear zS
 iterate 6 first
  |(refine w0i (id:=4) [16,17,18,19,20,21,22,23,24,25,26,6] [0,1,3,0,8,31,0,64,255,511,1023,0,4095] [] mixed (by kernel_rfl) (by simp only [go_sem]) fun zK zhK=>?_;simp only [go_sem,F0];(repeat' (first|apply yA|intro _)))
  |refine zhK _ _ trivial ?_
  |((all_goals refine Ck (fun k=>k) _ [] (fun _ _=>rfl) (by first|rfl|(simp only [go_sem,F0]<;>rfl)) ((p0i _ (by first|(simp [yH,yU];done)|(simp [yH,yU];omega))).plain fun _ _ h=>h) ?_ ?_);(all_goals try (refine yA ?_ (yA ?_ (yA ?_ ?_))<;>first|rfl|simp only [go_sem]));(all_goals simp only [go_sem,F0]);(all_goals repeat' (first|apply yA|intro _)))
  |((all_goals (refine Ck (fun k=>k) _ [] (fun _ _=>rfl) ?_ ((g0g (lev (b.take 8)) (lev ((b.drop 8).take 8)) (lev ((b.drop 16).take 8))).plain fun _ _ h=>h) ?_ ?_;focus (first|rfl|(simp only [go_sem,F0]<;>rfl))));(all_goals try (refine yA ?_ (yA ?_ (yA ?_ ?_))<;>first|rfl|simp only [go_sem]));(all_goals simp only [go_sem,F0]);(all_goals repeat' (first|apply yA|intro _)))
 have cq:=yA (Ct.cv (g0g a0 a1 a2))<|yA (Ct.cv (c0x ((Ey a0 a1 a2).addP (Ey (lev (b.take 8)) (lev ((b.drop 8).take 8)) (lev ((b.drop 16).take 8))))))<|yA (Ct.cv (g0g r0 r1 0))<|yA (Ct.cv (d2t ((Ey a0 a1 a2).addP (Ey (lev (b.take 8)) (lev ((b.drop 8).take 8)) (lev ((b.drop 16).take 8)))).carried (Ey r0 r1 0)))<|yA (Ct.cv (n0m (w0j ((Ey a0 a1 a2).addP (Ey (lev (b.take 8)) (lev ((b.drop 8).take 8)) (lev ((b.drop 16).take 8)))).carried (Ey r0 r1 0)).carried))<|trivial
 have zd0:DQ 9 [33,34,35,36,37,38,39,40] [0,1,3,0,8,24,63,127,255] []:=⟨⟩
 have zd1:DQ 11 [42,43,44,45,46,47,48,49,50,51,52,53,54] [0,1,0,4,12,0,32,96,252,511,1023,2047,4095,8191] []:=⟨⟩
 have zU:=yA ur<|trivial
 refine (fun zX=>goW) ?_
 refine zhY _ _ ?_
 simp only [go_sem,F0]
 all_goals (rw [ps0,ps1,ps2])
end Go.Sy
