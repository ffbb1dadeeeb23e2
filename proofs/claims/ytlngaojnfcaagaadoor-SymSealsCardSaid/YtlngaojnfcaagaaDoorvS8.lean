/- Walks and what they compute. CONDITIONS: those that each theorem names. -/
import Derived.Test.YtlngaojnfcaagaaDoorvS6
import Derived.Test.YtlngaojnfcaagaaDoorvS2
import Derived.Test.YtlngaojnfcaagaaDoorvS7
set_option linter.unusedVariables false
set_option linter.unusedSimpArgs false
set_option maxHeartbeats 3200000
set_option maxRecDepth 100000
namespace Go.Sy
theorem a0d : ∀ (a b:List UInt8),leN (a++b)=leN a+256 ^ a.length*leN b
 | [],b=>by simp [leN]
 |x::a,b=>by
  simp only [List.cons_append,leN,a0d a b,List.length_cons,Nat.pow_succ,Nat.mul_add]
  rw [Nat.mul_comm (256 ^ a.length) 256,Nat.mul_assoc];omega
theorem h0i (n:Nat):leN (List.replicate n 0)=0:=by
 induction n with
 |zero=>rfl
 |succ n ih=>simp [List.replicate_succ,leN,ih]
theorem h0j (l:List UInt8) (k:Nat) (hk:k≤l.length):leN l=leN (l.take k)+256 ^ k*leN (l.drop k):=by
 have:=a0d (l.take k) (l.drop k)
 rw [List.take_append_drop,List.length_take,Nat.min_eq_left hk] at this
 exact this
theorem n1u {b:List UInt8} (h:b.length=24):Oy (lev (b.take 8)) (lev ((b.drop 8).take 8)) (lev ((b.drop 16).take 8))=leN b:=by
 have e1:=h0j b 8 (by omega)
 have e2:=h0j (b.drop 8) 8 (by rw [List.length_drop];omega)
 rw [List.drop_drop] at e2
 have e3:(b.drop 16).take 8=b.drop 16:=List.take_of_length_le (by rw [List.length_drop];omega)
 have l1:(lev (b.take 8)).toNat=leN (b.take 8):=Rx (by rw [List.length_take];omega)
 have l2:(lev ((b.drop 8).take 8)).toNat=leN ((b.drop 8).take 8):=Rx (by rw [List.length_take];omega)
 have l3:(lev ((b.drop 16).take 8)).toNat=leN ((b.drop 16).take 8):=Rx (by rw [List.length_take];omega)
 simp only [Oy,l1,l2,l3]
 rw [e3,e1,e2]
 have p8:256 ^ 8=18446744073709551616:=rfl
 rw [p8,Nat.mul_add,←Nat.mul_assoc]
 show _=leN (b.take 8)+(18446744073709551616*leN ((b.drop 8).take 8)+18446744073709551616*18446744073709551616*leN (b.drop 16))
 omega
def Pk (a0 a1 a2 r0 r1:UInt64) (l:List UInt8):Nat:=(Oy a0 a1 a2+(leN l+256 ^ l.length))*(r0.toNat+r1.toNat*18446744073709551616)%pP
theorem m1q (a0 a1 a2 r0 r1:UInt64) (l:List UInt8):Pk a0 a1 a2 r0 r1 l<pP:=Nat.mod_lt _ (by decide)
theorem v0g {l:List UInt8} (h:l.length≤16):leN l+256 ^ l.length<680564733841876926926749214863536422912:=by
 have h1:=p0k l
 have h2:256 ^ l.length≤256 ^ 16:=Nat.pow_le_pow_right (by decide) h
 have:256 ^ 16=340282366920938463463374607431768211456:=rfl
 omega
section
variable {a0 a1 a2 r0 r1 x y z:UInt64} {l:List UInt8}
theorem v0z (hn:Oy x y z=leN l+256 ^ l.length) (hl:l.length≤16) (ha:Oy a0 a1 a2<pP) (hr:r1.toNat<1152921504606846976):
  (Zz (T3.plus ⟨a0,a1,a2⟩ ⟨x,y,z⟩) r0 r1).a=sp0 (Pk a0 a1 a2 r0 r1 l)∧(Zz (T3.plus ⟨a0,a1,a2⟩ ⟨x,y,z⟩) r0 r1).b=sp1 (Pk a0 a1 a2 r0 r1 l)∧(Zz (T3.plus ⟨a0,a1,a2⟩ ⟨x,y,z⟩) r0 r1).c=sp2 (Pk a0 a1 a2 r0 r1 l):=by
 have hb:=v0g hl
 have ha2:Oy a0 a1 a2<1361129467683753853853498429727072845819:=ha
 have hp:(T3.plus ⟨a0,a1,a2⟩ ⟨x,y,z⟩).val=Oy a0 a1 a2+(leN l+256 ^ l.length):=by
  rw [Vy _ _ (by show Oy a0 a1 a2+Oy x y z<_;rw [hn];omega)]
  show Oy a0 a1 a2+Oy x y z=_
  rw [hn]
 have hv:=e1s (T3.plus ⟨a0,a1,a2⟩ ⟨x,y,z⟩) r0 r1 (by rw [hp];omega) hr
 rw [hp] at hv
 exact z1w (v:=Pk a0 a1 a2 r0 r1 l) hv
def P5.addP (p q:P5):P5:=⟨p.a+q.a,p.b+q.b,p.c+q.c,p.d+q.d,p.e+q.e⟩
theorem r1e {p q:P5} (hp:p.lt 67108864) (hq:q.lt 67108864):(p.addP q).val=p.val+q.val∧(p.addP q).lt 2305843009213693952:=by
 obtain ⟨p1,p2,p3,p4,p5⟩:=hp
 obtain ⟨q1,q2,q3,q4,q5⟩:=hq
 have e1:(p.a+q.a).toNat=p.a.toNat+q.a.toNat:=Ky (by omega)
 have e2:(p.b+q.b).toNat=p.b.toNat+q.b.toNat:=Ky (by omega)
 have e3:(p.c+q.c).toNat=p.c.toNat+q.c.toNat:=Ky (by omega)
 have e4:(p.d+q.d).toNat=p.d.toNat+q.d.toNat:=Ky (by omega)
 have e5:(p.e+q.e).toNat=p.e.toNat+q.e.toNat:=Ky (by omega)
 refine ⟨?_,?_⟩
 ·simp only [P5.addP,P5.val,e1,e2,e3,e4,e5,Nat.add_mul];omega
 ·simp only [P5.addP,P5.lt,e1,e2,e3,e4,e5];omega
theorem g1p (hn:Oy x y z=leN l+256 ^ l.length) (hl:l.length≤16) (ha:a2.toNat<4):
  P5.val (s0d ((Gv a0 a1 a2).addP (Gv x y z)).carried (Gv r0 r1 0))%pP=Pk a0 a1 a2 r0 r1 l∧(s0d ((Gv a0 a1 a2).addP (Gv x y z)).carried (Gv r0 r1 0)).lt 2305843009213693952:=by
 have hb:=v0g hl
 have hz:z.toNat<4:=by
  rw [←hn] at hb
  simp only [Oy] at hb;omega
 obtain ⟨va,la⟩:=g0z a0 a1 a2 ha
 obtain ⟨vn,ln⟩:=g0z x y z hz
 obtain ⟨vr,lr⟩:=g0z r0 r1 0 (by decide)
 obtain ⟨vs,ls⟩:=r1e la ln
 obtain ⟨vc,lc⟩:=g0p _ ls
 generalize P5.carried (P5.addP (Gv a0 a1 a2) (Gv x y z))=c at*
 generalize Gv r0 r1 0=r at*
 obtain ⟨vm,lm⟩:=p1a _ _ lc lr
 refine ⟨?_,lm⟩
 have hr:Oy r0 r1 0=r0.toNat+r1.toNat*18446744073709551616:=by unfold Oy;rw [show (0:UInt64).toNat=0 from rfl,Nat.zero_mul,Nat.add_zero]
 rw [vm,vc,vs,va,vn,vr,hn,hr,Pk]
 generalize Oy a0 a1 a2+(leN l+256 ^ l.length)=u
 generalize r0.toNat+r1.toNat*18446744073709551616=w
 rw [Nat.mod_mul_mod]
theorem n1r (hn:Oy x y z=leN l+256 ^ l.length) (hl:l.length≤16) (ha:a2.toNat<4):
  ((s0d ((Gv a0 a1 a2).addP (Gv x y z)).carried (Gv r0 r1 0)).carried).w0=sp0 (Pk a0 a1 a2 r0 r1 l)∧((s0d ((Gv a0 a1 a2).addP (Gv x y z)).carried (Gv r0 r1 0)).carried).w1=sp1 (Pk a0 a1 a2 r0 r1 l)∧((s0d ((Gv a0 a1 a2).addP (Gv x y z)).carried (Gv r0 r1 0)).carried).w2=sp2 (Pk a0 a1 a2 r0 r1 l):=by
 obtain ⟨h1,h2⟩:=g1p (a0:=a0) (a1:=a1) (r0:=r0) (r1:=r1) hn hl ha
 generalize Pk a0 a1 a2 r0 r1 l=v at*
 generalize s0d ((Gv a0 a1 a2).addP (Gv x y z)).carried (Gv r0 r1 0)=m at*
 obtain ⟨vt,lt⟩:=g0p _ h2
 have hw:=s0h _ lt
 rw [vt,h1] at hw
 exact z1w hw
end
theorem s0v {held:List UInt8} {k:Nat} (hh:held.length=16) (hk:k<16) (hz: ∀ j,k≤j→j<16→held.getD j 0=0):
  (k<8→Oy (lev (held.take 8)|||Qz 1 (8*k)) (lev ((held.drop 8).take 8)) 0=leN (held.take k)+256 ^ (held.take k).length)∧
  (8≤k→Oy (lev (held.take 8)) (lev ((held.drop 8).take 8)|||Qz 1 (8*(k-8))) 0=leN (held.take k)+256 ^ (held.take k).length):=by
 have hd:held.drop k=List.replicate (16-k) 0:=by
  apply List.ext_getElem
  ·rw [List.length_drop,List.length_replicate];omega
  ·intro i h1 h2
   rw [List.length_replicate] at h2
   have:=hz (k+i) (by omega) (by omega)
   rw [List.getElem_drop,List.getElem_replicate]
   simpa [List.getD,List.getElem?_eq_getElem (show k+i<held.length by omega)] using this
 have hlk:(held.take k).length=k:=by rw [List.length_take];omega
 have hlt:=p0k (held.take k)
 rw [hlk] at hlt
 have l1:(lev (held.take 8)).toNat=leN (held.take 8):=Rx (by rw [List.length_take];omega)
 have l2:(lev ((held.drop 8).take 8)).toNat=leN ((held.drop 8).take 8):=Rx (by rw [List.length_take];omega)
 have hcat:held=held.take k++List.replicate (16-k) 0:=by rw [←hd,List.take_append_drop]
 have z0:(0:UInt64).toNat=0:=rfl
 have o1:(1:UInt64).toNat=1:=rfl
 rw [hlk]
 constructor
 ·intro h8
  have t8:held.take 8=held.take k++List.replicate (8-k) 0:=by
   conv=>lhs;rw [hcat]
   rw [List.take_append,hlk,List.take_of_length_le (by omega),List.take_replicate];congr 2;omega
  have d8:(held.drop 8).take 8=List.replicate 8 0:=by
   conv=>lhs;rw [hcat]
   rw [List.drop_append,hlk,List.drop_of_length_le (by omega),List.drop_replicate,List.nil_append,List.take_replicate];congr 1;omega
  have e1:leN (held.take 8)=leN (held.take k):=by rw [t8,a0d,h0i];omega
  have e2:leN ((held.drop 8).take 8)=0:=by rw [d8,h0i]
  have hp:(256:Nat) ^ k=2 ^ (8*k):=by rw [show (256:Nat)=2 ^ 8 from rfl,←Nat.pow_mul]
  have hpl:256 ^ k≤256 ^ 7:=Nat.pow_le_pow_right (by decide) (by omega)
  have es:(Qz 1 (8*k)).toNat=2 ^ (8*k)*1:=by
   rw [d0p,o1,←hp,Nat.mod_eq_of_lt (by omega)];omega
  have eo:=l0y (8*k) (x:=lev (held.take 8)) (by rw [l1,e1,←hp];exact hlt) es
  simp only [Oy,eo,l1,l2,e1,e2,es,z0,←hp];omega
 ·intro h8
  have t8:held.take 8=(held.take k).take 8:=by rw [List.take_take,Nat.min_eq_left h8]
  have d8:(held.drop 8).take 8=(held.take k).drop 8++List.replicate (16-k) 0:=by
   conv=>lhs;rw [hcat]
   rw [List.drop_append,hlk,show 8-k=0 from by omega,List.drop_zero,List.take_of_length_le]
   rw [List.length_append,List.length_drop,hlk,List.length_replicate];omega
  have e3:=h0j (held.take k) 8 (by omega)
  rw [←t8] at e3
  have e2:leN ((held.drop 8).take 8)=leN ((held.take k).drop 8):=by rw [d8,a0d,h0i];omega
  have hl2:=p0k ((held.take k).drop 8)
  rw [List.length_drop,hlk] at hl2
  have hp:(256:Nat) ^ (k-8)=2 ^ (8*(k-8)):=by rw [show (256:Nat)=2 ^ 8 from rfl,←Nat.pow_mul]
  have hpl:256 ^ (k-8)≤256 ^ 7:=Nat.pow_le_pow_right (by decide) (by omega)
  have es:(Qz 1 (8*(k-8))).toNat=2 ^ (8*(k-8))*1:=by
   rw [d0p,o1,←hp,Nat.mod_eq_of_lt (by omega)];omega
  have eo:=l0y (8*(k-8)) (x:=lev ((held.drop 8).take 8)) (by rw [l2,e2,←hp];exact hl2) es
  have hpk:(256:Nat) ^ k=18446744073709551616*256 ^ (k-8):=by
   rw [show (18446744073709551616:Nat)=256 ^ 8 from rfl,←Nat.pow_add];congr 1;omega
  have e8:(256:Nat) ^ 8=18446744073709551616:=rfl
  rw [e8] at e3
  simp only [Oy,eo,l1,l2,e2,es,z0,←hp,hpk]
  generalize 256 ^ (k-8)=q at*
  rw [e3];omega
theorem p1v {held:List UInt8} (hh:held.length=16):Oy (lev (held.take 8)) (lev ((held.drop 8).take 8)) 1=leN held+256 ^ held.length:=by
 have e:=h0j held 8 (by omega)
 have l1:(lev (held.take 8)).toNat=leN (held.take 8):=Rx (by rw [List.length_take];omega)
 have l2:(lev ((held.drop 8).take 8)).toNat=leN ((held.drop 8).take 8):=Rx (by rw [List.length_take];omega)
 have t:(held.drop 8).take 8=held.drop 8:=List.take_of_length_le (by rw [List.length_drop];omega)
 have o1:(1:UInt64).toNat=1:=rfl
 have e8:(256:Nat) ^ 8=18446744073709551616:=rfl
 have e16:(256:Nat) ^ 16=340282366920938463463374607431768211456:=rfl
 rw [e8] at e
 simp only [Oy,l1,l2,o1]
 rw [t,e,hh,e16];omega
end Go.Sy
namespace Go.Sy
open Go.Proofs
attribute [local irreducible] Fz HT Cw Oj onC onE onO onG goV goA goS Qv Ey
theorem f1k (r0 r1 p0 p1 a0 a1 a2:UInt64) (held:List UInt8) (hh:held.length=16) (ha:Oy a0 a1 a2<pP) (hr:r1.toNat<1152921504606846976):
 Ct Tryd.prog 68 [.w (.agg (Ak r0 r1 p0 p1 a0 a1 a2 held 16))] (fun v m=>v=.w (.agg (Ak r0 r1 p0 p1 (sp0 (Pk a0 a1 a2 r0 r1 held)) (sp1 (Pk a0 a1 a2 r0 r1 held)) (sp2 (Pk a0 a1 a2 r0 r1 held)) (List.replicate 16 0) 0))):=by
 have hm: ∀ l:List UInt8,l.length=8→chunks 1 8 (List.map PL.u8 l)=Aw l:=fun l h=>Ew h
 have hm0:=hm (held.take 8) (by simp [hh])
 have hm1:=hm ((held.drop 8).take 8) (by simp [hh])
 have ha4:a2.toNat<4:=by have h0:=a0.toNat_lt;have h1:=a1.toNat_lt;simp only [Oy,pP] at ha;omega
 have hab: ∀ x y z:UInt64,∀ l:List UInt8,l.length≤16→Oy x y z=leN l+256 ^ l.length→(T3.plus ⟨a0,a1,a2⟩ ⟨x,y,z⟩).val<2722258935367507707706996859454145691648:=fun x y z l hl hn=>by
  have hb:=v0g hl
  have ha3:Oy a0 a1 a2<1361129467683753853853498429727072845819:=ha
  rw [Vy _ _ (by show Oy a0 a1 a2+Oy x y z<_;rw [hn];omega)]
  show Oy a0 a1 a2+Oy x y z<_
  rw [hn];omega
 have hlen:held.length≤16:=by omega
 have hn:=p1v hh
 obtain ⟨hs0,hs1,hs2⟩:=v0z (x:=(lev (held.take 8))) (y:=(lev ((held.drop 8).take 8))) (z:=1) hn hlen ha hr
 have F0:=And.intro hh<|And.intro hm0<|And.intro hm1<|And.intro hs0<|And.intro hs1<|hs2
 refine Ct.k Tryd.func68 rfl Tryd.ntmps68 (congrArg Array.toList Tryd.results68) (by simp) fun w0 ro=>?_
 refine Dx fun zZ zhZ=>?_
 iterate 24 first
  |(refine Dz fun zK zhK=>?_;simp only [go_sem,Ak,W3,F0];(repeat' (first|apply And.intro|intro _)))
  |refine zhK _ ?_
  |refine zhK _ _ trivial ?_
  |(refine d0c (id:=2) [7,8,9,10,11,4] [0,1,0,7,15,0,63] [] mixed (by kernel_rfl) (by simp only [go_sem]) fun zK zhK=>?_;simp only [go_sem,Ak,W3,F0];(repeat' (first|apply And.intro|intro _)))
  |refine Cq ?_
  |(refine zhN _ ?_;clear zhN zhM)
  |(refine d0c (id:=6) [28,29,30,31,32,33,34,35] [0,1,0,7,0,16,63,127,255] [] mixed (by kernel_rfl) (by simp only [go_sem]) fun zK zhK=>?_;simp only [go_sem,Ak,W3,F0];(repeat' (first|apply And.intro|intro _)))
  |refine Ck ?_
  |(refine zhZ _ _ ?_;simp only [go_sem,Ak,W3,F0];(all_goals (rw [hs0,hs1,hs2])))
  |((all_goals refine Dv (fun k=>k) _ [] (fun _ _=>rfl) (by first|rfl|(simp only [go_sem,Ak,W3,F0]<;>rfl)) ((p1n _ (by first|(simp [List.length_take,List.length_drop,hh];done)|(simp [List.length_take,List.length_drop,hh];omega)) _).plain fun _ _ h=>h) ?_ ?_);(all_goals try (refine And.intro ?_ (And.intro ?_ (And.intro ?_ ?_))<;>first|rfl|simp only [go_sem]));(all_goals simp only [go_sem,Ak,W3,F0]);(all_goals repeat' (first|apply And.intro|intro _)))
  |((all_goals (refine Dv (fun k=>k) _ [] (fun _ _=>rfl) ?_ ((q0s ⟨a0,a1,a2⟩ ⟨(lev (held.take 8)),(lev ((held.drop 8).take 8)),1⟩).plain fun _ _ h=>h) ?_ ?_;focus (first|rfl|(simp only [go_sem,Ak,W3,F0]<;>rfl))));(all_goals try (refine And.intro ?_ (And.intro ?_ (And.intro ?_ ?_))<;>first|rfl|simp only [go_sem]));(all_goals simp only [go_sem,Ak,W3,F0]);(all_goals repeat' (first|apply And.intro|intro _)))
  |((all_goals refine Dv (fun k=>k) _ [] (fun _ _=>rfl) (by first|rfl|(simp only [go_sem,Ak,W3,F0]<;>rfl)) ((e1t (T3.plus ⟨a0,a1,a2⟩ ⟨(lev (held.take 8)),(lev ((held.drop 8).take 8)),1⟩) r0 r1 (hab _ _ _ _ hlen hn) hr).plain fun _ _ h=>h) ?_ ?_);(all_goals try (refine And.intro ?_ (And.intro ?_ (And.intro ?_ ?_))<;>first|rfl|simp only [go_sem]));(all_goals simp only [go_sem,Ak,W3,F0]);(all_goals repeat' (first|apply And.intro|intro _)))
  |refine Bq fun zN zM zhN zhM=>?_
  |(refine Bj ?_ ?_;focus (first|rfl|(simp [go_sem,Ak,W3,F0];done)))
theorem t1h (r0 r1 p0 p1 a0 a1 a2:UInt64) (held:List UInt8) (hh:held.length=16) (ha:Oy a0 a1 a2<pP) (hr:r1.toNat<1152921504606846976) (k:Nat) (hk:k<16) (hz: ∀ j,k≤j→j<16→held.getD j 0=0) (h8:k<8):
 Ct Tryd.prog 68 [.w (.agg (Ak r0 r1 p0 p1 a0 a1 a2 held (k:Int)))] (fun v m=>v=.w (.agg (Ak r0 r1 p0 p1 (sp0 (Pk a0 a1 a2 r0 r1 (held.take k))) (sp1 (Pk a0 a1 a2 r0 r1 (held.take k))) (sp2 (Pk a0 a1 a2 r0 r1 (held.take k))) (List.replicate 16 0) 0))):=by
 have hm: ∀ l:List UInt8,l.length=8→chunks 1 8 (List.map PL.u8 l)=Aw l:=fun l h=>Ew h
 have hm0:=hm (held.take 8) (by simp [hh])
 have hm1:=hm ((held.drop 8).take 8) (by simp [hh])
 have ha4:a2.toNat<4:=by have h0:=a0.toNat_lt;have h1:=a1.toNat_lt;simp only [Oy,pP] at ha;omega
 have hab: ∀ x y z:UInt64,∀ l:List UInt8,l.length≤16→Oy x y z=leN l+256 ^ l.length→(T3.plus ⟨a0,a1,a2⟩ ⟨x,y,z⟩).val<2722258935367507707706996859454145691648:=fun x y z l hl hn=>by
  have hb:=v0g hl
  have ha3:Oy a0 a1 a2<1361129467683753853853498429727072845819:=ha
  rw [Vy _ _ (by show Oy a0 a1 a2+Oy x y z<_;rw [hn];omega)]
  show Oy a0 a1 a2+Oy x y z<_
  rw [hn];omega
 have hlen:(held.take k).length≤16:=by rw [List.length_take];omega
 have hc1:((k:Nat):Int)<16:=by omega
 have hq0:¬(8:Int)=0:=by omega
 have hn:=(s0v hh hk hz).1 h8
 have hq1:((k:Nat):Int).tdiv 8=0:=by rw [show ((k:Nat):Int).tdiv 8=((k/8:Nat):Int) from rfl];omega
 have hq2:((k:Nat):Int).tmod 8=((k:Nat):Int):=by rw [show ((k:Nat):Int).tmod 8=((k%8:Nat):Int) from rfl];omega
 have hq3:Go.RowKit.wrap64 (8*((k:Nat):Int))=((8*k:Nat):Int):=Kv (by omega) (by omega)
 have hq4:(0:Int)≤((8*k:Nat):Int):=by omega
 obtain ⟨hs0,hs1,hs2⟩:=v0z (x:=(lev (held.take 8))|||Qz 1 (8*k)) (y:=(lev ((held.drop 8).take 8))) (z:=0) hn hlen ha hr
 have F0:=And.intro hh<|And.intro hm0<|And.intro hm1<|And.intro hs0<|And.intro hs1<|And.intro hs2<|And.intro hc1<|And.intro hq0<|And.intro hq1<|And.intro hq2<|And.intro hq3<|hq4
 refine Ct.k Tryd.func68 rfl Tryd.ntmps68 (congrArg Array.toList Tryd.results68) (by simp) fun w0 ro=>?_
 refine Dx fun zZ zhZ=>?_
 iterate 27 first
  |(refine Dz fun zK zhK=>?_;simp only [go_sem,Ak,W3,Int.toNat_one,F0];(repeat' (first|apply And.intro|intro _)))
  |refine zhK _ ?_
  |refine zhK _ _ trivial ?_
  |(refine d0c (id:=2) [7,8,9,10,11,4] [0,1,0,7,15,0,63] [] mixed (by kernel_rfl) (by simp only [go_sem]) fun zK zhK=>?_;simp only [go_sem,Ak,W3,Int.toNat_one,F0];(repeat' (first|apply And.intro|intro _)))
  |(refine Kk (id:=5) [16,17,18,19,20,21,22,23,24,25,26,27] [0,1,3,7,15,0,32,96,224,480,1023,2047,4095] [] mixed (by kernel_rfl) (by simp only [go_sem]) fun zK zhK=>?_;simp only [go_sem,Ak,W3,Int.toNat_one,F0];(repeat' (first|apply And.intro|intro _)))
  |(refine zhN _ ?_;clear zhN zhM)
  |(refine d0c (id:=6) [28,29,30,31,32,33,34,35] [0,1,0,7,0,16,63,127,255] [] mixed (by kernel_rfl) (by simp only [go_sem]) fun zK zhK=>?_;simp only [go_sem,Ak,W3,Int.toNat_one,F0];(repeat' (first|apply And.intro|intro _)))
  |refine Ck ?_
  |(refine zhZ _ _ ?_;simp only [go_sem,Ak,W3,Int.toNat_one,F0];(all_goals (rw [hs0,hs1,hs2])))
  |((all_goals refine Dv (fun k=>k) _ [] (fun _ _=>rfl) (by first|rfl|(simp only [go_sem,Ak,W3,Int.toNat_one,F0]<;>rfl)) ((p1n _ (by first|(simp [List.length_take,List.length_drop,hh];done)|(simp [List.length_take,List.length_drop,hh];omega)) _).plain fun _ _ h=>h) ?_ ?_);(all_goals try (refine And.intro ?_ (And.intro ?_ (And.intro ?_ ?_))<;>first|rfl|simp only [go_sem]));(all_goals simp only [go_sem,Ak,W3,Int.toNat_one,F0]);(all_goals repeat' (first|apply And.intro|intro _)))
  |((all_goals (refine Dv (fun k=>k) _ [] (fun _ _=>rfl) ?_ ((q0s ⟨a0,a1,a2⟩ ⟨(lev (held.take 8))|||Qz 1 (8*k),(lev ((held.drop 8).take 8)),0⟩).plain fun _ _ h=>h) ?_ ?_;focus (first|rfl|(simp only [go_sem,Ak,W3,Int.toNat_one,F0]<;>rfl))));(all_goals try (refine And.intro ?_ (And.intro ?_ (And.intro ?_ ?_))<;>first|rfl|simp only [go_sem]));(all_goals simp only [go_sem,Ak,W3,Int.toNat_one,F0]);(all_goals repeat' (first|apply And.intro|intro _)))
  |((all_goals refine Dv (fun k=>k) _ [] (fun _ _=>rfl) (by first|rfl|(simp only [go_sem,Ak,W3,Int.toNat_one,F0]<;>rfl)) ((e1t (T3.plus ⟨a0,a1,a2⟩ ⟨(lev (held.take 8))|||Qz 1 (8*k),(lev ((held.drop 8).take 8)),0⟩) r0 r1 (hab _ _ _ _ hlen hn) hr).plain fun _ _ h=>h) ?_ ?_);(all_goals try (refine And.intro ?_ (And.intro ?_ (And.intro ?_ ?_))<;>first|rfl|simp only [go_sem]));(all_goals simp only [go_sem,Ak,W3,Int.toNat_one,F0]);(all_goals repeat' (first|apply And.intro|intro _)))
  |refine Bq fun zN zM zhN zhM=>?_
  |(refine Bz ?_ ?_;focus (first|rfl|(simp [go_sem,Ak,W3,Int.toNat_one,F0];done)))
theorem t1i (r0 r1 p0 p1 a0 a1 a2:UInt64) (held:List UInt8) (hh:held.length=16) (ha:Oy a0 a1 a2<pP) (hr:r1.toNat<1152921504606846976) (k:Nat) (hk:k<16) (hz: ∀ j,k≤j→j<16→held.getD j 0=0) (h8:8≤k):
 Ct Tryd.prog 68 [.w (.agg (Ak r0 r1 p0 p1 a0 a1 a2 held (k:Int)))] (fun v m=>v=.w (.agg (Ak r0 r1 p0 p1 (sp0 (Pk a0 a1 a2 r0 r1 (held.take k))) (sp1 (Pk a0 a1 a2 r0 r1 (held.take k))) (sp2 (Pk a0 a1 a2 r0 r1 (held.take k))) (List.replicate 16 0) 0))):=by
 have hm: ∀ l:List UInt8,l.length=8→chunks 1 8 (List.map PL.u8 l)=Aw l:=fun l h=>Ew h
 have hm0:=hm (held.take 8) (by simp [hh])
 have hm1:=hm ((held.drop 8).take 8) (by simp [hh])
 have ha4:a2.toNat<4:=by have h0:=a0.toNat_lt;have h1:=a1.toNat_lt;simp only [Oy,pP] at ha;omega
 have hab: ∀ x y z:UInt64,∀ l:List UInt8,l.length≤16→Oy x y z=leN l+256 ^ l.length→(T3.plus ⟨a0,a1,a2⟩ ⟨x,y,z⟩).val<2722258935367507707706996859454145691648:=fun x y z l hl hn=>by
  have hb:=v0g hl
  have ha3:Oy a0 a1 a2<1361129467683753853853498429727072845819:=ha
  rw [Vy _ _ (by show Oy a0 a1 a2+Oy x y z<_;rw [hn];omega)]
  show Oy a0 a1 a2+Oy x y z<_
  rw [hn];omega
 have hlen:(held.take k).length≤16:=by rw [List.length_take];omega
 have hc1:((k:Nat):Int)<16:=by omega
 have hq0:¬(8:Int)=0:=by omega
 have hn:=(s0v hh hk hz).2 h8
 have hq1:((k:Nat):Int).tdiv 8=1:=by rw [show ((k:Nat):Int).tdiv 8=((k/8:Nat):Int) from rfl];omega
 have hq2:((k:Nat):Int).tmod 8=((k-8:Nat):Int):=by rw [show ((k:Nat):Int).tmod 8=((k%8:Nat):Int) from rfl];omega
 have hq3:Go.RowKit.wrap64 (8*((k-8:Nat):Int))=((8*(k-8):Nat):Int):=Kv (by omega) (by omega)
 have hq4:(0:Int)≤((8*(k-8):Nat):Int):=by omega
 obtain ⟨hs0,hs1,hs2⟩:=v0z (x:=(lev (held.take 8))) (y:=(lev ((held.drop 8).take 8))|||Qz 1 (8*(k-8))) (z:=0) hn hlen ha hr
 have F0:=And.intro hh<|And.intro hm0<|And.intro hm1<|And.intro hs0<|And.intro hs1<|And.intro hs2<|And.intro hc1<|And.intro hq0<|And.intro hq1<|And.intro hq2<|And.intro hq3<|hq4
 refine Ct.k Tryd.func68 rfl Tryd.ntmps68 (congrArg Array.toList Tryd.results68) (by simp) fun w0 ro=>?_
 refine Dx fun zZ zhZ=>?_
 iterate 27 first
  |(refine Dz fun zK zhK=>?_;simp only [go_sem,Ak,W3,Int.toNat_one,F0];(repeat' (first|apply And.intro|intro _)))
  |refine zhK _ ?_
  |refine zhK _ _ trivial ?_
  |(refine d0c (id:=2) [7,8,9,10,11,4] [0,1,0,7,15,0,63] [] mixed (by kernel_rfl) (by simp only [go_sem]) fun zK zhK=>?_;simp only [go_sem,Ak,W3,Int.toNat_one,F0];(repeat' (first|apply And.intro|intro _)))
  |(refine Kk (id:=5) [16,17,18,19,20,21,22,23,24,25,26,27] [0,1,3,7,15,0,32,96,224,480,1023,2047,4095] [] mixed (by kernel_rfl) (by simp only [go_sem]) fun zK zhK=>?_;simp only [go_sem,Ak,W3,Int.toNat_one,F0];(repeat' (first|apply And.intro|intro _)))
  |(refine zhN _ ?_;clear zhN zhM)
  |(refine d0c (id:=6) [28,29,30,31,32,33,34,35] [0,1,0,7,0,16,63,127,255] [] mixed (by kernel_rfl) (by simp only [go_sem]) fun zK zhK=>?_;simp only [go_sem,Ak,W3,Int.toNat_one,F0];(repeat' (first|apply And.intro|intro _)))
  |refine Ck ?_
  |(refine zhZ _ _ ?_;simp only [go_sem,Ak,W3,Int.toNat_one,F0];(all_goals (rw [hs0,hs1,hs2])))
  |((all_goals refine Dv (fun k=>k) _ [] (fun _ _=>rfl) (by first|rfl|(simp only [go_sem,Ak,W3,Int.toNat_one,F0]<;>rfl)) ((p1n _ (by first|(simp [List.length_take,List.length_drop,hh];done)|(simp [List.length_take,List.length_drop,hh];omega)) _).plain fun _ _ h=>h) ?_ ?_);(all_goals try (refine And.intro ?_ (And.intro ?_ (And.intro ?_ ?_))<;>first|rfl|simp only [go_sem]));(all_goals simp only [go_sem,Ak,W3,Int.toNat_one,F0]);(all_goals repeat' (first|apply And.intro|intro _)))
  |((all_goals (refine Dv (fun k=>k) _ [] (fun _ _=>rfl) ?_ ((q0s ⟨a0,a1,a2⟩ ⟨(lev (held.take 8)),(lev ((held.drop 8).take 8))|||Qz 1 (8*(k-8)),0⟩).plain fun _ _ h=>h) ?_ ?_;focus (first|rfl|(simp only [go_sem,Ak,W3,Int.toNat_one,F0]<;>rfl))));(all_goals try (refine And.intro ?_ (And.intro ?_ (And.intro ?_ ?_))<;>first|rfl|simp only [go_sem]));(all_goals simp only [go_sem,Ak,W3,Int.toNat_one,F0]);(all_goals repeat' (first|apply And.intro|intro _)))
  |((all_goals refine Dv (fun k=>k) _ [] (fun _ _=>rfl) (by first|rfl|(simp only [go_sem,Ak,W3,Int.toNat_one,F0]<;>rfl)) ((e1t (T3.plus ⟨a0,a1,a2⟩ ⟨(lev (held.take 8)),(lev ((held.drop 8).take 8))|||Qz 1 (8*(k-8)),0⟩) r0 r1 (hab _ _ _ _ hlen hn) hr).plain fun _ _ h=>h) ?_ ?_);(all_goals try (refine And.intro ?_ (And.intro ?_ (And.intro ?_ ?_))<;>first|rfl|simp only [go_sem]));(all_goals simp only [go_sem,Ak,W3,Int.toNat_one,F0]);(all_goals repeat' (first|apply And.intro|intro _)))
  |refine Bq fun zN zM zhN zhM=>?_
  |(refine Bz ?_ ?_;focus (first|rfl|(simp [go_sem,Ak,W3,Int.toNat_one,F0];done)))
end Go.Sy
namespace Go.Sy
open Go.Proofs
attribute [local irreducible] Fz HT Cw Oj onC onE onO onG goV goA goS Qv Ey
theorem v1q (n:Nat):leN (1::List.replicate n 0)=1:=by simp only [leN,h0i];rfl
theorem x1x {l b:List UInt8} {y:Nat} (h:l++1::List.replicate y 0=b) (hl:b.length=24):Oy (lev (b.take 8)) (lev ((b.drop 8).take 8)) (lev ((b.drop 16).take 8))=leN l+256 ^ l.length:=by
 rw [n1u hl,←h,a0d,v1q,Nat.mul_one]
theorem a1d (r0 r1 p0 p1 a0 a1 a2:UInt64) (held:List UInt8) (hh:held.length=16) (n:Int) (ha:a2.toNat<4) (l:List UInt8) (hl:l.length≤16):
 Ct Tryd.prog 72 [.w (.agg (Ak r0 r1 p0 p1 a0 a1 a2 held n)),.w (.one (.pl (.str l)))] (fun v m=>v=.w (.agg (Ak r0 r1 p0 p1 (sp0 (Pk a0 a1 a2 r0 r1 l)) (sp1 (Pk a0 a1 a2 r0 r1 l)) (sp2 (Pk a0 a1 a2 r0 r1 l)) (List.replicate 16 0) 0))):=by
 have hm1:l.length+1≤9223372036854775807:=by omega
 refine Ct.k Tryd.func72 rfl Tryd.ntmps72 (congrArg Array.toList Tryd.results72) (by simp) fun w0 ro=>?_
 refine Dx fun zZ zhZ=>?_
 iterate 6 first
  |(refine Dz fun zK zhK=>?_;simp only [go_sem,Ak,W3,P5.ls,hh,hm1,Int.toNat_one];(repeat' (first|apply And.intro|intro _)))
  |refine zhK _ ?_
  |refine Cx fun zB zbn zbx zbr zbi=>?_
  |refine Bq fun zN zM zhN zhM=>?_
 refine Fq [0,1,9,10] ?_
 simp only [Gz,Gj,Fj,List.contains_cons,List.contains_nil,Nat.reduceBEq,beq_self_eq_true,Bool.or_false,Bool.or_true,Bool.true_or,Bool.false_or,Bool.false_eq_true,reduceIte]
 refine Ik (fun y=>[(5,.w (.one (.pl (.str (l++1::List.replicate y.1 0)))))]) (fun _=>[]) (fun y=>23-l.length-y.1) (⟨0,Nat.zero_le _⟩:{y:Nat//y≤23-l.length}) ?_ ?_ ?_
 · (simp only [go_sem,leX,List.cons_append,List.nil_append,List.replicate_zero];try simp)
 · (simp only [go_sem,leX,List.cons_append,List.nil_append];try simp)
 intro yy zN zM zhN zhM
 simp only [List.cons_append,List.nil_append]
 obtain ⟨y,hy⟩:=yy
 obtain ⟨b,hb⟩: ∃ b,l++1::List.replicate y 0=b:=⟨_,rfl⟩
 have hbl:b.length=l.length+1+y:=by rw [←hb];simp;omega
 simp only [hb]
 rcases Nat.lt_or_ge y (23-l.length) with hlt|hge
 · have hcq:((b.length:Nat):Int)<24:=by omega
   have hml:b.length+1≤9223372036854775807:=by omega
   have hnx:b++[0]=l++1::List.replicate (y+1) 0:=by rw [←hb,List.append_assoc,List.cons_append,←List.replicate_succ']
   refine Bq fun zN zM zhN zhM=>?_
   refine Dz fun zK zhK=>?_
   simp only [go_sem,Ak,W3,P5.ls,hh,hm1,Int.toNat_one,hcq,hml]
   repeat' (first|apply And.intro|intro _)
   refine zhK _ ?_
   (refine Bz ?_ ?_;focus (first|rfl|(simp [go_sem,Ak,W3,P5.ls,hh,hm1,Int.toNat_one,hcq,hml];done)))
   refine Cq ?_
   refine zhN _ ?_;clear zhN zhM
   refine Cx fun zB zbn zbx zbr zbi=>?_
   refine Cv fun zK zhK=>?_
   simp only [go_sem,Ak,W3,P5.ls,hh,hm1,Int.toNat_one,hcq,hml]
   repeat' (first|apply And.intro|intro _)
   refine zhK _ ?_
   refine zbn _ ?_;clear zbn zbx zbr zbi
   refine zhN ⟨y+1,hlt⟩ _ ?_ ?_ ?_
   · (show 23-l.length-(y+1)<23-l.length-y;omega)
   · (simp only [hnx,go_sem,leX,List.cons_append,List.nil_append];try simp [hnx])
   · (simp only [go_sem,leX,List.cons_append,List.nil_append];try simp)
 · have hbl:b.length=24:=by omega
   have hn:=x1x hb hbl
   have hcq:¬((24:Nat):Int)<24:=by omega
   obtain ⟨ps0,ps1,ps2⟩:=n1r (r0:=r0) (r1:=r1) (a0:=a0) (a1:=a1) hn hl ha
   iterate 135 first
    |(refine Dj (x:=.seq (.region 7 _ _) _) [8,31,32,33,34,35,36,37,38,39,40,41] ?_;simp only [go_sem,St.forget,fgt];refine Hw fun zN zM zhN zhM=>?_)
    |refine Hw fun zN zM zhN zhM=>?_
    |refine zhK _ ?_
    |(refine zhN _ ?_;clear zhN zhM)
    |(refine Dz fun zK zhK=>?_;simp only [go_sem,Ak,W3,P5.ls,hh,hm1,Int.toNat_one,hcq,hbl];(repeat' (first|apply And.intro|intro _)))
    |refine zhK _ _ trivial ?_
    |refine Cx fun zB zbn zbx zbr zbi=>?_
    |refine Cq ?_
    |(refine Kk (id:=9) [33,34,35,36,37,38,39,40] [0,1,3,0,8,24,63,127,255] [] mixed (by kernel_rfl) (by simp only [go_sem]) fun zK zhK=>?_;simp only [go_sem,Ak,W3,P5.ls,hh,hm1,Int.toNat_one,hcq,hbl];(repeat' (first|apply And.intro|intro _)))
    |(refine zbn _ ?_;clear zbn zbx zbr zbi)
    |(refine Cv fun zK zhK=>?_;simp only [go_sem,Ak,W3,P5.ls,hh,hm1,Int.toNat_one,hcq,hbl];(repeat' (first|apply And.intro|intro _)))
    |(refine zhM _ _ ?_;clear zhN zhM)
    |refine Fx ?_
    |(refine zbx _ ?_;clear zbn zbx zbr zbi)
    |(refine d0c (id:=4) [16,17,18,19,20,21,22,23,24,25,26,6] [0,1,3,0,8,31,0,64,255,511,1023,0,4095] [] mixed (by kernel_rfl) (by simp only [go_sem]) fun zK zhK=>?_;simp only [go_sem,Ak,W3,P5.ls,hh,hm1,Int.toNat_one,hcq,hbl];(repeat' (first|apply And.intro|intro _)))
    |refine Fw (x:=.seq (.region 7 _ _) _) 6 ?_
    |(refine d0c (id:=11) [42,43,44,45,46,47,48,49,50,51,52,53,54] [0,1,0,4,12,0,32,96,252,511,1023,2047,4095,8191] [] mixed (by kernel_rfl) (by simp only [go_sem]) fun zK zhK=>?_;simp only [go_sem,Ak,W3,P5.ls,hh,hm1,Int.toNat_one,hcq,hbl];(repeat' (first|apply And.intro|intro _)))
    |refine Ck ?_
    |(refine zhZ _ _ ?_;simp only [go_sem,Ak,W3,P5.ls,hh,hm1,Int.toNat_one,hcq,hbl];(all_goals (rw [ps0,ps1,ps2])))
    |((all_goals refine Dv (fun k=>k) _ [] (fun _ _=>rfl) (by first|rfl|(simp only [go_sem,Ak,W3,P5.ls,hh,hm1,Int.toNat_one,hcq,hbl]<;>rfl)) ((m0l _ (by first|(simp [List.length_take,List.length_drop];done)|(simp [List.length_take,List.length_drop];omega))).plain fun _ _ h=>h) ?_ ?_);(all_goals try (refine And.intro ?_ (And.intro ?_ (And.intro ?_ ?_))<;>first|rfl|simp only [go_sem]));(all_goals simp only [go_sem,Ak,W3,P5.ls,hh,hm1,Int.toNat_one,hcq,hbl]);(all_goals repeat' (first|apply And.intro|intro _)))
    |((all_goals (refine Dv (fun k=>k) _ [] (fun _ _=>rfl) ?_ ((e0v (lev (b.take 8)) (lev ((b.drop 8).take 8)) (lev ((b.drop 16).take 8))).plain fun _ _ h=>h) ?_ ?_;focus (first|rfl|(simp only [go_sem,Ak,W3,P5.ls,hh,hm1,Int.toNat_one,hcq,hbl]<;>rfl))));(all_goals try (refine And.intro ?_ (And.intro ?_ (And.intro ?_ ?_))<;>first|rfl|simp only [go_sem]));(all_goals simp only [go_sem,Ak,W3,P5.ls,hh,hm1,Int.toNat_one,hcq,hbl]);(all_goals repeat' (first|apply And.intro|intro _)))
    |((all_goals (refine Cy (fun k=>k) (fun _ _=>rfl) ?_ ((e0v a0 a1 a2).plain fun _ _ h=>h) ?_;focus (first|rfl|(simp only [go_sem,Ak,W3,P5.ls,hh,hm1,Int.toNat_one,hcq,hbl]<;>rfl))));(all_goals (rintro v m ⟨hR,hm⟩;subst hR;subst hm));(all_goals refine And.intro (by first|rfl|simp only [go_sem,Ak,W3,P5.ls,hh,hm1,Int.toNat_one,hcq,hbl]) (And.intro (by first|rfl|simp only [go_sem,Ak,W3,P5.ls,hh,hm1,Int.toNat_one,hcq,hbl]) ?_));(all_goals simp only [go_sem,Ak,W3,P5.ls,hh,hm1,Int.toNat_one,hcq,hbl]);(all_goals repeat' (first|apply And.intro|intro _)))
    |((all_goals (refine Dv (fun k=>k) _ [] (fun _ _=>rfl) ?_ ((b0v ((Gv a0 a1 a2).addP (Gv (lev (b.take 8)) (lev ((b.drop 8).take 8)) (lev ((b.drop 16).take 8))))).plain fun _ _ h=>h) ?_ ?_;focus (first|rfl|(simp only [go_sem,Ak,W3,P5.ls,hh,hm1,Int.toNat_one,hcq,hbl]<;>rfl))));(all_goals try (refine And.intro ?_ (And.intro ?_ (And.intro ?_ ?_))<;>first|rfl|simp only [go_sem]));(all_goals simp only [go_sem,Ak,W3,P5.ls,hh,hm1,Int.toNat_one,hcq,hbl]);(all_goals repeat' (first|apply And.intro|intro _)))
    |((all_goals (refine Dv (fun k=>k) _ [] (fun _ _=>rfl) ?_ ((e0v r0 r1 0).plain fun _ _ h=>h) ?_ ?_;focus (first|rfl|(simp only [go_sem,Ak,W3,P5.ls,hh,hm1,Int.toNat_one,hcq,hbl]<;>rfl))));(all_goals try (refine And.intro ?_ (And.intro ?_ (And.intro ?_ ?_))<;>first|rfl|simp only [go_sem]));(all_goals simp only [go_sem,Ak,W3,P5.ls,hh,hm1,Int.toNat_one,hcq,hbl]);(all_goals repeat' (first|apply And.intro|intro _)))
    |((all_goals (refine Dv (fun k=>k) _ [] (fun _ _=>rfl) ?_ ((u1d ((Gv a0 a1 a2).addP (Gv (lev (b.take 8)) (lev ((b.drop 8).take 8)) (lev ((b.drop 16).take 8)))).carried (Gv r0 r1 0)).plain fun _ _ h=>h) ?_ ?_;focus (first|rfl|(simp only [go_sem,Ak,W3,P5.ls,hh,hm1,Int.toNat_one,hcq,hbl]<;>rfl))));(all_goals try (refine And.intro ?_ (And.intro ?_ (And.intro ?_ ?_))<;>first|rfl|simp only [go_sem]));(all_goals simp only [go_sem,Ak,W3,P5.ls,hh,hm1,Int.toNat_one,hcq,hbl]);(all_goals repeat' (first|apply And.intro|intro _)))
    |((all_goals (refine Dv (fun k=>k) _ [] (fun _ _=>rfl) ?_ ((k0y (s0d ((Gv a0 a1 a2).addP (Gv (lev (b.take 8)) (lev ((b.drop 8).take 8)) (lev ((b.drop 16).take 8)))).carried (Gv r0 r1 0)).carried).plain fun _ _ h=>h) ?_ ?_;focus (first|rfl|(simp only [go_sem,Ak,W3,P5.ls,hh,hm1,Int.toNat_one,hcq,hbl]<;>rfl))));(all_goals try (refine And.intro ?_ (And.intro ?_ (And.intro ?_ ?_))<;>first|rfl|simp only [go_sem]));(all_goals simp only [go_sem,Ak,W3,P5.ls,hh,hm1,Int.toNat_one,hcq,hbl]);(all_goals repeat' (first|apply And.intro|intro _)))
    |refine Bq fun zN zM zhN zhM=>?_
    |(refine Bz ?_ ?_;focus (first|rfl|(simp [go_sem,Ak,W3,P5.ls,hh,hm1,Int.toNat_one,hcq,hbl];done)))
    |(refine Bj ?_ ?_;focus (first|rfl|(simp [go_sem,Ak,W3,P5.ls,hh,hm1,Int.toNat_one,hcq,hbl];done)))
end Go.Sy
