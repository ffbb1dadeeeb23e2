/- Walks and what they compute. CONDITIONS: those that each theorem names. -/
import Derived.Test.YtkfcbhgkpknagaaGreatDoorvE3
import Derived.Test.YtkfcbhgkpknagaaGreatDoorvS14
set_option linter.unusedVariables false
set_option linter.unusedSimpArgs false
set_option maxHeartbeats 3200000
set_option maxRecDepth 100000
namespace Go.Sy
open Go.Proofs
attribute [local irreducible] Bw HT Aj Jk onC onE onO onG goV goA goS Lx Bz
def Cy (r0 r1 p0 p1 a0 a1 a2:UInt64) (held:List UInt8) (n:Int):List L:=.pl (.u64 r0)::.pl (.u64 r1)::.pl (.u64 p0)::.pl (.u64 p1)::.pl (.u64 a0)::.pl (.u64 a1)::.pl (.u64 a2)::(Az held++[.pl (.i n)])
def i2n (k:List UInt8):List L:=Cy (lev (k.take 8)&&&1152921487695413247) (lev ((k.drop 8).take 8)&&&1152921487695413244) (lev ((k.drop 16).take 8)) (lev ((k.drop 24).take 8)) 0 0 0 (List.replicate 16 0) 0
theorem j1b (key:List UInt8) (hk:key.length=32):
 Ct Tryz.prog 89 [.w (.agg (Az key))] (fun v m=>v=.w (.agg (i2n key))):=by
 have hm: ∀ l:List UInt8,l.length=8→chunks 1 8 (List.map PL.u8 l)=Av l:=fun l h=>Gj h
 have hm0:=hm (key.take 8) (by simp [hk])
 have hm1:=hm ((key.drop 8).take 8) (by simp [hk])
 have hm2:=hm ((key.drop 16).take 8) (by simp [hk])
 have hm3:=hm ((key.drop 24).take 8) (by simp [hk])
 have F0:=yA hk<|yA Cy.eq_1<|yA hm0<|yA hm1<|yA hm2<|hm3
 refine Ct.go Tryz.func89 rfl Tryz.ntmps89 Tryz.results89 fun w0 ro zZ zhY=>?_
 have zS:ZS 1:=⟨⟩
 refine (fun zX=>goW) ?_
 refine ⟨?_⟩;clear zS
 iterate 6 first
  |(refine w0i (id:=1) [3,4,5,6,7,8,9,10,11,12,13,14,15] [0,1,3,0,11,27,63,0,155,0,923,1947,4095,8191] [] mixed (by kernel_rfl) (by simp only [go_sem]) fun zK zhK=>?_;simp only [go_sem,F0];(repeat' (first|apply yA|intro _)))
  |refine zhK _ _ trivial ?_
  |((all_goals refine Ck (fun k=>k) _ [] (fun _ _=>rfl) (by first|rfl|(simp only [go_sem,F0]<;>rfl)) ((y1a _ (by first|(simp [yH,yU,hk];done)|(simp [yH,yU,hk];omega)) _).plain fun _ _ h=>h) ?_ ?_);(all_goals try (refine yA ?_ (yA ?_ (yA ?_ ?_))<;>first|rfl|simp only [go_sem]));(all_goals simp only [go_sem,F0]);(all_goals repeat' (first|apply yA|intro _)))
 refine (fun zX=>goW) ?_
 refine zhY _ _ ?_
 simp only [go_sem,F0]
 all_goals (simp [i2n,Cy])
end Go.Sy
namespace Go.Sy
open Go.Proofs
attribute [local irreducible] Bw HT Aj Jk onC onE onO onG goV goA goS Lx Bz
theorem b1y (k0 k1 k2 k3 k4 k5 k6 k7 k8 k9 k10 k11 k12 k13 k14 k15 k16 k17 k18 k19 k20 k21 k22 k23 k24 k25 k26 k27 k28 k29 k30 k31:UInt8):
 Ct Tryz.prog 100 [.w (.agg [.pl (.u8 k0),.pl (.u8 k1),.pl (.u8 k2),.pl (.u8 k3),.pl (.u8 k4),.pl (.u8 k5),.pl (.u8 k6),.pl (.u8 k7),.pl (.u8 k8),.pl (.u8 k9),.pl (.u8 k10),.pl (.u8 k11),.pl (.u8 k12),.pl (.u8 k13),.pl (.u8 k14),.pl (.u8 k15),.pl (.u8 k16),.pl (.u8 k17),.pl (.u8 k18),.pl (.u8 k19),.pl (.u8 k20),.pl (.u8 k21),.pl (.u8 k22),.pl (.u8 k23),.pl (.u8 k24),.pl (.u8 k25),.pl (.u8 k26),.pl (.u8 k27),.pl (.u8 k28),.pl (.u8 k29),.pl (.u8 k30),.pl (.u8 k31)])] (fun v m=>v=.w (.agg (Cy (lev [k0,k1,k2,k3&&&15,k4&&&252,k5,k6,k7&&&15]) (lev [k8&&&252,k9,k10,k11&&&15,k12&&&252,k13,k14,k15&&&15]) (lev [k16,k17,k18,k19,k20,k21,k22,k23]) (lev [k24,k25,k26,k27,k28,k29,k30,k31]) 0 0 0 (List.replicate 16 0) 0))):=by
 have F0:=Cy.eq_1
 have zF:FG [7,8,9,10,11,12,13,14,15,16,17,18,19,20,21,22,23,24,25,26,27,28,29,30,31,32,33,34,35,36,37,38,39,40,41,42]:=trivial
 refine Ct.go Tryz.func100 rfl Tryz.ntmps100 Tryz.results100 fun w0 ro zZ zhY=>?_
 have zU:=yA ur<|yA ur<|trivial
 have zS:ZS 11:=⟨⟩
 refine (fun zX=>goW) ?_
 refine ⟨?_⟩;clear zS
 iterate 6 first
  |(refine w0i (id:=11) [28,29,30,31,32,33,34,35,36,37,38,39,40,41,42] [0,1,3,0,8,31,63,0,128,447,0,1024,4031,8127,16383,32767] [] mixed (by kernel_rfl) (by simp only [go_sem]) fun zK zhK=>?_;simp only [go_sem,F0];(repeat' (first|apply yA|intro _)))
  |refine zhK _ _ trivial ?_
  |((all_goals refine Ck (fun k=>k) _ [] (fun _ _=>rfl) (by first|rfl|(simp only [go_sem,F0]<;>rfl)) ((p0i _ (by simp)).plain fun _ _ h=>h) ?_ ?_);(all_goals try (refine yA ?_ (yA ?_ (yA ?_ ?_))<;>first|rfl|simp only [go_sem]));(all_goals simp only [go_sem,F0]);(all_goals repeat' (first|apply yA|intro _)))
 have zU:=trivial
 refine (fun zX=>goW) ?_
 refine zhY _ _ ?_
 simp only [go_sem,F0]
 all_goals (first|rfl|simp [Cy])
theorem n2q (b0 b1 b2 b3 b4 b5 b6 b7:UInt8):lev [b0,b1,b2,b3&&&15,b4&&&252,b5,b6,b7&&&15]=lev [b0,b1,b2,b3,b4,b5,b6,b7]&&&1152921487695413247:=by
 apply xS.mp
 rw [UInt64.toNat_and,Sq (by simp),Sq (by simp)]
 simp only [leN,UInt8.toNat_and]
 show (b0.toNat+256*(b1.toNat+256*(b2.toNat+256*((b3.toNat&&&15)+256*((b4.toNat&&&252)+256*(b5.toNat+256*(b6.toNat+256*((b7.toNat&&&15)+256*0))))))))=(b0.toNat+256*(b1.toNat+256*(b2.toNat+256*(b3.toNat+256*(b4.toNat+256*(b5.toNat+256*(b6.toNat+256*(b7.toNat+256*0))))))))&&&(255+256*(255+256*(255+256*(15+256*(252+256*(255+256*(255+256*(15+256*0))))))))
 have h0:=b0.toNat_lt
 have g0:b0.toNat&&&255=b0.toNat:=by rw [show (255:Nat)=2 ^ 8-1 from rfl,xI,yN h0]
 have h1:=b1.toNat_lt
 have g1:b1.toNat&&&255=b1.toNat:=by rw [show (255:Nat)=2 ^ 8-1 from rfl,xI,yN h1]
 have h2:=b2.toNat_lt
 have g2:b2.toNat&&&255=b2.toNat:=by rw [show (255:Nat)=2 ^ 8-1 from rfl,xI,yN h2]
 have h3:=b3.toNat_lt
 have g3:b3.toNat&&&255=b3.toNat:=by rw [show (255:Nat)=2 ^ 8-1 from rfl,xI,yN h3]
 have h4:=b4.toNat_lt
 have g4:b4.toNat&&&255=b4.toNat:=by rw [show (255:Nat)=2 ^ 8-1 from rfl,xI,yN h4]
 have h5:=b5.toNat_lt
 have g5:b5.toNat&&&255=b5.toNat:=by rw [show (255:Nat)=2 ^ 8-1 from rfl,xI,yN h5]
 have h6:=b6.toNat_lt
 have g6:b6.toNat&&&255=b6.toNat:=by rw [show (255:Nat)=2 ^ 8-1 from rfl,xI,yN h6]
 have h7:=b7.toNat_lt
 have g7:b7.toNat&&&255=b7.toNat:=by rw [show (255:Nat)=2 ^ 8-1 from rfl,xI,yN h7]
 rw [Ow (a:=b0.toNat) h0 (by decide),Ow (a:=b1.toNat) h1 (by decide),Ow (a:=b2.toNat) h2 (by decide),Ow (a:=b3.toNat) h3 (by decide),Ow (a:=b4.toNat) h4 (by decide),Ow (a:=b5.toNat) h5 (by decide),Ow (a:=b6.toNat) h6 (by decide),Ow (a:=b7.toNat) h7 (by decide),Nat.zero_and,g0,g1,g2,g5,g6]
theorem n2p (b0 b1 b2 b3 b4 b5 b6 b7:UInt8):lev [b0&&&252,b1,b2,b3&&&15,b4&&&252,b5,b6,b7&&&15]=lev [b0,b1,b2,b3,b4,b5,b6,b7]&&&1152921487695413244:=by
 apply xS.mp
 rw [UInt64.toNat_and,Sq (by simp),Sq (by simp)]
 simp only [leN,UInt8.toNat_and]
 show ((b0.toNat&&&252)+256*(b1.toNat+256*(b2.toNat+256*((b3.toNat&&&15)+256*((b4.toNat&&&252)+256*(b5.toNat+256*(b6.toNat+256*((b7.toNat&&&15)+256*0))))))))=(b0.toNat+256*(b1.toNat+256*(b2.toNat+256*(b3.toNat+256*(b4.toNat+256*(b5.toNat+256*(b6.toNat+256*(b7.toNat+256*0))))))))&&&(252+256*(255+256*(255+256*(15+256*(252+256*(255+256*(255+256*(15+256*0))))))))
 have h0:=b0.toNat_lt
 have g0:b0.toNat&&&255=b0.toNat:=by rw [show (255:Nat)=2 ^ 8-1 from rfl,xI,yN h0]
 have h1:=b1.toNat_lt
 have g1:b1.toNat&&&255=b1.toNat:=by rw [show (255:Nat)=2 ^ 8-1 from rfl,xI,yN h1]
 have h2:=b2.toNat_lt
 have g2:b2.toNat&&&255=b2.toNat:=by rw [show (255:Nat)=2 ^ 8-1 from rfl,xI,yN h2]
 have h3:=b3.toNat_lt
 have g3:b3.toNat&&&255=b3.toNat:=by rw [show (255:Nat)=2 ^ 8-1 from rfl,xI,yN h3]
 have h4:=b4.toNat_lt
 have g4:b4.toNat&&&255=b4.toNat:=by rw [show (255:Nat)=2 ^ 8-1 from rfl,xI,yN h4]
 have h5:=b5.toNat_lt
 have g5:b5.toNat&&&255=b5.toNat:=by rw [show (255:Nat)=2 ^ 8-1 from rfl,xI,yN h5]
 have h6:=b6.toNat_lt
 have g6:b6.toNat&&&255=b6.toNat:=by rw [show (255:Nat)=2 ^ 8-1 from rfl,xI,yN h6]
 have h7:=b7.toNat_lt
 have g7:b7.toNat&&&255=b7.toNat:=by rw [show (255:Nat)=2 ^ 8-1 from rfl,xI,yN h7]
 rw [Ow (a:=b0.toNat) h0 (by decide),Ow (a:=b1.toNat) h1 (by decide),Ow (a:=b2.toNat) h2 (by decide),Ow (a:=b3.toNat) h3 (by decide),Ow (a:=b4.toNat) h4 (by decide),Ow (a:=b5.toNat) h5 (by decide),Ow (a:=b6.toNat) h6 (by decide),Ow (a:=b7.toNat) h7 (by decide),Nat.zero_and,g1,g2,g5,g6]
theorem s0r (key:List UInt8) (hk:key.length=32):Ct Tryz.prog 100 [.w (.agg (Az key))] (fun v m=>v=.w (.agg (i2n key))):=by
 match key,hk with
 | [k0,k1,k2,k3,k4,k5,k6,k7,k8,k9,k10,k11,k12,k13,k14,k15,k16,k17,k18,k19,k20,k21,k22,k23,k24,k25,k26,k27,k28,k29,k30,k31],_=>
  have h:=b1y k0 k1 k2 k3 k4 k5 k6 k7 k8 k9 k10 k11 k12 k13 k14 k15 k16 k17 k18 k19 k20 k21 k22 k23 k24 k25 k26 k27 k28 k29 k30 k31
  rw [n2q,n2p] at h
  exact h
end Go.Sy
namespace Go.Sy
open Go.Proofs
attribute [local irreducible] Bw HT Aj Jk onC onE onO onG goV goA goS Lx Bz
structure PolyOk (r0 r1 a0 a1 a2:UInt64) (held:List UInt8) (n:Int):Prop where
 f0:r0&&&~~~1152921487695413247=0
 f1:r1&&&~~~1152921487695413244=0
 f2:a2.toNat<4
 acc:Nj a0 a1 a2<pP
 lo:0≤n
 hi:n≤15
 rest: ∀ j,n.toNat≤j→j<16→held.getD j 0=0
noncomputable def Jj (r0 r1 a0 a1 a2:UInt64) (held:List UInt8) (n:Int):Int:=if Classical.propDecidable (PolyOk r0 r1 a0 a1 a2 held n)|>.decide then 0 else 9
section
variable {r0 r1 a0 a1 a2:UInt64} {held:List UInt8} {n:Int}
theorem e0u (h:PolyOk r0 r1 a0 a1 a2 held n):Jj r0 r1 a0 a1 a2 held n=0:=by unfold Jj;simp [h]
theorem Sv (h:¬PolyOk r0 r1 a0 a1 a2 held n):Jj r0 r1 a0 a1 a2 held n=9:=by unfold Jj;simp [h]
theorem c0l {l:List UInt8} {o m i:Nat} (h:o+i<l.length) (hi:i<m):List.take 1 (List.drop i (List.take m (List.drop o l)))=[l.getD (o+i) 0]:=by
 have hl:i<(List.take m (List.drop o l)).length:=by rw [yH,yU];omega
 rw [xM hl,wE,wH]
 simp [List.getElem_take,List.getElem_drop,List.getD,yO h]
theorem Ky (x:UInt8):Az [x]=[.pl (.u8 x)]:=rfl
theorem o2x (h2:a2.toNat<4) (h:¬a2=3∨(a2=3∧¬a1=18446744073709551615)∨(a2=3∧a1=18446744073709551615∧¬18446744073709551611≤a0)):Nj a0 a1 a2<pP:=by
 have h0:=a0.toNat_lt;have h1:=a1.toNat_lt
 have e3:(a2=3)↔a2.toNat=3:=by rw [←xS];rfl
 have e1:(a1=18446744073709551615)↔a1.toNat=18446744073709551615:=by rw [←xS];rfl
 have e0:(18446744073709551611≤a0)↔18446744073709551611≤a0.toNat:=by rw [UInt64.le_iff_toNat_le];rfl
 rw [e3,e1,e0] at h
 simp only [Nj,pP];omega
theorem o2y (h2:a2=3) (h1:a1=18446744073709551615) (h0:18446744073709551611≤a0):¬Nj a0 a1 a2<pP:=by
 have e0:18446744073709551611≤a0.toNat:=UInt64.le_iff_toNat_le.mp h0
 subst h2;subst h1
 simp only [Nj,pP,show UInt64.toNat 18446744073709551615=18446744073709551615 from rfl,show UInt64.toNat 3=3 from rfl];omega
theorem o2z (h:¬(3:UInt64)<a2):a2.toNat<4:=by
 have:¬3<a2.toNat:=fun h2=>h (vE.mpr h2)
 omega
theorem r2p (h:(3:UInt64)<a2):¬a2.toNat<4:=by
 have:3<a2.toNat:=vE.mp h
 omega
end
theorem o1l (r0 r1 p0 p1 a0 a1 a2:UInt64) (held:List UInt8) (hh:held.length=16) (n:Int) (h0:¬r0&&&~~~1152921487695413247=0):
 Ct Tryz.prog 117 [.w (.agg (Cy r0 r1 p0 p1 a0 a1 a2 held n))] (fun v m=>v=.w (.one (.pl (.i (Jj r0 r1 a0 a1 a2 held n))))):=by
 have F0:=yA Cy.eq_1<|yA hh<|h0
 refine Ct.go Tryz.func117 rfl Tryz.ntmps117 Tryz.results117 fun w0 ro zZ zhY=>?_
 refine (fun zX=>goW) ?_
 refine zhY _ _ ?_
 simp only [go_sem,F0]
 all_goals (rw [Sv (fun h=>h0 h.f0)])
theorem o1k (r0 r1 p0 p1 a0 a1 a2:UInt64) (held:List UInt8) (hh:held.length=16) (n:Int) (h0:r0&&&~~~1152921487695413247=0) (h1:¬r1&&&~~~1152921487695413244=0):
 Ct Tryz.prog 117 [.w (.agg (Cy r0 r1 p0 p1 a0 a1 a2 held n))] (fun v m=>v=.w (.one (.pl (.i (Jj r0 r1 a0 a1 a2 held n))))):=by
 have F0:=yA Cy.eq_1<|yA hh<|yA h0<|h1
 refine Ct.go Tryz.func117 rfl Tryz.ntmps117 Tryz.results117 fun w0 ro zZ zhY=>?_
 refine (fun zX=>goW) ?_
 refine zhY _ _ ?_
 simp only [go_sem,F0]
 all_goals (rw [Sv (fun h=>h1 h.f1)])
theorem o1j (r0 r1 p0 p1 a0 a1 a2:UInt64) (held:List UInt8) (hh:held.length=16) (n:Int) (h0:r0&&&~~~1152921487695413247=0) (h1:r1&&&~~~1152921487695413244=0) (h2:3<a2):
 Ct Tryz.prog 117 [.w (.agg (Cy r0 r1 p0 p1 a0 a1 a2 held n))] (fun v m=>v=.w (.one (.pl (.i (Jj r0 r1 a0 a1 a2 held n))))):=by
 have F0:=yA Cy.eq_1<|yA hh<|yA h0<|yA h1<|h2
 refine Ct.go Tryz.func117 rfl Tryz.ntmps117 Tryz.results117 fun w0 ro zZ zhY=>?_
 refine (fun zX=>goW) ?_
 refine zhY _ _ ?_
 simp only [go_sem,F0]
 all_goals (rw [Sv (fun h=>r2p h2 h.f2)])
theorem o1i (r0 r1 p0 p1 a0 a1 a2:UInt64) (held:List UInt8) (hh:held.length=16) (n:Int) (h0:r0&&&~~~1152921487695413247=0) (h1:r1&&&~~~1152921487695413244=0) (h2:¬3<a2) (h3:a2=3) (h4:a1=18446744073709551615) (h5:18446744073709551611≤a0):
 Ct Tryz.prog 117 [.w (.agg (Cy r0 r1 p0 p1 a0 a1 a2 held n))] (fun v m=>v=.w (.one (.pl (.i (Jj r0 r1 a0 a1 a2 held n))))):=by
 have hq3:=eq_true h3
 have hq4:=eq_true h4
 have F0:=yA Cy.eq_1<|yA hh<|yA h0<|yA h1<|yA h2<|yA hq3<|yA hq4<|h5
 refine Ct.go Tryz.func117 rfl Tryz.ntmps117 Tryz.results117 fun w0 ro zZ zhY=>?_
 refine (fun zX=>goW) ?_
 refine zhY _ _ ?_
 simp only [go_sem,F0]
 all_goals (rw [Sv (fun h=>o2y h3 h4 h5 h.acc)])
theorem w1f (r0 r1 p0 p1 a0 a1 a2:UInt64) (held:List UInt8) (hh:held.length=16) (n:Int) (h0:r0&&&~~~1152921487695413247=0) (h1:r1&&&~~~1152921487695413244=0) (h2:¬3<a2) (h3:¬a2=3) (h6:n<0):
 Ct Tryz.prog 117 [.w (.agg (Cy r0 r1 p0 p1 a0 a1 a2 held n))] (fun v m=>v=.w (.one (.pl (.i (Jj r0 r1 a0 a1 a2 held n))))):=by
 have F0:=yA Cy.eq_1<|yA hh<|yA h0<|yA h1<|yA h2<|yA h3<|h6
 refine Ct.go Tryz.func117 rfl Tryz.ntmps117 Tryz.results117 fun w0 ro zZ zhY=>?_
 refine (fun zX=>goW) ?_
 refine zhY _ _ ?_
 simp only [go_sem,F0]
 all_goals (rw [Sv (fun h=>absurd h.lo (by omega))])
theorem w1g (r0 r1 p0 p1 a0 a1 a2:UInt64) (held:List UInt8) (hh:held.length=16) (n:Int) (h0:r0&&&~~~1152921487695413247=0) (h1:r1&&&~~~1152921487695413244=0) (h2:¬3<a2) (h3:¬a2=3) (h6:¬n<0) (h7:15<n):
 Ct Tryz.prog 117 [.w (.agg (Cy r0 r1 p0 p1 a0 a1 a2 held n))] (fun v m=>v=.w (.one (.pl (.i (Jj r0 r1 a0 a1 a2 held n))))):=by
 have F0:=yA Cy.eq_1<|yA hh<|yA h0<|yA h1<|yA h2<|yA h3<|yA h6<|h7
 refine Ct.go Tryz.func117 rfl Tryz.ntmps117 Tryz.results117 fun w0 ro zZ zhY=>?_
 refine (fun zX=>goW) ?_
 refine zhY _ _ ?_
 simp only [go_sem,F0]
 all_goals (rw [Sv (fun h=>absurd h.hi (by omega))])
theorem w1c (r0 r1 p0 p1 a0 a1 a2:UInt64) (held:List UInt8) (hh:held.length=16) (n:Int) (h0:r0&&&~~~1152921487695413247=0) (h1:r1&&&~~~1152921487695413244=0) (h2:¬3<a2) (h3:a2=3) (h4:¬a1=18446744073709551615) (h6:n<0):
 Ct Tryz.prog 117 [.w (.agg (Cy r0 r1 p0 p1 a0 a1 a2 held n))] (fun v m=>v=.w (.one (.pl (.i (Jj r0 r1 a0 a1 a2 held n))))):=by
 have hq3:=eq_true h3
 have F0:=yA Cy.eq_1<|yA hh<|yA h0<|yA h1<|yA h2<|yA hq3<|yA h4<|h6
 refine Ct.go Tryz.func117 rfl Tryz.ntmps117 Tryz.results117 fun w0 ro zZ zhY=>?_
 refine (fun zX=>goW) ?_
 refine zhY _ _ ?_
 simp only [go_sem,F0]
 all_goals (rw [Sv (fun h=>absurd h.lo (by omega))])
theorem w1d (r0 r1 p0 p1 a0 a1 a2:UInt64) (held:List UInt8) (hh:held.length=16) (n:Int) (h0:r0&&&~~~1152921487695413247=0) (h1:r1&&&~~~1152921487695413244=0) (h2:¬3<a2) (h3:a2=3) (h4:¬a1=18446744073709551615) (h6:¬n<0) (h7:15<n):
 Ct Tryz.prog 117 [.w (.agg (Cy r0 r1 p0 p1 a0 a1 a2 held n))] (fun v m=>v=.w (.one (.pl (.i (Jj r0 r1 a0 a1 a2 held n))))):=by
 have hq3:=eq_true h3
 have F0:=yA Cy.eq_1<|yA hh<|yA h0<|yA h1<|yA h2<|yA hq3<|yA h4<|yA h6<|h7
 refine Ct.go Tryz.func117 rfl Tryz.ntmps117 Tryz.results117 fun w0 ro zZ zhY=>?_
 refine (fun zX=>goW) ?_
 refine zhY _ _ ?_
 simp only [go_sem,F0]
 all_goals (rw [Sv (fun h=>absurd h.hi (by omega))])
theorem v1z (r0 r1 p0 p1 a0 a1 a2:UInt64) (held:List UInt8) (hh:held.length=16) (n:Int) (h0:r0&&&~~~1152921487695413247=0) (h1:r1&&&~~~1152921487695413244=0) (h2:¬3<a2) (h3:a2=3) (h4:a1=18446744073709551615) (h5:¬18446744073709551611≤a0) (h6:n<0):
 Ct Tryz.prog 117 [.w (.agg (Cy r0 r1 p0 p1 a0 a1 a2 held n))] (fun v m=>v=.w (.one (.pl (.i (Jj r0 r1 a0 a1 a2 held n))))):=by
 have hq3:=eq_true h3
 have hq4:=eq_true h4
 have F0:=yA Cy.eq_1<|yA hh<|yA h0<|yA h1<|yA h2<|yA hq3<|yA hq4<|yA h5<|h6
 refine Ct.go Tryz.func117 rfl Tryz.ntmps117 Tryz.results117 fun w0 ro zZ zhY=>?_
 refine (fun zX=>goW) ?_
 refine zhY _ _ ?_
 simp only [go_sem,F0]
 all_goals (rw [Sv (fun h=>absurd h.lo (by omega))])
theorem w1a (r0 r1 p0 p1 a0 a1 a2:UInt64) (held:List UInt8) (hh:held.length=16) (n:Int) (h0:r0&&&~~~1152921487695413247=0) (h1:r1&&&~~~1152921487695413244=0) (h2:¬3<a2) (h3:a2=3) (h4:a1=18446744073709551615) (h5:¬18446744073709551611≤a0) (h6:¬n<0) (h7:15<n):
 Ct Tryz.prog 117 [.w (.agg (Cy r0 r1 p0 p1 a0 a1 a2 held n))] (fun v m=>v=.w (.one (.pl (.i (Jj r0 r1 a0 a1 a2 held n))))):=by
 have hq3:=eq_true h3
 have hq4:=eq_true h4
 have F0:=yA Cy.eq_1<|yA hh<|yA h0<|yA h1<|yA h2<|yA hq3<|yA hq4<|yA h5<|yA h6<|h7
 refine Ct.go Tryz.func117 rfl Tryz.ntmps117 Tryz.results117 fun w0 ro zZ zhY=>?_
 refine (fun zX=>goW) ?_
 refine zhY _ _ ?_
 simp only [go_sem,F0]
 all_goals (rw [Sv (fun h=>absurd h.hi (by omega))])
theorem b1z (r0 r1 p0 p1 a0 a1 a2:UInt64) (held:List UInt8) (hh:held.length=16) (k:Nat) (h0:r0&&&~~~1152921487695413247=0) (h1:r1&&&~~~1152921487695413244=0) (h2:¬3<a2) (ha:¬a2=3∨(a2=3∧¬a1=18446744073709551615)∨(a2=3∧a1=18446744073709551615∧¬18446744073709551611≤a0)) (h7:k≤15):
 Ct Tryz.prog 117 [.w (.agg (Cy r0 r1 p0 p1 a0 a1 a2 held (k:Int)))] (fun v m=>v=.w (.one (.pl (.i (Jj r0 r1 a0 a1 a2 held (k:Int)))))):=by
 have h6:¬((k:Nat):Int)<0:=by omega
 have h8:¬(15:Int)<((k:Nat):Int):=by omega
 have h9:(0:Int)≤((k:Nat):Int):=by omega
 have h10:((k:Nat):Int)≤16:=by omega
 have hd:(¬a2=3)∨(((a2=3)=True)∧¬a1=18446744073709551615)∨(((a2=3)=True)∧((a1=18446744073709551615)=True)∧¬18446744073709551611≤a0):=ha.imp id (Or.imp (fun h=>⟨eq_true h.1,h.2⟩) (fun h=>⟨eq_true h.1,eq_true h.2.1,h.2.2⟩))
 rcases hd with F1|F1|F1
 all_goals
  have F0:=yA hh<|yA h0<|yA h1<|yA h2<|yA F1<|yA h6<|yA h8<|yA h9<|h10
  refine Ct.k Tryz.func117 rfl Tryz.ntmps117 (congrArg Array.toList Tryz.results117) (by simp) fun w0 ro=>?_
  refine b0q fun zZ zhZ=>?_
  iterate 12 first
   |(refine Lj fun zK zhK=>?_;simp only [go_sem,Cy,F0];(repeat' (first|apply yA|intro _)))
   |refine zhK _ ?_
   |refine Gq ?_
   |(refine zhN _ ?_;clear zhN zhM)
   |refine Cj fun zB zbn zbx zbr zbi=>?_
   |refine Fw fun zN zM zhN zhM=>?_
   |(refine Dk ?_ ?_;focus (first|rfl|(simp [go_sem,Cy,F0];done)))
  refine Bv [0,1,5,6,7,8,9,10,11,12,13,14,15,16,17,18,19,20,21,22,23,24,25,26,27,28,29,30,31,32,33,34,35,36,37,38,39,40,41,42,43,44,45,46,47,48,49,50,51,52,53] ?_
  simp only [Bj,Cx,Bq,yI,yK,Nat.reduceBEq,beq_self_eq_true,yS,yV,yY,yT,yE,reduceIte]
  refine Uw (fun y=>[(56,.w (.one (.pl (.i ((y.1:Nat):Int)))))]) (fun _=>[]) (fun y=>16-y.1) (⟨0,xA _,fun j hj=>absurd hj (Nat.not_lt_zero j)⟩:{y:Nat//y≤16-k∧∀ j,j<y→held.getD (k+j) 0=0}) ?_ ?_ ?_
  ·(simp only [go_sem,leX,yB,yC];try simp)
  ·(simp only [go_sem,leX,yB,yC];try simp)
  intro yy zN zM zhN zhM
  simp only [yB,yC]
  obtain ⟨i,hi,hz⟩:=yy
  have hd:(i<16-k∧¬held.getD (k+i) 0=0)∨(i<16-k∧held.getD (k+i) 0=0)∨i=16-k:=by
   by_cases h:i=16-k
   ·exact .inr (.inr h)
   have:i<16-k:=by omega
   by_cases h2:held.getD (k+i) 0=0
   ·exact .inr (.inl ⟨this,h2⟩)
   exact .inl ⟨this,h2⟩
  rcases hd with ⟨hlt,hb⟩|⟨hlt,hb⟩|rfl
  ·have hcq:((i:Nat):Int)<((16-k:Nat):Int):=by omega
   have hc0:(0:Int)≤((i:Nat):Int):=by omega
   have hk1:k+i<held.length:=by omega
   have hk2:k+(16-k)≤16:=by omega
   have hk3:i+1≤16-k:=by omega
   have hk4:=c0l (m:=16-k) hk1 (by omega)
   have hbq:(held.getD (k+i) 0=0)=False:=eq_false hb
   have F7:=yA hcq<|yA hc0<|yA hk2<|yA hk3<|yA hk4<|hbq
   iterate 22 first
    |(refine Lj fun zK zhK=>?_;simp only [go_sem,Cy,F0,Ky,F7];(repeat' (first|apply yA|intro _)))
    |refine zhK _ ?_
    |(refine zhM _ _ ?_;clear zhN zhM)
    |(refine zbr _ ?_;clear zbn zbx zbr zbi)
    |refine Gq ?_
    |(refine zhN _ ?_;clear zhN zhM)
    |refine Cj fun zB zbn zbx zbr zbi=>?_
    |refine Tk ?_
    |(refine zhZ _ _ ?_;simp only [go_sem,Cy,F0,Ky,F7];(all_goals (rw [Sv (fun h=>hb (h.rest (k+i) (by simp) (by omega)))])))
    |refine Fw fun zN zM zhN zhM=>?_
    |(refine Dw ?_ ?_;focus (first|rfl|(simp [go_sem,Cy,F0,Ky,F7];done)))
  ·have hcq:((i:Nat):Int)<((16-k:Nat):Int):=by omega
   have hc0:(0:Int)≤((i:Nat):Int):=by omega
   have hk1:k+i<held.length:=by omega
   have hk2:k+(16-k)≤16:=by omega
   have hk3:i+1≤16-k:=by omega
   have hk4:=c0l (m:=16-k) hk1 (by omega)
   have hbq:(held.getD (k+i) 0=0)=True:=eq_true hb
   have hs1:Go.RowKit.wrap64 (((i:Nat):Int)+1)=((i+1:Nat):Int):=Gy (by omega) (by omega)
   have F14:=yA hcq<|yA hc0<|yA hk2<|yA hk3<|yA hk4<|yA hbq<|hs1
   iterate 18 first
    |refine zhK _ ?_
    |(refine Lj fun zK zhK=>?_;simp only [go_sem,Cy,F0,Ky,F14];(repeat' (first|apply yA|intro _)))
    |refine Gq ?_
    |(refine zhN _ ?_;clear zhN zhM)
    |refine Cj fun zB zbn zbx zbr zbi=>?_
    |(refine zbn _ ?_;clear zbn zbx zbr zbi)
    |(refine Cw fun zK zhK=>?_;simp only [go_sem,Cy,F0,Ky,F14];(repeat' (first|apply yA|intro _)))
    |refine Fw fun zN zM zhN zhM=>?_
    |(refine Dw ?_ ?_;focus (first|rfl|(simp [go_sem,Cy,F0,Ky,F14];done)))
    |(refine Dk ?_ ?_;focus (first|rfl|(simp [go_sem,Cy,F0,Ky,F14];done)))
   refine zhN ⟨i+1,by omega,fun j hj=>by rcases wC.mp hj with h|rfl;exact hz j h;exact hb⟩ _ ?_ ?_ ?_
   ·(show 16-(i+1)<16-i;clear hs1;omega)
   ·(simp only [go_sem,leX,yB,yC];try simp)
   (simp only [go_sem,leX,yB,yC];try simp)
  have hcq:¬((16-k:Nat):Int)<((16-k:Nat):Int):=by omega
  refine Lj fun zK zhK=>?_
  simp only [go_sem,Cy,F0,hcq]
  repeat' (first|apply yA|intro _)
  refine zhK _ ?_
  refine Fw fun zN zM zhN zhM=>?_
  (refine Dk ?_ ?_;focus (first|rfl|(simp [go_sem,Cy,F0,hcq];done)))
  refine Jv ?_
  refine zhM _ _ ?_;clear zhN zhM
  refine zhM _ _ ?_;clear zhN zhM
  refine zbx _ ?_;clear zbn zbx zbr zbi
  refine zhN _ ?_;clear zhN zhM
  refine Lj fun zK zhK=>?_
  simp only [go_sem,Cy,F0,hcq]
  repeat' (first|apply yA|intro _)
  refine zhK _ ?_
  refine Tk ?_
  refine zhZ _ _ ?_
  simp only [go_sem,Cy,F0,hcq]
  all_goals (rw [e0u ⟨h0,h1,o2z h2,o2x (o2z h2) ha,by omega,by omega,fun j hj hl=>by have:=hz (j-k) (by simp at hj;omega);rwa [show k+(j-k)=j from by simp at hj;omega] at this⟩])
theorem w1e (r0 r1 p0 p1 a0 a1 a2:UInt64) (held:List UInt8) (hh:held.length=16) (k:Nat) (h0:r0&&&~~~1152921487695413247=0) (h1:r1&&&~~~1152921487695413244=0) (h2:¬3<a2) (h3:¬a2=3) (h7:k≤15):Ct Tryz.prog 117 [.w (.agg (Cy r0 r1 p0 p1 a0 a1 a2 held (k:Int)))] (fun v m=>v=.w (.one (.pl (.i (Jj r0 r1 a0 a1 a2 held (k:Int)))))):=b1z r0 r1 p0 p1 a0 a1 a2 held hh k h0 h1 h2 (.inl h3) h7
theorem w1b (r0 r1 p0 p1 a0 a1 a2:UInt64) (held:List UInt8) (hh:held.length=16) (k:Nat) (h0:r0&&&~~~1152921487695413247=0) (h1:r1&&&~~~1152921487695413244=0) (h2:¬3<a2) (h3:a2=3) (h4:¬a1=18446744073709551615) (h7:k≤15):Ct Tryz.prog 117 [.w (.agg (Cy r0 r1 p0 p1 a0 a1 a2 held (k:Int)))] (fun v m=>v=.w (.one (.pl (.i (Jj r0 r1 a0 a1 a2 held (k:Int)))))):=b1z r0 r1 p0 p1 a0 a1 a2 held hh k h0 h1 h2 (.inr (.inl ⟨h3,h4⟩)) h7
theorem v1y (r0 r1 p0 p1 a0 a1 a2:UInt64) (held:List UInt8) (hh:held.length=16) (k:Nat) (h0:r0&&&~~~1152921487695413247=0) (h1:r1&&&~~~1152921487695413244=0) (h2:¬3<a2) (h3:a2=3) (h4:a1=18446744073709551615) (h5:¬18446744073709551611≤a0) (h7:k≤15):Ct Tryz.prog 117 [.w (.agg (Cy r0 r1 p0 p1 a0 a1 a2 held (k:Int)))] (fun v m=>v=.w (.one (.pl (.i (Jj r0 r1 a0 a1 a2 held (k:Int)))))):=b1z r0 r1 p0 p1 a0 a1 a2 held hh k h0 h1 h2 (.inr (.inr ⟨h3,h4,h5⟩)) h7
end Go.Sy
namespace Go.Sy
open Go.Proofs
attribute [local irreducible] Bw HT Aj Jk onC onE onO onG goV goA goS Lx Bz
theorem u1b (x m:UInt64):x=(x&&&m)|||(x&&&~~~m):=by
 apply UInt64.toBitVec_inj.mp
 simp only [UInt64.toBitVec_or,UInt64.toBitVec_and,UInt64.toBitVec_not]
 ext i hi
 simp only [BitVec.getElem_or,BitVec.getElem_and,BitVec.getElem_not]
 cases x.toBitVec[i]<;>cases m.toBitVec[i]<;>rfl
theorem Ox (x m:UInt64):(x&&&m=x)↔x&&&~~~m=0:=by
 constructor
 ·intro h
  rw [←h]
  apply UInt64.toBitVec_inj.mp
  simp only [UInt64.toBitVec_and,UInt64.toBitVec_not]
  ext i hi
  simp only [BitVec.getElem_and,BitVec.getElem_not]
  cases x.toBitVec[i]<;>cases m.toBitVec[i]<;>simp
 intro h
 have:=u1b x m
 rw [h,UInt64.or_zero] at this
 exact this.symm
theorem p1l (n:Nat):lev (List.replicate n 0)=0:=by
 have:leN (List.replicate n 0)=0:=by
  induction n with
  |zero=>rfl
  |succ n ih=>simp [wT,leN,ih]
 simp [lev,this]
theorem i2m (r0 r1:UInt64):i2n (Mq r0 8++(Mq r1 8++List.replicate 16 0))=Cy (r0&&&1152921487695413247) (r1&&&1152921487695413244) 0 0 0 0 0 (List.replicate 16 0) 0:=by
 have l0:=Ay r0 8
 have l1:=Ay r1 8
 have e0:(Mq r0 8++(Mq r1 8++List.replicate 16 0)).take 8=Mq r0 8:=List.take_left' l0
 have d8:(Mq r0 8++(Mq r1 8++List.replicate 16 0)).drop 8=Mq r1 8++List.replicate 16 0:=List.drop_left' l0
 have e1:(Mq r1 8++List.replicate 16 (0:UInt8)).take 8=Mq r1 8:=List.take_left' l1
 have n0k:(Mq r0 8++(Mq r1 8++List.replicate 16 0)).drop 16=List.replicate 16 0:=by
  rw [show 16=8+8 from rfl,←wO,d8,List.drop_left' l1]
 have d24:(Mq r0 8++(Mq r1 8++List.replicate 16 0)).drop 24=List.replicate 8 0:=by
  rw [show 24=16+8 from rfl,←wO,n0k];rfl
 simp only [i2n,e0,d8,e1,n0k,d24,v0g]
 rw [show (List.replicate 16 (0:UInt8)).take 8=List.replicate 8 0 from rfl,show (List.replicate 8 (0:UInt8)).take 8=List.replicate 8 0 from rfl,p1l]
theorem b0t (r0 r1:UInt64):Ct Tryz.prog 100 [.w (.agg (Az (Mq r0 8++Mq r1 8++List.replicate 16 0)))] (fun v m=>v=.w (.agg (Cy (r0&&&1152921487695413247) (r1&&&1152921487695413244) 0 0 0 0 0 (List.replicate 16 0) 0))):=by
 have h:=s0r (Mq r0 8++(Mq r1 8++List.replicate 16 0)) (by simp [Ay])
 rw [i2m] at h
 rw [wM];exact h
theorem m16 :min 16 32=16:=rfl
theorem n0k :List.drop 16 (List.replicate 32 (0:UInt8))=List.replicate 16 0:=rfl
theorem r0f (a b:UInt64):List.take 16 (Mq a 8++Mq b 8)=Mq a 8++Mq b 8:=xE (by simp [Ay])
def hok (held:List UInt8) (n:Int) (i:Nat):Bool:=decide (∀ j,j<i→((j:Nat):Int)<n∨held.getD j 0=0)
theorem c0x (p:P5):Ct Tryz.prog 136 [.w (.agg p.ls)] (fun v m=>v=.w (.agg p.carried.ls)):=g0o p.a p.b p.c p.d p.e
theorem n0m (p:P5):Ct Tryz.prog 137 [.w (.agg p.ls)] (fun v m=>v=.w (.agg (W3 p.w0 p.w1 p.w2))):=j2k p.a p.b p.c p.d p.e
theorem u0s (r0 r1 p0 p1 a0 a1 a2:UInt64) (held:List UInt8) (hh:held.length=16) (n:Int) (hr:Jj r0 r1 a0 a1 a2 held n=9) (hd:(decide (r0&&&1152921487695413247=r0)&&decide (r1&&&1152921487695413244=r1))=false∨(r0&&&1152921487695413247=r0∧r1&&&1152921487695413244=r1∧¬0≤n)∨(r0&&&1152921487695413247=r0∧r1&&&1152921487695413244=r1∧0≤n∧¬n<16)∨(r0&&&1152921487695413247=r0∧r1&&&1152921487695413244=r1∧0≤n∧n<16∧¬a2<4)):
 Ct Tryz.prog 124 [.w (.agg (Cy r0 r1 p0 p1 a0 a1 a2 held n))] (fun v m=>v=.w (.one (.pl (.i (Jj r0 r1 a0 a1 a2 held n))))):=by
 rcases hd with F1|F1|F1|F1
 all_goals
  have F0:=yA hh<|yA F1<|hr
  refine Ct.k Tryz.func124 rfl Tryz.ntmps124 (congrArg Array.toList Tryz.results124) (by simp) fun w0 ro=>?_
  refine b0q fun zZ zhZ=>?_
  iterate 17 first
   |(refine Lj fun zK zhK=>?_;simp only [go_sem,m16,n0k,r0f,Cy,Ay,wJ,wG,W3,F0];(repeat' (first|apply yA|intro _)))
   |refine zhK _ ?_
   |refine zhK _ _ trivial ?_
   |(refine Sk (id:=2) [8,9,10,11,12,13,14,15,16,17,18] [0,0,2,6,14,0,32,96,254,510,1023] [] mixed (by kernel_rfl) (by simp only [go_sem]) fun zK zhK=>?_;simp only [go_sem,m16,n0k,r0f,Cy,Ay,wJ,wG,W3,F0];(repeat' (first|apply yA|intro _)))
   |(refine zhN _ ?_;clear zhN zhM)
   |(refine w0i (id:=3) [19,20,21,22,23,24,25,26,27,28,29,30,31,32,33,34,35,36,37,38,39,40,41,42,43,44,45,46,47,48,49,50,4] [0,1,3,0,8,31,63,127,255,511,1023,2047,4095,8191,16383,32767,65535,131071,262143,524287,1048575,2097151,4194303,8388607,16777215,33554431,67108863,134217727,8388607,276824063,1073741823,2147483647,4294967295] [] mixed (by kernel_rfl) (by simp only [go_sem]) fun zK zhK=>?_;simp only [go_sem,m16,n0k,r0f,Cy,Ay,wJ,wG,W3,F0];(repeat' (first|apply yA|intro _)))
   |refine Cj fun zB zbn zbx zbr zbi=>?_
   |((all_goals refine Ck (fun k=>k) _ [] (fun _ _=>rfl) (by first|rfl|(simp only [go_sem,m16,n0k,r0f,Cy,Ay,wJ,wG,W3,F0]<;>rfl)) ((j1l _ 8 (by decide)).plain fun _ _ h=>h) ?_ ?_);(all_goals try (refine yA ?_ (yA ?_ (yA ?_ ?_))<;>first|rfl|simp only [go_sem]));(all_goals simp only [go_sem,m16,n0k,r0f,Cy,Ay,wJ,wG,W3,F0]);(all_goals repeat' (first|apply yA|intro _)))
   |((all_goals (refine Ck (fun k=>k) _ [] (fun _ _=>rfl) ?_ ((b0t r0 r1).plain fun _ _ h=>h) ?_ ?_;focus (first|rfl|(simp only [go_sem,m16,n0k,r0f,Cy,Ay,wJ,wG,W3,F0]<;>rfl))));(all_goals try (refine yA ?_ (yA ?_ (yA ?_ ?_))<;>first|rfl|simp only [go_sem]));(all_goals simp only [go_sem,m16,n0k,r0f,Cy,Ay,wJ,wG,W3,F0]);(all_goals repeat' (first|apply yA|intro _));(all_goals (first|((refine Ck (fun k=>k) _ [] (fun _ _=>rfl) ?_ ((g0g a0 a1 a2).plain fun _ _ h=>h) ?_ ?_;focus (first|rfl|(simp only [go_sem,m16,n0k,r0f,Cy,Ay,wJ,wG,W3,F0]<;>rfl)));all_goals try (refine yA ?_ (yA ?_ (yA ?_ ?_))<;>first|rfl|simp only [go_sem]);all_goals simp only [go_sem,m16,n0k,r0f,Cy,Ay,wJ,wG,W3,F0];all_goals repeat' (first|apply yA|intro _))|skip));(all_goals (first|((refine Ck (fun k=>k) _ [] (fun _ _=>rfl) ?_ ((c0x (Ey a0 a1 a2)).plain fun _ _ h=>h) ?_ ?_;focus (first|rfl|(simp only [go_sem,m16,n0k,r0f,Cy,Ay,wJ,wG,W3,F0]<;>rfl)));all_goals try (refine yA ?_ (yA ?_ (yA ?_ ?_))<;>first|rfl|simp only [go_sem]);all_goals simp only [go_sem,m16,n0k,r0f,Cy,Ay,wJ,wG,W3,F0];all_goals repeat' (first|apply yA|intro _))|skip));(all_goals (first|((refine Ck (fun k=>k) _ [] (fun _ _=>rfl) ?_ ((n0m (Ey a0 a1 a2).carried).plain fun _ _ h=>h) ?_ ?_;focus (first|rfl|(simp only [go_sem,m16,n0k,r0f,Cy,Ay,wJ,wG,W3,F0]<;>rfl)));all_goals try (refine yA ?_ (yA ?_ (yA ?_ ?_))<;>first|rfl|simp only [go_sem]);all_goals simp only [go_sem,m16,n0k,r0f,Cy,Ay,wJ,wG,W3,F0];all_goals repeat' (first|apply yA|intro _))|skip)))
   |refine Fw fun zN zM zhN zhM=>?_
  refine Bv [0,3,7,8,9,10,11,12,13,14,15,16,17,18,19,20,21,22,23,24,25,26,27,28,29,30,31,32,33,34,35,36,37,38,39,40,41,42,43,44,45,46,47,48,49,50,51] ?_
  simp only [Bj,Cx,Bq,yI,yK,Nat.reduceBEq,beq_self_eq_true,yS,yV,yY,yT,yE,reduceIte]
  refine Uw (fun y=>[(53,.w (.one (.pl (.i ((y.1:Nat):Int))))),(4,.w (.one (.pl (.b false))))]) (fun _=>[]) (fun y=>16-y.1) (⟨0,xA _⟩:{y:Nat//y≤16}) ?_ ?_ ?_
  ·(simp only [go_sem,leX,yB,yC];try simp)
  ·(simp only [go_sem,leX,yB,yC];try simp)
  intro ⟨i,hi⟩ zN zM zhN zhM
  simp only [yB,yC]
  rcases yZ i 16 with hlt|hge
  ·have hcq:((i:Nat):Int)<16:=by omega
   have hc0:(0:Int)≤((i:Nat):Int):=by omega
   have hs1:Go.RowKit.wrap64 (((i:Nat):Int)+1)=((i+1:Nat):Int):=Gy (by omega) (by omega)
   have hk1:List.take 1 (List.drop i held)=[held.getD i 0]:=by have:=c0l (l:=held) (o:=0) (m:=16) (i:=i) (by omega) hlt;simpa [←hh] using this
   have hk2:i+1≤16:=by omega
   have F9:=yA hcq<|yA hc0<|yA hs1<|yA hk1<|hk2
   iterate 16 first
    |refine zhK _ ?_
    |(refine Lj fun zK zhK=>?_;simp only [go_sem,m16,n0k,r0f,Cy,Ay,wJ,wG,W3,F0,Ky,F9];(repeat' (first|apply yA|intro _)))
    |(refine zhN _ ?_;clear zhN zhM)
    |(refine Cw fun zK zhK=>?_;simp only [go_sem,m16,n0k,r0f,Cy,Ay,wJ,wG,W3,F0,Ky,F9];(repeat' (first|apply yA|intro _)))
    |refine Gq ?_
    |refine Cj fun zB zbn zbx zbr zbi=>?_
    |(refine zbn _ ?_;clear zbn zbx zbr zbi)
    |refine Fw fun zN zM zhN zhM=>?_
    |(refine Dw ?_ ?_;focus (first|rfl|(simp [go_sem,m16,n0k,r0f,Cy,Ay,wJ,wG,W3,F0,Ky,F9];done)))
   refine zhN ⟨i+1,hlt⟩ _ ?_ ?_ ?_
   ·(show 16-(i+1)<16-i;clear hs1;omega)
   ·(simp only [go_sem,leX,yB,yC];try simp)
   (simp only [go_sem,leX,yB,yC];try simp)
  have hcq:¬((i:Nat):Int)<16:=by omega
  iterate 18 first
   |(refine Lj fun zK zhK=>?_;simp only [go_sem,m16,n0k,r0f,Cy,Ay,wJ,wG,W3,F0,hcq];(repeat' (first|apply yA|intro _)))
   |refine zhK _ ?_
   |(refine zhM _ _ ?_;clear zhN zhM)
   |refine Jv ?_
   |(refine zbx _ ?_;clear zbn zbx zbr zbi)
   |(refine zhN _ ?_;clear zhN zhM)
   |refine Tk ?_
   |(refine zhZ _ _ ?_;simp only [go_sem,m16,n0k,r0f,Cy,Ay,wJ,wG,W3,F0,hcq];(all_goals (rfl)))
   |refine Fw fun zN zM zhN zhM=>?_
   |(refine Dk ?_ ?_;focus (first|rfl|(simp [go_sem,m16,n0k,r0f,Cy,Ay,wJ,wG,W3,F0,hcq];done)))
   |(refine Dw ?_ ?_;focus (first|rfl|(simp [go_sem,m16,n0k,r0f,Cy,Ay,wJ,wG,W3,F0,hcq];done)))
theorem l2v (r0 r1 p0 p1 a0 a1 a2:UInt64) (held:List UInt8) (hh:held.length=16) (n:Int) (h0:¬(r0&&&1152921487695413247=r0∧r1&&&1152921487695413244=r1)):Ct Tryz.prog 124 [.w (.agg (Cy r0 r1 p0 p1 a0 a1 a2 held n))] (fun v m=>v=.w (.one (.pl (.i (Jj r0 r1 a0 a1 a2 held n))))):=u0s r0 r1 p0 p1 a0 a1 a2 held hh n (Sv fun h=>h0 ⟨(Ox _ _).mpr h.f0,(Ox _ _).mpr h.f1⟩) (.inl (by simpa using h0))
theorem d2y (r0 r1 p0 p1 a0 a1 a2:UInt64) (held:List UInt8) (hh:held.length=16) (n:Int) (h0:r0&&&~~~1152921487695413247=0) (h1:r1&&&~~~1152921487695413244=0) (h2:¬0≤n):Ct Tryz.prog 124 [.w (.agg (Cy r0 r1 p0 p1 a0 a1 a2 held n))] (fun v m=>v=.w (.one (.pl (.i (Jj r0 r1 a0 a1 a2 held n))))):=u0s r0 r1 p0 p1 a0 a1 a2 held hh n (Sv fun h=>h2 h.lo) (.inr (.inl ⟨(Ox _ _).mpr h0,(Ox _ _).mpr h1,h2⟩))
theorem d2z (r0 r1 p0 p1 a0 a1 a2:UInt64) (held:List UInt8) (hh:held.length=16) (n:Int) (h0:r0&&&~~~1152921487695413247=0) (h1:r1&&&~~~1152921487695413244=0) (h2:0≤n) (h3:¬n<16):Ct Tryz.prog 124 [.w (.agg (Cy r0 r1 p0 p1 a0 a1 a2 held n))] (fun v m=>v=.w (.one (.pl (.i (Jj r0 r1 a0 a1 a2 held n))))):=u0s r0 r1 p0 p1 a0 a1 a2 held hh n (Sv fun h=>h3 (by have:=h.hi;omega)) (.inr (.inr (.inl ⟨(Ox _ _).mpr h0,(Ox _ _).mpr h1,h2,h3⟩)))
theorem e2a (r0 r1 p0 p1 a0 a1 a2:UInt64) (held:List UInt8) (hh:held.length=16) (n:Int) (h0:r0&&&~~~1152921487695413247=0) (h1:r1&&&~~~1152921487695413244=0) (h2:0≤n) (h3:n<16) (h4:¬a2<4):Ct Tryz.prog 124 [.w (.agg (Cy r0 r1 p0 p1 a0 a1 a2 held n))] (fun v m=>v=.w (.one (.pl (.i (Jj r0 r1 a0 a1 a2 held n))))):=u0s r0 r1 p0 p1 a0 a1 a2 held hh n (Sv fun h=>h4 (vE.mpr h.f2)) (.inr (.inr (.inr (⟨(Ox _ _).mpr h0,(Ox _ _).mpr h1,h2,h3,h4⟩))))
theorem v1v (r0 r1 p0 p1 a0 a1 a2:UInt64) (held:List UInt8) (hh:held.length=16) (n:Int) (h0:r0&&&~~~1152921487695413247=0) (h1:r1&&&~~~1152921487695413244=0) (h2:0≤n) (h3:n<16) (h4:a2<4) (h5:¬((Ey a0 a1 a2).carried.w0=a0∧(Ey a0 a1 a2).carried.w1=a1∧(Ey a0 a1 a2).carried.w2=a2)):
 Ct Tryz.prog 124 [.w (.agg (Cy r0 r1 p0 p1 a0 a1 a2 held n))] (fun v m=>v=.w (.one (.pl (.i (Jj r0 r1 a0 a1 a2 held n))))):=by
 have q0:=(Ox _ _).mpr h0
 have q1:=(Ox _ _).mpr h1
 have q5:(decide ((Ey a0 a1 a2).carried.w0=a0)&&(decide ((Ey a0 a1 a2).carried.w1=a1)&&decide ((Ey a0 a1 a2).carried.w2=a2)))=false:=by simpa using h5
 have hr:=Sv (r0:=r0) (r1:=r1) (a0:=a0) (a1:=a1) (a2:=a2) (held:=held) (n:=n) (fun h=>h5 ((canon a0 a1 a2 h.f2).mpr h.acc))
 have F0:=yA @m16<|yA @n0k<|yA @r0f<|yA Cy.eq_1<|yA hh<|yA @Ay<|yA @wJ<|yA @wG<|yA q0<|yA q1<|yA h2<|yA h3<|yA h4<|yA q5<|yA hr<|W3.eq_1
 refine Ct.go Tryz.func124 rfl Tryz.ntmps124 Tryz.results124 fun w0 ro zZ zhY=>?_
 refine (fun zX=>goW) ?_
 iterate 4 first
  |(refine Sk (id:=2) [8,9,10,11,12,13,14,15,16,17,18] [0,0,2,6,14,0,32,96,254,510,1023] [] mixed (by kernel_rfl) (by simp only [go_sem]) fun zK zhK=>?_;simp only [go_sem,F0];(repeat' (first|apply yA|intro _)))
  |refine zhK _ _ trivial ?_
  |((all_goals refine Ck (fun k=>k) _ [] (fun _ _=>rfl) (by first|rfl|(simp only [go_sem,F0]<;>rfl)) ((j1l _ 8 (by decide)).plain fun _ _ h=>h) ?_ ?_);(all_goals try (refine yA ?_ (yA ?_ (yA ?_ ?_))<;>first|rfl|simp only [go_sem]));(all_goals simp only [go_sem,F0]);(all_goals repeat' (first|apply yA|intro _)))
 have cq:=yA (Ct.cv (b0t r0 r1))<|yA (Ct.cv (g0g a0 a1 a2))<|yA (Ct.cv (c0x (Ey a0 a1 a2)))<|yA (Ct.cv (n0m (Ey a0 a1 a2).carried))<|trivial
 have zd0:DQ 3 [19,20,21,22,23,24,25,26,27,28,29,30,31,32,33,34,35,36,37,38,39,40,41,42,43,44,45,46,47,48,49,50,4] [0,1,3,0,8,31,63,127,255,511,1023,2047,4095,8191,16383,32767,65535,131071,262143,524287,1048575,2097151,4194303,8388607,16777215,33554431,67108863,134217727,8388607,276824063,1073741823,2147483647,4294967295] []:=⟨⟩
 refine (fun zX=>goW) ?_
 refine Bv [0,3,7,8,9,10,11,12,13,14,15,16,17,18,19,20,21,22,23,24,25,26,27,28,29,30,31,32,33,34,35,36,37,38,39,40,41,42,43,44,45,46,47,48,49,50,51] ?_
 simp only [Bj,Cx,Bq,yI,yK,Nat.reduceBEq,beq_self_eq_true,yS,yV,yY,yT,yE,reduceIte]
 refine Gx (fun y=>[(53,.w (.one (.pl (.i ((y.1:Nat):Int))))),(4,.w (.one (.pl (.b false))))]) (fun _=>[]) (fun y=>16-y.1) (⟨0,xA _⟩:{y:Nat//y≤16}) ?_
 intro ⟨i,hi⟩ xN0 xM0 xhN0 xhM0
 simp only [yB,yC]
 rcases yZ i 16 with hlt|hge
 ·have hcq:((i:Nat):Int)<16:=by omega
  have hc0:(0:Int)≤((i:Nat):Int):=by omega
  have hs1:Go.RowKit.wrap64 (((i:Nat):Int)+1)=((i+1:Nat):Int):=Gy (by omega) (by omega)
  have hk1:List.take 1 (List.drop i held)=[held.getD i 0]:=by have:=c0l (l:=held) (o:=0) (m:=16) (i:=i) (by omega) hlt;simpa [←hh] using this
  have hk2:i+1≤16:=by omega
  have F0:=yA hcq<|yA hc0<|yA hs1<|yA hk1<|yA hk2<|yA @Ky<|F0
  have zL:=fun S2=>xhN0 ⟨i+1,hlt⟩ S2 (by (show 16-(i+1)<16-i;clear hs1;omega))
  exact goW
 have hcq:¬((i:Nat):Int)<16:=by omega
 have F0:=yA hcq<|F0
 refine (fun zX=>goW) ?_
 refine zhY _ _ ?_
 simp only [go_sem,F0]
 all_goals (rfl)
theorem d2x (r0 r1 p0 p1 a0 a1 a2:UInt64) (held:List UInt8) (hh:held.length=16) (n:Int) (h0:r0&&&~~~1152921487695413247=0) (h1:r1&&&~~~1152921487695413244=0) (h2:0≤n) (h3:n<16) (h4:a2<4) (h5:((Ey a0 a1 a2).carried.w0=a0∧(Ey a0 a1 a2).carried.w1=a1∧(Ey a0 a1 a2).carried.w2=a2)):
 Ct Tryz.prog 124 [.w (.agg (Cy r0 r1 p0 p1 a0 a1 a2 held n))] (fun v m=>v=.w (.one (.pl (.i (Jj r0 r1 a0 a1 a2 held n))))):=by
 have q0:=(Ox _ _).mpr h0
 have q1:=(Ox _ _).mpr h1
 have q5:(decide ((Ey a0 a1 a2).carried.w0=a0)&&(decide ((Ey a0 a1 a2).carried.w1=a1)&&decide ((Ey a0 a1 a2).carried.w2=a2)))=true:=by simpa using h5
 have F0:=yA @m16<|yA @n0k<|yA @r0f<|yA Cy.eq_1<|yA hh<|yA @Ay<|yA @wJ<|yA @wG<|yA q0<|yA q1<|yA h2<|yA h3<|yA h4<|yA q5<|W3.eq_1
 refine Ct.go Tryz.func124 rfl Tryz.ntmps124 Tryz.results124 fun w0 ro zZ zhY=>?_
 refine (fun zX=>goW) ?_
 iterate 4 first
  |(refine Sk (id:=2) [8,9,10,11,12,13,14,15,16,17,18] [0,0,2,6,14,0,32,96,254,510,1023] [] mixed (by kernel_rfl) (by simp only [go_sem]) fun zK zhK=>?_;simp only [go_sem,F0];(repeat' (first|apply yA|intro _)))
  |refine zhK _ _ trivial ?_
  |((all_goals refine Ck (fun k=>k) _ [] (fun _ _=>rfl) (by first|rfl|(simp only [go_sem,F0]<;>rfl)) ((j1l _ 8 (by decide)).plain fun _ _ h=>h) ?_ ?_);(all_goals try (refine yA ?_ (yA ?_ (yA ?_ ?_))<;>first|rfl|simp only [go_sem]));(all_goals simp only [go_sem,F0]);(all_goals repeat' (first|apply yA|intro _)))
 have cq:=yA (Ct.cv (b0t r0 r1))<|yA (Ct.cv (g0g a0 a1 a2))<|yA (Ct.cv (c0x (Ey a0 a1 a2)))<|yA (Ct.cv (n0m (Ey a0 a1 a2).carried))<|trivial
 have zd0:DQ 3 [19,20,21,22,23,24,25,26,27,28,29,30,31,32,33,34,35,36,37,38,39,40,41,42,43,44,45,46,47,48,49,50,4] [0,1,3,0,8,31,63,127,255,511,1023,2047,4095,8191,16383,32767,65535,131071,262143,524287,1048575,2097151,4194303,8388607,16777215,33554431,67108863,134217727,8388607,276824063,1073741823,2147483647,4294967295] []:=⟨⟩
 refine (fun zX=>goW) ?_
 refine Bv [0,3,7,8,9,10,11,12,13,14,15,16,17,18,19,20,21,22,23,24,25,26,27,28,29,30,31,32,33,34,35,36,37,38,39,40,41,42,43,44,45,46,47,48,49,50,51] ?_
 simp only [Bj,Cx,Bq,yI,yK,Nat.reduceBEq,beq_self_eq_true,yS,yV,yY,yT,yE,reduceIte]
 refine Gx (fun y=>[(53,.w (.one (.pl (.i ((y.1.1:Nat):Int))))),(4,.w (.one (.pl (.b y.1.2))))]) (fun _=>[]) (fun y=>16-y.1.1) (⟨(0,true),xA _,by simp⟩:{y:Nat×Bool//y.1≤16∧(y.2=true↔∀ j,j<y.1→((j:Nat):Int)<n∨held.getD j 0=0)}) ?_
 intro yy xN0 xM0 xhN0 xhM0
 simp only [yB,yC]
 obtain ⟨⟨i,b⟩,hi,hb⟩:=yy
 simp only at hi hb
 have hd:(i<16∧b=false)∨(i<16∧b=true∧((i:Nat):Int)<n)∨(i<16∧b=true∧¬((i:Nat):Int)<n∧held.getD i 0=0)∨(i<16∧b=true∧¬((i:Nat):Int)<n∧¬held.getD i 0=0)∨(i=16∧b=true)∨(i=16∧b=false):=by
  generalize held.getD i 0=z
  by_cases g1:i=16
  ·cases b<;>simp [g1]
  have g2:i<16:=by omega
  by_cases g3:((i:Nat):Int)<n
  ·cases b<;>simp [g2,g3]
  by_cases g4:z=0
  ·cases b<;>simp [g2,g3,g4]
  cases b<;>simp [g2,g3,g4]
 rcases hd with ⟨hlt,rfl⟩|⟨hlt,rfl,hin⟩|⟨hlt,rfl,hin,hz⟩|⟨hlt,rfl,hin,hz⟩|⟨rfl,rfl⟩|⟨rfl,rfl⟩
 ·have hcq:((i:Nat):Int)<16:=by omega
  have hc0:(0:Int)≤((i:Nat):Int):=by omega
  have hs1:Go.RowKit.wrap64 (((i:Nat):Int)+1)=((i+1:Nat):Int):=Gy (by omega) (by omega)
  have hk1:List.take 1 (List.drop i held)=[held.getD i 0]:=by have:=c0l (l:=held) (o:=0) (m:=16) (i:=i) (by omega) hlt;simpa [←hh] using this
  have hk2:i+1≤16:=by omega
  have F0:=yA hcq<|yA hc0<|yA hs1<|yA hk1<|yA hk2<|yA @Ky<|F0
  have zL:=fun S2=>xhN0 ⟨(i+1,false),hlt,by simp only [yE,false_iff];intro h;exact absurd (hb.mpr fun j hj=>h j (by omega)) (by simp)⟩ S2 (by (show 16-(i+1)<16-i;clear hs1;omega))
  exact goW
 ·have hcq:((i:Nat):Int)<16:=by omega
  have hc0:(0:Int)≤((i:Nat):Int):=by omega
  have hs1:Go.RowKit.wrap64 (((i:Nat):Int)+1)=((i+1:Nat):Int):=Gy (by omega) (by omega)
  have hk1:List.take 1 (List.drop i held)=[held.getD i 0]:=by have:=c0l (l:=held) (o:=0) (m:=16) (i:=i) (by omega) hlt;simpa [←hh] using this
  have hk2:i+1≤16:=by omega
  have F0:=yA hcq<|yA hc0<|yA hs1<|yA hk1<|yA hk2<|yA @Ky<|yA hin<|F0
  have zL:=fun S2=>xhN0 ⟨(i+1,true),hlt,fun _ j hj=>by rcases wC.mp hj with h|rfl;exact hb.mp rfl j h;exact .inl hin,fun _=>rfl⟩ S2 (by (show 16-(i+1)<16-i;clear hs1;omega))
  exact goW
 ·have hcq:((i:Nat):Int)<16:=by omega
  have hc0:(0:Int)≤((i:Nat):Int):=by omega
  have hs1:Go.RowKit.wrap64 (((i:Nat):Int)+1)=((i+1:Nat):Int):=Gy (by omega) (by omega)
  have hk1:List.take 1 (List.drop i held)=[held.getD i 0]:=by have:=c0l (l:=held) (o:=0) (m:=16) (i:=i) (by omega) hlt;simpa [←hh] using this
  have hk2:i+1≤16:=by omega
  have hzq:=eq_true hz
  have F0:=yA hcq<|yA hc0<|yA hs1<|yA hk1<|yA hk2<|yA @Ky<|yA hin<|yA hzq<|F0
  have zL:=fun S2=>xhN0 ⟨(i+1,true),hlt,fun _ j hj=>by rcases wC.mp hj with h|rfl;exact hb.mp rfl j h;exact .inr hz,fun _=>rfl⟩ S2 (by (show 16-(i+1)<16-i;clear hs1;omega))
  exact goW
 ·have hcq:((i:Nat):Int)<16:=by omega
  have hc0:(0:Int)≤((i:Nat):Int):=by omega
  have hs1:Go.RowKit.wrap64 (((i:Nat):Int)+1)=((i+1:Nat):Int):=Gy (by omega) (by omega)
  have hk1:List.take 1 (List.drop i held)=[held.getD i 0]:=by have:=c0l (l:=held) (o:=0) (m:=16) (i:=i) (by omega) hlt;simpa [←hh] using this
  have hk2:i+1≤16:=by omega
  have hzq:=eq_false hz
  have F0:=yA hcq<|yA hc0<|yA hs1<|yA hk1<|yA hk2<|yA @Ky<|yA hin<|yA hzq<|F0
  have zL:=fun S2=>xhN0 ⟨(i+1,false),hlt,by simp only [yE,false_iff];intro h;exact (h i (yQ i)).elim hin hz⟩ S2 (by (show 16-(i+1)<16-i;clear hs1;omega))
  exact goW
 ·have hcq:¬((16:Nat):Int)<16:=by omega
  have F0:=yA hcq<|F0
  refine (fun zX=>goW) ?_
  refine zhY _ _ ?_
  simp only [go_sem,F0]
  all_goals (rw [e0u ⟨h0,h1,vE.mp h4,(canon a0 a1 a2 (vE.mp h4)).mp h5,h2,by omega,fun j hj hl=>(hb.mp rfl j hl).resolve_left (by omega)⟩])
 have hcq:¬((16:Nat):Int)<16:=by omega
 have F0:=yA hcq<|F0
 refine (fun zX=>goW) ?_
 refine zhY _ _ ?_
 simp only [go_sem,F0]
 all_goals (rw [Sv (fun h=>absurd (hb.mpr fun j hj=>by rcases Int.lt_or_le ((j:Nat):Int) n with h8|h8;exact .inl h8;exact .inr (h.rest j (by omega) hj)) (by simp))])
end Go.Sy
namespace Go.Sy
open Go.Proofs
attribute [local irreducible] Bw HT Aj Jk onC onE onO onG goV goA goS Lx Bz
theorem ic0 :((0:Nat):Int)=0:=rfl
theorem ic1 :((1:Nat):Int)=1:=rfl
theorem ic2 :((2:Nat):Int)=2:=rfl
theorem ic3 :((3:Nat):Int)=3:=rfl
theorem ic4 :((4:Nat):Int)=4:=rfl
theorem ic5 :((5:Nat):Int)=5:=rfl
def mulN (p r:P5):Nat→List L
 |0=>[.pl (.u64 (0)),.pl (.u64 (0)),.pl (.u64 (0)),.pl (.u64 (0)),.pl (.u64 (0))]
 |1=>[.pl (.u64 (0+p.a*r.a)),.pl (.u64 (0+p.a*r.b)),.pl (.u64 (0+p.a*r.c)),.pl (.u64 (0+p.a*r.d)),.pl (.u64 (0+p.a*r.e))]
 |2=>[.pl (.u64 (0+p.a*r.a+p.b*r.e*5)),.pl (.u64 (0+p.a*r.b+p.b*r.a)),.pl (.u64 (0+p.a*r.c+p.b*r.b)),.pl (.u64 (0+p.a*r.d+p.b*r.c)),.pl (.u64 (0+p.a*r.e+p.b*r.d))]
 |3=>[.pl (.u64 (0+p.a*r.a+p.b*r.e*5+p.c*r.d*5)),.pl (.u64 (0+p.a*r.b+p.b*r.a+p.c*r.e*5)),.pl (.u64 (0+p.a*r.c+p.b*r.b+p.c*r.a)),.pl (.u64 (0+p.a*r.d+p.b*r.c+p.c*r.b)),.pl (.u64 (0+p.a*r.e+p.b*r.d+p.c*r.c))]
 |4=>[.pl (.u64 (0+p.a*r.a+p.b*r.e*5+p.c*r.d*5+p.d*r.c*5)),.pl (.u64 (0+p.a*r.b+p.b*r.a+p.c*r.e*5+p.d*r.d*5)),.pl (.u64 (0+p.a*r.c+p.b*r.b+p.c*r.a+p.d*r.e*5)),.pl (.u64 (0+p.a*r.d+p.b*r.c+p.c*r.b+p.d*r.a)),.pl (.u64 (0+p.a*r.e+p.b*r.d+p.c*r.c+p.d*r.b))]
 |_=>(w0j p r).ls
theorem d2t (p r:P5):
 Ct Tryz.prog 138 [.w (.agg [.pl (.u64 p.a),.pl (.u64 p.b),.pl (.u64 p.c),.pl (.u64 p.d),.pl (.u64 p.e)]),.w (.agg [.pl (.u64 r.a),.pl (.u64 r.b),.pl (.u64 r.c),.pl (.u64 r.d),.pl (.u64 r.e)])] (fun v m=>v=.w (.agg (w0j p r).carried.ls)):=by
 have F0:=yA P5.ls.eq_1<|yA @ic0<|yA @ic1<|yA @ic2<|yA @ic3<|yA @ic4<|@ic5
 have zF:FG [13,14,15,18,19,20,21,22,23,24,25,26,27,28,29,30,31,32,33,34,35,36,37,38,39,40,41,42]:=trivial
 refine Ct.go Tryz.func138 rfl Tryz.ntmps138 Tryz.results138 fun w0 ro zZ zhY=>?_
 refine (fun zX=>goW) ?_
 refine Bv [0,1,2] ?_
 simp only [Bj,Cx,Bq,yI,yK,Nat.reduceBEq,beq_self_eq_true,yS,yV,yY,yT,yE,reduceIte]
 refine Gx (fun y=>[(12,.w (.one (.pl (.i ((y.1:Nat):Int)))))]) (fun y=>[(5,⟨false,mulN p r y.1⟩)]) (fun y=>5-y.1) (⟨0,by omega⟩:{y:Nat//y≤5}) ?_ (by (simp only [go_sem,leX,yB,yC];try simp)) (by (simp only [mulN,go_sem,leX,yB,yC];try simp [mulN,leX,look]))
 intro yy xN0 xM0 xhN0 xhM0
 simp only [yB,yC]
 obtain ⟨y,hy⟩:=yy
 have hd:y=0∨y=1∨y=2∨y=3∨y=4∨y=5:=by omega
 rcases hd with rfl|rfl|rfl|rfl|rfl|rfl
 ·simp only [mulN]
  have zU:=yA ur<|trivial
  refine (fun zX=>goW) ?_
  refine xhN0 ⟨1,by omega⟩ _ ?_ ?_ ?_
  ·(show 5-(0+1)<5-0;omega)
  ·(simp only [go_sem,leX,yB,yC];try simp)
  (simp only [mulN,go_sem,leX,yB,yC];first|done|(simp [mulN,w0j,P5.ls,leX,look];done)|rfl)
 ·simp only [mulN]
  have zU:=yA ur<|trivial
  refine (fun zX=>goW) ?_
  refine xhN0 ⟨2,by omega⟩ _ ?_ ?_ ?_
  ·(show 5-(1+1)<5-1;omega)
  ·(simp only [go_sem,leX,yB,yC];try simp)
  (simp only [mulN,go_sem,leX,yB,yC];first|done|(simp [mulN,w0j,P5.ls,leX,look];done)|rfl)
 ·simp only [mulN]
  have zU:=yA ur<|trivial
  refine (fun zX=>goW) ?_
  refine xhN0 ⟨3,by omega⟩ _ ?_ ?_ ?_
  ·(show 5-(2+1)<5-2;omega)
  ·(simp only [go_sem,leX,yB,yC];try simp)
  (simp only [mulN,go_sem,leX,yB,yC];first|done|(simp [mulN,w0j,P5.ls,leX,look];done)|rfl)
 ·simp only [mulN]
  have zU:=yA ur<|trivial
  refine (fun zX=>goW) ?_
  refine xhN0 ⟨4,by omega⟩ _ ?_ ?_ ?_
  ·(show 5-(3+1)<5-3;omega)
  ·(simp only [go_sem,leX,yB,yC];try simp)
  (simp only [mulN,go_sem,leX,yB,yC];first|done|(simp [mulN,w0j,P5.ls,leX,look];done)|rfl)
 ·simp only [mulN]
  have zU:=yA ur<|trivial
  refine (fun zX=>goW) ?_
  refine xhN0 ⟨5,by omega⟩ _ ?_ ?_ ?_
  ·(show 5-(4+1)<5-4;omega)
  ·(simp only [go_sem,leX,yB,yC];try simp)
  (simp only [mulN,go_sem,leX,yB,yC];first|done|(simp [mulN,w0j,P5.ls,leX,look];done)|rfl)
 simp only [mulN]
 have cq:=yA (Ct.cv (c0x (w0j p r)))<|trivial
 have zU:=trivial
 refine (fun zX=>goW) ?_
 refine zhY _ _ ?_
 simp only [go_sem,F0,Int.reduceMod,Int.reduceTMod]
 all_goals (first|rfl|(simp only [P5.ls];done)|trace_state)
end Go.Sy
