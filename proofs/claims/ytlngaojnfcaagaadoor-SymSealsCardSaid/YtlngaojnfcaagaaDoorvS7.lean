/- Walks and what they compute. CONDITIONS: those that each theorem names. -/
import Derived.Test.YtlngaojnfcaagaaDoorvS5
set_option linter.unusedVariables false
set_option linter.unusedSimpArgs false
set_option maxHeartbeats 3200000
set_option maxRecDepth 100000
namespace Go.Sy
open Go.Proofs
attribute [local irreducible] Fz HT Cw Oj onC onE onO onG goV goA goS Qv Ey
def Ak (r0 r1 p0 p1 a0 a1 a2:UInt64) (held:List UInt8) (n:Int):List L:=.pl (.u64 r0)::.pl (.u64 r1)::.pl (.u64 p0)::.pl (.u64 p1)::.pl (.u64 a0)::.pl (.u64 a1)::.pl (.u64 a2)::(Aq held++[.pl (.i n)])
def c0v (k:List UInt8):List L:=Ak (lev (k.take 8)&&&1152921487695413247) (lev ((k.drop 8).take 8)&&&1152921487695413244) (lev ((k.drop 16).take 8)) (lev ((k.drop 24).take 8)) 0 0 0 (List.replicate 16 0) 0
theorem c1e (key:List UInt8) (hk:key.length=32):
 Ct Tryd.prog 52 [.w (.agg (Aq key))] (fun v m=>v=.w (.agg (c0v key))):=by
 have hm: ∀ l:List UInt8,l.length=8→chunks 1 8 (List.map PL.u8 l)=Aw l:=fun l h=>Ew h
 have hm0:=hm (key.take 8) (by simp [hk])
 have hm1:=hm ((key.drop 8).take 8) (by simp [hk])
 have hm2:=hm ((key.drop 16).take 8) (by simp [hk])
 have hm3:=hm ((key.drop 24).take 8) (by simp [hk])
 have F0:=And.intro hk<|And.intro hm0<|And.intro hm1<|And.intro hm2<|hm3
 refine Ct.k Tryd.func52 rfl Tryd.ntmps52 (congrArg Array.toList Tryd.results52) (by simp) fun w0 ro=>?_
 refine Dx fun zZ zhZ=>?_
 iterate 10 first
  |(refine Dz fun zK zhK=>?_;simp only [go_sem,Ak,F0];(repeat' (first|apply And.intro|intro _)))
  |refine zhK _ ?_
  |(refine d0c (id:=1) [3,4,5,6,7,8,9,10,11,12,13,14,15] [0,1,3,0,11,27,63,0,155,0,923,1947,4095,8191] [] mixed (by kernel_rfl) (by simp only [go_sem]) fun zK zhK=>?_;simp only [go_sem,Ak,F0];(repeat' (first|apply And.intro|intro _)))
  |refine zhK _ _ trivial ?_
  |refine Ck ?_
  |(refine zhZ _ _ ?_;simp only [go_sem,Ak,F0];(all_goals (simp [c0v,Ak])))
  |((all_goals refine Dv (fun k=>k) _ [] (fun _ _=>rfl) (by first|rfl|(simp only [go_sem,Ak,F0]<;>rfl)) ((p1n _ (by first|(simp [List.length_take,List.length_drop,hk];done)|(simp [List.length_take,List.length_drop,hk];omega)) _).plain fun _ _ h=>h) ?_ ?_);(all_goals try (refine And.intro ?_ (And.intro ?_ (And.intro ?_ ?_))<;>first|rfl|simp only [go_sem]));(all_goals simp only [go_sem,Ak,F0]);(all_goals repeat' (first|apply And.intro|intro _)))
end Go.Sy
namespace Go.Sy
open Go.Proofs
attribute [local irreducible] Fz HT Cw Oj onC onE onO onG goV goA goS Qv Ey
theorem w0h (k0 k1 k2 k3 k4 k5 k6 k7 k8 k9 k10 k11 k12 k13 k14 k15 k16 k17 k18 k19 k20 k21 k22 k23 k24 k25 k26 k27 k28 k29 k30 k31:UInt8):
 Ct Tryd.prog 60 [.w (.agg [.pl (.u8 k0),.pl (.u8 k1),.pl (.u8 k2),.pl (.u8 k3),.pl (.u8 k4),.pl (.u8 k5),.pl (.u8 k6),.pl (.u8 k7),.pl (.u8 k8),.pl (.u8 k9),.pl (.u8 k10),.pl (.u8 k11),.pl (.u8 k12),.pl (.u8 k13),.pl (.u8 k14),.pl (.u8 k15),.pl (.u8 k16),.pl (.u8 k17),.pl (.u8 k18),.pl (.u8 k19),.pl (.u8 k20),.pl (.u8 k21),.pl (.u8 k22),.pl (.u8 k23),.pl (.u8 k24),.pl (.u8 k25),.pl (.u8 k26),.pl (.u8 k27),.pl (.u8 k28),.pl (.u8 k29),.pl (.u8 k30),.pl (.u8 k31)])] (fun v m=>v=.w (.agg (Ak (lev [k0,k1,k2,k3&&&15,k4&&&252,k5,k6,k7&&&15]) (lev [k8&&&252,k9,k10,k11&&&15,k12&&&252,k13,k14,k15&&&15]) (lev [k16,k17,k18,k19,k20,k21,k22,k23]) (lev [k24,k25,k26,k27,k28,k29,k30,k31]) 0 0 0 (List.replicate 16 0) 0))):=by
 refine Ct.k Tryd.func60 rfl Tryd.ntmps60 (congrArg Array.toList Tryd.results60) (by simp) fun w0 ro=>?_
 refine Dx fun zZ zhZ=>?_
 iterate 162 first
  |(refine Dj (x:=.seq (.region 2 _ _) _) [3,7,8,9,10,11,12,13,14,15,16] ?_;simp only [go_sem,St.forget,fgt];refine Hw fun zN zM zhN zhM=>?_)
  |(refine Dj [17,18,19,20,21,22,23,24,25] ?_;simp only [go_sem,St.forget,fgt];refine Hw fun zN zM zhN zhM=>?_)
  |refine Hw fun zN zM zhN zhM=>?_
  |refine zhK _ ?_
  |(refine zhN _ ?_;clear zhN zhM)
  |(refine Dz fun zK zhK=>?_;simp only [go_sem,Ak,Int.toNat_one];(repeat' (first|apply And.intro|intro _)))
  |(refine Cv fun zK zhK=>?_;simp only [go_sem,Ak,Int.toNat_one];(repeat' (first|apply And.intro|intro _)))
  |refine Cx fun zB zbn zbx zbr zbi=>?_
  |refine Cq ?_
  |(refine zbn _ ?_;clear zbn zbx zbr zbi)
  |(refine zhM _ _ ?_;clear zhN zhM)
  |refine Fx ?_
  |(refine zbx _ ?_;clear zbn zbx zbr zbi)
  |refine Fw (x:=.seq (.region 2 _ _) _) 5 ?_
  |refine Fw 4 ?_
  |(refine d0c (id:=11) [28,29,30,31,32,33,34,35,36,37,38,39,40,41,42] [0,1,3,0,8,31,63,0,128,447,0,1024,4031,8127,16383,32767] [] mixed (by kernel_rfl) (by simp only [go_sem]) fun zK zhK=>?_;simp only [go_sem,Ak,Int.toNat_one];(repeat' (first|apply And.intro|intro _)))
  |refine zhK _ _ trivial ?_
  |refine Ck ?_
  |(refine zhZ _ _ ?_;simp only [go_sem,Ak,Int.toNat_one];(all_goals (first|rfl|simp [Ak])))
  |((all_goals refine Dv (fun k=>k) _ [] (fun _ _=>rfl) (by first|rfl|(simp only [go_sem,Ak,Int.toNat_one]<;>rfl)) ((m0l _ (by simp)).plain fun _ _ h=>h) ?_ ?_);(all_goals try (refine And.intro ?_ (And.intro ?_ (And.intro ?_ ?_))<;>first|rfl|simp only [go_sem]));(all_goals simp only [go_sem,Ak,Int.toNat_one]);(all_goals repeat' (first|apply And.intro|intro _)))
  |refine Bq fun zN zM zhN zhM=>?_
  |(refine Bz ?_ ?_;focus (first|rfl|(simp [go_sem,Ak,Int.toNat_one];done)))
  |(refine Bj ?_ ?_;focus (first|rfl|(simp [go_sem,Ak,Int.toNat_one];done)))
theorem c2e (b0 b1 b2 b3 b4 b5 b6 b7:UInt8):lev [b0,b1,b2,b3&&&15,b4&&&252,b5,b6,b7&&&15]=lev [b0,b1,b2,b3,b4,b5,b6,b7]&&&1152921487695413247:=by
 apply UInt64.toNat_inj.mp
 rw [UInt64.toNat_and,Rx (by simp),Rx (by simp)]
 simp only [leN,UInt8.toNat_and]
 show (b0.toNat+256*(b1.toNat+256*(b2.toNat+256*((b3.toNat&&&15)+256*((b4.toNat&&&252)+256*(b5.toNat+256*(b6.toNat+256*((b7.toNat&&&15)+256*0))))))))=(b0.toNat+256*(b1.toNat+256*(b2.toNat+256*(b3.toNat+256*(b4.toNat+256*(b5.toNat+256*(b6.toNat+256*(b7.toNat+256*0))))))))&&&(255+256*(255+256*(255+256*(15+256*(252+256*(255+256*(255+256*(15+256*0))))))))
 have h0:=b0.toNat_lt
 have g0:b0.toNat&&&255=b0.toNat:=by rw [show (255:Nat)=2 ^ 8-1 from rfl,Nat.and_two_pow_sub_one_eq_mod,Nat.mod_eq_of_lt h0]
 have h1:=b1.toNat_lt
 have g1:b1.toNat&&&255=b1.toNat:=by rw [show (255:Nat)=2 ^ 8-1 from rfl,Nat.and_two_pow_sub_one_eq_mod,Nat.mod_eq_of_lt h1]
 have h2:=b2.toNat_lt
 have g2:b2.toNat&&&255=b2.toNat:=by rw [show (255:Nat)=2 ^ 8-1 from rfl,Nat.and_two_pow_sub_one_eq_mod,Nat.mod_eq_of_lt h2]
 have h3:=b3.toNat_lt
 have g3:b3.toNat&&&255=b3.toNat:=by rw [show (255:Nat)=2 ^ 8-1 from rfl,Nat.and_two_pow_sub_one_eq_mod,Nat.mod_eq_of_lt h3]
 have h4:=b4.toNat_lt
 have g4:b4.toNat&&&255=b4.toNat:=by rw [show (255:Nat)=2 ^ 8-1 from rfl,Nat.and_two_pow_sub_one_eq_mod,Nat.mod_eq_of_lt h4]
 have h5:=b5.toNat_lt
 have g5:b5.toNat&&&255=b5.toNat:=by rw [show (255:Nat)=2 ^ 8-1 from rfl,Nat.and_two_pow_sub_one_eq_mod,Nat.mod_eq_of_lt h5]
 have h6:=b6.toNat_lt
 have g6:b6.toNat&&&255=b6.toNat:=by rw [show (255:Nat)=2 ^ 8-1 from rfl,Nat.and_two_pow_sub_one_eq_mod,Nat.mod_eq_of_lt h6]
 have h7:=b7.toNat_lt
 have g7:b7.toNat&&&255=b7.toNat:=by rw [show (255:Nat)=2 ^ 8-1 from rfl,Nat.and_two_pow_sub_one_eq_mod,Nat.mod_eq_of_lt h7]
 rw [Oq (a:=b0.toNat) h0 (by decide),Oq (a:=b1.toNat) h1 (by decide),Oq (a:=b2.toNat) h2 (by decide),Oq (a:=b3.toNat) h3 (by decide),Oq (a:=b4.toNat) h4 (by decide),Oq (a:=b5.toNat) h5 (by decide),Oq (a:=b6.toNat) h6 (by decide),Oq (a:=b7.toNat) h7 (by decide),Nat.zero_and,g0,g1,g2,g5,g6]
theorem c2d (b0 b1 b2 b3 b4 b5 b6 b7:UInt8):lev [b0&&&252,b1,b2,b3&&&15,b4&&&252,b5,b6,b7&&&15]=lev [b0,b1,b2,b3,b4,b5,b6,b7]&&&1152921487695413244:=by
 apply UInt64.toNat_inj.mp
 rw [UInt64.toNat_and,Rx (by simp),Rx (by simp)]
 simp only [leN,UInt8.toNat_and]
 show ((b0.toNat&&&252)+256*(b1.toNat+256*(b2.toNat+256*((b3.toNat&&&15)+256*((b4.toNat&&&252)+256*(b5.toNat+256*(b6.toNat+256*((b7.toNat&&&15)+256*0))))))))=(b0.toNat+256*(b1.toNat+256*(b2.toNat+256*(b3.toNat+256*(b4.toNat+256*(b5.toNat+256*(b6.toNat+256*(b7.toNat+256*0))))))))&&&(252+256*(255+256*(255+256*(15+256*(252+256*(255+256*(255+256*(15+256*0))))))))
 have h0:=b0.toNat_lt
 have g0:b0.toNat&&&255=b0.toNat:=by rw [show (255:Nat)=2 ^ 8-1 from rfl,Nat.and_two_pow_sub_one_eq_mod,Nat.mod_eq_of_lt h0]
 have h1:=b1.toNat_lt
 have g1:b1.toNat&&&255=b1.toNat:=by rw [show (255:Nat)=2 ^ 8-1 from rfl,Nat.and_two_pow_sub_one_eq_mod,Nat.mod_eq_of_lt h1]
 have h2:=b2.toNat_lt
 have g2:b2.toNat&&&255=b2.toNat:=by rw [show (255:Nat)=2 ^ 8-1 from rfl,Nat.and_two_pow_sub_one_eq_mod,Nat.mod_eq_of_lt h2]
 have h3:=b3.toNat_lt
 have g3:b3.toNat&&&255=b3.toNat:=by rw [show (255:Nat)=2 ^ 8-1 from rfl,Nat.and_two_pow_sub_one_eq_mod,Nat.mod_eq_of_lt h3]
 have h4:=b4.toNat_lt
 have g4:b4.toNat&&&255=b4.toNat:=by rw [show (255:Nat)=2 ^ 8-1 from rfl,Nat.and_two_pow_sub_one_eq_mod,Nat.mod_eq_of_lt h4]
 have h5:=b5.toNat_lt
 have g5:b5.toNat&&&255=b5.toNat:=by rw [show (255:Nat)=2 ^ 8-1 from rfl,Nat.and_two_pow_sub_one_eq_mod,Nat.mod_eq_of_lt h5]
 have h6:=b6.toNat_lt
 have g6:b6.toNat&&&255=b6.toNat:=by rw [show (255:Nat)=2 ^ 8-1 from rfl,Nat.and_two_pow_sub_one_eq_mod,Nat.mod_eq_of_lt h6]
 have h7:=b7.toNat_lt
 have g7:b7.toNat&&&255=b7.toNat:=by rw [show (255:Nat)=2 ^ 8-1 from rfl,Nat.and_two_pow_sub_one_eq_mod,Nat.mod_eq_of_lt h7]
 rw [Oq (a:=b0.toNat) h0 (by decide),Oq (a:=b1.toNat) h1 (by decide),Oq (a:=b2.toNat) h2 (by decide),Oq (a:=b3.toNat) h3 (by decide),Oq (a:=b4.toNat) h4 (by decide),Oq (a:=b5.toNat) h5 (by decide),Oq (a:=b6.toNat) h6 (by decide),Oq (a:=b7.toNat) h7 (by decide),Nat.zero_and,g1,g2,g5,g6]
theorem p0d (key:List UInt8) (hk:key.length=32):Ct Tryd.prog 60 [.w (.agg (Aq key))] (fun v m=>v=.w (.agg (c0v key))):=by
 match key,hk with
 | [k0,k1,k2,k3,k4,k5,k6,k7,k8,k9,k10,k11,k12,k13,k14,k15,k16,k17,k18,k19,k20,k21,k22,k23,k24,k25,k26,k27,k28,k29,k30,k31],_=>
  have h:=w0h k0 k1 k2 k3 k4 k5 k6 k7 k8 k9 k10 k11 k12 k13 k14 k15 k16 k17 k18 k19 k20 k21 k22 k23 k24 k25 k26 k27 k28 k29 k30 k31
  rw [c2e,c2d] at h
  exact h
end Go.Sy
namespace Go.Sy
open Go.Proofs
attribute [local irreducible] Fz HT Cw Oj onC onE onO onG goV goA goS Qv Ey
structure PolyOk (r0 r1 a0 a1 a2:UInt64) (held:List UInt8) (n:Int):Prop where
 f0:r0&&&~~~1152921487695413247=0
 f1:r1&&&~~~1152921487695413244=0
 f2:a2.toNat<4
 acc:Oy a0 a1 a2<pP
 lo:0≤n
 hi:n≤15
 rest: ∀ j,n.toNat≤j→j<16→held.getD j 0=0
noncomputable def Kw (r0 r1 a0 a1 a2:UInt64) (held:List UInt8) (n:Int):Int:=if Classical.propDecidable (PolyOk r0 r1 a0 a1 a2 held n)|>.decide then 0 else 9
section
variable {r0 r1 a0 a1 a2:UInt64} {held:List UInt8} {n:Int}
theorem d0v (h:PolyOk r0 r1 a0 a1 a2 held n):Kw r0 r1 a0 a1 a2 held n=0:=by unfold Kw;simp [h]
theorem Ry (h:¬PolyOk r0 r1 a0 a1 a2 held n):Kw r0 r1 a0 a1 a2 held n=9:=by unfold Kw;simp [h]
theorem b0l {l:List UInt8} {o m i:Nat} (h:o+i<l.length) (hi:i<m):List.take 1 (List.drop i (List.take m (List.drop o l)))=[l.getD (o+i) 0]:=by
 have hl:i<(List.take m (List.drop o l)).length:=by rw [List.length_take,List.length_drop];omega
 rw [List.drop_eq_getElem_cons hl,List.take_succ_cons,List.take_zero]
 simp [List.getElem_take,List.getElem_drop,List.getD,List.getElem?_eq_getElem h]
theorem Gw (x:UInt8):Aq [x]=[.pl (.u8 x)]:=rfl
theorem d2c (h2:a2.toNat<4) (h:¬a2=3∨(a2=3∧¬a1=18446744073709551615)∨(a2=3∧a1=18446744073709551615∧¬18446744073709551611≤a0)):Oy a0 a1 a2<pP:=by
 have h0:=a0.toNat_lt;have h1:=a1.toNat_lt
 have e3:(a2=3)↔a2.toNat=3:=by rw [←UInt64.toNat_inj];rfl
 have e1:(a1=18446744073709551615)↔a1.toNat=18446744073709551615:=by rw [←UInt64.toNat_inj];rfl
 have e0:(18446744073709551611≤a0)↔18446744073709551611≤a0.toNat:=by rw [UInt64.le_iff_toNat_le];rfl
 rw [e3,e1,e0] at h
 simp only [Oy,pP];omega
theorem d2d (h2:a2=3) (h1:a1=18446744073709551615) (h0:18446744073709551611≤a0):¬Oy a0 a1 a2<pP:=by
 have e0:18446744073709551611≤a0.toNat:=UInt64.le_iff_toNat_le.mp h0
 subst h2;subst h1
 simp only [Oy,pP,show UInt64.toNat 18446744073709551615=18446744073709551615 from rfl,show UInt64.toNat 3=3 from rfl];omega
theorem d2e (h:¬(3:UInt64)<a2):a2.toNat<4:=by
 have:¬3<a2.toNat:=fun h2=>h (UInt64.lt_iff_toNat_lt.mpr h2)
 omega
theorem e2v (h:(3:UInt64)<a2):¬a2.toNat<4:=by
 have:3<a2.toNat:=UInt64.lt_iff_toNat_lt.mp h
 omega
end
theorem g1v (r0 r1 p0 p1 a0 a1 a2:UInt64) (held:List UInt8) (hh:held.length=16) (n:Int) (h0:¬r0&&&~~~1152921487695413247=0):
 Ct Tryd.prog 67 [.w (.agg (Ak r0 r1 p0 p1 a0 a1 a2 held n))] (fun v m=>v=.w (.one (.pl (.i (Kw r0 r1 a0 a1 a2 held n))))):=by
 refine Ct.k Tryd.func67 rfl Tryd.ntmps67 (congrArg Array.toList Tryd.results67) (by simp) fun w0 ro=>?_
 refine Dx fun zZ zhZ=>?_
 iterate 11 first
  |(refine Dz fun zK zhK=>?_;simp only [go_sem,Ak,hh,h0];(repeat' (first|apply And.intro|intro _)))
  |refine zhK _ ?_
  |refine Ck ?_
  |(refine zhM _ _ ?_;clear zhN zhM)
  |(refine zhZ _ _ ?_;simp only [go_sem,Ak,hh,h0];(all_goals (rw [Ry (fun h=>h0 h.f0)])))
  |refine Bq fun zN zM zhN zhM=>?_
  |(refine Bz ?_ ?_;focus (first|rfl|(simp [go_sem,Ak,hh,h0];done)))
theorem g1u (r0 r1 p0 p1 a0 a1 a2:UInt64) (held:List UInt8) (hh:held.length=16) (n:Int) (h0:r0&&&~~~1152921487695413247=0) (h1:¬r1&&&~~~1152921487695413244=0):
 Ct Tryd.prog 67 [.w (.agg (Ak r0 r1 p0 p1 a0 a1 a2 held n))] (fun v m=>v=.w (.one (.pl (.i (Kw r0 r1 a0 a1 a2 held n))))):=by
 have F0:=And.intro hh<|And.intro h0<|h1
 refine Ct.k Tryd.func67 rfl Tryd.ntmps67 (congrArg Array.toList Tryd.results67) (by simp) fun w0 ro=>?_
 refine Dx fun zZ zhZ=>?_
 iterate 11 first
  |(refine Dz fun zK zhK=>?_;simp only [go_sem,Ak,F0];(repeat' (first|apply And.intro|intro _)))
  |refine zhK _ ?_
  |refine Ck ?_
  |(refine zhM _ _ ?_;clear zhN zhM)
  |(refine zhZ _ _ ?_;simp only [go_sem,Ak,F0];(all_goals (rw [Ry (fun h=>h1 h.f1)])))
  |refine Bq fun zN zM zhN zhM=>?_
  |(refine Bz ?_ ?_;focus (first|rfl|(simp [go_sem,Ak,F0];done)))
theorem g1t (r0 r1 p0 p1 a0 a1 a2:UInt64) (held:List UInt8) (hh:held.length=16) (n:Int) (h0:r0&&&~~~1152921487695413247=0) (h1:r1&&&~~~1152921487695413244=0) (h2:3<a2):
 Ct Tryd.prog 67 [.w (.agg (Ak r0 r1 p0 p1 a0 a1 a2 held n))] (fun v m=>v=.w (.one (.pl (.i (Kw r0 r1 a0 a1 a2 held n))))):=by
 have F0:=And.intro hh<|And.intro h0<|And.intro h1<|h2
 refine Ct.k Tryd.func67 rfl Tryd.ntmps67 (congrArg Array.toList Tryd.results67) (by simp) fun w0 ro=>?_
 refine Dx fun zZ zhZ=>?_
 iterate 11 first
  |(refine Dz fun zK zhK=>?_;simp only [go_sem,Ak,F0];(repeat' (first|apply And.intro|intro _)))
  |refine zhK _ ?_
  |refine Ck ?_
  |(refine zhM _ _ ?_;clear zhN zhM)
  |(refine zhZ _ _ ?_;simp only [go_sem,Ak,F0];(all_goals (rw [Ry (fun h=>e2v h2 h.f2)])))
  |refine Bq fun zN zM zhN zhM=>?_
  |(refine Bz ?_ ?_;focus (first|rfl|(simp [go_sem,Ak,F0];done)))
theorem g1s (r0 r1 p0 p1 a0 a1 a2:UInt64) (held:List UInt8) (hh:held.length=16) (n:Int) (h0:r0&&&~~~1152921487695413247=0) (h1:r1&&&~~~1152921487695413244=0) (h2:¬3<a2) (h3:a2=3) (h4:a1=18446744073709551615) (h5:18446744073709551611≤a0):
 Ct Tryd.prog 67 [.w (.agg (Ak r0 r1 p0 p1 a0 a1 a2 held n))] (fun v m=>v=.w (.one (.pl (.i (Kw r0 r1 a0 a1 a2 held n))))):=by
 have hq3:=eq_true h3
 have hq4:=eq_true h4
 have F0:=And.intro hh<|And.intro h0<|And.intro h1<|And.intro h2<|And.intro hq3<|And.intro hq4<|h5
 refine Ct.k Tryd.func67 rfl Tryd.ntmps67 (congrArg Array.toList Tryd.results67) (by simp) fun w0 ro=>?_
 refine Dx fun zZ zhZ=>?_
 iterate 11 first
  |(refine Dz fun zK zhK=>?_;simp only [go_sem,Ak,F0];(repeat' (first|apply And.intro|intro _)))
  |refine zhK _ ?_
  |refine Ck ?_
  |(refine zhM _ _ ?_;clear zhN zhM)
  |(refine zhZ _ _ ?_;simp only [go_sem,Ak,F0];(all_goals (rw [Ry (fun h=>d2d h3 h4 h5 h.acc)])))
  |refine Bq fun zN zM zhN zhM=>?_
  |(refine Bz ?_ ?_;focus (first|rfl|(simp [go_sem,Ak,F0];done)))
theorem o1g (r0 r1 p0 p1 a0 a1 a2:UInt64) (held:List UInt8) (hh:held.length=16) (n:Int) (h0:r0&&&~~~1152921487695413247=0) (h1:r1&&&~~~1152921487695413244=0) (h2:¬3<a2) (h3:¬a2=3) (h6:n<0):
 Ct Tryd.prog 67 [.w (.agg (Ak r0 r1 p0 p1 a0 a1 a2 held n))] (fun v m=>v=.w (.one (.pl (.i (Kw r0 r1 a0 a1 a2 held n))))):=by
 have F0:=And.intro hh<|And.intro h0<|And.intro h1<|And.intro h2<|And.intro h3<|h6
 refine Ct.k Tryd.func67 rfl Tryd.ntmps67 (congrArg Array.toList Tryd.results67) (by simp) fun w0 ro=>?_
 refine Dx fun zZ zhZ=>?_
 iterate 11 first
  |(refine Dz fun zK zhK=>?_;simp only [go_sem,Ak,F0];(repeat' (first|apply And.intro|intro _)))
  |refine zhK _ ?_
  |refine Ck ?_
  |(refine zhM _ _ ?_;clear zhN zhM)
  |(refine zhZ _ _ ?_;simp only [go_sem,Ak,F0];(all_goals (rw [Ry (fun h=>absurd h.lo (by omega))])))
  |refine Bq fun zN zM zhN zhM=>?_
  |(refine Bz ?_ ?_;focus (first|rfl|(simp [go_sem,Ak,F0];done)))
theorem o1h (r0 r1 p0 p1 a0 a1 a2:UInt64) (held:List UInt8) (hh:held.length=16) (n:Int) (h0:r0&&&~~~1152921487695413247=0) (h1:r1&&&~~~1152921487695413244=0) (h2:¬3<a2) (h3:¬a2=3) (h6:¬n<0) (h7:15<n):
 Ct Tryd.prog 67 [.w (.agg (Ak r0 r1 p0 p1 a0 a1 a2 held n))] (fun v m=>v=.w (.one (.pl (.i (Kw r0 r1 a0 a1 a2 held n))))):=by
 have F0:=And.intro hh<|And.intro h0<|And.intro h1<|And.intro h2<|And.intro h3<|And.intro h6<|h7
 refine Ct.k Tryd.func67 rfl Tryd.ntmps67 (congrArg Array.toList Tryd.results67) (by simp) fun w0 ro=>?_
 refine Dx fun zZ zhZ=>?_
 iterate 11 first
  |(refine Dz fun zK zhK=>?_;simp only [go_sem,Ak,F0];(repeat' (first|apply And.intro|intro _)))
  |refine zhK _ ?_
  |refine Ck ?_
  |(refine zhM _ _ ?_;clear zhN zhM)
  |(refine zhZ _ _ ?_;simp only [go_sem,Ak,F0];(all_goals (rw [Ry (fun h=>absurd h.hi (by omega))])))
  |refine Bq fun zN zM zhN zhM=>?_
  |(refine Bz ?_ ?_;focus (first|rfl|(simp [go_sem,Ak,F0];done)))
theorem o1d (r0 r1 p0 p1 a0 a1 a2:UInt64) (held:List UInt8) (hh:held.length=16) (n:Int) (h0:r0&&&~~~1152921487695413247=0) (h1:r1&&&~~~1152921487695413244=0) (h2:¬3<a2) (h3:a2=3) (h4:¬a1=18446744073709551615) (h6:n<0):
 Ct Tryd.prog 67 [.w (.agg (Ak r0 r1 p0 p1 a0 a1 a2 held n))] (fun v m=>v=.w (.one (.pl (.i (Kw r0 r1 a0 a1 a2 held n))))):=by
 have hq3:=eq_true h3
 have F0:=And.intro hh<|And.intro h0<|And.intro h1<|And.intro h2<|And.intro hq3<|And.intro h4<|h6
 refine Ct.k Tryd.func67 rfl Tryd.ntmps67 (congrArg Array.toList Tryd.results67) (by simp) fun w0 ro=>?_
 refine Dx fun zZ zhZ=>?_
 iterate 11 first
  |(refine Dz fun zK zhK=>?_;simp only [go_sem,Ak,F0];(repeat' (first|apply And.intro|intro _)))
  |refine zhK _ ?_
  |refine Ck ?_
  |(refine zhM _ _ ?_;clear zhN zhM)
  |(refine zhZ _ _ ?_;simp only [go_sem,Ak,F0];(all_goals (rw [Ry (fun h=>absurd h.lo (by omega))])))
  |refine Bq fun zN zM zhN zhM=>?_
  |(refine Bz ?_ ?_;focus (first|rfl|(simp [go_sem,Ak,F0];done)))
theorem o1e (r0 r1 p0 p1 a0 a1 a2:UInt64) (held:List UInt8) (hh:held.length=16) (n:Int) (h0:r0&&&~~~1152921487695413247=0) (h1:r1&&&~~~1152921487695413244=0) (h2:¬3<a2) (h3:a2=3) (h4:¬a1=18446744073709551615) (h6:¬n<0) (h7:15<n):
 Ct Tryd.prog 67 [.w (.agg (Ak r0 r1 p0 p1 a0 a1 a2 held n))] (fun v m=>v=.w (.one (.pl (.i (Kw r0 r1 a0 a1 a2 held n))))):=by
 have hq3:=eq_true h3
 have F0:=And.intro hh<|And.intro h0<|And.intro h1<|And.intro h2<|And.intro hq3<|And.intro h4<|And.intro h6<|h7
 refine Ct.k Tryd.func67 rfl Tryd.ntmps67 (congrArg Array.toList Tryd.results67) (by simp) fun w0 ro=>?_
 refine Dx fun zZ zhZ=>?_
 iterate 11 first
  |(refine Dz fun zK zhK=>?_;simp only [go_sem,Ak,F0];(repeat' (first|apply And.intro|intro _)))
  |refine zhK _ ?_
  |refine Ck ?_
  |(refine zhM _ _ ?_;clear zhN zhM)
  |(refine zhZ _ _ ?_;simp only [go_sem,Ak,F0];(all_goals (rw [Ry (fun h=>absurd h.hi (by omega))])))
  |refine Bq fun zN zM zhN zhM=>?_
  |(refine Bz ?_ ?_;focus (first|rfl|(simp [go_sem,Ak,F0];done)))
theorem o1a (r0 r1 p0 p1 a0 a1 a2:UInt64) (held:List UInt8) (hh:held.length=16) (n:Int) (h0:r0&&&~~~1152921487695413247=0) (h1:r1&&&~~~1152921487695413244=0) (h2:¬3<a2) (h3:a2=3) (h4:a1=18446744073709551615) (h5:¬18446744073709551611≤a0) (h6:n<0):
 Ct Tryd.prog 67 [.w (.agg (Ak r0 r1 p0 p1 a0 a1 a2 held n))] (fun v m=>v=.w (.one (.pl (.i (Kw r0 r1 a0 a1 a2 held n))))):=by
 have hq3:=eq_true h3
 have hq4:=eq_true h4
 have F0:=And.intro hh<|And.intro h0<|And.intro h1<|And.intro h2<|And.intro hq3<|And.intro hq4<|And.intro h5<|h6
 refine Ct.k Tryd.func67 rfl Tryd.ntmps67 (congrArg Array.toList Tryd.results67) (by simp) fun w0 ro=>?_
 refine Dx fun zZ zhZ=>?_
 iterate 11 first
  |(refine Dz fun zK zhK=>?_;simp only [go_sem,Ak,F0];(repeat' (first|apply And.intro|intro _)))
  |refine zhK _ ?_
  |refine Ck ?_
  |(refine zhM _ _ ?_;clear zhN zhM)
  |(refine zhZ _ _ ?_;simp only [go_sem,Ak,F0];(all_goals (rw [Ry (fun h=>absurd h.lo (by omega))])))
  |refine Bq fun zN zM zhN zhM=>?_
  |(refine Bz ?_ ?_;focus (first|rfl|(simp [go_sem,Ak,F0];done)))
theorem o1b (r0 r1 p0 p1 a0 a1 a2:UInt64) (held:List UInt8) (hh:held.length=16) (n:Int) (h0:r0&&&~~~1152921487695413247=0) (h1:r1&&&~~~1152921487695413244=0) (h2:¬3<a2) (h3:a2=3) (h4:a1=18446744073709551615) (h5:¬18446744073709551611≤a0) (h6:¬n<0) (h7:15<n):
 Ct Tryd.prog 67 [.w (.agg (Ak r0 r1 p0 p1 a0 a1 a2 held n))] (fun v m=>v=.w (.one (.pl (.i (Kw r0 r1 a0 a1 a2 held n))))):=by
 have hq3:=eq_true h3
 have hq4:=eq_true h4
 have F0:=And.intro hh<|And.intro h0<|And.intro h1<|And.intro h2<|And.intro hq3<|And.intro hq4<|And.intro h5<|And.intro h6<|h7
 refine Ct.k Tryd.func67 rfl Tryd.ntmps67 (congrArg Array.toList Tryd.results67) (by simp) fun w0 ro=>?_
 refine Dx fun zZ zhZ=>?_
 iterate 11 first
  |(refine Dz fun zK zhK=>?_;simp only [go_sem,Ak,F0];(repeat' (first|apply And.intro|intro _)))
  |refine zhK _ ?_
  |refine Ck ?_
  |(refine zhM _ _ ?_;clear zhN zhM)
  |(refine zhZ _ _ ?_;simp only [go_sem,Ak,F0];(all_goals (rw [Ry (fun h=>absurd h.hi (by omega))])))
  |refine Bq fun zN zM zhN zhM=>?_
  |(refine Bz ?_ ?_;focus (first|rfl|(simp [go_sem,Ak,F0];done)))
theorem w0k (r0 r1 p0 p1 a0 a1 a2:UInt64) (held:List UInt8) (hh:held.length=16) (k:Nat) (h0:r0&&&~~~1152921487695413247=0) (h1:r1&&&~~~1152921487695413244=0) (h2:¬3<a2) (ha:¬a2=3∨(a2=3∧¬a1=18446744073709551615)∨(a2=3∧a1=18446744073709551615∧¬18446744073709551611≤a0)) (h7:k≤15):
 Ct Tryd.prog 67 [.w (.agg (Ak r0 r1 p0 p1 a0 a1 a2 held (k:Int)))] (fun v m=>v=.w (.one (.pl (.i (Kw r0 r1 a0 a1 a2 held (k:Int)))))):=by
 have h6:¬((k:Nat):Int)<0:=by omega
 have h8:¬(15:Int)<((k:Nat):Int):=by omega
 have h9:(0:Int)≤((k:Nat):Int):=by omega
 have h10:((k:Nat):Int)≤16:=by omega
 have hd:(¬a2=3)∨(((a2=3)=True)∧¬a1=18446744073709551615)∨(((a2=3)=True)∧((a1=18446744073709551615)=True)∧¬18446744073709551611≤a0):=ha.imp id (Or.imp (fun h=>⟨eq_true h.1,h.2⟩) (fun h=>⟨eq_true h.1,eq_true h.2.1,h.2.2⟩))
 rcases hd with F1|F1|F1
 all_goals
  have F0:=And.intro hh<|And.intro h0<|And.intro h1<|And.intro h2<|And.intro F1<|And.intro h6<|And.intro h8<|And.intro h9<|h10
  refine Ct.k Tryd.func67 rfl Tryd.ntmps67 (congrArg Array.toList Tryd.results67) (by simp) fun w0 ro=>?_
  refine Dx fun zZ zhZ=>?_
  iterate 12 first
   |(refine Dz fun zK zhK=>?_;simp only [go_sem,Ak,F0];(repeat' (first|apply And.intro|intro _)))
   |refine zhK _ ?_
   |refine Cq ?_
   |(refine zhN _ ?_;clear zhN zhM)
   |refine Cx fun zB zbn zbx zbr zbi=>?_
   |refine Bq fun zN zM zhN zhM=>?_
   |(refine Bj ?_ ?_;focus (first|rfl|(simp [go_sem,Ak,F0];done)))
  refine Fq [0,1,5,6,7,8,9,10,11,12,13,14,15,16,17,18,19,20,21,22,23,24,25,26,27,28,29,30,31,32,33,34,35,36,37,38,39,40,41,42,43,44,45,46,47,48,49,50,51,52,53] ?_
  simp only [Gz,Gj,Fj,List.contains_cons,List.contains_nil,Nat.reduceBEq,beq_self_eq_true,Bool.or_false,Bool.or_true,Bool.true_or,Bool.false_or,Bool.false_eq_true,reduceIte]
  refine Ik (fun y=>[(56,.w (.one (.pl (.i ((y.1:Nat):Int)))))]) (fun _=>[]) (fun y=>16-y.1) (⟨0,Nat.zero_le _,fun j hj=>absurd hj (Nat.not_lt_zero j)⟩:{y:Nat//y≤16-k∧∀ j,j<y→held.getD (k+j) 0=0}) ?_ ?_ ?_
  · (simp only [go_sem,leX,List.cons_append,List.nil_append];try simp)
  · (simp only [go_sem,leX,List.cons_append,List.nil_append];try simp)
  intro yy zN zM zhN zhM
  simp only [List.cons_append,List.nil_append]
  obtain ⟨i,hi,hz⟩:=yy
  have hd:(i<16-k∧¬held.getD (k+i) 0=0)∨(i<16-k∧held.getD (k+i) 0=0)∨i=16-k:=by
   by_cases h:i=16-k
   · exact .inr (.inr h)
   · have:i<16-k:=by omega
     by_cases h2:held.getD (k+i) 0=0
     · exact .inr (.inl ⟨this,h2⟩)
     · exact .inl ⟨this,h2⟩
  rcases hd with ⟨hlt,hb⟩|⟨hlt,hb⟩|rfl
  · have hcq:((i:Nat):Int)<((16-k:Nat):Int):=by omega
    have hc0:(0:Int)≤((i:Nat):Int):=by omega
    have hk1:k+i<held.length:=by omega
    have hk2:k+(16-k)≤16:=by omega
    have hk3:i+1≤16-k:=by omega
    have hk4:=b0l (m:=16-k) hk1 (by omega)
    have hbq:(held.getD (k+i) 0=0)=False:=eq_false hb
    have F7:=And.intro hcq<|And.intro hc0<|And.intro hk2<|And.intro hk3<|And.intro hk4<|hbq
    iterate 22 first
     |(refine Dz fun zK zhK=>?_;simp only [go_sem,Ak,F0,Gw,F7];(repeat' (first|apply And.intro|intro _)))
     |refine zhK _ ?_
     |(refine zhM _ _ ?_;clear zhN zhM)
     |(refine zbr _ ?_;clear zbn zbx zbr zbi)
     |refine Cq ?_
     |(refine zhN _ ?_;clear zhN zhM)
     |refine Cx fun zB zbn zbx zbr zbi=>?_
     |refine Ck ?_
     |(refine zhZ _ _ ?_;simp only [go_sem,Ak,F0,Gw,F7];(all_goals (rw [Ry (fun h=>hb (h.rest (k+i) (by simp) (by omega)))])))
     |refine Bq fun zN zM zhN zhM=>?_
     |(refine Bz ?_ ?_;focus (first|rfl|(simp [go_sem,Ak,F0,Gw,F7];done)))
  · have hcq:((i:Nat):Int)<((16-k:Nat):Int):=by omega
    have hc0:(0:Int)≤((i:Nat):Int):=by omega
    have hk1:k+i<held.length:=by omega
    have hk2:k+(16-k)≤16:=by omega
    have hk3:i+1≤16-k:=by omega
    have hk4:=b0l (m:=16-k) hk1 (by omega)
    have hbq:(held.getD (k+i) 0=0)=True:=eq_true hb
    have hs1:Go.RowKit.wrap64 (((i:Nat):Int)+1)=((i+1:Nat):Int):=Kv (by omega) (by omega)
    have F14:=And.intro hcq<|And.intro hc0<|And.intro hk2<|And.intro hk3<|And.intro hk4<|And.intro hbq<|hs1
    iterate 18 first
     |refine zhK _ ?_
     |(refine Dz fun zK zhK=>?_;simp only [go_sem,Ak,F0,Gw,F14];(repeat' (first|apply And.intro|intro _)))
     |refine Cq ?_
     |(refine zhN _ ?_;clear zhN zhM)
     |refine Cx fun zB zbn zbx zbr zbi=>?_
     |(refine zbn _ ?_;clear zbn zbx zbr zbi)
     |(refine Cv fun zK zhK=>?_;simp only [go_sem,Ak,F0,Gw,F14];(repeat' (first|apply And.intro|intro _)))
     |refine Bq fun zN zM zhN zhM=>?_
     |(refine Bz ?_ ?_;focus (first|rfl|(simp [go_sem,Ak,F0,Gw,F14];done)))
     |(refine Bj ?_ ?_;focus (first|rfl|(simp [go_sem,Ak,F0,Gw,F14];done)))
    refine zhN ⟨i+1,by omega,fun j hj=>by rcases Nat.lt_succ_iff_lt_or_eq.mp hj with h|rfl;exact hz j h;exact hb⟩ _ ?_ ?_ ?_
    · (show 16-(i+1)<16-i;clear hs1;omega)
    · (simp only [go_sem,leX,List.cons_append,List.nil_append];try simp)
    · (simp only [go_sem,leX,List.cons_append,List.nil_append];try simp)
  · have hcq:¬((16-k:Nat):Int)<((16-k:Nat):Int):=by omega
    refine Dz fun zK zhK=>?_
    simp only [go_sem,Ak,F0,hcq]
    repeat' (first|apply And.intro|intro _)
    refine zhK _ ?_
    refine Bq fun zN zM zhN zhM=>?_
    (refine Bj ?_ ?_;focus (first|rfl|(simp [go_sem,Ak,F0,hcq];done)))
    refine Fx ?_
    refine zhM _ _ ?_;clear zhN zhM
    refine zhM _ _ ?_;clear zhN zhM
    refine zbx _ ?_;clear zbn zbx zbr zbi
    refine zhN _ ?_;clear zhN zhM
    refine Dz fun zK zhK=>?_
    simp only [go_sem,Ak,F0,hcq]
    repeat' (first|apply And.intro|intro _)
    refine zhK _ ?_
    refine Ck ?_
    refine zhZ _ _ ?_
    simp only [go_sem,Ak,F0,hcq]
    all_goals (rw [d0v ⟨h0,h1,d2e h2,d2c (d2e h2) ha,by omega,by omega,fun j hj hl=>by have:=hz (j-k) (by simp at hj;omega);rwa [show k+(j-k)=j from by simp at hj;omega] at this⟩])
theorem o1f (r0 r1 p0 p1 a0 a1 a2:UInt64) (held:List UInt8) (hh:held.length=16) (k:Nat) (h0:r0&&&~~~1152921487695413247=0) (h1:r1&&&~~~1152921487695413244=0) (h2:¬3<a2) (h3:¬a2=3) (h7:k≤15):Ct Tryd.prog 67 [.w (.agg (Ak r0 r1 p0 p1 a0 a1 a2 held (k:Int)))] (fun v m=>v=.w (.one (.pl (.i (Kw r0 r1 a0 a1 a2 held (k:Int)))))):=w0k r0 r1 p0 p1 a0 a1 a2 held hh k h0 h1 h2 (.inl h3) h7
theorem o1c (r0 r1 p0 p1 a0 a1 a2:UInt64) (held:List UInt8) (hh:held.length=16) (k:Nat) (h0:r0&&&~~~1152921487695413247=0) (h1:r1&&&~~~1152921487695413244=0) (h2:¬3<a2) (h3:a2=3) (h4:¬a1=18446744073709551615) (h7:k≤15):Ct Tryd.prog 67 [.w (.agg (Ak r0 r1 p0 p1 a0 a1 a2 held (k:Int)))] (fun v m=>v=.w (.one (.pl (.i (Kw r0 r1 a0 a1 a2 held (k:Int)))))):=w0k r0 r1 p0 p1 a0 a1 a2 held hh k h0 h1 h2 (.inr (.inl ⟨h3,h4⟩)) h7
theorem n1z (r0 r1 p0 p1 a0 a1 a2:UInt64) (held:List UInt8) (hh:held.length=16) (k:Nat) (h0:r0&&&~~~1152921487695413247=0) (h1:r1&&&~~~1152921487695413244=0) (h2:¬3<a2) (h3:a2=3) (h4:a1=18446744073709551615) (h5:¬18446744073709551611≤a0) (h7:k≤15):Ct Tryd.prog 67 [.w (.agg (Ak r0 r1 p0 p1 a0 a1 a2 held (k:Int)))] (fun v m=>v=.w (.one (.pl (.i (Kw r0 r1 a0 a1 a2 held (k:Int)))))):=w0k r0 r1 p0 p1 a0 a1 a2 held hh k h0 h1 h2 (.inr (.inr ⟨h3,h4,h5⟩)) h7
end Go.Sy
namespace Go.Sy
open Go.Proofs
attribute [local irreducible] Fz HT Cw Oj onC onE onO onG goV goA goS Qv Ey
theorem m1d (x m:UInt64):x=(x&&&m)|||(x&&&~~~m):=by
 apply UInt64.toBitVec_inj.mp
 simp only [UInt64.toBitVec_or,UInt64.toBitVec_and,UInt64.toBitVec_not]
 ext i hi
 simp only [BitVec.getElem_or,BitVec.getElem_and,BitVec.getElem_not]
 cases x.toBitVec[i]<;>cases m.toBitVec[i]<;>rfl
theorem Ov (x m:UInt64):(x&&&m=x)↔x&&&~~~m=0:=by
 constructor
 · intro h
   rw [←h]
   apply UInt64.toBitVec_inj.mp
   simp only [UInt64.toBitVec_and,UInt64.toBitVec_not]
   ext i hi
   simp only [BitVec.getElem_and,BitVec.getElem_not]
   cases x.toBitVec[i]<;>cases m.toBitVec[i]<;>simp
 · intro h
   have:=m1d x m
   rw [h,UInt64.or_zero] at this
   exact this.symm
theorem i1b (n:Nat):lev (List.replicate n 0)=0:=by
 have:leN (List.replicate n 0)=0:=by
  induction n with
  |zero=>rfl
  |succ n ih=>simp [List.replicate_succ,leN,ih]
 simp [lev,this]
theorem y1a (r0 r1:UInt64):c0v (Mk r0 8++(Mk r1 8++List.replicate 16 0))=Ak (r0&&&1152921487695413247) (r1&&&1152921487695413244) 0 0 0 0 0 (List.replicate 16 0) 0:=by
 have l0:=Av r0 8
 have l1:=Av r1 8
 have e0:(Mk r0 8++(Mk r1 8++List.replicate 16 0)).take 8=Mk r0 8:=List.take_left' l0
 have d8:(Mk r0 8++(Mk r1 8++List.replicate 16 0)).drop 8=Mk r1 8++List.replicate 16 0:=List.drop_left' l0
 have e1:(Mk r1 8++List.replicate 16 (0:UInt8)).take 8=Mk r1 8:=List.take_left' l1
 have d16:(Mk r0 8++(Mk r1 8++List.replicate 16 0)).drop 16=List.replicate 16 0:=by
  rw [show 16=8+8 from rfl,←List.drop_drop,d8,List.drop_left' l1]
 have d24:(Mk r0 8++(Mk r1 8++List.replicate 16 0)).drop 24=List.replicate 8 0:=by
  rw [show 24=16+8 from rfl,←List.drop_drop,d16];rfl
 simp only [c0v,e0,d8,e1,d16,d24,p1f]
 rw [show (List.replicate 16 (0:UInt8)).take 8=List.replicate 8 0 from rfl,show (List.replicate 8 (0:UInt8)).take 8=List.replicate 8 0 from rfl,i1b]
theorem a0z (r0 r1:UInt64):Ct Tryd.prog 60 [.w (.agg (Aq (Mk r0 8++Mk r1 8++List.replicate 16 0)))] (fun v m=>v=.w (.agg (Ak (r0&&&1152921487695413247) (r1&&&1152921487695413244) 0 0 0 0 0 (List.replicate 16 0) 0))):=by
 have h:=p0d (Mk r0 8++(Mk r1 8++List.replicate 16 0)) (by simp [Av])
 rw [y1a] at h
 rw [List.append_assoc];exact h
theorem m16 :min 16 32=16:=rfl
theorem d16 :List.drop 16 (List.replicate 32 (0:UInt8))=List.replicate 16 0:=rfl
theorem Qk (a b:UInt64):List.take 16 (Mk a 8++Mk b 8)=Mk a 8++Mk b 8:=List.take_of_length_le (by simp [Av])
def hok (held:List UInt8) (n:Int) (i:Nat):Bool:=decide (∀ j,j<i→((j:Nat):Int)<n∨held.getD j 0=0)
theorem b0v (p:P5):Ct Tryd.prog 76 [.w (.agg p.ls)] (fun v m=>v=.w (.agg p.carried.ls)):=q1v p.a p.b p.c p.d p.e
theorem k0y (p:P5):Ct Tryd.prog 77 [.w (.agg p.ls)] (fun v m=>v=.w (.agg (W3 p.w0 p.w1 p.w2))):=y1s p.a p.b p.c p.d p.e
theorem q0v (r0 r1 p0 p1 a0 a1 a2:UInt64) (held:List UInt8) (hh:held.length=16) (n:Int) (hr:Kw r0 r1 a0 a1 a2 held n=9) (hd:(decide (r0&&&1152921487695413247=r0)&&decide (r1&&&1152921487695413244=r1))=false∨(r0&&&1152921487695413247=r0∧r1&&&1152921487695413244=r1∧¬0≤n)∨(r0&&&1152921487695413247=r0∧r1&&&1152921487695413244=r1∧0≤n∧¬n<16)∨(r0&&&1152921487695413247=r0∧r1&&&1152921487695413244=r1∧0≤n∧n<16∧¬a2<4)):
 Ct Tryd.prog 71 [.w (.agg (Ak r0 r1 p0 p1 a0 a1 a2 held n))] (fun v m=>v=.w (.one (.pl (.i (Kw r0 r1 a0 a1 a2 held n))))):=by
 rcases hd with F1|F1|F1|F1
 all_goals
  have F0:=And.intro hh<|And.intro F1<|hr
  refine Ct.k Tryd.func71 rfl Tryd.ntmps71 (congrArg Array.toList Tryd.results71) (by simp) fun w0 ro=>?_
  refine Dx fun zZ zhZ=>?_
  iterate 17 first
   |(refine Dz fun zK zhK=>?_;simp only [go_sem,m16,d16,Qk,Ak,Av,Bool.and_false,Bool.false_and,W3,F0];(repeat' (first|apply And.intro|intro _)))
   |refine zhK _ ?_
   |refine zhK _ _ trivial ?_
   |(refine Kk (id:=2) [8,9,10,11,12,13,14,15,16,17,18] [0,0,2,6,14,0,32,96,254,510,1023] [] mixed (by kernel_rfl) (by simp only [go_sem]) fun zK zhK=>?_;simp only [go_sem,m16,d16,Qk,Ak,Av,Bool.and_false,Bool.false_and,W3,F0];(repeat' (first|apply And.intro|intro _)))
   |(refine zhN _ ?_;clear zhN zhM)
   |(refine d0c (id:=3) [19,20,21,22,23,24,25,26,27,28,29,30,31,32,33,34,35,36,37,38,39,40,41,42,43,44,45,46,47,48,49,50,4] [0,1,3,0,8,31,63,127,255,511,1023,2047,4095,8191,16383,32767,65535,131071,262143,524287,1048575,2097151,4194303,8388607,16777215,33554431,67108863,134217727,8388607,276824063,1073741823,2147483647,4294967295] [] mixed (by kernel_rfl) (by simp only [go_sem]) fun zK zhK=>?_;simp only [go_sem,m16,d16,Qk,Ak,Av,Bool.and_false,Bool.false_and,W3,F0];(repeat' (first|apply And.intro|intro _)))
   |refine Cx fun zB zbn zbx zbr zbi=>?_
   |((all_goals refine Dv (fun k=>k) _ [] (fun _ _=>rfl) (by first|rfl|(simp only [go_sem,m16,d16,Qk,Ak,Av,Bool.and_false,Bool.false_and,W3,F0]<;>rfl)) ((e1e _ 8 (by decide)).plain fun _ _ h=>h) ?_ ?_);(all_goals try (refine And.intro ?_ (And.intro ?_ (And.intro ?_ ?_))<;>first|rfl|simp only [go_sem]));(all_goals simp only [go_sem,m16,d16,Qk,Ak,Av,Bool.and_false,Bool.false_and,W3,F0]);(all_goals repeat' (first|apply And.intro|intro _)))
   |((all_goals (refine Dv (fun k=>k) _ [] (fun _ _=>rfl) ?_ ((a0z r0 r1).plain fun _ _ h=>h) ?_ ?_;focus (first|rfl|(simp only [go_sem,m16,d16,Qk,Ak,Av,Bool.and_false,Bool.false_and,W3,F0]<;>rfl))));(all_goals try (refine And.intro ?_ (And.intro ?_ (And.intro ?_ ?_))<;>first|rfl|simp only [go_sem]));(all_goals simp only [go_sem,m16,d16,Qk,Ak,Av,Bool.and_false,Bool.false_and,W3,F0]);(all_goals repeat' (first|apply And.intro|intro _));(all_goals (first|((refine Dv (fun k=>k) _ [] (fun _ _=>rfl) ?_ ((e0v a0 a1 a2).plain fun _ _ h=>h) ?_ ?_;focus (first|rfl|(simp only [go_sem,m16,d16,Qk,Ak,Av,Bool.and_false,Bool.false_and,W3,F0]<;>rfl)));all_goals try (refine And.intro ?_ (And.intro ?_ (And.intro ?_ ?_))<;>first|rfl|simp only [go_sem]);all_goals simp only [go_sem,m16,d16,Qk,Ak,Av,Bool.and_false,Bool.false_and,W3,F0];all_goals repeat' (first|apply And.intro|intro _))|skip));(all_goals (first|((refine Dv (fun k=>k) _ [] (fun _ _=>rfl) ?_ ((b0v (Gv a0 a1 a2)).plain fun _ _ h=>h) ?_ ?_;focus (first|rfl|(simp only [go_sem,m16,d16,Qk,Ak,Av,Bool.and_false,Bool.false_and,W3,F0]<;>rfl)));all_goals try (refine And.intro ?_ (And.intro ?_ (And.intro ?_ ?_))<;>first|rfl|simp only [go_sem]);all_goals simp only [go_sem,m16,d16,Qk,Ak,Av,Bool.and_false,Bool.false_and,W3,F0];all_goals repeat' (first|apply And.intro|intro _))|skip));(all_goals (first|((refine Dv (fun k=>k) _ [] (fun _ _=>rfl) ?_ ((k0y (Gv a0 a1 a2).carried).plain fun _ _ h=>h) ?_ ?_;focus (first|rfl|(simp only [go_sem,m16,d16,Qk,Ak,Av,Bool.and_false,Bool.false_and,W3,F0]<;>rfl)));all_goals try (refine And.intro ?_ (And.intro ?_ (And.intro ?_ ?_))<;>first|rfl|simp only [go_sem]);all_goals simp only [go_sem,m16,d16,Qk,Ak,Av,Bool.and_false,Bool.false_and,W3,F0];all_goals repeat' (first|apply And.intro|intro _))|skip)))
   |refine Bq fun zN zM zhN zhM=>?_
  refine Fq [0,3,7,8,9,10,11,12,13,14,15,16,17,18,19,20,21,22,23,24,25,26,27,28,29,30,31,32,33,34,35,36,37,38,39,40,41,42,43,44,45,46,47,48,49,50,51] ?_
  simp only [Gz,Gj,Fj,List.contains_cons,List.contains_nil,Nat.reduceBEq,beq_self_eq_true,Bool.or_false,Bool.or_true,Bool.true_or,Bool.false_or,Bool.false_eq_true,reduceIte]
  refine Ik (fun y=>[(53,.w (.one (.pl (.i ((y.1:Nat):Int))))),(4,.w (.one (.pl (.b false))))]) (fun _=>[]) (fun y=>16-y.1) (⟨0,Nat.zero_le _⟩:{y:Nat//y≤16}) ?_ ?_ ?_
  · (simp only [go_sem,leX,List.cons_append,List.nil_append];try simp)
  · (simp only [go_sem,leX,List.cons_append,List.nil_append];try simp)
  intro ⟨i,hi⟩ zN zM zhN zhM
  simp only [List.cons_append,List.nil_append]
  rcases Nat.lt_or_ge i 16 with hlt|hge
  · have hcq:((i:Nat):Int)<16:=by omega
    have hc0:(0:Int)≤((i:Nat):Int):=by omega
    have hs1:Go.RowKit.wrap64 (((i:Nat):Int)+1)=((i+1:Nat):Int):=Kv (by omega) (by omega)
    have hk1:List.take 1 (List.drop i held)=[held.getD i 0]:=by have:=b0l (l:=held) (o:=0) (m:=16) (i:=i) (by omega) hlt;simpa [←hh] using this
    have hk2:i+1≤16:=by omega
    have F9:=And.intro hcq<|And.intro hc0<|And.intro hs1<|And.intro hk1<|hk2
    iterate 16 first
     |refine zhK _ ?_
     |(refine Dz fun zK zhK=>?_;simp only [go_sem,m16,d16,Qk,Ak,Av,Bool.and_false,Bool.false_and,W3,F0,Gw,F9];(repeat' (first|apply And.intro|intro _)))
     |(refine zhN _ ?_;clear zhN zhM)
     |(refine Cv fun zK zhK=>?_;simp only [go_sem,m16,d16,Qk,Ak,Av,Bool.and_false,Bool.false_and,W3,F0,Gw,F9];(repeat' (first|apply And.intro|intro _)))
     |refine Cq ?_
     |refine Cx fun zB zbn zbx zbr zbi=>?_
     |(refine zbn _ ?_;clear zbn zbx zbr zbi)
     |refine Bq fun zN zM zhN zhM=>?_
     |(refine Bz ?_ ?_;focus (first|rfl|(simp [go_sem,m16,d16,Qk,Ak,Av,Bool.and_false,Bool.false_and,W3,F0,Gw,F9];done)))
    refine zhN ⟨i+1,hlt⟩ _ ?_ ?_ ?_
    · (show 16-(i+1)<16-i;clear hs1;omega)
    · (simp only [go_sem,leX,List.cons_append,List.nil_append];try simp)
    · (simp only [go_sem,leX,List.cons_append,List.nil_append];try simp)
  · have hcq:¬((i:Nat):Int)<16:=by omega
    iterate 18 first
     |(refine Dz fun zK zhK=>?_;simp only [go_sem,m16,d16,Qk,Ak,Av,Bool.and_false,Bool.false_and,W3,F0,hcq];(repeat' (first|apply And.intro|intro _)))
     |refine zhK _ ?_
     |(refine zhM _ _ ?_;clear zhN zhM)
     |refine Fx ?_
     |(refine zbx _ ?_;clear zbn zbx zbr zbi)
     |(refine zhN _ ?_;clear zhN zhM)
     |refine Ck ?_
     |(refine zhZ _ _ ?_;simp only [go_sem,m16,d16,Qk,Ak,Av,Bool.and_false,Bool.false_and,W3,F0,hcq];(all_goals (rfl)))
     |refine Bq fun zN zM zhN zhM=>?_
     |(refine Bj ?_ ?_;focus (first|rfl|(simp [go_sem,m16,d16,Qk,Ak,Av,Bool.and_false,Bool.false_and,W3,F0,hcq];done)))
     |(refine Bz ?_ ?_;focus (first|rfl|(simp [go_sem,m16,d16,Qk,Ak,Av,Bool.and_false,Bool.false_and,W3,F0,hcq];done)))
theorem a2w (r0 r1 p0 p1 a0 a1 a2:UInt64) (held:List UInt8) (hh:held.length=16) (n:Int) (h0:¬(r0&&&1152921487695413247=r0∧r1&&&1152921487695413244=r1)):Ct Tryd.prog 71 [.w (.agg (Ak r0 r1 p0 p1 a0 a1 a2 held n))] (fun v m=>v=.w (.one (.pl (.i (Kw r0 r1 a0 a1 a2 held n))))):=q0v r0 r1 p0 p1 a0 a1 a2 held hh n (Ry fun h=>h0 ⟨(Ov _ _).mpr h.f0,(Ov _ _).mpr h.f1⟩) (.inl (by simpa using h0))
theorem u1h (r0 r1 p0 p1 a0 a1 a2:UInt64) (held:List UInt8) (hh:held.length=16) (n:Int) (h0:r0&&&~~~1152921487695413247=0) (h1:r1&&&~~~1152921487695413244=0) (h2:¬0≤n):Ct Tryd.prog 71 [.w (.agg (Ak r0 r1 p0 p1 a0 a1 a2 held n))] (fun v m=>v=.w (.one (.pl (.i (Kw r0 r1 a0 a1 a2 held n))))):=q0v r0 r1 p0 p1 a0 a1 a2 held hh n (Ry fun h=>h2 h.lo) (.inr (.inl ⟨(Ov _ _).mpr h0,(Ov _ _).mpr h1,h2⟩))
theorem u1i (r0 r1 p0 p1 a0 a1 a2:UInt64) (held:List UInt8) (hh:held.length=16) (n:Int) (h0:r0&&&~~~1152921487695413247=0) (h1:r1&&&~~~1152921487695413244=0) (h2:0≤n) (h3:¬n<16):Ct Tryd.prog 71 [.w (.agg (Ak r0 r1 p0 p1 a0 a1 a2 held n))] (fun v m=>v=.w (.one (.pl (.i (Kw r0 r1 a0 a1 a2 held n))))):=q0v r0 r1 p0 p1 a0 a1 a2 held hh n (Ry fun h=>h3 (by have:=h.hi;omega)) (.inr (.inr (.inl ⟨(Ov _ _).mpr h0,(Ov _ _).mpr h1,h2,h3⟩)))
theorem u1j (r0 r1 p0 p1 a0 a1 a2:UInt64) (held:List UInt8) (hh:held.length=16) (n:Int) (h0:r0&&&~~~1152921487695413247=0) (h1:r1&&&~~~1152921487695413244=0) (h2:0≤n) (h3:n<16) (h4:¬a2<4):Ct Tryd.prog 71 [.w (.agg (Ak r0 r1 p0 p1 a0 a1 a2 held n))] (fun v m=>v=.w (.one (.pl (.i (Kw r0 r1 a0 a1 a2 held n))))):=q0v r0 r1 p0 p1 a0 a1 a2 held hh n (Ry fun h=>h4 (UInt64.lt_iff_toNat_lt.mpr h.f2)) (.inr (.inr (.inr (⟨(Ov _ _).mpr h0,(Ov _ _).mpr h1,h2,h3,h4⟩))))
theorem n1w (r0 r1 p0 p1 a0 a1 a2:UInt64) (held:List UInt8) (hh:held.length=16) (n:Int) (h0:r0&&&~~~1152921487695413247=0) (h1:r1&&&~~~1152921487695413244=0) (h2:0≤n) (h3:n<16) (h4:a2<4) (h5:¬((Gv a0 a1 a2).carried.w0=a0∧(Gv a0 a1 a2).carried.w1=a1∧(Gv a0 a1 a2).carried.w2=a2)):
 Ct Tryd.prog 71 [.w (.agg (Ak r0 r1 p0 p1 a0 a1 a2 held n))] (fun v m=>v=.w (.one (.pl (.i (Kw r0 r1 a0 a1 a2 held n))))):=by
 have q0:=(Ov _ _).mpr h0
 have q1:=(Ov _ _).mpr h1
 have q5:(decide ((Gv a0 a1 a2).carried.w0=a0)&&(decide ((Gv a0 a1 a2).carried.w1=a1)&&decide ((Gv a0 a1 a2).carried.w2=a2)))=false:=by simpa using h5
 have hr:=Ry (r0:=r0) (r1:=r1) (a0:=a0) (a1:=a1) (a2:=a2) (held:=held) (n:=n) (fun h=>h5 ((canon a0 a1 a2 h.f2).mpr h.acc))
 have F0:=And.intro hh<|And.intro q0<|And.intro q1<|And.intro h2<|And.intro h3<|And.intro h4<|And.intro q5<|hr
 refine Ct.k Tryd.func71 rfl Tryd.ntmps71 (congrArg Array.toList Tryd.results71) (by simp) fun w0 ro=>?_
 refine Dx fun zZ zhZ=>?_
 iterate 20 first
  |(refine Dz fun zK zhK=>?_;simp only [go_sem,m16,d16,Qk,Ak,Av,Bool.and_false,Bool.false_and,W3,F0];(repeat' (first|apply And.intro|intro _)))
  |refine zhK _ ?_
  |refine zhK _ _ trivial ?_
  |(refine Kk (id:=2) [8,9,10,11,12,13,14,15,16,17,18] [0,0,2,6,14,0,32,96,254,510,1023] [] mixed (by kernel_rfl) (by simp only [go_sem]) fun zK zhK=>?_;simp only [go_sem,m16,d16,Qk,Ak,Av,Bool.and_false,Bool.false_and,W3,F0];(repeat' (first|apply And.intro|intro _)))
  |(refine zhN _ ?_;clear zhN zhM)
  |(refine d0c (id:=3) [19,20,21,22,23,24,25,26,27,28,29,30,31,32,33,34,35,36,37,38,39,40,41,42,43,44,45,46,47,48,49,50,4] [0,1,3,0,8,31,63,127,255,511,1023,2047,4095,8191,16383,32767,65535,131071,262143,524287,1048575,2097151,4194303,8388607,16777215,33554431,67108863,134217727,8388607,276824063,1073741823,2147483647,4294967295] [] mixed (by kernel_rfl) (by simp only [go_sem]) fun zK zhK=>?_;simp only [go_sem,m16,d16,Qk,Ak,Av,Bool.and_false,Bool.false_and,W3,F0];(repeat' (first|apply And.intro|intro _)))
  |refine Cx fun zB zbn zbx zbr zbi=>?_
  |((all_goals refine Dv (fun k=>k) _ [] (fun _ _=>rfl) (by first|rfl|(simp only [go_sem,m16,d16,Qk,Ak,Av,Bool.and_false,Bool.false_and,W3,F0]<;>rfl)) ((e1e _ 8 (by decide)).plain fun _ _ h=>h) ?_ ?_);(all_goals try (refine And.intro ?_ (And.intro ?_ (And.intro ?_ ?_))<;>first|rfl|simp only [go_sem]));(all_goals simp only [go_sem,m16,d16,Qk,Ak,Av,Bool.and_false,Bool.false_and,W3,F0]);(all_goals repeat' (first|apply And.intro|intro _)))
  |((all_goals (refine Dv (fun k=>k) _ [] (fun _ _=>rfl) ?_ ((a0z r0 r1).plain fun _ _ h=>h) ?_ ?_;focus (first|rfl|(simp only [go_sem,m16,d16,Qk,Ak,Av,Bool.and_false,Bool.false_and,W3,F0]<;>rfl))));(all_goals try (refine And.intro ?_ (And.intro ?_ (And.intro ?_ ?_))<;>first|rfl|simp only [go_sem]));(all_goals simp only [go_sem,m16,d16,Qk,Ak,Av,Bool.and_false,Bool.false_and,W3,F0]);(all_goals repeat' (first|apply And.intro|intro _)))
  |((all_goals (refine Dv (fun k=>k) _ [] (fun _ _=>rfl) ?_ ((e0v a0 a1 a2).plain fun _ _ h=>h) ?_ ?_;focus (first|rfl|(simp only [go_sem,m16,d16,Qk,Ak,Av,Bool.and_false,Bool.false_and,W3,F0]<;>rfl))));(all_goals try (refine And.intro ?_ (And.intro ?_ (And.intro ?_ ?_))<;>first|rfl|simp only [go_sem]));(all_goals simp only [go_sem,m16,d16,Qk,Ak,Av,Bool.and_false,Bool.false_and,W3,F0]);(all_goals repeat' (first|apply And.intro|intro _)))
  |((all_goals (refine Dv (fun k=>k) _ [] (fun _ _=>rfl) ?_ ((b0v (Gv a0 a1 a2)).plain fun _ _ h=>h) ?_ ?_;focus (first|rfl|(simp only [go_sem,m16,d16,Qk,Ak,Av,Bool.and_false,Bool.false_and,W3,F0]<;>rfl))));(all_goals try (refine And.intro ?_ (And.intro ?_ (And.intro ?_ ?_))<;>first|rfl|simp only [go_sem]));(all_goals simp only [go_sem,m16,d16,Qk,Ak,Av,Bool.and_false,Bool.false_and,W3,F0]);(all_goals repeat' (first|apply And.intro|intro _)))
  |((all_goals (refine Dv (fun k=>k) _ [] (fun _ _=>rfl) ?_ ((k0y (Gv a0 a1 a2).carried).plain fun _ _ h=>h) ?_ ?_;focus (first|rfl|(simp only [go_sem,m16,d16,Qk,Ak,Av,Bool.and_false,Bool.false_and,W3,F0]<;>rfl))));(all_goals try (refine And.intro ?_ (And.intro ?_ (And.intro ?_ ?_))<;>first|rfl|simp only [go_sem]));(all_goals simp only [go_sem,m16,d16,Qk,Ak,Av,Bool.and_false,Bool.false_and,W3,F0]);(all_goals repeat' (first|apply And.intro|intro _)))
  |refine Bq fun zN zM zhN zhM=>?_
 refine Fq [0,3,7,8,9,10,11,12,13,14,15,16,17,18,19,20,21,22,23,24,25,26,27,28,29,30,31,32,33,34,35,36,37,38,39,40,41,42,43,44,45,46,47,48,49,50,51] ?_
 simp only [Gz,Gj,Fj,List.contains_cons,List.contains_nil,Nat.reduceBEq,beq_self_eq_true,Bool.or_false,Bool.or_true,Bool.true_or,Bool.false_or,Bool.false_eq_true,reduceIte]
 refine Ik (fun y=>[(53,.w (.one (.pl (.i ((y.1:Nat):Int))))),(4,.w (.one (.pl (.b false))))]) (fun _=>[]) (fun y=>16-y.1) (⟨0,Nat.zero_le _⟩:{y:Nat//y≤16}) ?_ ?_ ?_
 · (simp only [go_sem,leX,List.cons_append,List.nil_append];try simp)
 · (simp only [go_sem,leX,List.cons_append,List.nil_append];try simp)
 intro ⟨i,hi⟩ zN zM zhN zhM
 simp only [List.cons_append,List.nil_append]
 rcases Nat.lt_or_ge i 16 with hlt|hge
 · have hcq:((i:Nat):Int)<16:=by omega
   have hc0:(0:Int)≤((i:Nat):Int):=by omega
   have hs1:Go.RowKit.wrap64 (((i:Nat):Int)+1)=((i+1:Nat):Int):=Kv (by omega) (by omega)
   have hk1:List.take 1 (List.drop i held)=[held.getD i 0]:=by have:=b0l (l:=held) (o:=0) (m:=16) (i:=i) (by omega) hlt;simpa [←hh] using this
   have hk2:i+1≤16:=by omega
   have F9:=And.intro hcq<|And.intro hc0<|And.intro hs1<|And.intro hk1<|hk2
   iterate 16 first
    |refine zhK _ ?_
    |(refine Dz fun zK zhK=>?_;simp only [go_sem,m16,d16,Qk,Ak,Av,Bool.and_false,Bool.false_and,W3,F0,Gw,F9];(repeat' (first|apply And.intro|intro _)))
    |(refine zhN _ ?_;clear zhN zhM)
    |(refine Cv fun zK zhK=>?_;simp only [go_sem,m16,d16,Qk,Ak,Av,Bool.and_false,Bool.false_and,W3,F0,Gw,F9];(repeat' (first|apply And.intro|intro _)))
    |refine Cq ?_
    |refine Cx fun zB zbn zbx zbr zbi=>?_
    |(refine zbn _ ?_;clear zbn zbx zbr zbi)
    |refine Bq fun zN zM zhN zhM=>?_
    |(refine Bz ?_ ?_;focus (first|rfl|(simp [go_sem,m16,d16,Qk,Ak,Av,Bool.and_false,Bool.false_and,W3,F0,Gw,F9];done)))
   refine zhN ⟨i+1,hlt⟩ _ ?_ ?_ ?_
   · (show 16-(i+1)<16-i;clear hs1;omega)
   · (simp only [go_sem,leX,List.cons_append,List.nil_append];try simp)
   · (simp only [go_sem,leX,List.cons_append,List.nil_append];try simp)
 · have hcq:¬((i:Nat):Int)<16:=by omega
   iterate 18 first
    |(refine Dz fun zK zhK=>?_;simp only [go_sem,m16,d16,Qk,Ak,Av,Bool.and_false,Bool.false_and,W3,F0,hcq];(repeat' (first|apply And.intro|intro _)))
    |refine zhK _ ?_
    |(refine zhM _ _ ?_;clear zhN zhM)
    |refine Fx ?_
    |(refine zbx _ ?_;clear zbn zbx zbr zbi)
    |(refine zhN _ ?_;clear zhN zhM)
    |refine Ck ?_
    |(refine zhZ _ _ ?_;simp only [go_sem,m16,d16,Qk,Ak,Av,Bool.and_false,Bool.false_and,W3,F0,hcq];(all_goals (rfl)))
    |refine Bq fun zN zM zhN zhM=>?_
    |(refine Bj ?_ ?_;focus (first|rfl|(simp [go_sem,m16,d16,Qk,Ak,Av,Bool.and_false,Bool.false_and,W3,F0,hcq];done)))
    |(refine Bz ?_ ?_;focus (first|rfl|(simp [go_sem,m16,d16,Qk,Ak,Av,Bool.and_false,Bool.false_and,W3,F0,hcq];done)))
theorem u1g (r0 r1 p0 p1 a0 a1 a2:UInt64) (held:List UInt8) (hh:held.length=16) (n:Int) (h0:r0&&&~~~1152921487695413247=0) (h1:r1&&&~~~1152921487695413244=0) (h2:0≤n) (h3:n<16) (h4:a2<4) (h5:((Gv a0 a1 a2).carried.w0=a0∧(Gv a0 a1 a2).carried.w1=a1∧(Gv a0 a1 a2).carried.w2=a2)):
 Ct Tryd.prog 71 [.w (.agg (Ak r0 r1 p0 p1 a0 a1 a2 held n))] (fun v m=>v=.w (.one (.pl (.i (Kw r0 r1 a0 a1 a2 held n))))):=by
 have q0:=(Ov _ _).mpr h0
 have q1:=(Ov _ _).mpr h1
 have q5:(decide ((Gv a0 a1 a2).carried.w0=a0)&&(decide ((Gv a0 a1 a2).carried.w1=a1)&&decide ((Gv a0 a1 a2).carried.w2=a2)))=true:=by simpa using h5
 have F0:=And.intro hh<|And.intro q0<|And.intro q1<|And.intro h2<|And.intro h3<|And.intro h4<|q5
 refine Ct.k Tryd.func71 rfl Tryd.ntmps71 (congrArg Array.toList Tryd.results71) (by simp) fun w0 ro=>?_
 refine Dx fun zZ zhZ=>?_
 iterate 20 first
  |(refine Dz fun zK zhK=>?_;simp only [go_sem,m16,d16,Qk,Ak,Av,Bool.and_false,Bool.false_and,W3,F0];(repeat' (first|apply And.intro|intro _)))
  |refine zhK _ ?_
  |refine zhK _ _ trivial ?_
  |(refine Kk (id:=2) [8,9,10,11,12,13,14,15,16,17,18] [0,0,2,6,14,0,32,96,254,510,1023] [] mixed (by kernel_rfl) (by simp only [go_sem]) fun zK zhK=>?_;simp only [go_sem,m16,d16,Qk,Ak,Av,Bool.and_false,Bool.false_and,W3,F0];(repeat' (first|apply And.intro|intro _)))
  |(refine zhN _ ?_;clear zhN zhM)
  |(refine d0c (id:=3) [19,20,21,22,23,24,25,26,27,28,29,30,31,32,33,34,35,36,37,38,39,40,41,42,43,44,45,46,47,48,49,50,4] [0,1,3,0,8,31,63,127,255,511,1023,2047,4095,8191,16383,32767,65535,131071,262143,524287,1048575,2097151,4194303,8388607,16777215,33554431,67108863,134217727,8388607,276824063,1073741823,2147483647,4294967295] [] mixed (by kernel_rfl) (by simp only [go_sem]) fun zK zhK=>?_;simp only [go_sem,m16,d16,Qk,Ak,Av,Bool.and_false,Bool.false_and,W3,F0];(repeat' (first|apply And.intro|intro _)))
  |refine Cx fun zB zbn zbx zbr zbi=>?_
  |((all_goals refine Dv (fun k=>k) _ [] (fun _ _=>rfl) (by first|rfl|(simp only [go_sem,m16,d16,Qk,Ak,Av,Bool.and_false,Bool.false_and,W3,F0]<;>rfl)) ((e1e _ 8 (by decide)).plain fun _ _ h=>h) ?_ ?_);(all_goals try (refine And.intro ?_ (And.intro ?_ (And.intro ?_ ?_))<;>first|rfl|simp only [go_sem]));(all_goals simp only [go_sem,m16,d16,Qk,Ak,Av,Bool.and_false,Bool.false_and,W3,F0]);(all_goals repeat' (first|apply And.intro|intro _)))
  |((all_goals (refine Dv (fun k=>k) _ [] (fun _ _=>rfl) ?_ ((a0z r0 r1).plain fun _ _ h=>h) ?_ ?_;focus (first|rfl|(simp only [go_sem,m16,d16,Qk,Ak,Av,Bool.and_false,Bool.false_and,W3,F0]<;>rfl))));(all_goals try (refine And.intro ?_ (And.intro ?_ (And.intro ?_ ?_))<;>first|rfl|simp only [go_sem]));(all_goals simp only [go_sem,m16,d16,Qk,Ak,Av,Bool.and_false,Bool.false_and,W3,F0]);(all_goals repeat' (first|apply And.intro|intro _)))
  |((all_goals (refine Dv (fun k=>k) _ [] (fun _ _=>rfl) ?_ ((e0v a0 a1 a2).plain fun _ _ h=>h) ?_ ?_;focus (first|rfl|(simp only [go_sem,m16,d16,Qk,Ak,Av,Bool.and_false,Bool.false_and,W3,F0]<;>rfl))));(all_goals try (refine And.intro ?_ (And.intro ?_ (And.intro ?_ ?_))<;>first|rfl|simp only [go_sem]));(all_goals simp only [go_sem,m16,d16,Qk,Ak,Av,Bool.and_false,Bool.false_and,W3,F0]);(all_goals repeat' (first|apply And.intro|intro _)))
  |((all_goals (refine Dv (fun k=>k) _ [] (fun _ _=>rfl) ?_ ((b0v (Gv a0 a1 a2)).plain fun _ _ h=>h) ?_ ?_;focus (first|rfl|(simp only [go_sem,m16,d16,Qk,Ak,Av,Bool.and_false,Bool.false_and,W3,F0]<;>rfl))));(all_goals try (refine And.intro ?_ (And.intro ?_ (And.intro ?_ ?_))<;>first|rfl|simp only [go_sem]));(all_goals simp only [go_sem,m16,d16,Qk,Ak,Av,Bool.and_false,Bool.false_and,W3,F0]);(all_goals repeat' (first|apply And.intro|intro _)))
  |((all_goals (refine Dv (fun k=>k) _ [] (fun _ _=>rfl) ?_ ((k0y (Gv a0 a1 a2).carried).plain fun _ _ h=>h) ?_ ?_;focus (first|rfl|(simp only [go_sem,m16,d16,Qk,Ak,Av,Bool.and_false,Bool.false_and,W3,F0]<;>rfl))));(all_goals try (refine And.intro ?_ (And.intro ?_ (And.intro ?_ ?_))<;>first|rfl|simp only [go_sem]));(all_goals simp only [go_sem,m16,d16,Qk,Ak,Av,Bool.and_false,Bool.false_and,W3,F0]);(all_goals repeat' (first|apply And.intro|intro _)))
  |refine Bq fun zN zM zhN zhM=>?_
 refine Fq [0,3,7,8,9,10,11,12,13,14,15,16,17,18,19,20,21,22,23,24,25,26,27,28,29,30,31,32,33,34,35,36,37,38,39,40,41,42,43,44,45,46,47,48,49,50,51] ?_
 simp only [Gz,Gj,Fj,List.contains_cons,List.contains_nil,Nat.reduceBEq,beq_self_eq_true,Bool.or_false,Bool.or_true,Bool.true_or,Bool.false_or,Bool.false_eq_true,reduceIte]
 refine Ik (fun y=>[(53,.w (.one (.pl (.i ((y.1.1:Nat):Int))))),(4,.w (.one (.pl (.b y.1.2))))]) (fun _=>[]) (fun y=>16-y.1.1) (⟨(0,true),Nat.zero_le _,by simp⟩:{y:Nat×Bool//y.1≤16∧(y.2=true↔∀ j,j<y.1→((j:Nat):Int)<n∨held.getD j 0=0)}) ?_ ?_ ?_
 · (simp only [go_sem,leX,List.cons_append,List.nil_append];try simp)
 · (simp only [go_sem,leX,List.cons_append,List.nil_append];try simp)
 intro yy zN zM zhN zhM
 simp only [List.cons_append,List.nil_append]
 obtain ⟨⟨i,b⟩,hi,hb⟩:=yy
 simp only at hi hb
 have hd:(i<16∧b=false)∨(i<16∧b=true∧((i:Nat):Int)<n)∨(i<16∧b=true∧¬((i:Nat):Int)<n∧held.getD i 0=0)∨(i<16∧b=true∧¬((i:Nat):Int)<n∧¬held.getD i 0=0)∨(i=16∧b=true)∨(i=16∧b=false):=by
  generalize held.getD i 0=z
  by_cases g1:i=16
  · cases b<;>simp [g1]
  · have g2:i<16:=by omega
    by_cases g3:((i:Nat):Int)<n
    · cases b<;>simp [g2,g3]
    · by_cases g4:z=0
      · cases b<;>simp [g2,g3,g4]
      · cases b<;>simp [g2,g3,g4]
 rcases hd with ⟨hlt,rfl⟩|⟨hlt,rfl,hin⟩|⟨hlt,rfl,hin,hz⟩|⟨hlt,rfl,hin,hz⟩|⟨rfl,rfl⟩|⟨rfl,rfl⟩
 · have hcq:((i:Nat):Int)<16:=by omega
   have hc0:(0:Int)≤((i:Nat):Int):=by omega
   have hs1:Go.RowKit.wrap64 (((i:Nat):Int)+1)=((i+1:Nat):Int):=Kv (by omega) (by omega)
   have hk1:List.take 1 (List.drop i held)=[held.getD i 0]:=by have:=b0l (l:=held) (o:=0) (m:=16) (i:=i) (by omega) hlt;simpa [←hh] using this
   have hk2:i+1≤16:=by omega
   have F9:=And.intro hcq<|And.intro hc0<|And.intro hs1<|And.intro hk1<|hk2
   iterate 16 first
    |refine zhK _ ?_
    |(refine Dz fun zK zhK=>?_;simp only [go_sem,m16,d16,Qk,Ak,Av,Bool.and_false,Bool.false_and,W3,F0,Gw,F9];(repeat' (first|apply And.intro|intro _)))
    |(refine zhN _ ?_;clear zhN zhM)
    |(refine Cv fun zK zhK=>?_;simp only [go_sem,m16,d16,Qk,Ak,Av,Bool.and_false,Bool.false_and,W3,F0,Gw,F9];(repeat' (first|apply And.intro|intro _)))
    |refine Cq ?_
    |refine Cx fun zB zbn zbx zbr zbi=>?_
    |(refine zbn _ ?_;clear zbn zbx zbr zbi)
    |refine Bq fun zN zM zhN zhM=>?_
    |(refine Bz ?_ ?_;focus (first|rfl|(simp [go_sem,m16,d16,Qk,Ak,Av,Bool.and_false,Bool.false_and,W3,F0,Gw,F9];done)))
   refine zhN ⟨(i+1,false),hlt,by simp only [Bool.false_eq_true,false_iff];intro h;exact absurd (hb.mpr fun j hj=>h j (by omega)) (by simp)⟩ _ ?_ ?_ ?_
   · (show 16-(i+1)<16-i;clear hs1;omega)
   · (simp only [go_sem,leX,List.cons_append,List.nil_append];try simp)
   · (simp only [go_sem,leX,List.cons_append,List.nil_append];try simp)
 · have hcq:((i:Nat):Int)<16:=by omega
   have hc0:(0:Int)≤((i:Nat):Int):=by omega
   have hs1:Go.RowKit.wrap64 (((i:Nat):Int)+1)=((i+1:Nat):Int):=Kv (by omega) (by omega)
   have hk1:List.take 1 (List.drop i held)=[held.getD i 0]:=by have:=b0l (l:=held) (o:=0) (m:=16) (i:=i) (by omega) hlt;simpa [←hh] using this
   have hk2:i+1≤16:=by omega
   have F16:=And.intro hcq<|And.intro hc0<|And.intro hs1<|And.intro hk1<|And.intro hk2<|hin
   iterate 16 first
    |refine zhK _ ?_
    |(refine Dz fun zK zhK=>?_;simp only [go_sem,m16,d16,Qk,Ak,Av,Bool.and_false,Bool.false_and,W3,F0,Gw,F16];(repeat' (first|apply And.intro|intro _)))
    |(refine zhN _ ?_;clear zhN zhM)
    |(refine Cv fun zK zhK=>?_;simp only [go_sem,m16,d16,Qk,Ak,Av,Bool.and_false,Bool.false_and,W3,F0,Gw,F16];(repeat' (first|apply And.intro|intro _)))
    |refine Cq ?_
    |refine Cx fun zB zbn zbx zbr zbi=>?_
    |(refine zbn _ ?_;clear zbn zbx zbr zbi)
    |refine Bq fun zN zM zhN zhM=>?_
    |(refine Bz ?_ ?_;focus (first|rfl|(simp [go_sem,m16,d16,Qk,Ak,Av,Bool.and_false,Bool.false_and,W3,F0,Gw,F16];done)))
   refine zhN ⟨(i+1,true),hlt,fun _ j hj=>by rcases Nat.lt_succ_iff_lt_or_eq.mp hj with h|rfl;exact hb.mp rfl j h;exact .inl hin,fun _=>rfl⟩ _ ?_ ?_ ?_
   · (show 16-(i+1)<16-i;clear hs1;omega)
   · (simp only [go_sem,leX,List.cons_append,List.nil_append];try simp)
   · (simp only [go_sem,leX,List.cons_append,List.nil_append];try simp)
 · have hcq:((i:Nat):Int)<16:=by omega
   have hc0:(0:Int)≤((i:Nat):Int):=by omega
   have hs1:Go.RowKit.wrap64 (((i:Nat):Int)+1)=((i+1:Nat):Int):=Kv (by omega) (by omega)
   have hk1:List.take 1 (List.drop i held)=[held.getD i 0]:=by have:=b0l (l:=held) (o:=0) (m:=16) (i:=i) (by omega) hlt;simpa [←hh] using this
   have hk2:i+1≤16:=by omega
   have hzq:=eq_true hz
   have F23:=And.intro hcq<|And.intro hc0<|And.intro hs1<|And.intro hk1<|And.intro hk2<|And.intro hin<|hzq
   iterate 16 first
    |refine zhK _ ?_
    |(refine Dz fun zK zhK=>?_;simp only [go_sem,m16,d16,Qk,Ak,Av,Bool.and_false,Bool.false_and,W3,F0,Gw,F23];(repeat' (first|apply And.intro|intro _)))
    |(refine zhN _ ?_;clear zhN zhM)
    |(refine Cv fun zK zhK=>?_;simp only [go_sem,m16,d16,Qk,Ak,Av,Bool.and_false,Bool.false_and,W3,F0,Gw,F23];(repeat' (first|apply And.intro|intro _)))
    |refine Cq ?_
    |refine Cx fun zB zbn zbx zbr zbi=>?_
    |(refine zbn _ ?_;clear zbn zbx zbr zbi)
    |refine Bq fun zN zM zhN zhM=>?_
    |(refine Bz ?_ ?_;focus (first|rfl|(simp [go_sem,m16,d16,Qk,Ak,Av,Bool.and_false,Bool.false_and,W3,F0,Gw,F23];done)))
   refine zhN ⟨(i+1,true),hlt,fun _ j hj=>by rcases Nat.lt_succ_iff_lt_or_eq.mp hj with h|rfl;exact hb.mp rfl j h;exact .inr hz,fun _=>rfl⟩ _ ?_ ?_ ?_
   · (show 16-(i+1)<16-i;clear hs1;omega)
   · (simp only [go_sem,leX,List.cons_append,List.nil_append];try simp)
   · (simp only [go_sem,leX,List.cons_append,List.nil_append];try simp)
 · have hcq:((i:Nat):Int)<16:=by omega
   have hc0:(0:Int)≤((i:Nat):Int):=by omega
   have hs1:Go.RowKit.wrap64 (((i:Nat):Int)+1)=((i+1:Nat):Int):=Kv (by omega) (by omega)
   have hk1:List.take 1 (List.drop i held)=[held.getD i 0]:=by have:=b0l (l:=held) (o:=0) (m:=16) (i:=i) (by omega) hlt;simpa [←hh] using this
   have hk2:i+1≤16:=by omega
   have hzq:=eq_false hz
   have F30:=And.intro hcq<|And.intro hc0<|And.intro hs1<|And.intro hk1<|And.intro hk2<|And.intro hin<|hzq
   iterate 16 first
    |refine zhK _ ?_
    |(refine Dz fun zK zhK=>?_;simp only [go_sem,m16,d16,Qk,Ak,Av,Bool.and_false,Bool.false_and,W3,F0,Gw,F30];(repeat' (first|apply And.intro|intro _)))
    |(refine zhN _ ?_;clear zhN zhM)
    |(refine Cv fun zK zhK=>?_;simp only [go_sem,m16,d16,Qk,Ak,Av,Bool.and_false,Bool.false_and,W3,F0,Gw,F30];(repeat' (first|apply And.intro|intro _)))
    |refine Cq ?_
    |refine Cx fun zB zbn zbx zbr zbi=>?_
    |(refine zbn _ ?_;clear zbn zbx zbr zbi)
    |refine Bq fun zN zM zhN zhM=>?_
    |(refine Bz ?_ ?_;focus (first|rfl|(simp [go_sem,m16,d16,Qk,Ak,Av,Bool.and_false,Bool.false_and,W3,F0,Gw,F30];done)))
   refine zhN ⟨(i+1,false),hlt,by simp only [Bool.false_eq_true,false_iff];intro h;exact (h i (Nat.lt_succ_self i)).elim hin hz⟩ _ ?_ ?_ ?_
   · (show 16-(i+1)<16-i;clear hs1;omega)
   · (simp only [go_sem,leX,List.cons_append,List.nil_append];try simp)
   · (simp only [go_sem,leX,List.cons_append,List.nil_append];try simp)
 · have hcq:¬((16:Nat):Int)<16:=by omega
   iterate 19 first
    |(refine Dz fun zK zhK=>?_;simp only [go_sem,m16,d16,Qk,Ak,Av,Bool.and_false,Bool.false_and,W3,F0,hcq];(repeat' (first|apply And.intro|intro _)))
    |refine zhK _ ?_
    |(refine zhM _ _ ?_;clear zhN zhM)
    |(refine zhN _ ?_;clear zhN zhM)
    |refine Fx ?_
    |(refine zbx _ ?_;clear zbn zbx zbr zbi)
    |refine Cq ?_
    |refine Ck ?_
    |(refine zhZ _ _ ?_;simp only [go_sem,m16,d16,Qk,Ak,Av,Bool.and_false,Bool.false_and,W3,F0,hcq];(all_goals (rw [d0v ⟨h0,h1,UInt64.lt_iff_toNat_lt.mp h4,(canon a0 a1 a2 (UInt64.lt_iff_toNat_lt.mp h4)).mp h5,h2,by omega,fun j hj hl=>(hb.mp rfl j hl).resolve_left (by omega)⟩])))
    |refine Bq fun zN zM zhN zhM=>?_
    |(refine Bj ?_ ?_;focus (first|rfl|(simp [go_sem,m16,d16,Qk,Ak,Av,Bool.and_false,Bool.false_and,W3,F0,hcq];done)))
 · have hcq:¬((16:Nat):Int)<16:=by omega
   iterate 18 first
    |(refine Dz fun zK zhK=>?_;simp only [go_sem,m16,d16,Qk,Ak,Av,Bool.and_false,Bool.false_and,W3,F0,hcq];(repeat' (first|apply And.intro|intro _)))
    |refine zhK _ ?_
    |(refine zhM _ _ ?_;clear zhN zhM)
    |refine Fx ?_
    |(refine zbx _ ?_;clear zbn zbx zbr zbi)
    |(refine zhN _ ?_;clear zhN zhM)
    |refine Ck ?_
    |(refine zhZ _ _ ?_;simp only [go_sem,m16,d16,Qk,Ak,Av,Bool.and_false,Bool.false_and,W3,F0,hcq];(all_goals (rw [Ry (fun h=>absurd (hb.mpr fun j hj=>by rcases Int.lt_or_le ((j:Nat):Int) n with h8|h8;exact .inl h8;exact .inr (h.rest j (by omega) hj)) (by simp))])))
    |refine Bq fun zN zM zhN zhM=>?_
    |(refine Bj ?_ ?_;focus (first|rfl|(simp [go_sem,m16,d16,Qk,Ak,Av,Bool.and_false,Bool.false_and,W3,F0,hcq];done)))
    |(refine Bz ?_ ?_;focus (first|rfl|(simp [go_sem,m16,d16,Qk,Ak,Av,Bool.and_false,Bool.false_and,W3,F0,hcq];done)))
end Go.Sy
namespace Go.Sy
open Go.Proofs
attribute [local irreducible] Fz HT Cw Oj onC onE onO onG goV goA goS Qv Ey
theorem ic0 :((0:Nat):Int)=0:=rfl
theorem ic1 :((1:Nat):Int)=1:=rfl
theorem ic2 :((2:Nat):Int)=2:=rfl
theorem ic3 :((3:Nat):Int)=3:=rfl
theorem ic4 :((4:Nat):Int)=4:=rfl
theorem ic5 :((5:Nat):Int)=5:=rfl
def mulN (p r:P5):Nat→List L
 |0=>[.pl (.u64 (0)),.pl (.u64 (0)),.pl (.u64 (0)),.pl (.u64 (0)),.pl (.u64 (0))]
 |1=>[.pl (.u64 (0+p.a*r.a)),.pl (.u64 (0+p.a*r.b)),.pl (.u64 (0+p.a*r.c)),.pl (.u64 (0+p.a*r.d)),.pl (.u64 (0+p.a*r.e))]
 |2=>[.pl (.u64 (0+p.a*r.a+p.b*r.e*5)),.pl (.u64 (0+p.a*r.b+p.b*r.a)),.pl (.u64 (0+p.a*r.c+p.b*r.b)),.pl (.u64 (0+p.a*r.d+p.b*r.c)),.pl (.u64 (0+p.a*r.e+p.b*r.d))]
 |3=>[.pl (.u64 (0+p.a*r.a+p.b*r.e*5+p.c*r.d*5)),.pl (.u64 (0+p.a*r.b+p.b*r.a+p.c*r.e*5)),.pl (.u64 (0+p.a*r.c+p.b*r.b+p.c*r.a)),.pl (.u64 (0+p.a*r.d+p.b*r.c+p.c*r.b)),.pl (.u64 (0+p.a*r.e+p.b*r.d+p.c*r.c))]
 |4=>[.pl (.u64 (0+p.a*r.a+p.b*r.e*5+p.c*r.d*5+p.d*r.c*5)),.pl (.u64 (0+p.a*r.b+p.b*r.a+p.c*r.e*5+p.d*r.d*5)),.pl (.u64 (0+p.a*r.c+p.b*r.b+p.c*r.a+p.d*r.e*5)),.pl (.u64 (0+p.a*r.d+p.b*r.c+p.c*r.b+p.d*r.a)),.pl (.u64 (0+p.a*r.e+p.b*r.d+p.c*r.c+p.d*r.b))]
 |_=>(s0d p r).ls
theorem u1d (p r:P5):
 Ct Tryd.prog 78 [.w (.agg [.pl (.u64 p.a),.pl (.u64 p.b),.pl (.u64 p.c),.pl (.u64 p.d),.pl (.u64 p.e)]),.w (.agg [.pl (.u64 r.a),.pl (.u64 r.b),.pl (.u64 r.c),.pl (.u64 r.d),.pl (.u64 r.e)])] (fun v m=>v=.w (.agg (s0d p r).carried.ls)):=by
 refine Ct.k Tryd.func78 rfl Tryd.ntmps78 (congrArg Array.toList Tryd.results78) (by simp) fun w0 ro=>?_
 refine Dx fun zZ zhZ=>?_
 iterate 8 first
  |(refine Dz fun zK zhK=>?_;simp only [go_sem,P5.ls,ic0,ic1,ic2,ic3,ic4,ic5,Int.reduceMod,Int.reduceTMod,Int.toNat_one];(repeat' (first|apply And.intro|intro _)))
  |refine zhK _ ?_
  |refine Cx fun zB zbn zbx zbr zbi=>?_
  |refine Bq fun zN zM zhN zhM=>?_
 refine Fq [0,1,2] ?_
 simp only [Gz,Gj,Fj,List.contains_cons,List.contains_nil,Nat.reduceBEq,beq_self_eq_true,Bool.or_false,Bool.or_true,Bool.true_or,Bool.false_or,Bool.false_eq_true,reduceIte]
 refine Ik (fun y=>[(12,.w (.one (.pl (.i ((y.1:Nat):Int)))))]) (fun y=>[(5,⟨false,mulN p r y.1⟩)]) (fun y=>5-y.1) (⟨0,by omega⟩:{y:Nat//y≤5}) ?_ ?_ ?_
 · (simp only [go_sem,leX,List.cons_append,List.nil_append];try simp)
 · (simp only [mulN,go_sem,leX,List.cons_append,List.nil_append];try simp [mulN,leX,look])
 intro yy zN zM zhN zhM
 simp only [List.cons_append,List.nil_append]
 obtain ⟨y,hy⟩:=yy
 have hd:y=0∨y=1∨y=2∨y=3∨y=4∨y=5:=by omega
 rcases hd with rfl|rfl|rfl|rfl|rfl|rfl
 · simp only [mulN]
   iterate 157 first
    |(refine Dj (x:=.seq (.region 6 _ _) _) [8,9,10,18,19,20,21,22,23,24,25,26,27,28,29,30,31,32,33,34,35,36,37,38,39] ?_;simp only [go_sem,St.forget,fgt];refine Hw fun zN zM zhN zhM=>?_)
    |refine Hw fun zN zM zhN zhM=>?_
    |refine zhK _ ?_
    |(refine Dz fun zK zhK=>?_;simp only [go_sem,P5.ls,ic0,ic1,ic2,ic3,ic4,ic5,Int.reduceMod,Int.reduceTMod,Int.toNat_one];(repeat' (first|apply And.intro|intro _)))
    |(refine zhN _ ?_;clear zhN zhM)
    |refine Cq ?_
    |(refine Cv fun zK zhK=>?_;simp only [go_sem,P5.ls,ic0,ic1,ic2,ic3,ic4,ic5,Int.reduceMod,Int.reduceTMod,Int.toNat_one];(repeat' (first|apply And.intro|intro _)))
    |refine Cx fun zB zbn zbx zbr zbi=>?_
    |(refine zbn _ ?_;clear zbn zbx zbr zbi)
    |(refine zhM _ _ ?_;clear zhN zhM)
    |refine Fw (x:=.seq (.region 6 _ _) _) 6 ?_
    |refine Fx ?_
    |(refine zbx _ ?_;clear zbn zbx zbr zbi)
    |refine Bq fun zN zM zhN zhM=>?_
    |(refine Bz ?_ ?_;focus (first|rfl|(simp [go_sem,P5.ls,ic0,ic1,ic2,ic3,ic4,ic5,Int.reduceMod,Int.reduceTMod,Int.toNat_one];done)))
    |(refine Bj ?_ ?_;focus (first|rfl|(simp [go_sem,P5.ls,ic0,ic1,ic2,ic3,ic4,ic5,Int.reduceMod,Int.reduceTMod,Int.toNat_one];done)))
   refine zhN ⟨1,by omega⟩ _ ?_ ?_ ?_
   · (show 5-(0+1)<5-0;omega)
   · (simp only [go_sem,leX,List.cons_append,List.nil_append];try simp)
   · (simp only [mulN,go_sem,leX,List.cons_append,List.nil_append];first|done|(simp [mulN,s0d,P5.ls,leX,look];done)|rfl)
 · simp only [mulN]
   iterate 158 first
    |(refine Dj (x:=.seq (.region 6 _ _) _) [8,9,10,18,19,20,21,22,23,24,25,26,27,28,29,30,31,32,33,34,35,36,37,38,39] ?_;simp only [go_sem,St.forget,fgt];refine Hw fun zN zM zhN zhM=>?_)
    |refine Hw fun zN zM zhN zhM=>?_
    |refine zhK _ ?_
    |(refine Dz fun zK zhK=>?_;simp only [go_sem,P5.ls,ic0,ic1,ic2,ic3,ic4,ic5,Int.reduceMod,Int.reduceTMod,Int.toNat_one];(repeat' (first|apply And.intro|intro _)))
    |(refine zhN _ ?_;clear zhN zhM)
    |(refine Cv fun zK zhK=>?_;simp only [go_sem,P5.ls,ic0,ic1,ic2,ic3,ic4,ic5,Int.reduceMod,Int.reduceTMod,Int.toNat_one];(repeat' (first|apply And.intro|intro _)))
    |refine Cq ?_
    |refine Cx fun zB zbn zbx zbr zbi=>?_
    |(refine zbn _ ?_;clear zbn zbx zbr zbi)
    |(refine zhM _ _ ?_;clear zhN zhM)
    |refine Fw (x:=.seq (.region 6 _ _) _) 6 ?_
    |refine Fx ?_
    |(refine zbx _ ?_;clear zbn zbx zbr zbi)
    |refine Bq fun zN zM zhN zhM=>?_
    |(refine Bz ?_ ?_;focus (first|rfl|(simp [go_sem,P5.ls,ic0,ic1,ic2,ic3,ic4,ic5,Int.reduceMod,Int.reduceTMod,Int.toNat_one];done)))
    |(refine Bj ?_ ?_;focus (first|rfl|(simp [go_sem,P5.ls,ic0,ic1,ic2,ic3,ic4,ic5,Int.reduceMod,Int.reduceTMod,Int.toNat_one];done)))
   refine zhN ⟨2,by omega⟩ _ ?_ ?_ ?_
   · (show 5-(1+1)<5-1;omega)
   · (simp only [go_sem,leX,List.cons_append,List.nil_append];try simp)
   · (simp only [mulN,go_sem,leX,List.cons_append,List.nil_append];first|done|(simp [mulN,s0d,P5.ls,leX,look];done)|rfl)
 · simp only [mulN]
   iterate 159 first
    |(refine Dj (x:=.seq (.region 6 _ _) _) [8,9,10,18,19,20,21,22,23,24,25,26,27,28,29,30,31,32,33,34,35,36,37,38,39] ?_;simp only [go_sem,St.forget,fgt];refine Hw fun zN zM zhN zhM=>?_)
    |refine Hw fun zN zM zhN zhM=>?_
    |refine zhK _ ?_
    |(refine Dz fun zK zhK=>?_;simp only [go_sem,P5.ls,ic0,ic1,ic2,ic3,ic4,ic5,Int.reduceMod,Int.reduceTMod,Int.toNat_one];(repeat' (first|apply And.intro|intro _)))
    |(refine zhN _ ?_;clear zhN zhM)
    |(refine Cv fun zK zhK=>?_;simp only [go_sem,P5.ls,ic0,ic1,ic2,ic3,ic4,ic5,Int.reduceMod,Int.reduceTMod,Int.toNat_one];(repeat' (first|apply And.intro|intro _)))
    |refine Cq ?_
    |refine Cx fun zB zbn zbx zbr zbi=>?_
    |(refine zbn _ ?_;clear zbn zbx zbr zbi)
    |(refine zhM _ _ ?_;clear zhN zhM)
    |refine Fw (x:=.seq (.region 6 _ _) _) 6 ?_
    |refine Fx ?_
    |(refine zbx _ ?_;clear zbn zbx zbr zbi)
    |refine Bq fun zN zM zhN zhM=>?_
    |(refine Bz ?_ ?_;focus (first|rfl|(simp [go_sem,P5.ls,ic0,ic1,ic2,ic3,ic4,ic5,Int.reduceMod,Int.reduceTMod,Int.toNat_one];done)))
    |(refine Bj ?_ ?_;focus (first|rfl|(simp [go_sem,P5.ls,ic0,ic1,ic2,ic3,ic4,ic5,Int.reduceMod,Int.reduceTMod,Int.toNat_one];done)))
   refine zhN ⟨3,by omega⟩ _ ?_ ?_ ?_
   · (show 5-(2+1)<5-2;omega)
   · (simp only [go_sem,leX,List.cons_append,List.nil_append];try simp)
   · (simp only [mulN,go_sem,leX,List.cons_append,List.nil_append];first|done|(simp [mulN,s0d,P5.ls,leX,look];done)|rfl)
 · simp only [mulN]
   iterate 160 first
    |(refine Dj (x:=.seq (.region 6 _ _) _) [8,9,10,18,19,20,21,22,23,24,25,26,27,28,29,30,31,32,33,34,35,36,37,38,39] ?_;simp only [go_sem,St.forget,fgt];refine Hw fun zN zM zhN zhM=>?_)
    |refine Hw fun zN zM zhN zhM=>?_
    |refine zhK _ ?_
    |(refine Dz fun zK zhK=>?_;simp only [go_sem,P5.ls,ic0,ic1,ic2,ic3,ic4,ic5,Int.reduceMod,Int.reduceTMod,Int.toNat_one];(repeat' (first|apply And.intro|intro _)))
    |(refine zhN _ ?_;clear zhN zhM)
    |(refine Cv fun zK zhK=>?_;simp only [go_sem,P5.ls,ic0,ic1,ic2,ic3,ic4,ic5,Int.reduceMod,Int.reduceTMod,Int.toNat_one];(repeat' (first|apply And.intro|intro _)))
    |refine Cq ?_
    |refine Cx fun zB zbn zbx zbr zbi=>?_
    |(refine zbn _ ?_;clear zbn zbx zbr zbi)
    |(refine zhM _ _ ?_;clear zhN zhM)
    |refine Fw (x:=.seq (.region 6 _ _) _) 6 ?_
    |refine Fx ?_
    |(refine zbx _ ?_;clear zbn zbx zbr zbi)
    |refine Bq fun zN zM zhN zhM=>?_
    |(refine Bz ?_ ?_;focus (first|rfl|(simp [go_sem,P5.ls,ic0,ic1,ic2,ic3,ic4,ic5,Int.reduceMod,Int.reduceTMod,Int.toNat_one];done)))
    |(refine Bj ?_ ?_;focus (first|rfl|(simp [go_sem,P5.ls,ic0,ic1,ic2,ic3,ic4,ic5,Int.reduceMod,Int.reduceTMod,Int.toNat_one];done)))
   refine zhN ⟨4,by omega⟩ _ ?_ ?_ ?_
   · (show 5-(3+1)<5-3;omega)
   · (simp only [go_sem,leX,List.cons_append,List.nil_append];try simp)
   · (simp only [mulN,go_sem,leX,List.cons_append,List.nil_append];first|done|(simp [mulN,s0d,P5.ls,leX,look];done)|rfl)
 · simp only [mulN]
   iterate 161 first
    |(refine Dj (x:=.seq (.region 6 _ _) _) [8,9,10,18,19,20,21,22,23,24,25,26,27,28,29,30,31,32,33,34,35,36,37,38,39] ?_;simp only [go_sem,St.forget,fgt];refine Hw fun zN zM zhN zhM=>?_)
    |refine Hw fun zN zM zhN zhM=>?_
    |refine zhK _ ?_
    |(refine Dz fun zK zhK=>?_;simp only [go_sem,P5.ls,ic0,ic1,ic2,ic3,ic4,ic5,Int.reduceMod,Int.reduceTMod,Int.toNat_one];(repeat' (first|apply And.intro|intro _)))
    |(refine zhN _ ?_;clear zhN zhM)
    |(refine Cv fun zK zhK=>?_;simp only [go_sem,P5.ls,ic0,ic1,ic2,ic3,ic4,ic5,Int.reduceMod,Int.reduceTMod,Int.toNat_one];(repeat' (first|apply And.intro|intro _)))
    |refine Cq ?_
    |refine Cx fun zB zbn zbx zbr zbi=>?_
    |(refine zbn _ ?_;clear zbn zbx zbr zbi)
    |(refine zhM _ _ ?_;clear zhN zhM)
    |refine Fw (x:=.seq (.region 6 _ _) _) 6 ?_
    |refine Fx ?_
    |(refine zbx _ ?_;clear zbn zbx zbr zbi)
    |refine Bq fun zN zM zhN zhM=>?_
    |(refine Bz ?_ ?_;focus (first|rfl|(simp [go_sem,P5.ls,ic0,ic1,ic2,ic3,ic4,ic5,Int.reduceMod,Int.reduceTMod,Int.toNat_one];done)))
    |(refine Bj ?_ ?_;focus (first|rfl|(simp [go_sem,P5.ls,ic0,ic1,ic2,ic3,ic4,ic5,Int.reduceMod,Int.reduceTMod,Int.toNat_one];done)))
   refine zhN ⟨5,by omega⟩ _ ?_ ?_ ?_
   · (show 5-(4+1)<5-4;omega)
   · (simp only [go_sem,leX,List.cons_append,List.nil_append];try simp)
   · (simp only [mulN,go_sem,leX,List.cons_append,List.nil_append];first|done|(simp [mulN,s0d,P5.ls,leX,look];done)|rfl)
 · simp only [mulN]
   refine Dz fun zK zhK=>?_
   simp only [go_sem,P5.ls,ic0,ic1,ic2,ic3,ic4,ic5,Int.reduceMod,Int.reduceTMod,Int.toNat_one]
   repeat' (first|apply And.intro|intro _)
   refine zhK _ ?_
   refine Bq fun zN zM zhN zhM=>?_
   (refine Bj ?_ ?_;focus (first|rfl|(simp [go_sem,P5.ls,ic0,ic1,ic2,ic3,ic4,ic5,Int.reduceMod,Int.reduceTMod,Int.toNat_one];done)))
   refine Fx ?_
   refine zhM _ _ ?_;clear zhN zhM
   refine zhM _ _ ?_;clear zhN zhM
   refine zbx _ ?_;clear zbn zbx zbr zbi
   refine zhN _ ?_;clear zhN zhM
   refine Dz fun zK zhK=>?_
   simp only [go_sem,P5.ls,ic0,ic1,ic2,ic3,ic4,ic5,Int.reduceMod,Int.reduceTMod,Int.toNat_one]
   repeat' (first|apply And.intro|intro _)
   all_goals (refine Cy (fun k=>k) (fun _ _=>rfl) ?_ ((b0v (s0d p r)).plain fun _ _ h=>h) ?_;focus (first|rfl|(simp only [go_sem,P5.ls,ic0,ic1,ic2,ic3,ic4,ic5,Int.reduceMod,Int.reduceTMod,Int.toNat_one]<;>rfl)))
   all_goals (rintro v m ⟨hR,hm⟩;subst hR;subst hm)
   all_goals refine And.intro (by first|rfl|simp only [go_sem,P5.ls,ic0,ic1,ic2,ic3,ic4,ic5,Int.reduceMod,Int.reduceTMod,Int.toNat_one]) (And.intro (by first|rfl|simp only [go_sem,P5.ls,ic0,ic1,ic2,ic3,ic4,ic5,Int.reduceMod,Int.reduceTMod,Int.toNat_one]) ?_)
   all_goals simp only [go_sem,P5.ls,ic0,ic1,ic2,ic3,ic4,ic5,Int.reduceMod,Int.reduceTMod,Int.toNat_one]
   all_goals repeat' (first|apply And.intro|intro _)
   refine zhK _ ?_
   refine Ck ?_
   refine zhZ _ _ ?_
   simp only [go_sem,P5.ls,ic0,ic1,ic2,ic3,ic4,ic5,Int.reduceMod,Int.reduceTMod,Int.toNat_one]
   all_goals (first|rfl|(simp only [P5.ls];done)|trace_state)
end Go.Sy
