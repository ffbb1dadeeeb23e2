/- Walks and what they compute. CONDITIONS: those that each theorem names. -/
import Derived.Test.YtkfcbhgkpknagaaGreatDoorvS21
import Derived.Test.YtkfcbhgkpknagaaGreatDoorvE3
set_option linter.unusedVariables false
set_option linter.unusedSimpArgs false
set_option maxHeartbeats 1600000
set_option maxRecDepth 100000
namespace Go.Sy
theorem j0g :p25=57896044618658097711785492504343953926634992332820282019728792003956564819949:=rfl
def m4 :Nat:=115792089237316195423570985008687907853269984665640564039457584007913129639936
theorem f0c :m4=115792089237316195423570985008687907853269984665640564039457584007913129639936:=rfl
theorem n2m :m4=2*p25+38:=rfl
def r0s (n k:Nat):Nat:=if n+k<m4 then n+k else n+k-m4+38
theorem g1c {n k:Nat} (hn:n<m4) (hk:k<18446744073709551616):r0s n k<m4:=by
 have:=f0c
 unfold r0s;split<;>omega
theorem b1a (x c:Nat):(x+2*p25*c)%p25=x%p25:=by
 rw [show x+2*p25*c=x+p25*(2*c) from by rw [vF 2 p25,vN]]
 exact Nat.add_mul_mod_self_left _ _ _
theorem o1f (n k:Nat):r0s n k%p25=(n+k)%p25:=by
 unfold r0s;split
 ·rfl
 rename_i h
 have e2:n+k=n+k-m4+38+2*p25*1:=by
  have:=n2m
  generalize p25=p at*
  generalize m4=m at*
  omega
 rw [←b1a (n+k-m4+38) 1,←e2]
theorem g1x (s c t:Nat) (h:s+m4*c=t):r0s s (38*c)%p25=t%p25:=by
 have e:s+m4*c=s+38*c+2*p25*c:=by rw [n2m];grind
 rw [o1f,←h,e,b1a]
theorem l1t (k:UInt64):vQ k 0 0 0=k.toNat:=by simp [vQ]
theorem r2x {c:UInt64} (h:c.toNat≤38):(38*c).toNat=38*c.toNat:=by
 rw [UInt64.toNat_mul]
 have:(38:UInt64).toNat=38:=rfl
 rw [this];exact yN (by omega)
end Go.Sy
namespace Go.Sy
namespace Lk
open Go.Proofs
attribute [local irreducible] Bw HT Aj Jk onC onE onO onG goV goA goS Lx Bz
theorem l2r (a b c d:UInt64):
 Ct Tryz.prog 111 [.w (.agg [.pl (.u64 a),.pl (.u64 b),.pl (.u64 c),.pl (.u64 d)]),.w (.one (.pl (.u64 0)))] (fun v m=>v=.w (.agg (w4C (vQ a b c d)))):=by
 have F0:=trivial
 have zF:FG [7,8,9,10,11,12,13,14,15,16,17,18,19,20,21,22,23,24,25,26,27,28,29,30,31,32,33]:=trivial
 refine Ct.go Tryz.func111 rfl Tryz.ntmps111 Tryz.results111 fun w0 ro zZ zhY=>?_
 have zU:=yA ur<|trivial
 refine (fun zX=>goW) ?_
 refine zhY _ _ ?_
 simp only [go_sem,F0]
 all_goals (rw [w4C,←h1s];rfl)
theorem l2t (a b c d k:UInt64) (hk:¬k=0) (hn:vQ a b c d+k.toNat<m4):
 Ct Tryz.prog 111 [.w (.agg [.pl (.u64 a),.pl (.u64 b),.pl (.u64 c),.pl (.u64 d)]),.w (.one (.pl (.u64 k)))] (fun v m=>v=.w (.agg (w4C (vQ a b c d+k.toNat)))):=by
 obtain ⟨s0,hs0⟩: ∃ z,adS a k 0=z:=⟨_,rfl⟩
 obtain ⟨c0,hc0⟩: ∃ z,adC a k 0=z:=⟨_,rfl⟩
 have lc0:c0.toNat≤1:=by rw [←hc0];exact Xv (by first|assumption|decide)
 obtain ⟨s1,hs1⟩: ∃ z,adS b 0 c0=z:=⟨_,rfl⟩
 obtain ⟨c1,hc1⟩: ∃ z,adC b 0 c0=z:=⟨_,rfl⟩
 have lc1:c1.toNat≤1:=by rw [←hc1];exact Xv (by first|assumption|decide)
 obtain ⟨s2,hs2⟩: ∃ z,adS c 0 c1=z:=⟨_,rfl⟩
 obtain ⟨c2,hc2⟩: ∃ z,adC c 0 c1=z:=⟨_,rfl⟩
 have lc2:c2.toNat≤1:=by rw [←hc2];exact Xv (by first|assumption|decide)
 obtain ⟨s3,hs3⟩: ∃ z,adS d 0 c2=z:=⟨_,rfl⟩
 obtain ⟨c3,hc3⟩: ∃ z,adC d 0 c2=z:=⟨_,rfl⟩
 have lc3:c3.toNat≤1:=by rw [←hc3];exact Xv (by first|assumption|decide)
 have hv:vQ s0 s1 s2 s3+m4*c3.toNat=vQ a b c d+vQ k 0 0 0∧c3.toNat≤1:=by
  have h:=k0t a b c d k 0 0 0
  simp only [ak1,ak2,ak3,ak4,hs0,hc0,hs1,hc1,hs2,hc2,hs3,hc3] at h
  exact h
 rw [l1t] at hv
 have hlt:=b0p s0 s1 s2 s3
 have hm:=f0c
 have hc:c3=0:=xS.mp (by show c3.toNat=0;obtain ⟨h1,h2⟩:=hv;rw [hm] at h1 hn;omega)
 subst hc
 have hz:(38:UInt64)*0=0:=rfl
 have he:vQ s0 s1 s2 s3=vQ a b c d+k.toNat:=by have:=hv.1;rw [show (0:UInt64).toNat=0 from rfl] at this;omega
 have F0:=yA hs0<|yA hc0<|yA hs1<|yA hc1<|yA hs2<|yA hc2<|yA hs3<|yA hc3<|yA hk<|hz
 refine Ct.k Tryz.func111 rfl Tryz.ntmps111 (congrArg Array.toList Tryz.results111) (by simp) fun w0 ro=>?_
 refine b0q fun zZ zhZ=>?_
 iterate 102 first
  |(refine Ez (x:=.seq (.seq (.region 5 _ _) _) _) [17,18,19,20,21,22,23,24,25,26,27,28,29,30] ?_;simp only [go_sem,St.forget,fgt];refine Oz fun zN zM zhN zhM=>?_)
  |(refine Ez (x:=.seq (.seq (.region 1 _ _) _) _) [5,6,7,8,9,10,11,12,13,14,15,16,17,18,19,20,21,22,23,24,25,26,27,28,29,30,31,32] ?_;simp only [go_sem,St.forget,fgt];refine Oz fun zN zM zhN zhM=>?_)
  |refine Oz fun zN zM zhN zhM=>?_
  |refine zhK _ ?_
  |(refine zhN _ ?_;clear zhN zhM)
  |(refine Lj fun zK zhK=>?_;simp only [go_sem,F0];(repeat' (first|apply yA|intro _)))
  |(refine Cw fun zK zhK=>?_;simp only [go_sem,F0];(repeat' (first|apply yA|intro _)))
  |refine Cj fun zB zbn zbx zbr zbi=>?_
  |refine Gq ?_
  |(refine zbn _ ?_;clear zbn zbx zbr zbi)
  |(refine zhM _ _ ?_;clear zhN zhM)
  |refine Jv ?_
  |(refine zbx _ ?_;clear zbn zbx zbr zbi)
  |refine Jz (x:=.seq (.seq (.region 1 _ _) _) _) 2 ?_
  |refine Jz (x:=.seq (.seq (.region 5 _ _) _) _) 4 ?_
  |refine Tk ?_
  |(refine zhZ _ _ ?_;simp only [go_sem,F0];(all_goals (rw [w4C,←he,←h1s];rfl)))
  |((all_goals refine Xz (by first|rfl|(simp only [go_sem,F0]<;>rfl)) (Oj _ _ _ (by repeat' (first|assumption|decide|apply Xv))) ?_);(all_goals simp only [go_sem,F0]);(all_goals repeat' (first|apply yA|intro _)))
  |refine Fw fun zN zM zhN zhM=>?_
  |(refine Dw ?_ ?_;focus (first|rfl|(simp [go_sem,F0];done)))
  |(refine Dk ?_ ?_;focus (first|rfl|(simp [go_sem,F0];done)))
theorem l2s (a b c d k:UInt64) (hk:¬k=0) (hn:¬vQ a b c d+k.toNat<m4):
 Ct Tryz.prog 111 [.w (.agg [.pl (.u64 a),.pl (.u64 b),.pl (.u64 c),.pl (.u64 d)]),.w (.one (.pl (.u64 k)))] (fun v m=>v=.w (.agg (w4C (vQ a b c d+k.toNat-m4+38)))):=by
 obtain ⟨s0,hs0⟩: ∃ z,adS a k 0=z:=⟨_,rfl⟩
 obtain ⟨c0,hc0⟩: ∃ z,adC a k 0=z:=⟨_,rfl⟩
 have lc0:c0.toNat≤1:=by rw [←hc0];exact Xv (by first|assumption|decide)
 obtain ⟨s1,hs1⟩: ∃ z,adS b 0 c0=z:=⟨_,rfl⟩
 obtain ⟨c1,hc1⟩: ∃ z,adC b 0 c0=z:=⟨_,rfl⟩
 have lc1:c1.toNat≤1:=by rw [←hc1];exact Xv (by first|assumption|decide)
 obtain ⟨s2,hs2⟩: ∃ z,adS c 0 c1=z:=⟨_,rfl⟩
 obtain ⟨c2,hc2⟩: ∃ z,adC c 0 c1=z:=⟨_,rfl⟩
 have lc2:c2.toNat≤1:=by rw [←hc2];exact Xv (by first|assumption|decide)
 obtain ⟨s3,hs3⟩: ∃ z,adS d 0 c2=z:=⟨_,rfl⟩
 obtain ⟨c3,hc3⟩: ∃ z,adC d 0 c2=z:=⟨_,rfl⟩
 have lc3:c3.toNat≤1:=by rw [←hc3];exact Xv (by first|assumption|decide)
 have hv:vQ s0 s1 s2 s3+m4*c3.toNat=vQ a b c d+vQ k 0 0 0∧c3.toNat≤1:=by
  have h:=k0t a b c d k 0 0 0
  simp only [ak1,ak2,ak3,ak4,hs0,hc0,hs1,hc1,hs2,hc2,hs3,hc3] at h
  exact h
 rw [l1t] at hv
 have hlt:=b0p s0 s1 s2 s3
 have hm:=f0c
 have hkl:=k.toNat_lt
 have hal:=b0p a b c d
 have hc:c3=1:=xS.mp (by show c3.toNat=1;obtain ⟨h1,h2⟩:=hv;rw [hm] at h1 hn;omega)
 subst hc
 have hz:(38:UInt64)*1=38:=rfl
 obtain ⟨r0,hr0⟩: ∃ z,adS s0 38 0=z:=⟨_,rfl⟩
 obtain ⟨d0,hd0⟩: ∃ z,adC s0 38 0=z:=⟨_,rfl⟩
 have ld0:d0.toNat≤1:=by rw [←hd0];exact Xv (by first|assumption|decide)
 obtain ⟨r1,hr1⟩: ∃ z,adS s1 0 d0=z:=⟨_,rfl⟩
 obtain ⟨d1,hd1⟩: ∃ z,adC s1 0 d0=z:=⟨_,rfl⟩
 have ld1:d1.toNat≤1:=by rw [←hd1];exact Xv (by first|assumption|decide)
 obtain ⟨r2,hr2⟩: ∃ z,adS s2 0 d1=z:=⟨_,rfl⟩
 obtain ⟨d2,hd2⟩: ∃ z,adC s2 0 d1=z:=⟨_,rfl⟩
 have ld2:d2.toNat≤1:=by rw [←hd2];exact Xv (by first|assumption|decide)
 obtain ⟨r3,hr3⟩: ∃ z,adS s3 0 d2=z:=⟨_,rfl⟩
 obtain ⟨d3,hd3⟩: ∃ z,adC s3 0 d2=z:=⟨_,rfl⟩
 have ld3:d3.toNat≤1:=by rw [←hd3];exact Xv (by first|assumption|decide)
 have hw:vQ r0 r1 r2 r3+m4*d3.toNat=vQ s0 s1 s2 s3+vQ 38 0 0 0∧d3.toNat≤1:=by
  have h:=k0t s0 s1 s2 s3 38 0 0 0
  simp only [ak1,ak2,ak3,ak4,hr0,hd0,hr1,hd1,hr2,hd2,hr3,hd3] at h
  exact h
 rw [l1t] at hw
 have h38:(38:UInt64).toNat=38:=rfl
 have h1:(1:UInt64).toNat=1:=rfl
 have hd:d3=0:=xS.mp (by show d3.toNat=0;obtain ⟨e1,e2⟩:=hv;obtain ⟨e3,e4⟩:=hw;rw [h38] at e3;rw [h1] at e1;rw [hm] at e1 e3 hn;omega)
 subst hd
 have hz2:(38:UInt64)*0=0:=rfl
 have he:vQ r0 r1 r2 r3=vQ a b c d+k.toNat-m4+38:=by
  obtain ⟨e1,e2⟩:=hv;obtain ⟨e3,e4⟩:=hw;rw [h38,show (0:UInt64).toNat=0 from rfl] at e3;rw [h1] at e1;rw [hm] at*;omega
 have F0:=yA hs0<|yA hc0<|yA hs1<|yA hc1<|yA hs2<|yA hc2<|yA hs3<|yA hc3<|yA hr0<|yA hd0<|yA hr1<|yA hd1<|yA hr2<|yA hd2<|yA hr3<|yA hd3<|yA hk<|yA hz<|hz2
 refine Ct.k Tryz.func111 rfl Tryz.ntmps111 (congrArg Array.toList Tryz.results111) (by simp) fun w0 ro=>?_
 refine b0q fun zZ zhZ=>?_
 iterate 185 first
  |(refine Ez (x:=.seq (.seq (.region 5 _ _) _) _) [17,18,19,20,21,22,23,24,25,26,27,28,29,30] ?_;simp only [go_sem,St.forget,fgt];refine Oz fun zN zM zhN zhM=>?_)
  |(refine Ez (x:=.seq (.seq (.region 1 _ _) _) _) [5,6,7,8,9,10,11,12,13,14,15,16,17,18,19,20,21,22,23,24,25,26,27,28,29,30,31,32] ?_;simp only [go_sem,St.forget,fgt];refine Oz fun zN zM zhN zhM=>?_)
  |refine Oz fun zN zM zhN zhM=>?_
  |refine zhK _ ?_
  |(refine zhN _ ?_;clear zhN zhM)
  |(refine Lj fun zK zhK=>?_;simp only [go_sem,F0];(repeat' (first|apply yA|intro _)))
  |(refine Cw fun zK zhK=>?_;simp only [go_sem,F0];(repeat' (first|apply yA|intro _)))
  |refine Cj fun zB zbn zbx zbr zbi=>?_
  |refine Gq ?_
  |(refine zbn _ ?_;clear zbn zbx zbr zbi)
  |(refine zhM _ _ ?_;clear zhN zhM)
  |refine Jv ?_
  |(refine zbx _ ?_;clear zbn zbx zbr zbi)
  |refine Jz (x:=.seq (.seq (.region 5 _ _) _) _) 4 ?_
  |refine Jz (x:=.seq (.seq (.region 1 _ _) _) _) 3 ?_
  |refine Tk ?_
  |(refine zhZ _ _ ?_;simp only [go_sem,F0];(all_goals (rw [w4C,←he,←h1s];rfl)))
  |((all_goals refine Xz (by first|rfl|(simp only [go_sem,F0]<;>rfl)) (Oj _ _ _ (by repeat' (first|assumption|decide|apply Xv))) ?_);(all_goals simp only [go_sem,F0]);(all_goals repeat' (first|apply yA|intro _)))
  |refine Fw fun zN zM zhN zhM=>?_
  |(refine Dw ?_ ?_;focus (first|rfl|(simp [go_sem,F0];done)))
  |(refine Dk ?_ ?_;focus (first|rfl|(simp [go_sem,F0];done)))
theorem n0d (a b c d k:UInt64):Ct Tryz.prog 111 [.w (.agg [.pl (.u64 a),.pl (.u64 b),.pl (.u64 c),.pl (.u64 d)]),.w (.one (.pl (.u64 k)))] (fun v m=>v=.w (.agg (w4C (r0s (vQ a b c d) k.toNat)))):=by
 unfold r0s
 by_cases hk:k=0
 ·subst hk
  have h0:(0:UInt64).toNat=0:=rfl
  rw [if_pos (by rw [h0,f0c];exact b0p a b c d),h0]
  exact l2r a b c d
 by_cases hn:vQ a b c d+k.toNat<m4
 ·rw [if_pos hn];exact l2t a b c d k hk hn
 rw [if_neg hn];exact l2s a b c d k hk hn
end Lk
end Go.Sy
namespace Go.Sy
namespace Lk
open Go.Proofs
attribute [local irreducible] Bw HT Aj Jk onC onE onO onG goV goA goS Lx Bz
theorem j0j (x:Nat):x%p25<115792089237316195423570985008687907853269984665640564039457584007913129639936:=by
 have:=wP x (show 0<p25 by decide)
 have:=j0g
 omega
theorem add_ (a b c d e f g h:UInt64):
 CtM Tryz.prog 130 [.w (.agg [.pl (.u64 a),.pl (.u64 b),.pl (.u64 c),.pl (.u64 d)]),.w (.agg [.pl (.u64 e),.pl (.u64 f),.pl (.u64 g),.pl (.u64 h)])] [(1000001,⟨false,gPr⟩)] (Told (fun v m=>v=.w (.agg (w4C ((vQ a b c d+vQ e f g h)%p25)))∧m=[])):=by
 obtain ⟨s0,hs0⟩: ∃ z,adS a e 0=z:=⟨_,rfl⟩
 obtain ⟨c0,hc0⟩: ∃ z,adC a e 0=z:=⟨_,rfl⟩
 have lc0:c0.toNat≤1:=by rw [←hc0];exact Xv (by first|assumption|decide)
 obtain ⟨s1,hs1⟩: ∃ z,adS b f c0=z:=⟨_,rfl⟩
 obtain ⟨c1,hc1⟩: ∃ z,adC b f c0=z:=⟨_,rfl⟩
 have lc1:c1.toNat≤1:=by rw [←hc1];exact Xv (by first|assumption|decide)
 obtain ⟨s2,hs2⟩: ∃ z,adS c g c1=z:=⟨_,rfl⟩
 obtain ⟨c2,hc2⟩: ∃ z,adC c g c1=z:=⟨_,rfl⟩
 have lc2:c2.toNat≤1:=by rw [←hc2];exact Xv (by first|assumption|decide)
 obtain ⟨s3,hs3⟩: ∃ z,adS d h c2=z:=⟨_,rfl⟩
 obtain ⟨c3,hc3⟩: ∃ z,adC d h c2=z:=⟨_,rfl⟩
 have lc3:c3.toNat≤1:=by rw [←hc3];exact Xv (by first|assumption|decide)
 have hv:vQ s0 s1 s2 s3+m4*c3.toNat=vQ a b c d+vQ e f g h∧c3.toNat≤1:=by
  have h:=k0t a b c d e f g h
  simp only [ak1,ak2,ak3,ak4,hs0,hc0,hs1,hc1,hs2,hc2,hs3,hc3] at h
  exact h
 have hP:=n0d s0 s1 s2 s3 (38*c3)
 rw [r2x (by have:=hv.2;omega)] at hP
 obtain ⟨p0,p1,p2,p3,hp,hvp⟩:=Cz (r0s (vQ s0 s1 s2 s3) (38*c3.toNat)) (g1c (b0p _ _ _ _) (by have:=hv.2;omega))
 simp only [w4C,hp] at hP
 have hS:=u0f p0 p1 p2 p3
 rw [hvp,g1x _ _ _ hv.1] at hS
 obtain ⟨q0,q1,q2,q3,hq,hvq⟩:=Cz ((vQ a b c d+vQ e f g h)%p25) (j0j _)
 simp only [w4C,hq] at hS ⊢
 have F0:=yA hs0<|yA hc0<|yA hs1<|yA hc1<|yA hs2<|yA hc2<|yA hs3<|hc3
 refine CtM.k Tryz.func130 rfl Tryz.ntmps130 (congrArg Array.toList Tryz.results130) (by simp) fun w0 ro may fx=>?_
 refine b0q fun zZ zhZ=>?_
 iterate 101 first
  |(refine Ez (x:=.seq (.region 3 _ _) _) [6,8,9,10,11,12,13,14,15,16,17,18,19,20,21,22,23] ?_;simp only [go_sem,St.forget,fgt];refine Oz fun zN zM zhN zhM=>?_)
  |refine Oz fun zN zM zhN zhM=>?_
  |refine zhK _ ?_
  |(refine Lj fun zK zhK=>?_;simp only [go_sem,Dz,F0];(repeat' (first|apply yA|intro _)))
  |(refine zhN _ ?_;clear zhN zhM)
  |refine Cj fun zB zbn zbx zbr zbi=>?_
  |refine Gq ?_
  |(refine Sk (id:=5) [11,12,13,14,15,16,17,18,19,10,20,21,22,5] [0,0,2,6,0,16,48,0,254,510,1022,1022,2047,6143,16383] [(11,13)] mixed (by kernel_rfl) (by simp only [go_sem]) fun zK zhK=>?_;simp only [go_sem,Dz,F0];(repeat' (first|apply yA|intro _)))
  |(refine zhK _ _ ?_ ?_;(focus (first|trivial|(simp only [go_sem];done)|(simp only [go_sem];simp;done)|(simp only [go_sem];simp;simp only [go_sem]))))
  |(refine zbn _ ?_;clear zbn zbx zbr zbi)
  |(refine Cw fun zK zhK=>?_;simp only [go_sem,Dz,F0];(repeat' (first|apply yA|intro _)))
  |(refine zhM _ _ ?_;clear zhN zhM)
  |refine Jz (x:=.seq (.region 3 _ _) _) 5 ?_
  |refine Jv ?_
  |(refine zbx _ ?_;clear zbn zbx zbr zbi)
  |refine Tk ?_
  |(refine zhZ _ _ ?_;simp only [go_sem,Dz,F0];(all_goals (exact told_plain (by simp [Dv,Ew]) ⟨rfl,rfl⟩)))
  |((all_goals refine Vk (by first|rfl|(simp only [go_sem,Dz,F0]<;>rfl)) (Oj _ _ _ (by repeat' (first|assumption|decide|apply Xv))) ?_);(all_goals simp only [go_sem,Dz,F0]);(all_goals repeat' (first|apply yA|intro _)))
  |((all_goals (refine Cv (fun k=>k) (fun _ _=>rfl) ?_ ((hP).plain fun _ _ h=>h) ?_;focus (first|rfl|(simp only [go_sem,Dz,F0]<;>rfl))));(all_goals (rintro v m ⟨hR,hm⟩;subst hR;subst hm));(all_goals refine yA (by first|rfl|simp only [go_sem,Dz,F0]) (yA (by first|rfl|simp only [go_sem,Dz,F0]) ?_));(all_goals simp only [go_sem,Dz,F0]);(all_goals repeat' (first|apply yA|intro _)))
  |((all_goals (refine Kz false [] (fun k=>k) (fun _ _=>rfl) ?_ (by decide) ?_ hS.told ?_;iterate 2 (focus (first|rfl|(simp only [go_sem,Dz,F0]<;>first|done|rfl|simp)))));(all_goals (rintro v m ⟨hR,hm⟩;subst hR;subst hm));(all_goals (refine yA ?_ (yA ?_ (yA ?_ ?_));iterate 3 (focus (first|rfl|(simp only [go_sem,Dz,F0];done)|(simp [go_sem,look,Dz,F0];done)))));(all_goals (try simp only [go_sem,Dz,F0]));(all_goals (try simp only [go_sem,Dz,F0]));(all_goals repeat' (first|apply yA|intro _)))
  |refine Fw fun zN zM zhN zhM=>?_
  |(refine Dw ?_ ?_;focus (first|rfl|(simp [go_sem,Dz,F0];done)))
  |(refine Dk ?_ ?_;focus (first|rfl|(simp [go_sem,Dz,F0];done)))
theorem sub_lt (a b c d e f g h:UInt64) (h1:vQ a b c d<p25) (h2:vQ e f g h<p25) (h3:vQ a b c d<vQ e f g h):
 CtM Tryz.prog 131 [.w (.agg [.pl (.u64 a),.pl (.u64 b),.pl (.u64 c),.pl (.u64 d)]),.w (.agg [.pl (.u64 e),.pl (.u64 f),.pl (.u64 g),.pl (.u64 h)])] [(1000001,⟨false,gPr⟩)] (Told (fun v m=>v=.w (.agg (w4C ((vQ a b c d+p25-vQ e f g h)%p25)))∧m=[])):=by
 have hL:=x1r a b c d e f g h
 have hm:=f0c
 have hp:=j0g
 have ha:=b0p a b c d
 have hb:=b0p e f g h
 rw [decide_eq_true h3] at hL
 obtain ⟨z,hz⟩: ∃ z,(vQ a b c d+115792089237316195423570985008687907853269984665640564039457584007913129639936-vQ e f g h)%115792089237316195423570985008687907853269984665640564039457584007913129639936=z:=⟨_,rfl⟩
 have hzl:z<115792089237316195423570985008687907853269984665640564039457584007913129639936:=by rw [←hz];exact wP _ (by decide)
 have hze:z+vQ e f g h=vQ a b c d+115792089237316195423570985008687907853269984665640564039457584007913129639936:=by omega
 rw [hz] at hL
 obtain ⟨s0,s1,s2,s3,hs,hvs⟩:=Cz (z) (hzl)
 simp only [w4C,hs] at hL
 obtain ⟨r0,hr0⟩: ∃ z,adS s0 18446744073709551597 0=z:=⟨_,rfl⟩
 obtain ⟨d0,hd0⟩: ∃ z,adC s0 18446744073709551597 0=z:=⟨_,rfl⟩
 have ld0:d0.toNat≤1:=by rw [←hd0];exact Xv (by first|assumption|decide)
 obtain ⟨r1,hr1⟩: ∃ z,adS s1 18446744073709551615 d0=z:=⟨_,rfl⟩
 obtain ⟨d1,hd1⟩: ∃ z,adC s1 18446744073709551615 d0=z:=⟨_,rfl⟩
 have ld1:d1.toNat≤1:=by rw [←hd1];exact Xv (by first|assumption|decide)
 obtain ⟨r2,hr2⟩: ∃ z,adS s2 18446744073709551615 d1=z:=⟨_,rfl⟩
 obtain ⟨d2,hd2⟩: ∃ z,adC s2 18446744073709551615 d1=z:=⟨_,rfl⟩
 have ld2:d2.toNat≤1:=by rw [←hd2];exact Xv (by first|assumption|decide)
 obtain ⟨r3,hr3⟩: ∃ z,adS s3 9223372036854775807 d2=z:=⟨_,rfl⟩
 obtain ⟨d3,hd3⟩: ∃ z,adC s3 9223372036854775807 d2=z:=⟨_,rfl⟩
 have ld3:d3.toNat≤1:=by rw [←hd3];exact Xv (by first|assumption|decide)
 have hw:vQ r0 r1 r2 r3+m4*d3.toNat=vQ s0 s1 s2 s3+vQ 18446744073709551597 18446744073709551615 18446744073709551615 9223372036854775807∧d3.toNat≤1:=by
  have h:=k0t s0 s1 s2 s3 18446744073709551597 18446744073709551615 18446744073709551615 9223372036854775807
  simp only [ak1,ak2,ak3,ak4,hr0,hd0,hr1,hd1,hr2,hd2,hr3,hd3] at h
  exact h
 rw [t0y,hvs] at hw
 have hrl:=b0p r0 r1 r2 r3
 have he:vQ r0 r1 r2 r3=(vQ a b c d+p25-vQ e f g h)%p25:=by
  obtain ⟨e1,e2⟩:=hw
  rw [yN (by omega)]
  rw [hm] at e1
  omega
 have hE:Dz [r0,r1,r2,r3]=w4C ((vQ a b c d+p25-vQ e f g h)%p25):=by rw [w4C,←he,h1s]
 have F0:=yA hr0<|yA hd0<|yA hr1<|yA hd1<|yA hr2<|yA hd2<|yA hr3<|hd3
 refine CtM.k Tryz.func131 rfl Tryz.ntmps131 (congrArg Array.toList Tryz.results131) (by simp) fun w0 ro may fx=>?_
 refine b0q fun zZ zhZ=>?_
 iterate 105 first
  |(refine Ez (x:=.seq (.region 5 _ _) _) [8,17,18,19,20,21,22,23,24,25,26,27,28,29,30,31,32] ?_;simp only [go_sem,St.forget,fgt];refine Oz fun zN zM zhN zhM=>?_)
  |refine Oz fun zN zM zhN zhM=>?_
  |refine zhK _ ?_
  |(refine Lj fun zK zhK=>?_;simp only [go_sem,Dz,F0];(repeat' (first|apply yA|intro _)))
  |(refine zhN _ ?_;clear zhN zhM)
  |refine Cj fun zB zbn zbx zbr zbi=>?_
  |refine Gq ?_
  |(refine Sk (id:=7) [20,21,22,23,24,25,26,27,28,19,29,30,31,7] [0,0,2,6,0,16,48,0,254,510,1022,1022,2047,6143,16383] [(11,13)] mixed (by kernel_rfl) (by simp only [go_sem]) fun zK zhK=>?_;simp only [go_sem,Dz,F0];(repeat' (first|apply yA|intro _)))
  |(refine zhK _ _ ?_ ?_;(focus (first|trivial|(simp only [go_sem];done)|(simp only [go_sem];simp;done)|(simp only [go_sem];simp;simp only [go_sem]))))
  |(refine zbn _ ?_;clear zbn zbx zbr zbi)
  |(refine Cw fun zK zhK=>?_;simp only [go_sem,Dz,F0];(repeat' (first|apply yA|intro _)))
  |(refine zhM _ _ ?_;clear zhN zhM)
  |refine Jz (x:=.seq (.region 5 _ _) _) 5 ?_
  |refine Jv ?_
  |(refine zbx _ ?_;clear zbn zbx zbr zbi)
  |refine Tk ?_
  |(refine zhZ _ _ ?_;simp only [go_sem,Dz,F0];(all_goals (exact told_plain (by simp [Dv,Ew]) ⟨by rw [←hE];rfl,rfl⟩)))
  |((all_goals refine Vk (by first|rfl|(simp only [go_sem,Dz,F0]<;>rfl)) (Oj _ _ _ (by repeat' (first|assumption|decide|apply Xv))) ?_);(all_goals simp only [go_sem,Dz,F0]);(all_goals repeat' (first|apply yA|intro _)))
  |((all_goals (refine Cv (fun k=>k) (fun _ _=>rfl) ?_ ((hL).plain fun _ _ h=>h) ?_;focus (first|rfl|(simp only [go_sem,Dz,F0]<;>rfl))));(all_goals (rintro v m ⟨hR,hm⟩;subst hR;subst hm));(all_goals refine yA (by first|rfl|simp only [go_sem,Dz,F0]) (yA (by first|rfl|simp only [go_sem,Dz,F0]) ?_));(all_goals simp only [go_sem,Dz,F0]);(all_goals repeat' (first|apply yA|intro _)))
  |refine Fw fun zN zM zhN zhM=>?_
  |(refine Dw ?_ ?_;focus (first|rfl|(simp [go_sem,Dz,F0];done)))
  |(refine Dk ?_ ?_;focus (first|rfl|(simp [go_sem,Dz,F0];done)))
theorem k2j (a b c d e f g h:UInt64) (h1:vQ a b c d<p25) (h2:vQ e f g h<p25) (h3:¬vQ a b c d<vQ e f g h):
 CtM Tryz.prog 131 [.w (.agg [.pl (.u64 a),.pl (.u64 b),.pl (.u64 c),.pl (.u64 d)]),.w (.agg [.pl (.u64 e),.pl (.u64 f),.pl (.u64 g),.pl (.u64 h)])] [(1000001,⟨false,gPr⟩)] (Told (fun v m=>v=.w (.agg (w4C ((vQ a b c d+p25-vQ e f g h)%p25)))∧m=[])):=by
 have hL:=x1r a b c d e f g h
 have hm:=f0c
 have hp:=j0g
 have ha:=b0p a b c d
 have hb:=b0p e f g h
 rw [decide_eq_false h3] at hL
 have hd:(vQ a b c d+p25-vQ e f g h)%p25=vQ a b c d-vQ e f g h:=by rw [show vQ a b c d+p25-vQ e f g h=(vQ a b c d-vQ e f g h)+p25 from by omega,Nat.add_mod_right,yN (by omega)]
 have he:(vQ a b c d+115792089237316195423570985008687907853269984665640564039457584007913129639936-vQ e f g h)%115792089237316195423570985008687907853269984665640564039457584007913129639936=(vQ a b c d+p25-vQ e f g h)%p25:=by rw [hd];omega
 rw [he] at hL
 obtain ⟨q0,q1,q2,q3,hq,hvq⟩:=Cz ((vQ a b c d+p25-vQ e f g h)%p25) (j0j _)
 simp only [w4C,hq] at hL ⊢
 have F0:=Dz.eq_1
 refine CtM.go Tryz.func131 rfl Tryz.ntmps131 Tryz.results131 fun w0 ro may fx zZ zhY=>?_
 have cq:=yA (Ct.cv (hL))<|trivial
 refine (fun zX=>goW) ?_
 refine zhY _ _ ?_
 simp only [go_sem,F0]
 all_goals (exact told_plain (by simp [Dv,Ew]) ⟨rfl,rfl⟩)
theorem sub_ (a b c d e f g h:UInt64) (h1:vQ a b c d<p25) (h2:vQ e f g h<p25):CtM Tryz.prog 131 [.w (.agg [.pl (.u64 a),.pl (.u64 b),.pl (.u64 c),.pl (.u64 d)]),.w (.agg [.pl (.u64 e),.pl (.u64 f),.pl (.u64 g),.pl (.u64 h)])] [(1000001,⟨false,gPr⟩)] (Told (fun v m=>v=.w (.agg (w4C ((vQ a b c d+p25-vQ e f g h)%p25)))∧m=[])):=by
 by_cases h3:vQ a b c d<vQ e f g h
 ·exact sub_lt a b c d e f g h h1 h2 h3
 exact k2j a b c d e f g h h1 h2 h3
theorem p2c (a b c d e f g h:UInt64) (h1:vQ a b c d<p25) (h2:vQ e f g h<p25):
 CtM Tryz.prog 107 [.w (.agg [.pl (.u64 a),.pl (.u64 b),.pl (.u64 c),.pl (.u64 d)]),.w (.agg [.pl (.u64 e),.pl (.u64 f),.pl (.u64 g),.pl (.u64 h)])] [(1000001,⟨false,gPr⟩)] (Told (fun v m=>v=.tup [.agg (w4C ((vQ a b c d+vQ e f g h)%p25)),.one (.pl (.i 0))]∧m=[])):=by
 have hb:=o2r a b c d e f g h h1 h2 ((vQ a b c d+vQ e f g h)%p25) (wP _ (by decide)) (add_ a b c d e f g h)
 obtain ⟨q0,q1,q2,q3,hq,hvq⟩:=Cz ((vQ a b c d+vQ e f g h)%p25) (j0j _)
 simp only [w4C,hq] at hb ⊢
 have F0:=Dz.eq_1
 refine CtM.go Tryz.func107 rfl Tryz.ntmps107 Tryz.results107 fun w0 ro may fx zZ zhY=>?_
 have cq:=yA (CtM.ch [] (hb.told))<|trivial
 refine (fun zX=>goW) ?_
 refine zhY _ _ ?_
 simp only [go_sem,F0]
 all_goals (exact told_plain (by simp [Dv,Ew]) ⟨rfl,rfl⟩)
theorem p2a (a b c d e f g h:UInt64) (h1:vQ a b c d<p25) (h2:vQ e f g h<p25):
 CtM Tryz.prog 108 [.w (.agg [.pl (.u64 a),.pl (.u64 b),.pl (.u64 c),.pl (.u64 d)]),.w (.agg [.pl (.u64 e),.pl (.u64 f),.pl (.u64 g),.pl (.u64 h)])] [(1000001,⟨false,gPr⟩)] (Told (fun v m=>v=.tup [.agg (w4C ((vQ a b c d+p25-vQ e f g h)%p25)),.one (.pl (.i 0))]∧m=[])):=by
 have hb:=o2p a b c d e f g h h1 h2 ((vQ a b c d+p25-vQ e f g h)%p25) (wP _ (by decide)) (sub_ a b c d e f g h h1 h2)
 obtain ⟨q0,q1,q2,q3,hq,hvq⟩:=Cz ((vQ a b c d+p25-vQ e f g h)%p25) (j0j _)
 simp only [w4C,hq] at hb ⊢
 have F0:=Dz.eq_1
 refine CtM.go Tryz.func108 rfl Tryz.ntmps108 Tryz.results108 fun w0 ro may fx zZ zhY=>?_
 have cq:=yA (CtM.ch [] (hb.told))<|trivial
 refine (fun zX=>goW) ?_
 refine zhY _ _ ?_
 simp only [go_sem,F0]
 all_goals (exact told_plain (by simp [Dv,Ew]) ⟨rfl,rfl⟩)
end Lk
end Go.Sy
