/- Walks and what they compute. CONDITIONS: those that each theorem names. -/
import Derived.Test.YtlmbdhfkdhjcfaaDoorvS12
set_option linter.unusedVariables false
set_option linter.unusedSimpArgs false
set_option maxHeartbeats 1600000
set_option maxRecDepth 100000
namespace Go.Sy
theorem f0z :p25=57896044618658097711785492504343953926634992332820282019728792003956564819949:=rfl
def m4 :Nat:=115792089237316195423570985008687907853269984665640564039457584007913129639936
theorem c0u :m4=115792089237316195423570985008687907853269984665640564039457584007913129639936:=rfl
theorem a2d :m4=2*p25+38:=rfl
def n0a (n k:Nat):Nat:=if n+k<m4 then n+k else n+k-m4+38
theorem y0l {n k:Nat} (hn:n<m4) (hk:k<18446744073709551616):n0a n k<m4:=by
 have:=c0u
 unfold n0a;split<;>omega
theorem u0j (x c:Nat):(x+2*p25*c)%p25=x%p25:=by
 rw [show x+2*p25*c=x+p25*(2*c) from by rw [Nat.mul_comm 2 p25,Nat.mul_assoc]]
 exact Nat.add_mul_mod_self_left _ _ _
theorem e1u (n k:Nat):n0a n k%p25=(n+k)%p25:=by
 unfold n0a;split
 ·rfl
 ·rename_i h
  have e2:n+k=n+k-m4+38+2*p25*1:=by
   have:=a2d
   generalize p25=p at*
   generalize m4=m at*
   omega
  rw [←u0j (n+k-m4+38) 1,←e2]
theorem z0g (s c t:Nat) (h:s+m4*c=t):n0a s (38*c)%p25=t%p25:=by
 have e:s+m4*c=s+38*c+2*p25*c:=by rw [a2d];grind
 rw [e1u,←h,e,u0j]
theorem c1z (k:UInt64):vQ k 0 0 0=k.toNat:=by simp [vQ]
theorem d2v {c:UInt64} (h:c.toNat≤38):(38*c).toNat=38*c.toNat:=by
 rw [UInt64.toNat_mul]
 have:(38:UInt64).toNat=38:=rfl
 rw [this];exact Nat.mod_eq_of_lt (by omega)
end Go.Sy
namespace Go.Sy
namespace Lk
open Go.Proofs
attribute [local irreducible] Dv HT Cz Px onC onE onO onG goV goA goS Qx Dw
theorem y1o (a b c d:UInt64):
 Ct Tryd.prog 58 [.w (.agg [.pl (.u64 a),.pl (.u64 b),.pl (.u64 c),.pl (.u64 d)]),.w (.one (.pl (.u64 0)))] (fun v m=>v=.w (.agg (w4C (vQ a b c d)))):=by
 refine Ct.k Tryd.func58 rfl Tryd.ntmps58 (congrArg Array.toList Tryd.results58) (by simp) fun w0 ro=>?_
 refine Dj fun zZ zhZ=>?_
 iterate 19 first
  |refine Fq fun zN zM zhN zhM=>?_
  |(refine Cx fun zK zhK=>?_;simp only [go_sem];(repeat' (first|apply And.intro|intro _)))
  |refine zhK _ ?_
  |(refine zhM _ _ ?_;clear zhN zhM)
  |refine Aj fun zB zbn zbx zbr zbi=>?_
  |refine Fx (x:=.seq (.seq (.region 1 _ _) _) _) 1 ?_
  |refine Ey ?_
  |(refine zbx _ ?_;clear zbn zbx zbr zbi)
  |(refine zhN _ ?_;clear zhN zhM)
  |refine Dx ?_
  |(refine zhZ _ _ ?_;simp only [go_sem];(all_goals (rw [w4C,←z0z];rfl)))
  |refine Bz fun zN zM zhN zhM=>?_
  |(refine Cy ?_ ?_;focus (first|rfl|(simp [go_sem];done)))
theorem y1q (a b c d k:UInt64) (hk:¬k=0) (hn:vQ a b c d+k.toNat<m4):
 Ct Tryd.prog 58 [.w (.agg [.pl (.u64 a),.pl (.u64 b),.pl (.u64 c),.pl (.u64 d)]),.w (.one (.pl (.u64 k)))] (fun v m=>v=.w (.agg (w4C (vQ a b c d+k.toNat)))):=by
 obtain ⟨s0,hs0⟩: ∃ z,adS a k 0=z:=⟨_,rfl⟩
 obtain ⟨c0,hc0⟩: ∃ z,adC a k 0=z:=⟨_,rfl⟩
 have lc0:c0.toNat≤1:=by rw [←hc0];exact Iy (by first|assumption|decide)
 obtain ⟨s1,hs1⟩: ∃ z,adS b 0 c0=z:=⟨_,rfl⟩
 obtain ⟨c1,hc1⟩: ∃ z,adC b 0 c0=z:=⟨_,rfl⟩
 have lc1:c1.toNat≤1:=by rw [←hc1];exact Iy (by first|assumption|decide)
 obtain ⟨s2,hs2⟩: ∃ z,adS c 0 c1=z:=⟨_,rfl⟩
 obtain ⟨c2,hc2⟩: ∃ z,adC c 0 c1=z:=⟨_,rfl⟩
 have lc2:c2.toNat≤1:=by rw [←hc2];exact Iy (by first|assumption|decide)
 obtain ⟨s3,hs3⟩: ∃ z,adS d 0 c2=z:=⟨_,rfl⟩
 obtain ⟨c3,hc3⟩: ∃ z,adC d 0 c2=z:=⟨_,rfl⟩
 have lc3:c3.toNat≤1:=by rw [←hc3];exact Iy (by first|assumption|decide)
 have hv:vQ s0 s1 s2 s3+m4*c3.toNat=vQ a b c d+vQ k 0 0 0∧c3.toNat≤1:=by
  have h:=h0g a b c d k 0 0 0
  simp only [ak1,ak2,ak3,ak4,hs0,hc0,hs1,hc1,hs2,hc2,hs3,hc3] at h
  exact h
 rw [c1z] at hv
 have hlt:=a0c s0 s1 s2 s3
 have hm:=c0u
 have hc:c3=0:=UInt64.toNat_inj.mp (by show c3.toNat=0;obtain ⟨h1,h2⟩:=hv;rw [hm] at h1 hn;omega)
 subst hc
 have hz:(38:UInt64)*0=0:=rfl
 have he:vQ s0 s1 s2 s3=vQ a b c d+k.toNat:=by have:=hv.1;rw [show (0:UInt64).toNat=0 from rfl] at this;omega
 have F0:=And.intro hs0<|And.intro hc0<|And.intro hs1<|And.intro hc1<|And.intro hs2<|And.intro hc2<|And.intro hs3<|And.intro hc3<|And.intro hk<|hz
 refine Ct.k Tryd.func58 rfl Tryd.ntmps58 (congrArg Array.toList Tryd.results58) (by simp) fun w0 ro=>?_
 refine Dj fun zZ zhZ=>?_
 iterate 102 first
  |(refine Cv (x:=.seq (.seq (.region 5 _ _) _) _) [17,18,19,20,21,22,23,24,25,26,27,28,29,30] ?_;simp only [go_sem,St.forget,fgt];refine Fq fun zN zM zhN zhM=>?_)
  |(refine Cv (x:=.seq (.seq (.region 1 _ _) _) _) [5,6,7,8,9,10,11,12,13,14,15,16,17,18,19,20,21,22,23,24,25,26,27,28,29,30,31,32] ?_;simp only [go_sem,St.forget,fgt];refine Fq fun zN zM zhN zhM=>?_)
  |refine Fq fun zN zM zhN zhM=>?_
  |refine zhK _ ?_
  |(refine zhN _ ?_;clear zhN zhM)
  |(refine Cx fun zK zhK=>?_;simp only [go_sem,F0];(repeat' (first|apply And.intro|intro _)))
  |(refine Av fun zK zhK=>?_;simp only [go_sem,F0];(repeat' (first|apply And.intro|intro _)))
  |refine Aj fun zB zbn zbx zbr zbi=>?_
  |refine Cw ?_
  |(refine zbn _ ?_;clear zbn zbx zbr zbi)
  |(refine zhM _ _ ?_;clear zhN zhM)
  |refine Ey ?_
  |(refine zbx _ ?_;clear zbn zbx zbr zbi)
  |refine Fx (x:=.seq (.seq (.region 1 _ _) _) _) 2 ?_
  |refine Fx (x:=.seq (.seq (.region 5 _ _) _) _) 4 ?_
  |refine Dx ?_
  |(refine zhZ _ _ ?_;simp only [go_sem,F0];(all_goals (rw [w4C,←he,←z0z];rfl)))
  |((all_goals refine Ez (by first|rfl|(simp only [go_sem,F0]<;>rfl)) (Dy _ _ _ (by repeat' (first|assumption|decide|apply Iy))) ?_);(all_goals simp only [go_sem,F0]);(all_goals repeat' (first|apply And.intro|intro _)))
  |refine Bz fun zN zM zhN zhM=>?_
  |(refine Bv ?_ ?_;focus (first|rfl|(simp [go_sem,F0];done)))
  |(refine Cy ?_ ?_;focus (first|rfl|(simp [go_sem,F0];done)))
theorem y1p (a b c d k:UInt64) (hk:¬k=0) (hn:¬vQ a b c d+k.toNat<m4):
 Ct Tryd.prog 58 [.w (.agg [.pl (.u64 a),.pl (.u64 b),.pl (.u64 c),.pl (.u64 d)]),.w (.one (.pl (.u64 k)))] (fun v m=>v=.w (.agg (w4C (vQ a b c d+k.toNat-m4+38)))):=by
 obtain ⟨s0,hs0⟩: ∃ z,adS a k 0=z:=⟨_,rfl⟩
 obtain ⟨c0,hc0⟩: ∃ z,adC a k 0=z:=⟨_,rfl⟩
 have lc0:c0.toNat≤1:=by rw [←hc0];exact Iy (by first|assumption|decide)
 obtain ⟨s1,hs1⟩: ∃ z,adS b 0 c0=z:=⟨_,rfl⟩
 obtain ⟨c1,hc1⟩: ∃ z,adC b 0 c0=z:=⟨_,rfl⟩
 have lc1:c1.toNat≤1:=by rw [←hc1];exact Iy (by first|assumption|decide)
 obtain ⟨s2,hs2⟩: ∃ z,adS c 0 c1=z:=⟨_,rfl⟩
 obtain ⟨c2,hc2⟩: ∃ z,adC c 0 c1=z:=⟨_,rfl⟩
 have lc2:c2.toNat≤1:=by rw [←hc2];exact Iy (by first|assumption|decide)
 obtain ⟨s3,hs3⟩: ∃ z,adS d 0 c2=z:=⟨_,rfl⟩
 obtain ⟨c3,hc3⟩: ∃ z,adC d 0 c2=z:=⟨_,rfl⟩
 have lc3:c3.toNat≤1:=by rw [←hc3];exact Iy (by first|assumption|decide)
 have hv:vQ s0 s1 s2 s3+m4*c3.toNat=vQ a b c d+vQ k 0 0 0∧c3.toNat≤1:=by
  have h:=h0g a b c d k 0 0 0
  simp only [ak1,ak2,ak3,ak4,hs0,hc0,hs1,hc1,hs2,hc2,hs3,hc3] at h
  exact h
 rw [c1z] at hv
 have hlt:=a0c s0 s1 s2 s3
 have hm:=c0u
 have hkl:=k.toNat_lt
 have hal:=a0c a b c d
 have hc:c3=1:=UInt64.toNat_inj.mp (by show c3.toNat=1;obtain ⟨h1,h2⟩:=hv;rw [hm] at h1 hn;omega)
 subst hc
 have hz:(38:UInt64)*1=38:=rfl
 obtain ⟨r0,hr0⟩: ∃ z,adS s0 38 0=z:=⟨_,rfl⟩
 obtain ⟨d0,hd0⟩: ∃ z,adC s0 38 0=z:=⟨_,rfl⟩
 have ld0:d0.toNat≤1:=by rw [←hd0];exact Iy (by first|assumption|decide)
 obtain ⟨r1,hr1⟩: ∃ z,adS s1 0 d0=z:=⟨_,rfl⟩
 obtain ⟨d1,hd1⟩: ∃ z,adC s1 0 d0=z:=⟨_,rfl⟩
 have ld1:d1.toNat≤1:=by rw [←hd1];exact Iy (by first|assumption|decide)
 obtain ⟨r2,hr2⟩: ∃ z,adS s2 0 d1=z:=⟨_,rfl⟩
 obtain ⟨d2,hd2⟩: ∃ z,adC s2 0 d1=z:=⟨_,rfl⟩
 have ld2:d2.toNat≤1:=by rw [←hd2];exact Iy (by first|assumption|decide)
 obtain ⟨r3,hr3⟩: ∃ z,adS s3 0 d2=z:=⟨_,rfl⟩
 obtain ⟨d3,hd3⟩: ∃ z,adC s3 0 d2=z:=⟨_,rfl⟩
 have ld3:d3.toNat≤1:=by rw [←hd3];exact Iy (by first|assumption|decide)
 have hw:vQ r0 r1 r2 r3+m4*d3.toNat=vQ s0 s1 s2 s3+vQ 38 0 0 0∧d3.toNat≤1:=by
  have h:=h0g s0 s1 s2 s3 38 0 0 0
  simp only [ak1,ak2,ak3,ak4,hr0,hd0,hr1,hd1,hr2,hd2,hr3,hd3] at h
  exact h
 rw [c1z] at hw
 have h38:(38:UInt64).toNat=38:=rfl
 have h1:(1:UInt64).toNat=1:=rfl
 have hd:d3=0:=UInt64.toNat_inj.mp (by show d3.toNat=0;obtain ⟨e1,e2⟩:=hv;obtain ⟨e3,e4⟩:=hw;rw [h38] at e3;rw [h1] at e1;rw [hm] at e1 e3 hn;omega)
 subst hd
 have hz2:(38:UInt64)*0=0:=rfl
 have he:vQ r0 r1 r2 r3=vQ a b c d+k.toNat-m4+38:=by
  obtain ⟨e1,e2⟩:=hv;obtain ⟨e3,e4⟩:=hw;rw [h38,show (0:UInt64).toNat=0 from rfl] at e3;rw [h1] at e1;rw [hm] at*;omega
 have F0:=And.intro hs0<|And.intro hc0<|And.intro hs1<|And.intro hc1<|And.intro hs2<|And.intro hc2<|And.intro hs3<|And.intro hc3<|And.intro hr0<|And.intro hd0<|And.intro hr1<|And.intro hd1<|And.intro hr2<|And.intro hd2<|And.intro hr3<|And.intro hd3<|And.intro hk<|And.intro hz<|hz2
 refine Ct.k Tryd.func58 rfl Tryd.ntmps58 (congrArg Array.toList Tryd.results58) (by simp) fun w0 ro=>?_
 refine Dj fun zZ zhZ=>?_
 iterate 185 first
  |(refine Cv (x:=.seq (.seq (.region 5 _ _) _) _) [17,18,19,20,21,22,23,24,25,26,27,28,29,30] ?_;simp only [go_sem,St.forget,fgt];refine Fq fun zN zM zhN zhM=>?_)
  |(refine Cv (x:=.seq (.seq (.region 1 _ _) _) _) [5,6,7,8,9,10,11,12,13,14,15,16,17,18,19,20,21,22,23,24,25,26,27,28,29,30,31,32] ?_;simp only [go_sem,St.forget,fgt];refine Fq fun zN zM zhN zhM=>?_)
  |refine Fq fun zN zM zhN zhM=>?_
  |refine zhK _ ?_
  |(refine zhN _ ?_;clear zhN zhM)
  |(refine Cx fun zK zhK=>?_;simp only [go_sem,F0];(repeat' (first|apply And.intro|intro _)))
  |(refine Av fun zK zhK=>?_;simp only [go_sem,F0];(repeat' (first|apply And.intro|intro _)))
  |refine Aj fun zB zbn zbx zbr zbi=>?_
  |refine Cw ?_
  |(refine zbn _ ?_;clear zbn zbx zbr zbi)
  |(refine zhM _ _ ?_;clear zhN zhM)
  |refine Ey ?_
  |(refine zbx _ ?_;clear zbn zbx zbr zbi)
  |refine Fx (x:=.seq (.seq (.region 5 _ _) _) _) 4 ?_
  |refine Fx (x:=.seq (.seq (.region 1 _ _) _) _) 3 ?_
  |refine Dx ?_
  |(refine zhZ _ _ ?_;simp only [go_sem,F0];(all_goals (rw [w4C,←he,←z0z];rfl)))
  |((all_goals refine Ez (by first|rfl|(simp only [go_sem,F0]<;>rfl)) (Dy _ _ _ (by repeat' (first|assumption|decide|apply Iy))) ?_);(all_goals simp only [go_sem,F0]);(all_goals repeat' (first|apply And.intro|intro _)))
  |refine Bz fun zN zM zhN zhM=>?_
  |(refine Bv ?_ ?_;focus (first|rfl|(simp [go_sem,F0];done)))
  |(refine Cy ?_ ?_;focus (first|rfl|(simp [go_sem,F0];done)))
theorem y1r (a b c d k:UInt64):Ct Tryd.prog 58 [.w (.agg [.pl (.u64 a),.pl (.u64 b),.pl (.u64 c),.pl (.u64 d)]),.w (.one (.pl (.u64 k)))] (fun v m=>v=.w (.agg (w4C (n0a (vQ a b c d) k.toNat)))):=by
 unfold n0a
 by_cases hk:k=0
 · subst hk
   have h0:(0:UInt64).toNat=0:=rfl
   rw [if_pos (by rw [h0,c0u];exact a0c a b c d),h0]
   exact y1o a b c d
 · by_cases hn:vQ a b c d+k.toNat<m4
   · rw [if_pos hn];exact y1q a b c d k hk hn
   · rw [if_neg hn];exact y1p a b c d k hk hn
end Lk
end Go.Sy
namespace Go.Sy
namespace Lk
open Go.Proofs
attribute [local irreducible] Dv HT Cz Px onC onE onO onG goV goA goS Qx Dw
theorem g0b (x:Nat):x%p25<115792089237316195423570985008687907853269984665640564039457584007913129639936:=by
 have:=Nat.mod_lt x (show 0<p25 by decide)
 have:=f0z
 omega
theorem add_ (a b c d e f g h:UInt64):
 CtM Tryd.prog 69 [.w (.agg [.pl (.u64 a),.pl (.u64 b),.pl (.u64 c),.pl (.u64 d)]),.w (.agg [.pl (.u64 e),.pl (.u64 f),.pl (.u64 g),.pl (.u64 h)])] [(1000001,⟨false,[.pl (.u64 18446744073709551597),.pl (.u64 18446744073709551615),.pl (.u64 18446744073709551615),.pl (.u64 9223372036854775807)]⟩)] (Told (fun v m=>v=.w (.agg (w4C ((vQ a b c d+vQ e f g h)%p25)))∧m=[])):=by
 obtain ⟨s0,hs0⟩: ∃ z,adS a e 0=z:=⟨_,rfl⟩
 obtain ⟨c0,hc0⟩: ∃ z,adC a e 0=z:=⟨_,rfl⟩
 have lc0:c0.toNat≤1:=by rw [←hc0];exact Iy (by first|assumption|decide)
 obtain ⟨s1,hs1⟩: ∃ z,adS b f c0=z:=⟨_,rfl⟩
 obtain ⟨c1,hc1⟩: ∃ z,adC b f c0=z:=⟨_,rfl⟩
 have lc1:c1.toNat≤1:=by rw [←hc1];exact Iy (by first|assumption|decide)
 obtain ⟨s2,hs2⟩: ∃ z,adS c g c1=z:=⟨_,rfl⟩
 obtain ⟨c2,hc2⟩: ∃ z,adC c g c1=z:=⟨_,rfl⟩
 have lc2:c2.toNat≤1:=by rw [←hc2];exact Iy (by first|assumption|decide)
 obtain ⟨s3,hs3⟩: ∃ z,adS d h c2=z:=⟨_,rfl⟩
 obtain ⟨c3,hc3⟩: ∃ z,adC d h c2=z:=⟨_,rfl⟩
 have lc3:c3.toNat≤1:=by rw [←hc3];exact Iy (by first|assumption|decide)
 have hv:vQ s0 s1 s2 s3+m4*c3.toNat=vQ a b c d+vQ e f g h∧c3.toNat≤1:=by
  have h:=h0g a b c d e f g h
  simp only [ak1,ak2,ak3,ak4,hs0,hc0,hs1,hc1,hs2,hc2,hs3,hc3] at h
  exact h
 have hP:=y1r s0 s1 s2 s3 (38*c3)
 rw [d2v (by have:=hv.2;omega)] at hP
 obtain ⟨p0,p1,p2,p3,hp,hvp⟩:=Dz (n0a (vQ s0 s1 s2 s3) (38*c3.toNat)) (y0l (a0c _ _ _ _) (by have:=hv.2;omega))
 simp only [w4C,hp] at hP
 have hS:=p0c p0 p1 p2 p3
 rw [hvp,z0g _ _ _ hv.1] at hS
 obtain ⟨q0,q1,q2,q3,hq,hvq⟩:=Dz ((vQ a b c d+vQ e f g h)%p25) (g0b _)
 simp only [w4C,hq] at hS ⊢
 have F0:=And.intro hs0<|And.intro hc0<|And.intro hs1<|And.intro hc1<|And.intro hs2<|And.intro hc2<|And.intro hs3<|hc3
 refine CtM.k Tryd.func69 rfl Tryd.ntmps69 (congrArg Array.toList Tryd.results69) (by simp) fun w0 ro may fx=>?_
 refine Dj fun zZ zhZ=>?_
 iterate 101 first
  |(refine Cv (x:=.seq (.region 3 _ _) _) [6,8,9,10,11,12,13,14,15,16,17,18,19,20,21,22,23] ?_;simp only [go_sem,St.forget,fgt];refine Fq fun zN zM zhN zhM=>?_)
  |refine Fq fun zN zM zhN zhM=>?_
  |refine zhK _ ?_
  |(refine Cx fun zK zhK=>?_;simp only [go_sem,Aw,F0];(repeat' (first|apply And.intro|intro _)))
  |(refine zhN _ ?_;clear zhN zhM)
  |refine Aj fun zB zbn zbx zbr zbi=>?_
  |refine Cw ?_
  |(refine Vw (id:=5) [11,12,13,14,15,16,17,18,19,10,20,21,22,5] [0,0,2,6,0,16,48,0,254,510,1022,1022,2047,6143,16383] [(11,13)] mixed (by kernel_rfl) (by simp only [go_sem]) fun zK zhK=>?_;simp only [go_sem,Aw,F0];(repeat' (first|apply And.intro|intro _)))
  |(refine zhK _ _ ?_ ?_;(focus (first|trivial|(simp only [go_sem];done)|(simp only [go_sem];simp;done)|(simp only [go_sem];simp;simp only [go_sem]))))
  |(refine zbn _ ?_;clear zbn zbx zbr zbi)
  |(refine Av fun zK zhK=>?_;simp only [go_sem,Aw,F0];(repeat' (first|apply And.intro|intro _)))
  |(refine zhM _ _ ?_;clear zhN zhM)
  |refine Fx (x:=.seq (.region 3 _ _) _) 5 ?_
  |refine Ey ?_
  |(refine zbx _ ?_;clear zbn zbx zbr zbi)
  |refine Dx ?_
  |(refine zhZ _ _ ?_;simp only [go_sem,Aw,F0];(all_goals (exact told_plain (by simp [Fj,Hz]) ⟨rfl,rfl⟩)))
  |((all_goals refine a0b (by first|rfl|(simp only [go_sem,Aw,F0]<;>rfl)) (Dy _ _ _ (by repeat' (first|assumption|decide|apply Iy))) ?_);(all_goals simp only [go_sem,Aw,F0]);(all_goals repeat' (first|apply And.intro|intro _)))
  |((all_goals (refine Cq (fun k=>k) (fun _ _=>rfl) ?_ ((hP).plain fun _ _ h=>h) ?_;focus (first|rfl|(simp only [go_sem,Aw,F0]<;>rfl))));(all_goals (rintro v m ⟨hR,hm⟩;subst hR;subst hm));(all_goals refine And.intro (by first|rfl|simp only [go_sem,Aw,F0]) (And.intro (by first|rfl|simp only [go_sem,Aw,F0]) ?_));(all_goals simp only [go_sem,Aw,F0]);(all_goals repeat' (first|apply And.intro|intro _)))
  |((all_goals (refine Bq false [] (fun k=>k) (fun _ _=>rfl) ?_ (by decide) ?_ hS.told ?_;iterate 2 (focus (first|rfl|(simp only [go_sem,Aw,F0]<;>first|done|rfl|simp)))));(all_goals (rintro v m ⟨hR,hm⟩;subst hR;subst hm));(all_goals (refine And.intro ?_ (And.intro ?_ (And.intro ?_ ?_));iterate 3 (focus (first|rfl|(simp only [go_sem,Aw,F0];done)|(simp [go_sem,look,Aw,F0];done)))));(all_goals (try simp only [go_sem,Aw,F0]));(all_goals (try simp only [go_sem,Aw,F0]));(all_goals repeat' (first|apply And.intro|intro _)))
  |refine Bz fun zN zM zhN zhM=>?_
  |(refine Bv ?_ ?_;focus (first|rfl|(simp [go_sem,Aw,F0];done)))
  |(refine Cy ?_ ?_;focus (first|rfl|(simp [go_sem,Aw,F0];done)))
theorem sub_lt (a b c d e f g h:UInt64) (h1:vQ a b c d<p25) (h2:vQ e f g h<p25) (h3:vQ a b c d<vQ e f g h):
 CtM Tryd.prog 70 [.w (.agg [.pl (.u64 a),.pl (.u64 b),.pl (.u64 c),.pl (.u64 d)]),.w (.agg [.pl (.u64 e),.pl (.u64 f),.pl (.u64 g),.pl (.u64 h)])] [(1000001,⟨false,[.pl (.u64 18446744073709551597),.pl (.u64 18446744073709551615),.pl (.u64 18446744073709551615),.pl (.u64 9223372036854775807)]⟩)] (Told (fun v m=>v=.w (.agg (w4C ((vQ a b c d+p25-vQ e f g h)%p25)))∧m=[])):=by
 have hL:=m1k a b c d e f g h
 have hm:=c0u
 have hp:=f0z
 have ha:=a0c a b c d
 have hb:=a0c e f g h
 rw [decide_eq_true h3] at hL
 obtain ⟨z,hz⟩: ∃ z,(vQ a b c d+115792089237316195423570985008687907853269984665640564039457584007913129639936-vQ e f g h)%115792089237316195423570985008687907853269984665640564039457584007913129639936=z:=⟨_,rfl⟩
 have hzl:z<115792089237316195423570985008687907853269984665640564039457584007913129639936:=by rw [←hz];exact Nat.mod_lt _ (by decide)
 have hze:z+vQ e f g h=vQ a b c d+115792089237316195423570985008687907853269984665640564039457584007913129639936:=by omega
 rw [hz] at hL
 obtain ⟨s0,s1,s2,s3,hs,hvs⟩:=Dz (z) (hzl)
 simp only [w4C,hs] at hL
 obtain ⟨r0,hr0⟩: ∃ z,adS s0 18446744073709551597 0=z:=⟨_,rfl⟩
 obtain ⟨d0,hd0⟩: ∃ z,adC s0 18446744073709551597 0=z:=⟨_,rfl⟩
 have ld0:d0.toNat≤1:=by rw [←hd0];exact Iy (by first|assumption|decide)
 obtain ⟨r1,hr1⟩: ∃ z,adS s1 18446744073709551615 d0=z:=⟨_,rfl⟩
 obtain ⟨d1,hd1⟩: ∃ z,adC s1 18446744073709551615 d0=z:=⟨_,rfl⟩
 have ld1:d1.toNat≤1:=by rw [←hd1];exact Iy (by first|assumption|decide)
 obtain ⟨r2,hr2⟩: ∃ z,adS s2 18446744073709551615 d1=z:=⟨_,rfl⟩
 obtain ⟨d2,hd2⟩: ∃ z,adC s2 18446744073709551615 d1=z:=⟨_,rfl⟩
 have ld2:d2.toNat≤1:=by rw [←hd2];exact Iy (by first|assumption|decide)
 obtain ⟨r3,hr3⟩: ∃ z,adS s3 9223372036854775807 d2=z:=⟨_,rfl⟩
 obtain ⟨d3,hd3⟩: ∃ z,adC s3 9223372036854775807 d2=z:=⟨_,rfl⟩
 have ld3:d3.toNat≤1:=by rw [←hd3];exact Iy (by first|assumption|decide)
 have hw:vQ r0 r1 r2 r3+m4*d3.toNat=vQ s0 s1 s2 s3+vQ 18446744073709551597 18446744073709551615 18446744073709551615 9223372036854775807∧d3.toNat≤1:=by
  have h:=h0g s0 s1 s2 s3 18446744073709551597 18446744073709551615 18446744073709551615 9223372036854775807
  simp only [ak1,ak2,ak3,ak4,hr0,hd0,hr1,hd1,hr2,hd2,hr3,hd3] at h
  exact h
 rw [o0y,hvs] at hw
 have hrl:=a0c r0 r1 r2 r3
 have he:vQ r0 r1 r2 r3=(vQ a b c d+p25-vQ e f g h)%p25:=by
  obtain ⟨e1,e2⟩:=hw
  rw [Nat.mod_eq_of_lt (by omega)]
  rw [hm] at e1
  omega
 have hE:Aw [r0,r1,r2,r3]=w4C ((vQ a b c d+p25-vQ e f g h)%p25):=by rw [w4C,←he,z0z]
 have F0:=And.intro hr0<|And.intro hd0<|And.intro hr1<|And.intro hd1<|And.intro hr2<|And.intro hd2<|And.intro hr3<|hd3
 refine CtM.k Tryd.func70 rfl Tryd.ntmps70 (congrArg Array.toList Tryd.results70) (by simp) fun w0 ro may fx=>?_
 refine Dj fun zZ zhZ=>?_
 iterate 105 first
  |(refine Cv (x:=.seq (.region 5 _ _) _) [8,17,18,19,20,21,22,23,24,25,26,27,28,29,30,31,32] ?_;simp only [go_sem,St.forget,fgt];refine Fq fun zN zM zhN zhM=>?_)
  |refine Fq fun zN zM zhN zhM=>?_
  |refine zhK _ ?_
  |(refine Cx fun zK zhK=>?_;simp only [go_sem,Aw,F0];(repeat' (first|apply And.intro|intro _)))
  |(refine zhN _ ?_;clear zhN zhM)
  |refine Aj fun zB zbn zbx zbr zbi=>?_
  |refine Cw ?_
  |(refine Vw (id:=7) [20,21,22,23,24,25,26,27,28,19,29,30,31,7] [0,0,2,6,0,16,48,0,254,510,1022,1022,2047,6143,16383] [(11,13)] mixed (by kernel_rfl) (by simp only [go_sem]) fun zK zhK=>?_;simp only [go_sem,Aw,F0];(repeat' (first|apply And.intro|intro _)))
  |(refine zhK _ _ ?_ ?_;(focus (first|trivial|(simp only [go_sem];done)|(simp only [go_sem];simp;done)|(simp only [go_sem];simp;simp only [go_sem]))))
  |(refine zbn _ ?_;clear zbn zbx zbr zbi)
  |(refine Av fun zK zhK=>?_;simp only [go_sem,Aw,F0];(repeat' (first|apply And.intro|intro _)))
  |(refine zhM _ _ ?_;clear zhN zhM)
  |refine Fx (x:=.seq (.region 5 _ _) _) 5 ?_
  |refine Ey ?_
  |(refine zbx _ ?_;clear zbn zbx zbr zbi)
  |refine Dx ?_
  |(refine zhZ _ _ ?_;simp only [go_sem,Aw,F0];(all_goals (exact told_plain (by simp [Fj,Hz]) ⟨by rw [←hE];rfl,rfl⟩)))
  |((all_goals refine a0b (by first|rfl|(simp only [go_sem,Aw,F0]<;>rfl)) (Dy _ _ _ (by repeat' (first|assumption|decide|apply Iy))) ?_);(all_goals simp only [go_sem,Aw,F0]);(all_goals repeat' (first|apply And.intro|intro _)))
  |((all_goals (refine Cq (fun k=>k) (fun _ _=>rfl) ?_ ((hL).plain fun _ _ h=>h) ?_;focus (first|rfl|(simp only [go_sem,Aw,F0]<;>rfl))));(all_goals (rintro v m ⟨hR,hm⟩;subst hR;subst hm));(all_goals refine And.intro (by first|rfl|simp only [go_sem,Aw,F0]) (And.intro (by first|rfl|simp only [go_sem,Aw,F0]) ?_));(all_goals simp only [go_sem,Aw,F0]);(all_goals repeat' (first|apply And.intro|intro _)))
  |refine Bz fun zN zM zhN zhM=>?_
  |(refine Bv ?_ ?_;focus (first|rfl|(simp [go_sem,Aw,F0];done)))
  |(refine Cy ?_ ?_;focus (first|rfl|(simp [go_sem,Aw,F0];done)))
theorem x1q (a b c d e f g h:UInt64) (h1:vQ a b c d<p25) (h2:vQ e f g h<p25) (h3:¬vQ a b c d<vQ e f g h):
 CtM Tryd.prog 70 [.w (.agg [.pl (.u64 a),.pl (.u64 b),.pl (.u64 c),.pl (.u64 d)]),.w (.agg [.pl (.u64 e),.pl (.u64 f),.pl (.u64 g),.pl (.u64 h)])] [(1000001,⟨false,[.pl (.u64 18446744073709551597),.pl (.u64 18446744073709551615),.pl (.u64 18446744073709551615),.pl (.u64 9223372036854775807)]⟩)] (Told (fun v m=>v=.w (.agg (w4C ((vQ a b c d+p25-vQ e f g h)%p25)))∧m=[])):=by
 have hL:=m1k a b c d e f g h
 have hm:=c0u
 have hp:=f0z
 have ha:=a0c a b c d
 have hb:=a0c e f g h
 rw [decide_eq_false h3] at hL
 have hd:(vQ a b c d+p25-vQ e f g h)%p25=vQ a b c d-vQ e f g h:=by rw [show vQ a b c d+p25-vQ e f g h=(vQ a b c d-vQ e f g h)+p25 from by omega,Nat.add_mod_right,Nat.mod_eq_of_lt (by omega)]
 have he:(vQ a b c d+115792089237316195423570985008687907853269984665640564039457584007913129639936-vQ e f g h)%115792089237316195423570985008687907853269984665640564039457584007913129639936=(vQ a b c d+p25-vQ e f g h)%p25:=by rw [hd];omega
 rw [he] at hL
 obtain ⟨q0,q1,q2,q3,hq,hvq⟩:=Dz ((vQ a b c d+p25-vQ e f g h)%p25) (g0b _)
 simp only [w4C,hq] at hL ⊢
 refine CtM.k Tryd.func70 rfl Tryd.ntmps70 (congrArg Array.toList Tryd.results70) (by simp) fun w0 ro may fx=>?_
 refine Dj fun zZ zhZ=>?_
 iterate 15 first
  |(refine Cx fun zK zhK=>?_;simp only [go_sem,Aw];(repeat' (first|apply And.intro|intro _)))
  |refine zhK _ ?_
  |refine Cw ?_
  |(refine zhN _ ?_;clear zhN zhM)
  |refine Dx ?_
  |(refine zhZ _ _ ?_;simp only [go_sem,Aw];(all_goals (exact told_plain (by simp [Fj,Hz]) ⟨rfl,rfl⟩)))
  |((all_goals (refine Cq (fun k=>k) (fun _ _=>rfl) ?_ ((hL).plain fun _ _ h=>h) ?_;focus (first|rfl|(simp only [go_sem,Aw]<;>rfl))));(all_goals (rintro v m ⟨hR,hm⟩;subst hR;subst hm));(all_goals refine And.intro (by first|rfl|simp only [go_sem,Aw]) (And.intro (by first|rfl|simp only [go_sem,Aw]) ?_));(all_goals simp only [go_sem,Aw]);(all_goals repeat' (first|apply And.intro|intro _)))
  |refine Bz fun zN zM zhN zhM=>?_
  |(refine Cy ?_ ?_;focus (first|rfl|(simp [go_sem,Aw];done)))
theorem sub_ (a b c d e f g h:UInt64) (h1:vQ a b c d<p25) (h2:vQ e f g h<p25):CtM Tryd.prog 70 [.w (.agg [.pl (.u64 a),.pl (.u64 b),.pl (.u64 c),.pl (.u64 d)]),.w (.agg [.pl (.u64 e),.pl (.u64 f),.pl (.u64 g),.pl (.u64 h)])] [(1000001,⟨false,[.pl (.u64 18446744073709551597),.pl (.u64 18446744073709551615),.pl (.u64 18446744073709551615),.pl (.u64 9223372036854775807)]⟩)] (Told (fun v m=>v=.w (.agg (w4C ((vQ a b c d+p25-vQ e f g h)%p25)))∧m=[])):=by
 by_cases h3:vQ a b c d<vQ e f g h
 · exact sub_lt a b c d e f g h h1 h2 h3
 · exact x1q a b c d e f g h h1 h2 h3
theorem b2k (a b c d e f g h:UInt64) (h1:vQ a b c d<p25) (h2:vQ e f g h<p25):
 CtM Tryd.prog 54 [.w (.agg [.pl (.u64 a),.pl (.u64 b),.pl (.u64 c),.pl (.u64 d)]),.w (.agg [.pl (.u64 e),.pl (.u64 f),.pl (.u64 g),.pl (.u64 h)])] [(1000001,⟨false,[.pl (.u64 18446744073709551597),.pl (.u64 18446744073709551615),.pl (.u64 18446744073709551615),.pl (.u64 9223372036854775807)]⟩)] (Told (fun v m=>v=.tup [.agg (w4C ((vQ a b c d+vQ e f g h)%p25)),.one (.pl (.i 0))]∧m=[])):=by
 have hb:=b2c a b c d e f g h h1 h2 ((vQ a b c d+vQ e f g h)%p25) (Nat.mod_lt _ (by decide)) (add_ a b c d e f g h)
 obtain ⟨q0,q1,q2,q3,hq,hvq⟩:=Dz ((vQ a b c d+vQ e f g h)%p25) (g0b _)
 simp only [w4C,hq] at hb ⊢
 refine CtM.k Tryd.func54 rfl Tryd.ntmps54 (congrArg Array.toList Tryd.results54) (by simp) fun w0 ro may fx=>?_
 refine Dj fun zZ zhZ=>?_
 refine Cx fun zK zhK=>?_
 simp only [go_sem,Aw]
 repeat' (first|apply And.intro|intro _)
 refine zhK _ ?_
 refine Cx fun zK zhK=>?_
 simp only [go_sem,Aw]
 repeat' (first|apply And.intro|intro _)
 all_goals (refine Bq false [] (fun k=>k) (fun _ _=>rfl) ?_ (by decide) ?_ hb.told ?_;iterate 2 (focus (first|rfl|(simp only [go_sem,Aw]<;>first|done|rfl|simp))))
 all_goals (rintro v m ⟨hR,hm⟩;subst hR;subst hm)
 all_goals (refine And.intro ?_ (And.intro ?_ (And.intro ?_ ?_));iterate 3 (focus (first|rfl|(simp only [go_sem,Aw];done)|(simp [go_sem,look,Aw];done))))
 all_goals (try simp only [go_sem,Aw])
 all_goals (try simp only [go_sem,Aw])
 all_goals repeat' (first|apply And.intro|intro _)
 refine zhK _ ?_
 refine Dx ?_
 refine zhZ _ _ ?_
 simp only [go_sem,Aw]
 all_goals (exact told_plain (by simp [Fj,Hz]) ⟨rfl,rfl⟩)
theorem b2i (a b c d e f g h:UInt64) (h1:vQ a b c d<p25) (h2:vQ e f g h<p25):
 CtM Tryd.prog 55 [.w (.agg [.pl (.u64 a),.pl (.u64 b),.pl (.u64 c),.pl (.u64 d)]),.w (.agg [.pl (.u64 e),.pl (.u64 f),.pl (.u64 g),.pl (.u64 h)])] [(1000001,⟨false,[.pl (.u64 18446744073709551597),.pl (.u64 18446744073709551615),.pl (.u64 18446744073709551615),.pl (.u64 9223372036854775807)]⟩)] (Told (fun v m=>v=.tup [.agg (w4C ((vQ a b c d+p25-vQ e f g h)%p25)),.one (.pl (.i 0))]∧m=[])):=by
 have hb:=b2a a b c d e f g h h1 h2 ((vQ a b c d+p25-vQ e f g h)%p25) (Nat.mod_lt _ (by decide)) (sub_ a b c d e f g h h1 h2)
 obtain ⟨q0,q1,q2,q3,hq,hvq⟩:=Dz ((vQ a b c d+p25-vQ e f g h)%p25) (g0b _)
 simp only [w4C,hq] at hb ⊢
 refine CtM.k Tryd.func55 rfl Tryd.ntmps55 (congrArg Array.toList Tryd.results55) (by simp) fun w0 ro may fx=>?_
 refine Dj fun zZ zhZ=>?_
 refine Cx fun zK zhK=>?_
 simp only [go_sem,Aw]
 repeat' (first|apply And.intro|intro _)
 refine zhK _ ?_
 refine Cx fun zK zhK=>?_
 simp only [go_sem,Aw]
 repeat' (first|apply And.intro|intro _)
 all_goals (refine Bq false [] (fun k=>k) (fun _ _=>rfl) ?_ (by decide) ?_ hb.told ?_;iterate 2 (focus (first|rfl|(simp only [go_sem,Aw]<;>first|done|rfl|simp))))
 all_goals (rintro v m ⟨hR,hm⟩;subst hR;subst hm)
 all_goals (refine And.intro ?_ (And.intro ?_ (And.intro ?_ ?_));iterate 3 (focus (first|rfl|(simp only [go_sem,Aw];done)|(simp [go_sem,look,Aw];done))))
 all_goals (try simp only [go_sem,Aw])
 all_goals (try simp only [go_sem,Aw])
 all_goals repeat' (first|apply And.intro|intro _)
 refine zhK _ ?_
 refine Dx ?_
 refine zhZ _ _ ?_
 simp only [go_sem,Aw]
 all_goals (exact told_plain (by simp [Fj,Hz]) ⟨rfl,rfl⟩)
end Lk
end Go.Sy
