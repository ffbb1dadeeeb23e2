/- Digits of words, words of digits: the walks. -/
import Derived.Test.YtlmbdhfkdhjcfaaDoorvS14
set_option linter.unusedVariables false
set_option linter.unusedSimpArgs false
set_option maxHeartbeats 1600000
set_option maxRecDepth 100000
namespace Go.Sy
namespace Lk
open Go.Proofs
attribute [local irreducible] Dv HT Cz Px onC onE onO onG goV goA goS Qx Dw
theorem of_ (a b c d:UInt64):
 Ct Tryd.prog 30 [.w (.agg [.pl (.u64 a),.pl (.u64 b),.pl (.u64 c),.pl (.u64 d)])] (fun v m=>v=.w (.agg (Aw (D16 (vQ a b c d))))):=by
 refine Ct.k Tryd.func30 rfl Tryd.ntmps30 (congrArg Array.toList Tryd.results30) (by simp) fun w0 ro=>?_
 refine Dj fun zZ zhZ=>?_
 iterate 311 first
  |(refine Cv (x:=.seq (.region 3 _ _) _) [4,6,7,8,9,10,11,12,13,14,15,16,17,18,19] ?_;simp only [go_sem,St.forget,fgt];refine Fq fun zN zM zhN zhM=>?_)
  |refine Fq fun zN zM zhN zhM=>?_
  |refine zhK _ ?_
  |(refine zhN _ ?_;clear zhN zhM)
  |(refine Cx fun zK zhK=>?_;simp only [go_sem,Int.toNat_one,Int.reduceTMod,Int.reduceTDiv,Int.mul_zero];(repeat' (first|apply And.intro|intro _)))
  |(refine Av fun zK zhK=>?_;simp only [go_sem,Int.toNat_one,Int.reduceTMod,Int.reduceTDiv,Int.mul_zero];(repeat' (first|apply And.intro|intro _)))
  |refine Aj fun zB zbn zbx zbr zbi=>?_
  |refine Cw ?_
  |(refine zbn _ ?_;clear zbn zbx zbr zbi)
  |(refine zhM _ _ ?_;clear zhN zhM)
  |refine Fx (x:=.seq (.region 3 _ _) _) 17 ?_
  |refine Ey ?_
  |(refine zbx _ ?_;clear zbn zbx zbr zbi)
  |refine Dx ?_
  |(refine zhZ _ _ ?_;simp only [go_sem,Int.toNat_one,Int.reduceTMod,Int.reduceTDiv,Int.mul_zero];(all_goals (rw [←h1s];rfl)))
  |refine Bz fun zN zM zhN zhM=>?_
  |(refine Bv ?_ ?_;focus (first|rfl|(simp [go_sem,Int.toNat_one,Int.reduceTMod,Int.reduceTDiv,Int.mul_zero];done)))
  |(refine Cy ?_ ?_;focus (first|rfl|(simp [go_sem,Int.toNat_one,Int.reduceTMod,Int.reduceTDiv,Int.mul_zero];done)))
theorem b2d (x0 x1 x2 x3 x4 x5 x6 x7 x8 x9 xa xb xc xd xe xf:UInt64):
 Ct Tryd.prog 33 [.w (.agg [.pl (.u64 x0),.pl (.u64 x1),.pl (.u64 x2),.pl (.u64 x3),.pl (.u64 x4),.pl (.u64 x5),.pl (.u64 x6),.pl (.u64 x7),.pl (.u64 x8),.pl (.u64 x9),.pl (.u64 xa),.pl (.u64 xb),.pl (.u64 xc),.pl (.u64 xd),.pl (.u64 xe),.pl (.u64 xf)])] (fun v m=>v=.w (.agg [.pl (.u64 (wrd x0 x1 x2 x3)),.pl (.u64 (wrd x4 x5 x6 x7)),.pl (.u64 (wrd x8 x9 xa xb)),.pl (.u64 (wrd xc xd xe xf))])):=by
 refine Ct.k Tryd.func33 rfl Tryd.ntmps33 (congrArg Array.toList Tryd.results33) (by simp) fun w0 ro=>?_
 refine Dj fun zZ zhZ=>?_
 iterate 311 first
  |(refine Cv (x:=.seq (.region 3 _ _) _) [4,5,8,9,10,11,12,13,14,15,16,17,18,19,20,21,22] ?_;simp only [go_sem,St.forget,fgt];refine Fq fun zN zM zhN zhM=>?_)
  |refine Fq fun zN zM zhN zhM=>?_
  |refine zhK _ ?_
  |(refine zhN _ ?_;clear zhN zhM)
  |(refine Cx fun zK zhK=>?_;simp only [go_sem,Int.toNat_one,Int.reduceTMod,Int.reduceTDiv,Int.mul_zero];(repeat' (first|apply And.intro|intro _)))
  |refine Aj fun zB zbn zbx zbr zbi=>?_
  |refine Cw ?_
  |(refine Vw (id:=5) [11,12,13,14,15,16,17,18,19,20,21] [0,1,3,7,0,0,32,96,240,511,1023,2047] [] mixed (by kernel_rfl) (by simp only [go_sem]) fun zK zhK=>?_;simp only [go_sem,Int.toNat_one,Int.reduceTMod,Int.reduceTDiv,Int.mul_zero];(repeat' (first|apply And.intro|intro _)))
  |refine zhK _ _ trivial ?_
  |(refine zbn _ ?_;clear zbn zbx zbr zbi)
  |(refine Av fun zK zhK=>?_;simp only [go_sem,Int.toNat_one,Int.reduceTMod,Int.reduceTDiv,Int.mul_zero];(repeat' (first|apply And.intro|intro _)))
  |(refine zhM _ _ ?_;clear zhN zhM)
  |refine Fx (x:=.seq (.region 3 _ _) _) 17 ?_
  |refine Ey ?_
  |(refine zbx _ ?_;clear zbn zbx zbr zbi)
  |refine Dx ?_
  |(refine zhZ _ _ ?_;simp only [go_sem,Int.toNat_one,Int.reduceTMod,Int.reduceTDiv,Int.mul_zero];(all_goals (rfl)))
  |refine Bz fun zN zM zhN zhM=>?_
  |(refine Bv ?_ ?_;focus (first|rfl|(simp [go_sem,Int.toNat_one,Int.reduceTMod,Int.reduceTDiv,Int.mul_zero];done)))
  |(refine Cy ?_ ?_;focus (first|rfl|(simp [go_sem,Int.toNat_one,Int.reduceTMod,Int.reduceTDiv,Int.mul_zero];done)))
theorem b2e (n:Nat) (hn:n<m4):Ct Tryd.prog 33 [.w (.agg (Aw (D16 n)))] (fun v m=>v=.w (.agg (w4C n))):=by
 obtain ⟨x0,x1,x2,x3,x4,x5,x6,x7,x8,x9,xa,xb,xc,xd,xe,xf,h1,h2⟩:=w1a hn
 have:=b2d x0 x1 x2 x3 x4 x5 x6 x7 x8 x9 xa xb xc xd xe xf
 rw [h1,w4C,←h2];exact this
end Lk
end Go.Sy
