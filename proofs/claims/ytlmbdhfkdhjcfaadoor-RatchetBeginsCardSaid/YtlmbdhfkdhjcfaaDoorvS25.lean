/- The ladder: two points changed about. -/
import Derived.Test.YtlmbdhfkdhjcfaaDoorvS1
import Derived.Test.YtlmbdhfkdhjcfaaDoorvE3
import Derived.Test.YtlmbdhfkdhjcfaaDoorvS12
set_option linter.unusedVariables false
set_option linter.unusedSimpArgs false
set_option maxHeartbeats 3200000
set_option maxRecDepth 100000
namespace Go.Sy
namespace Lk
open Go.Proofs
attribute [local irreducible] Dv HT Cz Px onC onE onO onG goV goA goS Qx Dw
theorem w1h :(0:UInt64)-0=0:=rfl
theorem w1g :(0:UInt64)-1=18446744073709551615:=rfl
theorem ones_and (x:UInt64):18446744073709551615&&&x=x:=by
 refine UInt64.toNat_inj.mp ?_
 rw [UInt64.toNat_and,Nat.and_comm]
 show x.toNat&&&(2 ^ 64-1)=x.toNat
 rw [Nat.and_two_pow_sub_one_eq_mod];exact Nat.mod_eq_of_lt x.toNat_lt
theorem z0v (x y:UInt64):x^^^(x^^^y)=y:=by rw [←UInt64.xor_assoc,UInt64.xor_self,UInt64.zero_xor]
theorem z0u (x y:UInt64):y^^^(x^^^y)=x:=by rw [UInt64.xor_comm x y,←UInt64.xor_assoc,UInt64.xor_self,UInt64.zero_xor]
theorem q1q (x0 x1 x2 x3 y0 y1 y2 y3 z0 z1 z2 z3 v0 v1 v2 v3:UInt64):
 Ct Tryd.prog 22 [.w (.agg [.pl (.u64 x0),.pl (.u64 x1),.pl (.u64 x2),.pl (.u64 x3),.pl (.u64 y0),.pl (.u64 y1),.pl (.u64 y2),.pl (.u64 y3),.pl (.u64 z0),.pl (.u64 z1),.pl (.u64 z2),.pl (.u64 z3),.pl (.u64 v0),.pl (.u64 v1),.pl (.u64 v2),.pl (.u64 v3)]),.w (.one (.pl (.u64 0)))] (fun v m=>v=.w (.agg [.pl (.u64 x0),.pl (.u64 x1),.pl (.u64 x2),.pl (.u64 x3),.pl (.u64 y0),.pl (.u64 y1),.pl (.u64 y2),.pl (.u64 y3),.pl (.u64 z0),.pl (.u64 z1),.pl (.u64 z2),.pl (.u64 z3),.pl (.u64 v0),.pl (.u64 v1),.pl (.u64 v2),.pl (.u64 v3)])):=by
 refine Ct.k Tryd.func22 rfl Tryd.ntmps22 (congrArg Array.toList Tryd.results22) (by simp) fun w0 ro=>?_
 refine Dj fun zZ zhZ=>?_
 iterate 127 first
  |(refine Cv (x:=.seq (.region 3 _ _) _) [6,7,8,12,13,14,15,16,17,18,19,20,21,22,23,24,25,26,27,28,29,30,31,32,33,34,35,36,37,38,39,40,41,42,43,44,45,46,47,48,49,50,51,52,53,54,55,56,57,58,59,60,61,62,63,64,65,66,67,68,69,70,71,72,73,74,75,76,77,78,79,80] ?_;simp only [go_sem,St.forget,fgt];refine Fq fun zN zM zhN zhM=>?_)
  |refine Fq fun zN zM zhN zhM=>?_
  |refine zhK _ ?_
  |(refine Cx fun zK zhK=>?_;simp only [go_sem,w1h,UInt64.zero_and,UInt64.xor_zero];(repeat' (first|apply And.intro|intro _)))
  |(refine zhN _ ?_;clear zhN zhM)
  |(refine Av fun zK zhK=>?_;simp only [go_sem,w1h,UInt64.zero_and,UInt64.xor_zero];(repeat' (first|apply And.intro|intro _)))
  |refine Aj fun zB zbn zbx zbr zbi=>?_
  |refine Cw ?_
  |(refine r0v (id:=5) [14,15,16,17,18,19,20,21,22,23,24,25,26,27,28,29,30,31,32,33,34,35,36,37,38,39,7,8] [0,0,0,4,14,30,0,0,128,448,960,2046,4095,0,0,0,32768,114688,245760,0,0,1048576,3670016,7864320,16760832,33546240,8191,134217727] [] mixed (by kernel_rfl) (by simp only [go_sem]) fun zK zhK=>?_;simp only [go_sem,w1h,UInt64.zero_and,UInt64.xor_zero];(repeat' (first|apply And.intro|intro _)))
  |refine zhK _ _ trivial ?_
  |(refine zbn _ ?_;clear zbn zbx zbr zbi)
  |(refine zhM _ _ ?_;clear zhN zhM)
  |refine Fx (x:=.seq (.region 3 _ _) _) 5 ?_
  |refine Ey ?_
  |(refine zbx _ ?_;clear zbn zbx zbr zbi)
  |refine Dx ?_
  |(refine zhZ _ _ ?_;simp only [go_sem,w1h,UInt64.zero_and,UInt64.xor_zero];(all_goals (rfl)))
  |refine Bz fun zN zM zhN zhM=>?_
  |(refine Bv ?_ ?_;focus (first|rfl|(simp [go_sem,w1h,UInt64.zero_and,UInt64.xor_zero];done)))
  |(refine Cy ?_ ?_;focus (first|rfl|(simp [go_sem,w1h,UInt64.zero_and,UInt64.xor_zero];done)))
theorem q1p (x0 x1 x2 x3 y0 y1 y2 y3 z0 z1 z2 z3 v0 v1 v2 v3:UInt64):
 Ct Tryd.prog 22 [.w (.agg [.pl (.u64 x0),.pl (.u64 x1),.pl (.u64 x2),.pl (.u64 x3),.pl (.u64 y0),.pl (.u64 y1),.pl (.u64 y2),.pl (.u64 y3),.pl (.u64 z0),.pl (.u64 z1),.pl (.u64 z2),.pl (.u64 z3),.pl (.u64 v0),.pl (.u64 v1),.pl (.u64 v2),.pl (.u64 v3)]),.w (.one (.pl (.u64 1)))] (fun v m=>v=.w (.agg [.pl (.u64 y0),.pl (.u64 y1),.pl (.u64 y2),.pl (.u64 y3),.pl (.u64 x0),.pl (.u64 x1),.pl (.u64 x2),.pl (.u64 x3),.pl (.u64 v0),.pl (.u64 v1),.pl (.u64 v2),.pl (.u64 v3),.pl (.u64 z0),.pl (.u64 z1),.pl (.u64 z2),.pl (.u64 z3)])):=by
 refine Ct.k Tryd.func22 rfl Tryd.ntmps22 (congrArg Array.toList Tryd.results22) (by simp) fun w0 ro=>?_
 refine Dj fun zZ zhZ=>?_
 iterate 127 first
  |(refine Cv (x:=.seq (.region 3 _ _) _) [6,7,8,12,13,14,15,16,17,18,19,20,21,22,23,24,25,26,27,28,29,30,31,32,33,34,35,36,37,38,39,40,41,42,43,44,45,46,47,48,49,50,51,52,53,54,55,56,57,58,59,60,61,62,63,64,65,66,67,68,69,70,71,72,73,74,75,76,77,78,79,80] ?_;simp only [go_sem,St.forget,fgt];refine Fq fun zN zM zhN zhM=>?_)
  |refine Fq fun zN zM zhN zhM=>?_
  |refine zhK _ ?_
  |(refine Cx fun zK zhK=>?_;simp only [go_sem,w1g,ones_and,z0v,z0u];(repeat' (first|apply And.intro|intro _)))
  |(refine zhN _ ?_;clear zhN zhM)
  |(refine Av fun zK zhK=>?_;simp only [go_sem,w1g,ones_and,z0v,z0u];(repeat' (first|apply And.intro|intro _)))
  |refine Aj fun zB zbn zbx zbr zbi=>?_
  |refine Cw ?_
  |(refine r0v (id:=5) [14,15,16,17,18,19,20,21,22,23,24,25,26,27,28,29,30,31,32,33,34,35,36,37,38,39,7,8] [0,0,0,4,14,30,0,0,128,448,960,2046,4095,0,0,0,32768,114688,245760,0,0,1048576,3670016,7864320,16760832,33546240,8191,134217727] [] mixed (by kernel_rfl) (by simp only [go_sem]) fun zK zhK=>?_;simp only [go_sem,w1g,ones_and,z0v,z0u];(repeat' (first|apply And.intro|intro _)))
  |refine zhK _ _ trivial ?_
  |(refine zbn _ ?_;clear zbn zbx zbr zbi)
  |(refine zhM _ _ ?_;clear zhN zhM)
  |refine Fx (x:=.seq (.region 3 _ _) _) 5 ?_
  |refine Ey ?_
  |(refine zbx _ ?_;clear zbn zbx zbr zbi)
  |refine Dx ?_
  |(refine zhZ _ _ ?_;simp only [go_sem,w1g,ones_and,z0v,z0u];(all_goals (rfl)))
  |refine Bz fun zN zM zhN zhM=>?_
  |(refine Bv ?_ ?_;focus (first|rfl|(simp [go_sem,w1g,ones_and,z0v,z0u];done)))
  |(refine Cy ?_ ?_;focus (first|rfl|(simp [go_sem,w1g,ones_and,z0v,z0u];done)))
end Lk
end Go.Sy
