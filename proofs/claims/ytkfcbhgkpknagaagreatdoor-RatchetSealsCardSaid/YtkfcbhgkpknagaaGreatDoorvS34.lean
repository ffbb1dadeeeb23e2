/- The ladder: two points changed about. -/
import Derived.Test.YtkfcbhgkpknagaaGreatDoorvE3
import Derived.Test.YtkfcbhgkpknagaaGreatDoorvS1
import Derived.Test.YtkfcbhgkpknagaaGreatDoorvS21
set_option linter.unusedVariables false
set_option linter.unusedSimpArgs false
set_option maxHeartbeats 3200000
set_option maxRecDepth 100000
namespace Go.Sy
namespace Lk
open Go.Proofs
attribute [local irreducible] Bw HT Aj Jk onC onE onO onG goV goA goS Lx Bz
theorem neg0 :(0:UInt64)-0=0:=rfl
theorem neg1 :(0:UInt64)-1=18446744073709551615:=rfl
theorem ones_and (x:UInt64):18446744073709551615&&&x=x:=by
 refine xS.mp ?_
 rw [UInt64.toNat_and,Nat.and_comm]
 show x.toNat&&&(2 ^ 64-1)=x.toNat
 rw [xI];exact yN x.toNat_lt
theorem p2s (x y:UInt64):x^^^(x^^^y)=y:=by rw [←UInt64.xor_assoc,UInt64.xor_self,UInt64.zero_xor]
theorem p2r (x y:UInt64):y^^^(x^^^y)=x:=by rw [UInt64.xor_comm x y,←UInt64.xor_assoc,UInt64.xor_self,UInt64.zero_xor]
theorem c2m (x0 x1 x2 x3 y0 y1 y2 y3 z0 z1 z2 z3 v0 v1 v2 v3:UInt64):
 Ct Tryz.prog 48 [.w (.agg [.pl (.u64 x0),.pl (.u64 x1),.pl (.u64 x2),.pl (.u64 x3),.pl (.u64 y0),.pl (.u64 y1),.pl (.u64 y2),.pl (.u64 y3),.pl (.u64 z0),.pl (.u64 z1),.pl (.u64 z2),.pl (.u64 z3),.pl (.u64 v0),.pl (.u64 v1),.pl (.u64 v2),.pl (.u64 v3)]),.w (.one (.pl (.u64 0)))] (fun v m=>v=.w (.agg [.pl (.u64 x0),.pl (.u64 x1),.pl (.u64 x2),.pl (.u64 x3),.pl (.u64 y0),.pl (.u64 y1),.pl (.u64 y2),.pl (.u64 y3),.pl (.u64 z0),.pl (.u64 z1),.pl (.u64 z2),.pl (.u64 z3),.pl (.u64 v0),.pl (.u64 v1),.pl (.u64 v2),.pl (.u64 v3)])):=by
 have F0:=yA @neg0<|yA @UInt64.zero_and<|@UInt64.xor_zero
 have zF:FG [9,10,12,13,14,15,16,17,18,19,20,21,22,23,24,25,26,27,28,29,30,31,32,33,34,35,36,37,38,39,40,41,42,43,44,45,46,47,48,49,50,51,52,53,54,55,56,57,58,59,60,61,62,63,64,65,66,67,68,69,70,71,72,73,74,75,76,77,78,79,80,81]:=trivial
 have zd0:DQ 5 [14,15,16,17,18,19,20,21,22,23,24,25,26,27,28,29,30,31,32,33,34,35,36,37,38,39,7,8] [0,0,0,4,14,30,0,0,128,448,960,2046,4095,0,0,0,32768,114688,245760,0,0,1048576,3670016,7864320,16760832,33546240,8191,134217727] []:=⟨⟩
 have zU:=yA ur<|trivial
 exact Ct.go Tryz.func48 rfl Tryz.ntmps48 Tryz.results48
theorem c2l (x0 x1 x2 x3 y0 y1 y2 y3 z0 z1 z2 z3 v0 v1 v2 v3:UInt64):
 Ct Tryz.prog 48 [.w (.agg [.pl (.u64 x0),.pl (.u64 x1),.pl (.u64 x2),.pl (.u64 x3),.pl (.u64 y0),.pl (.u64 y1),.pl (.u64 y2),.pl (.u64 y3),.pl (.u64 z0),.pl (.u64 z1),.pl (.u64 z2),.pl (.u64 z3),.pl (.u64 v0),.pl (.u64 v1),.pl (.u64 v2),.pl (.u64 v3)]),.w (.one (.pl (.u64 1)))] (fun v m=>v=.w (.agg [.pl (.u64 y0),.pl (.u64 y1),.pl (.u64 y2),.pl (.u64 y3),.pl (.u64 x0),.pl (.u64 x1),.pl (.u64 x2),.pl (.u64 x3),.pl (.u64 v0),.pl (.u64 v1),.pl (.u64 v2),.pl (.u64 v3),.pl (.u64 z0),.pl (.u64 z1),.pl (.u64 z2),.pl (.u64 z3)])):=by
 have F0:=yA @neg1<|yA @ones_and<|yA @p2s<|@p2r
 have zF:FG [9,10,12,13,14,15,16,17,18,19,20,21,22,23,24,25,26,27,28,29,30,31,32,33,34,35,36,37,38,39,40,41,42,43,44,45,46,47,48,49,50,51,52,53,54,55,56,57,58,59,60,61,62,63,64,65,66,67,68,69,70,71,72,73,74,75,76,77,78,79,80,81]:=trivial
 have zd0:DQ 5 [14,15,16,17,18,19,20,21,22,23,24,25,26,27,28,29,30,31,32,33,34,35,36,37,38,39,7,8] [0,0,0,4,14,30,0,0,128,448,960,2046,4095,0,0,0,32768,114688,245760,0,0,1048576,3670016,7864320,16760832,33546240,8191,134217727] []:=⟨⟩
 have zU:=yA ur<|trivial
 exact Ct.go Tryz.func48 rfl Tryz.ntmps48 Tryz.results48
end Lk
end Go.Sy
