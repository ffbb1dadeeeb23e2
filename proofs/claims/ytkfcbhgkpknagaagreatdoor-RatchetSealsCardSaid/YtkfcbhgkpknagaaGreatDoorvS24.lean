/- Digits of words, words of digits: the walks. -/
import Derived.Test.YtkfcbhgkpknagaaGreatDoorvE3
import Derived.Test.YtkfcbhgkpknagaaGreatDoorvS23
set_option linter.unusedVariables false
set_option linter.unusedSimpArgs false
set_option maxHeartbeats 1600000
set_option maxRecDepth 100000
namespace Go.Sy
namespace Lk
open Go.Proofs
attribute [local irreducible] Bw HT Aj Jk onC onE onO onG goV goA goS Lx Bz
theorem of_ (a b c d:UInt64):
 Ct Tryz.prog 62 [.w (.agg [.pl (.u64 a),.pl (.u64 b),.pl (.u64 c),.pl (.u64 d)])] (fun v m=>v=.w (.agg (Dz (D16 (vQ a b c d))))):=by
 have F0:=@xB
 have zF:FG [6,7,8,9,10,11,12,13,14,15,16,17,18,19,20]:=trivial
 refine Ct.go Tryz.func62 rfl Tryz.ntmps62 Tryz.results62 fun w0 ro zZ zhY=>?_
 have zU:=yA ur<|trivial
 refine (fun zX=>goW) ?_
 refine zhY _ _ ?_
 simp only [go_sem,F0,Int.reduceTMod,Int.reduceTDiv]
 all_goals (rw [←r1p];rfl)
theorem o2s (x0 x1 x2 x3 x4 x5 x6 x7 x8 x9 xa xb xc xd xe xf:UInt64):
 Ct Tryz.prog 65 [.w (.agg [.pl (.u64 x0),.pl (.u64 x1),.pl (.u64 x2),.pl (.u64 x3),.pl (.u64 x4),.pl (.u64 x5),.pl (.u64 x6),.pl (.u64 x7),.pl (.u64 x8),.pl (.u64 x9),.pl (.u64 xa),.pl (.u64 xb),.pl (.u64 xc),.pl (.u64 xd),.pl (.u64 xe),.pl (.u64 xf)])] (fun v m=>v=.w (.agg [.pl (.u64 (wrd x0 x1 x2 x3)),.pl (.u64 (wrd x4 x5 x6 x7)),.pl (.u64 (wrd x8 x9 xa xb)),.pl (.u64 (wrd xc xd xe xf))])):=by
 have F0:=@xB
 have zF:FG [8,9,10,11,12,13,14,15,16,17,18,19,20,21,22,23]:=trivial
 have zd0:DQ 5 [11,12,13,14,15,16,17,18,19,20,21] [0,1,3,7,0,0,32,96,240,511,1023,2047] []:=⟨⟩
 have zU:=yA ur<|trivial
 exact Ct.go Tryz.func65 rfl Tryz.ntmps65 Tryz.results65
theorem o2t (n:Nat) (hn:n<m4):Ct Tryz.prog 65 [.w (.agg (Dz (D16 n)))] (fun v m=>v=.w (.agg (w4C n))):=by
 obtain ⟨x0,x1,x2,x3,x4,x5,x6,x7,x8,x9,xa,xb,xc,xd,xe,xf,h1,h2⟩:=i2s hn
 have:=o2s x0 x1 x2 x3 x4 x5 x6 x7 x8 x9 xa xb xc xd xe xf
 rw [h1,w4C,←h2];exact this
end Lk
end Go.Sy
