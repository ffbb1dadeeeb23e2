/- Walks: what one who knows some terms can make. -/
import Derived.Test.YtijngjidkdkmeaavS13
import Derived.Test.YtijngjidkdkmeaavE7
set_option linter.unusedVariables false
set_option linter.unusedSimpArgs false
set_option maxHeartbeats 1600000
set_option maxRecDepth 100000
namespace Go.Sy
open Go.Proofs
attribute [local irreducible] Ey HT Bq Tk onC onE onO onG goV goA goS Wv Fx
theorem b1j (l:List Aw) (hl:l.length≤9223372036854775807) (hk:Dv l) (k i o:Int) (ms:List Aw) (ht:(Aw.mk k i o ms).ok) (hf:¬Fj Gx l=0):
 Ct Try.prog 5 [(.w (.one (.pl (.R false 4 (Ay l))))),Fy k i o ms] (fun v m=>v=.tup [.one (.pl (.b (false))),.one (.pl (.i (Fj Gx l)))]):=by
 have hc:=m0q l hl hk
 have F0:=hf
 have cv0:=Ct.cv (hc)
 exact Ct.w Try.func5 rfl Try.ntmps5 Try.results5
theorem g1q (l:List Aw) (hl:l.length≤9223372036854775807) (hk:Dv l) (k i o:Int) (ms:List Aw) (ht:(Aw.mk k i o ms).ok) (hf:Fj Gx l=0) (hg:¬Mq (.mk k i o ms)=0):
 Ct Try.prog 5 [(.w (.one (.pl (.R false 4 (Ay l))))),Fy k i o ms] (fun v m=>v=.tup [.one (.pl (.b (false))),.one (.pl (.i (Mq (.mk k i o ms))))]):=by
 have hc:=m0q l hl hk
 rw [hf] at hc
 have hd:=k1w _ ht
 rw [Ak] at hd
 have F0:=hg
 have cv0:=Ct.cv (hc)
 have cv1:=Ct.cv (hd)
 exact Ct.w Try.func5 rfl Try.ntmps5 Try.results5
theorem g1p (l:List Aw) (hl:l.length≤9223372036854775807) (hk:Dv l) (k i o:Int) (ms:List Aw) (ht:(Aw.mk k i o ms).ok) (hf:Fj Gx l=0) (hg:Mq (.mk k i o ms)=0) (U:List Aw) (hU:b0x U) (n0:Nat) (hB:BagOk U n0 l) (hL:l.length+n0≤1000000) (F:List Aw) (hF:Tj n0 l=F) (hFk:Dv F) (hFl:F.length≤9223372036854775807):
 Ct Try.prog 5 [(.w (.one (.pl (.R false 4 (Ay l))))),Fy k i o ms] (fun v m=>v=.tup [.one (.pl (.b (Gj F (.mk k i o ms)))),.one (.pl (.i (0)))]):=by
 have hc:=m0q l hl hk
 rw [hf] at hc
 have hd:=k1w _ ht
 rw [Ak,hg] at hd
 have hx:=(s1j U hU n0 l F hB hF hL).told
 have hy:=n0w F hFl hFk _ ht
 rw [Ak] at hy
 have hla:l.length*48≤140737488355328:=by omega
 have hlb:(0+l.length)*48≤140737488355328:=by omega
 have hbc:=Vv F
 have hun:k0x (pls (Ay F).flatten)=some (Ay F).flatten:=Zy _
 have F0:=And.intro @Az<|And.intro hla<|And.intro hlb<|And.intro hbc<|And.intro hun<|And.intro @Gz<|And.intro @Sj<|And.intro @Pk<|Nat.zero_add
 refine Ct.k Try.func5 rfl Try.ntmps5 (congrArg Array.toList Try.results5) (by simp) fun w0 ro=>?_
 refine Ck fun zZ zhZ=>?_
 iterate 23 first
  |(refine Dw fun zK zhK=>?_;simp only [go_sem,F0];(repeat' (first|apply And.intro|intro _)))
  |refine zhK _ ?_
  |refine Bv ?_
  |(refine zhN _ ?_;clear zhN zhM)
  |refine m0b (id:=7) mixed fun zE zhE=>?_
  |refine j1c [false,false,false,false,false,false,false,false] 5 ⟨[(21,.w (.one (.s 18 [] F.length 4))),(22,Fy k i o ms)],[(18,⟨true,pls (Ay F).flatten⟩)]⟩ rfl (by decide) rfl (fun hT=>?_) ?_
  |((all_goals (refine Cz (fun k=>k) (fun _ _=>rfl) ?_ ((hc).plain fun _ _ h=>h) ?_;focus (first|rfl|(simp only [go_sem,F0]<;>rfl))));(all_goals (rintro v m ⟨hR,hm⟩;subst hR;subst hm));(all_goals refine And.intro (by first|rfl|simp only [go_sem,F0]) (And.intro (by first|rfl|simp only [go_sem,F0]) ?_));(all_goals simp only [go_sem,F0]);(all_goals repeat' (first|apply And.intro|intro _)))
  |((all_goals (refine Cz (fun k=>k) (fun _ _=>rfl) ?_ ((hd).plain fun _ _ h=>h) ?_;focus (first|rfl|(simp only [go_sem,F0]<;>rfl))));(all_goals (rintro v m ⟨hR,hm⟩;subst hR;subst hm));(all_goals refine And.intro (by first|rfl|simp only [go_sem,F0]) (And.intro (by first|rfl|simp only [go_sem,F0]) ?_));(all_goals simp only [go_sem,F0]);(all_goals repeat' (first|apply And.intro|intro _)))
  |refine Bj fun zN zM zhN zhM=>?_
  |(refine Av ?_ ?_;focus (first|rfl|(simp [go_sem,F0];done)))
 · skip
   iterate 5 ((all_goals (first|refine Sk [0,1,4] rfl (by decide) (by simp) fun zN zhN=>?_|refine Sk [0,4] rfl (by decide) (by simp) fun zN zhN=>?_|refine Sk [0,1] rfl (by decide) (by simp) fun zN zhN=>?_|refine Sk [1,4] rfl (by decide) (by simp) fun zN zhN=>?_|refine Sk [2,4] rfl (by decide) (by simp) fun zN zhN=>?_|refine Sk [0] rfl (by decide) (by simp) fun zN zhN=>?_|refine Sk [1] rfl (by decide) (by simp) fun zN zhN=>?_|refine Sk [2] rfl (by decide) (by simp) fun zN zhN=>?_|refine Sk [3,4] rfl (by decide) (by simp) fun zN zhN=>?_|refine Sk [3] rfl (by decide) (by simp) fun zN zhN=>?_|refine Sk [4] rfl (by decide) (by simp) fun zN zhN=>?_));(all_goals (simp only [go_sem,F0]));(all_goals (repeat' (first|apply And.intro|intro _)));(all_goals (try ((refine x0h 18 false [(750000,18)] (fun k=>k) (fun _ _=>rfl) ?_ (by decide) ?_ ?_ hx ?_;iterate 3 (focus (first|rfl|(simp only [go_sem,F0]<;>first|done|rfl|simp))));(rintro v m ⟨hR,hm⟩;subst hR;subst hm);(refine And.intro ?_ (And.intro ?_ (And.intro ?_ ?_));iterate 3 (focus (first|rfl|(simp only [go_sem,F0];done)|(simp [go_sem,look,F0];done))));(try simp only [go_sem,F0]);(try simp only [go_sem,F0]);repeat' (first|apply And.intro|intro _))));(all_goals (refine zhN _ _ ?_)))
   all_goals exact k1s rfl (by decide) rfl (hT.leX (by simp [leX,look,go_sem,F0]) (by simp [leX,look,go_sem,F0]))
 refine Ej 3 8 rfl (by kernel_rfl) rfl rfl fun zR zhR=>?_
 simp only [go_sem,F0]
 repeat' (first|apply And.intro|intro _)
 all_goals (refine Cz (fun k=>k) (fun _ _=>rfl) ?_ ((hy).plain fun _ _ h=>h) ?_;focus (first|rfl|(simp only [go_sem,F0]<;>rfl)))
 all_goals (rintro v m ⟨hR,hm⟩;subst hR;subst hm)
 all_goals refine And.intro (by first|rfl|simp only [go_sem,F0]) (And.intro (by first|rfl|simp only [go_sem,F0]) ?_)
 all_goals simp only [go_sem,F0]
 all_goals repeat' (first|apply And.intro|intro _)
 refine zhR _ ?_
 refine Pw rfl (zhE _ ?_)
 refine zhN _ ?_;clear zhN zhM
 refine Cq ?_
 refine zhZ _ _ ?_
 simp only [go_sem,F0]
 all_goals (first|rfl|exact zE|(rw [zE];done))
end Go.Sy
