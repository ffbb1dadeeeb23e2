/- Walks: what one who knows some terms can make. -/
import Derived.Test.YtijngjidkdkmeaavE3
import Derived.Test.YtijngjidkdkmeaavS13
import Derived.Test.YtijngjidkdkmeaavE7
set_option linter.unusedVariables false
set_option linter.unusedSimpArgs false
set_option maxHeartbeats 1600000
set_option maxRecDepth 100000
namespace Go.Sy
open Go.Proofs
attribute [local irreducible] Cj HT Bv Rj onC onE onO onG goV goA goS Tj Ck
theorem o1r (l:List Aw) (hl:l.length≤9223372036854775807) (hk:Dq l) (k i o:Int) (ms:List Aw) (ht:(Aw.mk k i o ms).ok) (hf:¬Jz Kz l=0):
 Ct Try.prog 5 [(.w (.one (.pl (.R false 4 (Ay l))))),Jy k i o ms] (fun v m=>v=.tup [.one (.pl (.b (false))),.one (.pl (.i (Jz Kz l)))]):=by
 have hc:=u0k l hl hk
 have F0:=hf
 have cv0:=Ct.cv (hc)
 exact Ct.go Try.func5 rfl Try.ntmps5 Try.results5
theorem y1a (l:List Aw) (hl:l.length≤9223372036854775807) (hk:Dq l) (k i o:Int) (ms:List Aw) (ht:(Aw.mk k i o ms).ok) (hf:Jz Kz l=0) (hg:¬Tv (.mk k i o ms)=0):
 Ct Try.prog 5 [(.w (.one (.pl (.R false 4 (Ay l))))),Jy k i o ms] (fun v m=>v=.tup [.one (.pl (.b (false))),.one (.pl (.i (Tv (.mk k i o ms))))]):=by
 have hc:=u0k l hl hk
 rw [hf] at hc
 have hd:=c2r _ ht
 rw [Bw] at hd
 have F0:=hg
 have cv0:=Ct.cv (hc)
 have cv1:=Ct.cv (hd)
 exact Ct.go Try.func5 rfl Try.ntmps5 Try.results5
theorem x1z (l:List Aw) (hl:l.length≤9223372036854775807) (hk:Dq l) (k i o:Int) (ms:List Aw) (ht:(Aw.mk k i o ms).ok) (hf:Jz Kz l=0) (hg:Tv (.mk k i o ms)=0) (U:List Aw) (hU:g0o U) (n0:Nat) (hB:BagOk U n0 l) (hL:l.length+n0≤1000000) (F:List Aw) (hF:b0e n0 l=F) (hFk:Dq F) (hFl:F.length≤9223372036854775807):
 Ct Try.prog 5 [(.w (.one (.pl (.R false 4 (Ay l))))),Jy k i o ms] (fun v m=>v=.tup [.one (.pl (.b (Lv F (.mk k i o ms)))),.one (.pl (.i (0)))]):=by
 have hc:=u0k l hl hk
 rw [hf] at hc
 have hd:=c2r _ ht
 rw [Bw,hg] at hd
 have hx:=(m2u U hU n0 l F hB hF hL).told
 have hy:=w0m F hFl hFk _ ht
 rw [Bw] at hy
 have hla:l.length*48≤140737488355328:=by omega
 have hlb:(0+l.length)*48≤140737488355328:=by omega
 have hbc:=Wv F
 have hun:m0o (pls (Ay F).flatten)=some (Ay F).flatten:=Uw _
 have F0:=yA @Az<|yA hla<|yA hlb<|yA hbc<|yA hun<|yA @Fj<|yA @Fq<|yA @Ez<|wY
 refine Ct.go Try.func5 rfl Try.ntmps5 Try.results5 fun w0 ro zZ zhZ=>?_
 have cq:=yA (Ct.cv (hc))<|yA (Ct.cv (hd))<|trivial
 refine (fun zX=>goW) ?_
 refine Zq (id:=7) mixed fun zE zhE=>?_
 refine a2s [false,false,false,false,false,false,false,false] 5 ⟨[(21,.w (.one (.s 18 [] F.length 4))),(22,Jy k i o ms)],[(18,⟨true,pls (Ay F).flatten⟩)]⟩ rfl (by decide) rfl (fun hT=>?_) ?_
 ·skip
  iterate 5 ((all_goals (first|refine a0v [0,1,4] rfl (by decide) (by simp) fun zN zhN=>?_|refine a0v [0,4] rfl (by decide) (by simp) fun zN zhN=>?_|refine a0v [0,1] rfl (by decide) (by simp) fun zN zhN=>?_|refine a0v [1,4] rfl (by decide) (by simp) fun zN zhN=>?_|refine a0v [2,4] rfl (by decide) (by simp) fun zN zhN=>?_|refine a0v [0] rfl (by decide) (by simp) fun zN zhN=>?_|refine a0v [1] rfl (by decide) (by simp) fun zN zhN=>?_|refine a0v [2] rfl (by decide) (by simp) fun zN zhN=>?_|refine a0v [3,4] rfl (by decide) (by simp) fun zN zhN=>?_|refine a0v [3] rfl (by decide) (by simp) fun zN zhN=>?_|refine a0v [4] rfl (by decide) (by simp) fun zN zhN=>?_));(all_goals (simp only [go_sem,F0]));(all_goals (repeat' (first|apply yA|intro _)));(all_goals (try ((refine j1e 18 false [(750000,18)] (fun k=>k) (fun _ _=>rfl) ?_ (by decide) ?_ ?_ hx ?_;iterate 3 (focus (first|rfl|(simp only [go_sem,F0]<;>first|done|rfl|simp))));(rintro v m ⟨hR,hm⟩;subst hR;subst hm);(refine yA ?_ (yA ?_ (yA ?_ ?_));iterate 3 (focus (first|rfl|(simp only [go_sem,F0];done)|(simp [go_sem,look,F0];done))));(try simp only [go_sem,F0]);(try simp only [go_sem,F0]);repeat' (first|apply yA|intro _))));(all_goals (refine zhN _ _ ?_)))
  all_goals exact c2o rfl (by decide) rfl (hT.leX (by simp [leX,look,go_sem,F0]) (by simp [leX,look,go_sem,F0]))
 refine Cz 3 8 rfl (by kernel_rfl) rfl rfl fun zR zhR=>?_
 simp only [go_sem,F0]
 repeat' (first|apply yA|intro _)
 all_goals (refine Wx (fun k=>k) (fun _ _=>rfl) ?_ ((hy).plain fun _ _ h=>h) ?_;focus (first|rfl|(simp only [go_sem,F0]<;>rfl)))
 all_goals (rintro v m ⟨hR,hm⟩;subst hR;subst hm)
 all_goals refine yA (by first|rfl|simp only [go_sem,F0]) (yA (by first|rfl|simp only [go_sem,F0]) ?_)
 all_goals simp only [go_sem,F0]
 all_goals repeat' (first|apply yA|intro _)
 refine zhR _ ?_
 refine Gv rfl (zhE _ ?_)
 exact goW
end Go.Sy
