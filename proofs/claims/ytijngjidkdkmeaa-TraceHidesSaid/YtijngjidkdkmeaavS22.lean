/- Walks and what they compute. CONDITIONS: those that each theorem names. -/
import Derived.Test.YtijngjidkdkmeaavE3
import Derived.Test.YtijngjidkdkmeaavS21
import Derived.Test.YtijngjidkdkmeaavS20
import Derived.Test.YtijngjidkdkmeaavE6
import Derived.Test.YtijngjidkdkmeaavS19
set_option linter.unusedVariables false
set_option linter.unusedSimpArgs false
set_option maxHeartbeats 3200000
set_option maxRecDepth 100000
namespace Go.Sy
open Go.Proofs
attribute [local irreducible] Cj HT Bv Rj onC onE onO onG goV goA goS Tj Ck
theorem j2v (e0 s0 e1 s1 d3 d4 d5 d6 k:Bool):
 CtM Try.prog 44 [.w (.one (.p 500000 [])),.w (.one (.pl (.i 0))),.w (.one (.pl (.i 7)))] (jM ⟨e0,s0,e1,s1,d3,d4,d5,d6,k⟩) (Told (fun v m=>v=.w (.one (.pl (.b true)))∧m=jM ⟨e0,s0,e1,s1,d3,d4,d5,d6,true⟩)):=by
 have F0:=yA jM.eq_1<|Jd.ls.eq_1
 refine CtM.go Try.func44 rfl Try.ntmps44 Try.results44 fun w0 ro may fx zZ zhY=>?_
 refine (fun zX=>goW) ?_
 refine zhY _ _ ?_
 simp only [go_sem,F0]
 all_goals (exact Av rfl (Bz (by simp [look,Jd.ls])) ⟨rfl,rfl⟩)
theorem t1j (j:Jd):CtM Try.prog 44 [.w (.one (.p 500000 [])),.w (.one (.pl (.i 0))),.w (.one (.pl (.i 7)))] (jM j) (fun v m=>v=.w (.one (.pl (.b (j.token false 7).1)))∧m=jM (j.token false 7).2):=by
 obtain ⟨e0,s0,e1,s1,d3,d4,d5,d6,k⟩:=j
 exact (j2v e0 s0 e1 s1 d3 d4 d5 d6 k).told
theorem v1a (e0 s0 e1 s1 d4 d5 d6 k:Bool):
 CtM Try.prog 44 [.w (.one (.p 500000 [])),.w (.one (.pl (.i 0))),.w (.one (.pl (.i 3)))] (jM ⟨e0,s0,e1,s1,true,d4,d5,d6,k⟩) (Told (fun v m=>v=.w (.one (.pl (.b false)))∧m=jM ⟨e0,s0,e1,s1,true,d4,d5,d6,k⟩)):=by
 have F0:=yA jM.eq_1<|Jd.ls.eq_1
 refine CtM.go Try.func44 rfl Try.ntmps44 Try.results44 fun w0 ro may fx zZ zhY=>?_
 try have ch0:=CtM.ch [(500000,500000)] (hH)
 refine (fun zX=>goW) ?_
 refine zhY _ _ ?_
 simp only [go_sem,F0]
 all_goals (exact Av rfl (Bz (by simp [look,Jd.ls])) ⟨rfl,rfl⟩)
theorem u1z (s0 e1 s1 d4 d5 d6 k:Bool):
 CtM Try.prog 44 [.w (.one (.p 500000 [])),.w (.one (.pl (.i 0))),.w (.one (.pl (.i 3)))] (jM ⟨false,s0,e1,s1,false,d4,d5,d6,k⟩) (Told (fun v m=>v=.w (.one (.pl (.b false)))∧m=jM ⟨false,s0,e1,s1,false,d4,d5,d6,k⟩)):=by
 have hH:=(c2i s0 e1 s1 false d4 d5 d6 k).told
 have F0:=yA jM.eq_1<|Jd.ls.eq_1
 refine CtM.go Try.func44 rfl Try.ntmps44 Try.results44 fun w0 ro may fx zZ zhY=>?_
 have cq:=yA (CtM.ch [(500000,500000)] (hH))<|trivial
 refine (fun zX=>goW) ?_
 refine zhY _ _ ?_
 simp only [go_sem,F0]
 all_goals (exact Av rfl (Bz (by simp [look,Jd.ls])) ⟨rfl,rfl⟩)
theorem u1y (s0 s1 d4 d5 d6 k:Bool):
 CtM Try.prog 44 [.w (.one (.p 500000 [])),.w (.one (.pl (.i 0))),.w (.one (.pl (.i 3)))] (jM ⟨true,s0,false,s1,false,d4,d5,d6,k⟩) (Told (fun v m=>v=.w (.one (.pl (.b false)))∧m=jM ⟨true,s0,false,s1,false,d4,d5,d6,k⟩)):=by
 have hH:=(g1j s0 false s1 false d4 d5 d6 k).told
 have F0:=yA jM.eq_1<|Jd.ls.eq_1
 refine CtM.go Try.func44 rfl Try.ntmps44 Try.results44 fun w0 ro may fx zZ zhY=>?_
 have cq:=yA (CtM.ch [(500000,500000)] (hH))<|trivial
 refine (fun zX=>goW) ?_
 refine zhY _ _ ?_
 simp only [go_sem,F0]
 all_goals (exact Av rfl (Bz (by simp [look,Jd.ls])) ⟨rfl,rfl⟩)
theorem u1x (s0 s1 d4 d5 d6 k:Bool):
 CtM Try.prog 44 [.w (.one (.p 500000 [])),.w (.one (.pl (.i 0))),.w (.one (.pl (.i 3)))] (jM ⟨true,s0,true,s1,false,d4,d5,d6,k⟩) (Told (fun v m=>v=.w (.one (.pl (.b true)))∧m=jM ⟨true,s0,true,s1,true,d4,d5,d6,k⟩)):=by
 have hH:=(g1j s0 true s1 false d4 d5 d6 k).told
 have F0:=yA jM.eq_1<|Jd.ls.eq_1
 refine CtM.go Try.func44 rfl Try.ntmps44 Try.results44 fun w0 ro may fx zZ zhY=>?_
 have cq:=yA (CtM.ch [(500000,500000)] (hH))<|trivial
 refine (fun zX=>goW) ?_
 refine zhY _ _ ?_
 simp only [go_sem,F0]
 all_goals (exact Av rfl (Bz (by simp [look,Jd.ls])) ⟨rfl,rfl⟩)
theorem t1n (j:Jd):CtM Try.prog 44 [.w (.one (.p 500000 [])),.w (.one (.pl (.i 0))),.w (.one (.pl (.i 3)))] (jM j) (fun v m=>v=.w (.one (.pl (.b (j.token false 3).1)))∧m=jM (j.token false 3).2):=by
 obtain ⟨e0,s0,e1,s1,d3,d4,d5,d6,k⟩:=j
 rcases d3 with _|_
 ·rcases e0 with _|_
  ·exact (u1z s0 e1 s1 d4 d5 d6 k).told
  rcases e1 with _|_
  ·exact (u1y s0 s1 d4 d5 d6 k).told
  exact (u1x s0 s1 d4 d5 d6 k).told
 exact (v1a e0 s0 e1 s1 d4 d5 d6 k).told
theorem u1w (e0 s0 e1 s1 d3 d5 d6 k:Bool):
 CtM Try.prog 44 [.w (.one (.p 500000 [])),.w (.one (.pl (.i 0))),.w (.one (.pl (.i 4)))] (jM ⟨e0,s0,e1,s1,d3,true,d5,d6,k⟩) (Told (fun v m=>v=.w (.one (.pl (.b false)))∧m=jM ⟨e0,s0,e1,s1,d3,true,d5,d6,k⟩)):=by
 have F0:=yA jM.eq_1<|Jd.ls.eq_1
 refine CtM.go Try.func44 rfl Try.ntmps44 Try.results44 fun w0 ro may fx zZ zhY=>?_
 try have ch0:=CtM.ch [(500000,500000)] (hH)
 refine (fun zX=>goW) ?_
 refine zhY _ _ ?_
 simp only [go_sem,F0]
 all_goals (exact Av rfl (Bz (by simp [look,Jd.ls])) ⟨rfl,rfl⟩)
theorem u1v (s0 e1 s1 d3 d5 d6 k:Bool):
 CtM Try.prog 44 [.w (.one (.p 500000 [])),.w (.one (.pl (.i 0))),.w (.one (.pl (.i 4)))] (jM ⟨false,s0,e1,s1,d3,false,d5,d6,k⟩) (Told (fun v m=>v=.w (.one (.pl (.b false)))∧m=jM ⟨false,s0,e1,s1,d3,false,d5,d6,k⟩)):=by
 have hH:=(c2h s0 e1 s1 d3 false d5 d6 k).told
 have F0:=yA jM.eq_1<|Jd.ls.eq_1
 refine CtM.go Try.func44 rfl Try.ntmps44 Try.results44 fun w0 ro may fx zZ zhY=>?_
 have cq:=yA (CtM.ch [(500000,500000)] (hH))<|trivial
 refine (fun zX=>goW) ?_
 refine zhY _ _ ?_
 simp only [go_sem,F0]
 all_goals (exact Av rfl (Bz (by simp [look,Jd.ls])) ⟨rfl,rfl⟩)
theorem u1u (s0 e1 d3 d5 d6 k:Bool):
 CtM Try.prog 44 [.w (.one (.p 500000 [])),.w (.one (.pl (.i 0))),.w (.one (.pl (.i 4)))] (jM ⟨true,s0,e1,false,d3,false,d5,d6,k⟩) (Told (fun v m=>v=.w (.one (.pl (.b false)))∧m=jM ⟨true,s0,e1,false,d3,false,d5,d6,k⟩)):=by
 have hH:=(g1i s0 e1 false d3 false d5 d6 k).told
 have F0:=yA jM.eq_1<|Jd.ls.eq_1
 refine CtM.go Try.func44 rfl Try.ntmps44 Try.results44 fun w0 ro may fx zZ zhY=>?_
 have cq:=yA (CtM.ch [(500000,500000)] (hH))<|trivial
 refine (fun zX=>goW) ?_
 refine zhY _ _ ?_
 simp only [go_sem,F0]
 all_goals (exact Av rfl (Bz (by simp [look,Jd.ls])) ⟨rfl,rfl⟩)
theorem u1t (s0 e1 d3 d5 d6 k:Bool):
 CtM Try.prog 44 [.w (.one (.p 500000 [])),.w (.one (.pl (.i 0))),.w (.one (.pl (.i 4)))] (jM ⟨true,s0,e1,true,d3,false,d5,d6,k⟩) (Told (fun v m=>v=.w (.one (.pl (.b true)))∧m=jM ⟨true,s0,e1,true,d3,true,d5,d6,k⟩)):=by
 have hH:=(g1i s0 e1 true d3 false d5 d6 k).told
 have F0:=yA jM.eq_1<|Jd.ls.eq_1
 refine CtM.go Try.func44 rfl Try.ntmps44 Try.results44 fun w0 ro may fx zZ zhY=>?_
 have cq:=yA (CtM.ch [(500000,500000)] (hH))<|trivial
 refine (fun zX=>goW) ?_
 refine zhY _ _ ?_
 simp only [go_sem,F0]
 all_goals (exact Av rfl (Bz (by simp [look,Jd.ls])) ⟨rfl,rfl⟩)
theorem t1m (j:Jd):CtM Try.prog 44 [.w (.one (.p 500000 [])),.w (.one (.pl (.i 0))),.w (.one (.pl (.i 4)))] (jM j) (fun v m=>v=.w (.one (.pl (.b (j.token false 4).1)))∧m=jM (j.token false 4).2):=by
 obtain ⟨e0,s0,e1,s1,d3,d4,d5,d6,k⟩:=j
 rcases d4 with _|_
 ·rcases e0 with _|_
  ·exact (u1v s0 e1 s1 d3 d5 d6 k).told
  rcases s1 with _|_
  ·exact (u1u s0 e1 d3 d5 d6 k).told
  exact (u1t s0 e1 d3 d5 d6 k).told
 exact (u1w e0 s0 e1 s1 d3 d5 d6 k).told
theorem u1s (e0 s0 e1 s1 d3 d4 d6 k:Bool):
 CtM Try.prog 44 [.w (.one (.p 500000 [])),.w (.one (.pl (.i 0))),.w (.one (.pl (.i 5)))] (jM ⟨e0,s0,e1,s1,d3,d4,true,d6,k⟩) (Told (fun v m=>v=.w (.one (.pl (.b false)))∧m=jM ⟨e0,s0,e1,s1,d3,d4,true,d6,k⟩)):=by
 have F0:=yA jM.eq_1<|Jd.ls.eq_1
 refine CtM.go Try.func44 rfl Try.ntmps44 Try.results44 fun w0 ro may fx zZ zhY=>?_
 try have ch0:=CtM.ch [(500000,500000)] (hH)
 refine (fun zX=>goW) ?_
 refine zhY _ _ ?_
 simp only [go_sem,F0]
 all_goals (exact Av rfl (Bz (by simp [look,Jd.ls])) ⟨rfl,rfl⟩)
theorem u1r (e0 e1 s1 d3 d4 d6 k:Bool):
 CtM Try.prog 44 [.w (.one (.p 500000 [])),.w (.one (.pl (.i 0))),.w (.one (.pl (.i 5)))] (jM ⟨e0,false,e1,s1,d3,d4,false,d6,k⟩) (Told (fun v m=>v=.w (.one (.pl (.b false)))∧m=jM ⟨e0,false,e1,s1,d3,d4,false,d6,k⟩)):=by
 have hH:=(c2g e0 e1 s1 d3 d4 false d6 k).told
 have F0:=yA jM.eq_1<|Jd.ls.eq_1
 refine CtM.go Try.func44 rfl Try.ntmps44 Try.results44 fun w0 ro may fx zZ zhY=>?_
 have cq:=yA (CtM.ch [(500000,500000)] (hH))<|trivial
 refine (fun zX=>goW) ?_
 refine zhY _ _ ?_
 simp only [go_sem,F0]
 all_goals (exact Av rfl (Bz (by simp [look,Jd.ls])) ⟨rfl,rfl⟩)
theorem u1q (e0 s1 d3 d4 d6 k:Bool):
 CtM Try.prog 44 [.w (.one (.p 500000 [])),.w (.one (.pl (.i 0))),.w (.one (.pl (.i 5)))] (jM ⟨e0,true,false,s1,d3,d4,false,d6,k⟩) (Told (fun v m=>v=.w (.one (.pl (.b false)))∧m=jM ⟨e0,true,false,s1,d3,d4,false,d6,k⟩)):=by
 have hH:=(g1h e0 false s1 d3 d4 false d6 k).told
 have F0:=yA jM.eq_1<|Jd.ls.eq_1
 refine CtM.go Try.func44 rfl Try.ntmps44 Try.results44 fun w0 ro may fx zZ zhY=>?_
 have cq:=yA (CtM.ch [(500000,500000)] (hH))<|trivial
 refine (fun zX=>goW) ?_
 refine zhY _ _ ?_
 simp only [go_sem,F0]
 all_goals (exact Av rfl (Bz (by simp [look,Jd.ls])) ⟨rfl,rfl⟩)
theorem u1p (e0 s1 d3 d4 d6 k:Bool):
 CtM Try.prog 44 [.w (.one (.p 500000 [])),.w (.one (.pl (.i 0))),.w (.one (.pl (.i 5)))] (jM ⟨e0,true,true,s1,d3,d4,false,d6,k⟩) (Told (fun v m=>v=.w (.one (.pl (.b true)))∧m=jM ⟨e0,true,true,s1,d3,d4,true,d6,k⟩)):=by
 have hH:=(g1h e0 true s1 d3 d4 false d6 k).told
 have F0:=yA jM.eq_1<|Jd.ls.eq_1
 refine CtM.go Try.func44 rfl Try.ntmps44 Try.results44 fun w0 ro may fx zZ zhY=>?_
 have cq:=yA (CtM.ch [(500000,500000)] (hH))<|trivial
 refine (fun zX=>goW) ?_
 refine zhY _ _ ?_
 simp only [go_sem,F0]
 all_goals (exact Av rfl (Bz (by simp [look,Jd.ls])) ⟨rfl,rfl⟩)
theorem t1l (j:Jd):CtM Try.prog 44 [.w (.one (.p 500000 [])),.w (.one (.pl (.i 0))),.w (.one (.pl (.i 5)))] (jM j) (fun v m=>v=.w (.one (.pl (.b (j.token false 5).1)))∧m=jM (j.token false 5).2):=by
 obtain ⟨e0,s0,e1,s1,d3,d4,d5,d6,k⟩:=j
 rcases d5 with _|_
 ·rcases s0 with _|_
  ·exact (u1r e0 e1 s1 d3 d4 d6 k).told
  rcases e1 with _|_
  ·exact (u1q e0 s1 d3 d4 d6 k).told
  exact (u1p e0 s1 d3 d4 d6 k).told
 exact (u1s e0 s0 e1 s1 d3 d4 d6 k).told
theorem u1o (e0 s0 e1 s1 d3 d4 d5 k:Bool):
 CtM Try.prog 44 [.w (.one (.p 500000 [])),.w (.one (.pl (.i 0))),.w (.one (.pl (.i 6)))] (jM ⟨e0,s0,e1,s1,d3,d4,d5,true,k⟩) (Told (fun v m=>v=.w (.one (.pl (.b false)))∧m=jM ⟨e0,s0,e1,s1,d3,d4,d5,true,k⟩)):=by
 have F0:=yA jM.eq_1<|Jd.ls.eq_1
 refine CtM.go Try.func44 rfl Try.ntmps44 Try.results44 fun w0 ro may fx zZ zhY=>?_
 try have ch0:=CtM.ch [(500000,500000)] (hH)
 refine (fun zX=>goW) ?_
 refine zhY _ _ ?_
 simp only [go_sem,F0]
 all_goals (exact Av rfl (Bz (by simp [look,Jd.ls])) ⟨rfl,rfl⟩)
theorem u1n (e0 e1 s1 d3 d4 d5 k:Bool):
 CtM Try.prog 44 [.w (.one (.p 500000 [])),.w (.one (.pl (.i 0))),.w (.one (.pl (.i 6)))] (jM ⟨e0,false,e1,s1,d3,d4,d5,false,k⟩) (Told (fun v m=>v=.w (.one (.pl (.b false)))∧m=jM ⟨e0,false,e1,s1,d3,d4,d5,false,k⟩)):=by
 have hH:=(c2f e0 e1 s1 d3 d4 d5 false k).told
 have F0:=yA jM.eq_1<|Jd.ls.eq_1
 refine CtM.go Try.func44 rfl Try.ntmps44 Try.results44 fun w0 ro may fx zZ zhY=>?_
 have cq:=yA (CtM.ch [(500000,500000)] (hH))<|trivial
 refine (fun zX=>goW) ?_
 refine zhY _ _ ?_
 simp only [go_sem,F0]
 all_goals (exact Av rfl (Bz (by simp [look,Jd.ls])) ⟨rfl,rfl⟩)
theorem u1m (e0 e1 d3 d4 d5 k:Bool):
 CtM Try.prog 44 [.w (.one (.p 500000 [])),.w (.one (.pl (.i 0))),.w (.one (.pl (.i 6)))] (jM ⟨e0,true,e1,false,d3,d4,d5,false,k⟩) (Told (fun v m=>v=.w (.one (.pl (.b false)))∧m=jM ⟨e0,true,e1,false,d3,d4,d5,false,k⟩)):=by
 have hH:=(g1g e0 e1 false d3 d4 d5 false k).told
 have F0:=yA jM.eq_1<|Jd.ls.eq_1
 refine CtM.go Try.func44 rfl Try.ntmps44 Try.results44 fun w0 ro may fx zZ zhY=>?_
 have cq:=yA (CtM.ch [(500000,500000)] (hH))<|trivial
 refine (fun zX=>goW) ?_
 refine zhY _ _ ?_
 simp only [go_sem,F0]
 all_goals (exact Av rfl (Bz (by simp [look,Jd.ls])) ⟨rfl,rfl⟩)
theorem u1l (e0 e1 d3 d4 d5 k:Bool):
 CtM Try.prog 44 [.w (.one (.p 500000 [])),.w (.one (.pl (.i 0))),.w (.one (.pl (.i 6)))] (jM ⟨e0,true,e1,true,d3,d4,d5,false,k⟩) (Told (fun v m=>v=.w (.one (.pl (.b true)))∧m=jM ⟨e0,true,e1,true,d3,d4,d5,true,k⟩)):=by
 have hH:=(g1g e0 e1 true d3 d4 d5 false k).told
 have F0:=yA jM.eq_1<|Jd.ls.eq_1
 refine CtM.go Try.func44 rfl Try.ntmps44 Try.results44 fun w0 ro may fx zZ zhY=>?_
 have cq:=yA (CtM.ch [(500000,500000)] (hH))<|trivial
 refine (fun zX=>goW) ?_
 refine zhY _ _ ?_
 simp only [go_sem,F0]
 all_goals (exact Av rfl (Bz (by simp [look,Jd.ls])) ⟨rfl,rfl⟩)
theorem t1k (j:Jd):CtM Try.prog 44 [.w (.one (.p 500000 [])),.w (.one (.pl (.i 0))),.w (.one (.pl (.i 6)))] (jM j) (fun v m=>v=.w (.one (.pl (.b (j.token false 6).1)))∧m=jM (j.token false 6).2):=by
 obtain ⟨e0,s0,e1,s1,d3,d4,d5,d6,k⟩:=j
 rcases d6 with _|_
 ·rcases s0 with _|_
  ·exact (u1n e0 e1 s1 d3 d4 d5 k).told
  rcases s1 with _|_
  ·exact (u1m e0 e1 d3 d4 d5 k).told
  exact (u1l e0 e1 d3 d4 d5 k).told
 exact (u1o e0 s0 e1 s1 d3 d4 d5 k).told
theorem j2u (e0 s0 e1 s1 d3 d4 d5 d6 k:Bool):
 CtM Try.prog 44 [.w (.one (.p 500000 [])),.w (.one (.pl (.i 1))),.w (.one (.pl (.i 7)))] (jM ⟨e0,s0,e1,s1,d3,d4,d5,d6,k⟩) (Told (fun v m=>v=.w (.one (.pl (.b true)))∧m=jM ⟨e0,s0,e1,s1,d3,d4,d5,d6,true⟩)):=by
 have F0:=yA jM.eq_1<|Jd.ls.eq_1
 refine CtM.go Try.func44 rfl Try.ntmps44 Try.results44 fun w0 ro may fx zZ zhY=>?_
 refine (fun zX=>goW) ?_
 refine zhY _ _ ?_
 simp only [go_sem,F0]
 all_goals (exact Av rfl (Bz (by simp [look,Jd.ls])) ⟨rfl,rfl⟩)
theorem t1b (j:Jd):CtM Try.prog 44 [.w (.one (.p 500000 [])),.w (.one (.pl (.i 1))),.w (.one (.pl (.i 7)))] (jM j) (fun v m=>v=.w (.one (.pl (.b (j.token true 7).1)))∧m=jM (j.token true 7).2):=by
 obtain ⟨e0,s0,e1,s1,d3,d4,d5,d6,k⟩:=j
 exact (j2u e0 s0 e1 s1 d3 d4 d5 d6 k).told
theorem u1g (e0 s0 e1 s1 d4 d5 d6 k:Bool):
 CtM Try.prog 44 [.w (.one (.p 500000 [])),.w (.one (.pl (.i 1))),.w (.one (.pl (.i 3)))] (jM ⟨e0,s0,e1,s1,true,d4,d5,d6,k⟩) (Told (fun v m=>v=.w (.one (.pl (.b false)))∧m=jM ⟨e0,s0,e1,s1,true,d4,d5,d6,k⟩)):=by
 have F0:=yA jM.eq_1<|Jd.ls.eq_1
 refine CtM.go Try.func44 rfl Try.ntmps44 Try.results44 fun w0 ro may fx zZ zhY=>?_
 try have ch0:=CtM.ch [(500000,500000)] (hH)
 refine (fun zX=>goW) ?_
 refine zhY _ _ ?_
 simp only [go_sem,F0]
 all_goals (exact Av rfl (Bz (by simp [look,Jd.ls])) ⟨rfl,rfl⟩)
theorem u1f (s0 e1 s1 d4 d5 d6 k:Bool):
 CtM Try.prog 44 [.w (.one (.p 500000 [])),.w (.one (.pl (.i 1))),.w (.one (.pl (.i 3)))] (jM ⟨false,s0,e1,s1,false,d4,d5,d6,k⟩) (Told (fun v m=>v=.w (.one (.pl (.b false)))∧m=jM ⟨false,s0,e1,s1,false,d4,d5,d6,k⟩)):=by
 have hH:=(c2i s0 e1 s1 false d4 d5 d6 k).told
 have F0:=yA jM.eq_1<|Jd.ls.eq_1
 refine CtM.go Try.func44 rfl Try.ntmps44 Try.results44 fun w0 ro may fx zZ zhY=>?_
 have cq:=yA (CtM.ch [(500000,500000)] (hH))<|trivial
 refine (fun zX=>goW) ?_
 refine zhY _ _ ?_
 simp only [go_sem,F0]
 all_goals (exact Av rfl (Bz (by simp [look,Jd.ls])) ⟨rfl,rfl⟩)
theorem u1e (s0 s1 d4 d5 d6 k:Bool):
 CtM Try.prog 44 [.w (.one (.p 500000 [])),.w (.one (.pl (.i 1))),.w (.one (.pl (.i 3)))] (jM ⟨true,s0,false,s1,false,d4,d5,d6,k⟩) (Told (fun v m=>v=.w (.one (.pl (.b false)))∧m=jM ⟨true,s0,false,s1,false,d4,d5,d6,k⟩)):=by
 have hH:=(g1j s0 false s1 false d4 d5 d6 k).told
 have F0:=yA jM.eq_1<|Jd.ls.eq_1
 refine CtM.go Try.func44 rfl Try.ntmps44 Try.results44 fun w0 ro may fx zZ zhY=>?_
 have cq:=yA (CtM.ch [(500000,500000)] (hH))<|trivial
 refine (fun zX=>goW) ?_
 refine zhY _ _ ?_
 simp only [go_sem,F0]
 all_goals (exact Av rfl (Bz (by simp [look,Jd.ls])) ⟨rfl,rfl⟩)
theorem u1d (s0 s1 d4 d5 d6 k:Bool):
 CtM Try.prog 44 [.w (.one (.p 500000 [])),.w (.one (.pl (.i 1))),.w (.one (.pl (.i 3)))] (jM ⟨true,s0,true,s1,false,d4,d5,d6,k⟩) (Told (fun v m=>v=.w (.one (.pl (.b true)))∧m=jM ⟨true,s0,true,s1,true,d4,d5,d6,k⟩)):=by
 have hH:=(g1j s0 true s1 false d4 d5 d6 k).told
 have F0:=yA jM.eq_1<|Jd.ls.eq_1
 refine CtM.go Try.func44 rfl Try.ntmps44 Try.results44 fun w0 ro may fx zZ zhY=>?_
 have cq:=yA (CtM.ch [(500000,500000)] (hH))<|trivial
 refine (fun zX=>goW) ?_
 refine zhY _ _ ?_
 simp only [go_sem,F0]
 all_goals (exact Av rfl (Bz (by simp [look,Jd.ls])) ⟨rfl,rfl⟩)
theorem t1g (j:Jd):CtM Try.prog 44 [.w (.one (.p 500000 [])),.w (.one (.pl (.i 1))),.w (.one (.pl (.i 3)))] (jM j) (fun v m=>v=.w (.one (.pl (.b (j.token true 3).1)))∧m=jM (j.token true 3).2):=by
 obtain ⟨e0,s0,e1,s1,d3,d4,d5,d6,k⟩:=j
 rcases d3 with _|_
 ·rcases e0 with _|_
  ·exact (u1f s0 e1 s1 d4 d5 d6 k).told
  rcases e1 with _|_
  ·exact (u1e s0 s1 d4 d5 d6 k).told
  exact (u1d s0 s1 d4 d5 d6 k).told
 exact (u1g e0 s0 e1 s1 d4 d5 d6 k).told
theorem u1c (e0 s0 e1 s1 d3 d5 d6 k:Bool):
 CtM Try.prog 44 [.w (.one (.p 500000 [])),.w (.one (.pl (.i 1))),.w (.one (.pl (.i 4)))] (jM ⟨e0,s0,e1,s1,d3,true,d5,d6,k⟩) (Told (fun v m=>v=.w (.one (.pl (.b false)))∧m=jM ⟨e0,s0,e1,s1,d3,true,d5,d6,k⟩)):=by
 have F0:=yA jM.eq_1<|Jd.ls.eq_1
 refine CtM.go Try.func44 rfl Try.ntmps44 Try.results44 fun w0 ro may fx zZ zhY=>?_
 try have ch0:=CtM.ch [(500000,500000)] (hH)
 refine (fun zX=>goW) ?_
 refine zhY _ _ ?_
 simp only [go_sem,F0]
 all_goals (exact Av rfl (Bz (by simp [look,Jd.ls])) ⟨rfl,rfl⟩)
theorem u1b (s0 e1 s1 d3 d5 d6 k:Bool):
 CtM Try.prog 44 [.w (.one (.p 500000 [])),.w (.one (.pl (.i 1))),.w (.one (.pl (.i 4)))] (jM ⟨false,s0,e1,s1,d3,false,d5,d6,k⟩) (Told (fun v m=>v=.w (.one (.pl (.b false)))∧m=jM ⟨false,s0,e1,s1,d3,false,d5,d6,k⟩)):=by
 have hH:=(c2h s0 e1 s1 d3 false d5 d6 k).told
 have F0:=yA jM.eq_1<|Jd.ls.eq_1
 refine CtM.go Try.func44 rfl Try.ntmps44 Try.results44 fun w0 ro may fx zZ zhY=>?_
 have cq:=yA (CtM.ch [(500000,500000)] (hH))<|trivial
 refine (fun zX=>goW) ?_
 refine zhY _ _ ?_
 simp only [go_sem,F0]
 all_goals (exact Av rfl (Bz (by simp [look,Jd.ls])) ⟨rfl,rfl⟩)
theorem u1a (s0 e1 d3 d5 d6 k:Bool):
 CtM Try.prog 44 [.w (.one (.p 500000 [])),.w (.one (.pl (.i 1))),.w (.one (.pl (.i 4)))] (jM ⟨true,s0,e1,false,d3,false,d5,d6,k⟩) (Told (fun v m=>v=.w (.one (.pl (.b false)))∧m=jM ⟨true,s0,e1,false,d3,false,d5,d6,k⟩)):=by
 have hH:=(g1i s0 e1 false d3 false d5 d6 k).told
 have F0:=yA jM.eq_1<|Jd.ls.eq_1
 refine CtM.go Try.func44 rfl Try.ntmps44 Try.results44 fun w0 ro may fx zZ zhY=>?_
 have cq:=yA (CtM.ch [(500000,500000)] (hH))<|trivial
 refine (fun zX=>goW) ?_
 refine zhY _ _ ?_
 simp only [go_sem,F0]
 all_goals (exact Av rfl (Bz (by simp [look,Jd.ls])) ⟨rfl,rfl⟩)
theorem t1z (s0 e1 d3 d5 d6 k:Bool):
 CtM Try.prog 44 [.w (.one (.p 500000 [])),.w (.one (.pl (.i 1))),.w (.one (.pl (.i 4)))] (jM ⟨true,s0,e1,true,d3,false,d5,d6,k⟩) (Told (fun v m=>v=.w (.one (.pl (.b true)))∧m=jM ⟨true,s0,e1,true,d3,true,d5,d6,k⟩)):=by
 have hH:=(g1i s0 e1 true d3 false d5 d6 k).told
 have F0:=yA jM.eq_1<|Jd.ls.eq_1
 refine CtM.go Try.func44 rfl Try.ntmps44 Try.results44 fun w0 ro may fx zZ zhY=>?_
 have cq:=yA (CtM.ch [(500000,500000)] (hH))<|trivial
 refine (fun zX=>goW) ?_
 refine zhY _ _ ?_
 simp only [go_sem,F0]
 all_goals (exact Av rfl (Bz (by simp [look,Jd.ls])) ⟨rfl,rfl⟩)
theorem t1f (j:Jd):CtM Try.prog 44 [.w (.one (.p 500000 [])),.w (.one (.pl (.i 1))),.w (.one (.pl (.i 4)))] (jM j) (fun v m=>v=.w (.one (.pl (.b (j.token true 4).1)))∧m=jM (j.token true 4).2):=by
 obtain ⟨e0,s0,e1,s1,d3,d4,d5,d6,k⟩:=j
 rcases d4 with _|_
 ·rcases e0 with _|_
  ·exact (u1b s0 e1 s1 d3 d5 d6 k).told
  rcases s1 with _|_
  ·exact (u1a s0 e1 d3 d5 d6 k).told
  exact (t1z s0 e1 d3 d5 d6 k).told
 exact (u1c e0 s0 e1 s1 d3 d5 d6 k).told
theorem t1y (e0 s0 e1 s1 d3 d4 d6 k:Bool):
 CtM Try.prog 44 [.w (.one (.p 500000 [])),.w (.one (.pl (.i 1))),.w (.one (.pl (.i 5)))] (jM ⟨e0,s0,e1,s1,d3,d4,true,d6,k⟩) (Told (fun v m=>v=.w (.one (.pl (.b false)))∧m=jM ⟨e0,s0,e1,s1,d3,d4,true,d6,k⟩)):=by
 have F0:=yA jM.eq_1<|Jd.ls.eq_1
 refine CtM.go Try.func44 rfl Try.ntmps44 Try.results44 fun w0 ro may fx zZ zhY=>?_
 try have ch0:=CtM.ch [(500000,500000)] (hH)
 refine (fun zX=>goW) ?_
 refine zhY _ _ ?_
 simp only [go_sem,F0]
 all_goals (exact Av rfl (Bz (by simp [look,Jd.ls])) ⟨rfl,rfl⟩)
theorem t1x (e0 e1 s1 d3 d4 d6 k:Bool):
 CtM Try.prog 44 [.w (.one (.p 500000 [])),.w (.one (.pl (.i 1))),.w (.one (.pl (.i 5)))] (jM ⟨e0,false,e1,s1,d3,d4,false,d6,k⟩) (Told (fun v m=>v=.w (.one (.pl (.b false)))∧m=jM ⟨e0,false,e1,s1,d3,d4,false,d6,k⟩)):=by
 have hH:=(c2g e0 e1 s1 d3 d4 false d6 k).told
 have F0:=yA jM.eq_1<|Jd.ls.eq_1
 refine CtM.go Try.func44 rfl Try.ntmps44 Try.results44 fun w0 ro may fx zZ zhY=>?_
 have cq:=yA (CtM.ch [(500000,500000)] (hH))<|trivial
 refine (fun zX=>goW) ?_
 refine zhY _ _ ?_
 simp only [go_sem,F0]
 all_goals (exact Av rfl (Bz (by simp [look,Jd.ls])) ⟨rfl,rfl⟩)
theorem t1w (e0 s1 d3 d4 d6 k:Bool):
 CtM Try.prog 44 [.w (.one (.p 500000 [])),.w (.one (.pl (.i 1))),.w (.one (.pl (.i 5)))] (jM ⟨e0,true,false,s1,d3,d4,false,d6,k⟩) (Told (fun v m=>v=.w (.one (.pl (.b false)))∧m=jM ⟨e0,true,false,s1,d3,d4,false,d6,k⟩)):=by
 have hH:=(g1h e0 false s1 d3 d4 false d6 k).told
 have F0:=yA jM.eq_1<|Jd.ls.eq_1
 refine CtM.go Try.func44 rfl Try.ntmps44 Try.results44 fun w0 ro may fx zZ zhY=>?_
 have cq:=yA (CtM.ch [(500000,500000)] (hH))<|trivial
 refine (fun zX=>goW) ?_
 refine zhY _ _ ?_
 simp only [go_sem,F0]
 all_goals (exact Av rfl (Bz (by simp [look,Jd.ls])) ⟨rfl,rfl⟩)
theorem t1v (e0 s1 d3 d4 d6 k:Bool):
 CtM Try.prog 44 [.w (.one (.p 500000 [])),.w (.one (.pl (.i 1))),.w (.one (.pl (.i 5)))] (jM ⟨e0,true,true,s1,d3,d4,false,d6,k⟩) (Told (fun v m=>v=.w (.one (.pl (.b true)))∧m=jM ⟨e0,true,true,s1,d3,d4,true,d6,k⟩)):=by
 have hH:=(g1h e0 true s1 d3 d4 false d6 k).told
 have F0:=yA jM.eq_1<|Jd.ls.eq_1
 refine CtM.go Try.func44 rfl Try.ntmps44 Try.results44 fun w0 ro may fx zZ zhY=>?_
 have cq:=yA (CtM.ch [(500000,500000)] (hH))<|trivial
 refine (fun zX=>goW) ?_
 refine zhY _ _ ?_
 simp only [go_sem,F0]
 all_goals (exact Av rfl (Bz (by simp [look,Jd.ls])) ⟨rfl,rfl⟩)
theorem t1e (j:Jd):CtM Try.prog 44 [.w (.one (.p 500000 [])),.w (.one (.pl (.i 1))),.w (.one (.pl (.i 5)))] (jM j) (fun v m=>v=.w (.one (.pl (.b (j.token true 5).1)))∧m=jM (j.token true 5).2):=by
 obtain ⟨e0,s0,e1,s1,d3,d4,d5,d6,k⟩:=j
 rcases d5 with _|_
 ·rcases s0 with _|_
  ·exact (t1x e0 e1 s1 d3 d4 d6 k).told
  rcases e1 with _|_
  ·exact (t1w e0 s1 d3 d4 d6 k).told
  exact (t1v e0 s1 d3 d4 d6 k).told
 exact (t1y e0 s0 e1 s1 d3 d4 d6 k).told
theorem t1u (e0 s0 e1 s1 d3 d4 d5 k:Bool):
 CtM Try.prog 44 [.w (.one (.p 500000 [])),.w (.one (.pl (.i 1))),.w (.one (.pl (.i 6)))] (jM ⟨e0,s0,e1,s1,d3,d4,d5,true,k⟩) (Told (fun v m=>v=.w (.one (.pl (.b false)))∧m=jM ⟨e0,s0,e1,s1,d3,d4,d5,true,k⟩)):=by
 have F0:=yA jM.eq_1<|Jd.ls.eq_1
 refine CtM.go Try.func44 rfl Try.ntmps44 Try.results44 fun w0 ro may fx zZ zhY=>?_
 try have ch0:=CtM.ch [(500000,500000)] (hH)
 refine (fun zX=>goW) ?_
 refine zhY _ _ ?_
 simp only [go_sem,F0]
 all_goals (exact Av rfl (Bz (by simp [look,Jd.ls])) ⟨rfl,rfl⟩)
theorem t1t (e0 e1 s1 d3 d4 d5 k:Bool):
 CtM Try.prog 44 [.w (.one (.p 500000 [])),.w (.one (.pl (.i 1))),.w (.one (.pl (.i 6)))] (jM ⟨e0,false,e1,s1,d3,d4,d5,false,k⟩) (Told (fun v m=>v=.w (.one (.pl (.b false)))∧m=jM ⟨e0,false,e1,s1,d3,d4,d5,false,k⟩)):=by
 have hH:=(c2f e0 e1 s1 d3 d4 d5 false k).told
 have F0:=yA jM.eq_1<|Jd.ls.eq_1
 refine CtM.go Try.func44 rfl Try.ntmps44 Try.results44 fun w0 ro may fx zZ zhY=>?_
 have cq:=yA (CtM.ch [(500000,500000)] (hH))<|trivial
 refine (fun zX=>goW) ?_
 refine zhY _ _ ?_
 simp only [go_sem,F0]
 all_goals (exact Av rfl (Bz (by simp [look,Jd.ls])) ⟨rfl,rfl⟩)
theorem t1r (e0 e1 d3 d4 d5 k:Bool):
 CtM Try.prog 44 [.w (.one (.p 500000 [])),.w (.one (.pl (.i 1))),.w (.one (.pl (.i 6)))] (jM ⟨e0,true,e1,false,d3,d4,d5,false,k⟩) (Told (fun v m=>v=.w (.one (.pl (.b false)))∧m=jM ⟨e0,true,e1,false,d3,d4,d5,false,k⟩)):=by
 have hH:=(g1g e0 e1 false d3 d4 d5 false k).told
 have F0:=yA jM.eq_1<|Jd.ls.eq_1
 refine CtM.go Try.func44 rfl Try.ntmps44 Try.results44 fun w0 ro may fx zZ zhY=>?_
 have cq:=yA (CtM.ch [(500000,500000)] (hH))<|trivial
 refine (fun zX=>goW) ?_
 refine zhY _ _ ?_
 simp only [go_sem,F0]
 all_goals (exact Av rfl (Bz (by simp [look,Jd.ls])) ⟨rfl,rfl⟩)
theorem t1q (e0 e1 d3 d4 d5 k:Bool):
 CtM Try.prog 44 [.w (.one (.p 500000 [])),.w (.one (.pl (.i 1))),.w (.one (.pl (.i 6)))] (jM ⟨e0,true,e1,true,d3,d4,d5,false,k⟩) (Told (fun v m=>v=.w (.one (.pl (.b true)))∧m=jM ⟨e0,true,e1,true,d3,d4,d5,true,k⟩)):=by
 have hH:=(g1g e0 e1 true d3 d4 d5 false k).told
 have F0:=yA jM.eq_1<|Jd.ls.eq_1
 refine CtM.go Try.func44 rfl Try.ntmps44 Try.results44 fun w0 ro may fx zZ zhY=>?_
 have cq:=yA (CtM.ch [(500000,500000)] (hH))<|trivial
 refine (fun zX=>goW) ?_
 refine zhY _ _ ?_
 simp only [go_sem,F0]
 all_goals (exact Av rfl (Bz (by simp [look,Jd.ls])) ⟨rfl,rfl⟩)
theorem t1c (j:Jd):CtM Try.prog 44 [.w (.one (.p 500000 [])),.w (.one (.pl (.i 1))),.w (.one (.pl (.i 6)))] (jM j) (fun v m=>v=.w (.one (.pl (.b (j.token true 6).1)))∧m=jM (j.token true 6).2):=by
 obtain ⟨e0,s0,e1,s1,d3,d4,d5,d6,k⟩:=j
 rcases d6 with _|_
 ·rcases s0 with _|_
  ·exact (t1t e0 e1 s1 d3 d4 d5 k).told
  rcases s1 with _|_
  ·exact (t1r e0 e1 d3 d4 d5 k).told
  exact (t1q e0 e1 d3 d4 d5 k).told
 exact (t1u e0 s0 e1 s1 d3 d4 d5 k).told
end Go.Sy
namespace Go.Sy
open Go.Proofs
attribute [local irreducible] Cj HT Bv Rj onC onE onO onG goV goA goS Tj Ck
def Kq (l:List Int):List (List PL):=l.map fun x=>[.i x]
def a0u (ts:List (List Int)):List (List PL):=ts.map fun l=>[.R false 1 (Kq l)]
theorem Fx (l:List Int):(Kq l).length=l.length:=by simp [Kq]
theorem Fz (l:List (List Int)):(a0u l).length=l.length:=by simp [a0u]
theorem Bj {l:List Int} {n:Nat} (h:n<l.length):(Kq l).getD n []=[.i (l.getD n 0)]:=by simp [Kq,List.getD,vD,yX h]
theorem Vq {l:List (List Int)} {n:Nat} (h:n<l.length):(a0u l).getD n []=[.R false 1 (Kq (l.getD n []))]:=by simp [a0u,List.getD,vD,yX h]
def Ow (bs:List UInt8) (lt:Bool) (ps:List (List PL)) (p0 p1:List Int) (ts:List (List Int)):List L:=[.pl (.str bs),.pl (.b lt),.pl (.R false 1 ps),.pl (.R false 1 (Kq p0)),.pl (.R false 1 (Kq p1)),.pl (.R false 1 (a0u ts))]
theorem b0l {a:Int} {n:Nat} (h:a=(n:Int)) (hn:n≤9223372036854775807):Go.RowKit.wrap64 a=(n:Int):=by subst h;exact w64 (by omega)
def k1b (ls:List (List Int)):List L:=ls.map fun l=>.pl (.R false 1 (Kq l))
theorem s0b (p0 p1:List Int) (ts:List (List Int)):L.pl (.R false 1 (Kq p0))::L.pl (.R false 1 (Kq p1))::pls (a0u ts).flatten=k1b (p0::p1::ts):=by
 simp only [k1b,yM,a0u]
 congr 2
 induction ts with
 |nil=>rfl
 |cons t r ih=>simp only [yM,xU,yC,yD,pls] at ih ⊢;rw [ih]
theorem k0x (k:Nat) (ls:List (List Int)):(k1b ls).any (L.has k)=false:=by
 induction ls with
 |nil=>rfl
 |cons a r ih=>simp only [k1b,yM,wX,L.has,xD];exact ih
theorem a0g (ls:List (List Int)):(k1b ls).length=ls.length:=by simp [k1b]
theorem o0x {ls:List (List Int)} {n:Nat} (h:n<ls.length):List.take 1 (List.drop n (k1b ls))=[.pl (.R false 1 (Kq (ls.getD n [])))]:=by
 have hl:n<(k1b ls).length:=by rw [a0g];exact h
 rw [vL hl,vH,List.take_zero]
 simp [k1b,List.getD,yX h]
theorem Ak {α:Type} {l:List α} {n:Nat} {z:α} (h:n<l.length):l.drop n=l.getD n z::l.drop (n+1):=by
 rw [vL h];simp [List.getD,yX h]
theorem Cw {α:Type} {l:List α} {n:Nat} {z:α} (h:n<l.length):l.getD n z∈l:=by
 simp [List.getD,yX h]
def Hz (b:Bool):Int:=if b then 1 else 0
theorem a1s (i:Nat):Int.tmod ((i:Nat):Int) 2=Hz (d0f false i):=by
 rw [d0f,Hz,vJ (by omega)]
 rcases Nat.mod_two_eq_zero_or_one i with h|h<;>simp [h]<;>omega
theorem s1k (i:Nat):Int.tmod ((i:Nat):Int) 2=Hz (!(d0f true i)):=by
 rw [d0f,Hz,vJ (by omega)]
 rcases Nat.mod_two_eq_zero_or_one i with h|h<;>simp [h]<;>omega
theorem s1l (b:Bool):Go.RowKit.wrap64 (1-Hz (!b))=Hz b:=by
 cases b
 ·exact w64 (n:=0) (by decide)
 exact w64 (n:=1) (by decide)
theorem u0j (j:Jd) (b:Bool) (t:Int) (h1:1≤t) (h7:t≤7):CtM Try.prog 44 [.w (.one (.p 500000 [])),.w (.one (.pl (.i (Hz b)))),.w (.one (.pl (.i t)))] (jM j) (fun v m=>v=.w (.one (.pl (.b (j.token b t).1)))∧m=jM (j.token b t).2):=by
 obtain rfl|rfl|rfl|rfl|rfl|rfl|rfl:t=1∨t=2∨t=3∨t=4∨t=5∨t=6∨t=7:=by omega
 ·cases b;exact t1p j;exact t1i j
 ·cases b;exact t1o j;exact t1h j
 ·cases b;exact t1n j;exact t1g j
 ·cases b;exact t1m j;exact t1f j
 ·cases b;exact t1l j;exact t1e j
 ·cases b;exact t1k j;exact t1c j
 cases b;exact t1j j;exact t1b j
theorem v0g (j:Jd) (b:Bool):CtM Try.prog 46 [.w (.one (.p 500000 [])),.w (.one (.pl (.i (Hz b))))] (jM j) (fun v m=>v=.w (.one (.pl (.b (j.may b))))∧m=jM j):=by
 cases b;exact x1q j;exact x1n j
theorem a0l (j:Jd) (b f:Bool) (t:Int) (ht:t=1∨t=2) (hf:j.flag b t=f):CtM Try.prog 43 [.w (.one (.p 500000 [])),.w (.one (.pl (.i (Hz b)))),.w (.one (.pl (.i t)))] (jM j) (fun v m=>v=.w (.one (.pl (.b (!f))))∧m=jM (if f then j else j.tell b t)):=by
 rcases ht with rfl|rfl<;>cases b<;>cases f
 ·exact x0b j hf
 ·exact w0z j hf
 ·exact w0y j hf
 ·exact w0x j hf
 ·exact p0i j hf
 ·exact p0h j hf
 ·exact p0g j hf
 exact p0f j hf
theorem q1v {lt p0 p1 ts} (h:((ts.length:Nat):Int)<1∨(5:Int)<((ts.length:Nat):Int)):Uj lt p0 p1 ts=1:=by
 unfold Uj;rw [if_pos (by omega)]
theorem h0q {lt p0 p1 ts} {e:Int} (hn:¬(ts.length<1∨5<ts.length)) (h:e=scan (p0::p1::ts)) (he:e≠0):Uj lt p0 p1 ts=e:=by
 unfold Uj;rw [if_neg hn,if_pos (by rw [←h];exact he),←h]
theorem o0v {lt p0 p1 ts} (hn:¬(ts.length<1∨5<ts.length)) (hz:scan (p0::p1::ts)=0) (h:none=h0c .nil false p0):Uj lt p0 p1 ts=3:=by
 unfold Uj;rw [if_neg hn,if_neg (by simp [hz]),←h]
theorem o0u {lt p0 p1 ts j} (hn:¬(ts.length<1∨5<ts.length)) (hz:scan (p0::p1::ts)=0) (h0:some j=h0c .nil false p0) (h:none=h0c j true p1):Uj lt p0 p1 ts=3:=by
 unfold Uj;rw [if_neg hn,if_neg (by simp [hz]),←h0];simp only;rw [←h]
theorem e0a {lt p0 p1 ts j k} (hn:¬(ts.length<1∨5<ts.length)) (hz:scan (p0::p1::ts)=0) (h0:some j=h0c .nil false p0) (h:some k=h0c j true p1):Uj lt p0 p1 ts=d0h lt k 0 ts:=by
 unfold Uj;rw [if_neg hn,if_neg (by simp [hz]),←h0];simp only;rw [←h]
theorem b1t (bs:List UInt8) (lt:Bool) (ps:List (List PL)) (p0 p1:List Int) (ts:List (List Int)) (h1:((ts.length:Nat):Int)<1):
 Ct Try.prog 34 [.w (.agg (Ow bs lt ps p0 p1 ts))] (fun v m=>v=.w (.one (.pl (.i (Uj lt p0 p1 ts))))):=by
 have F0:=yA Ow.eq_1<|yA @Fz<|yA @Fx<|h1
 refine Ct.go Try.func34 rfl Try.ntmps34 Try.results34 fun w0 ro zZ zhY=>?_
 refine (fun zX=>goW) ?_
 refine zhY _ _ ?_
 simp only [go_sem,F0]
 all_goals (rw [q1v (.inl h1)])
theorem b1s (bs:List UInt8) (lt:Bool) (ps:List (List PL)) (p0 p1:List Int) (ts:List (List Int)) (h1:¬((ts.length:Nat):Int)<1) (h2:(5:Int)<((ts.length:Nat):Int)):
 Ct Try.prog 34 [.w (.agg (Ow bs lt ps p0 p1 ts))] (fun v m=>v=.w (.one (.pl (.i (Uj lt p0 p1 ts))))):=by
 have F0:=yA Ow.eq_1<|yA @Fz<|yA @Fx<|yA h1<|h2
 refine Ct.go Try.func34 rfl Try.ntmps34 Try.results34 fun w0 ro zZ zhY=>?_
 refine (fun zX=>goW) ?_
 refine zhY _ _ ?_
 simp only [go_sem,F0]
 all_goals (rw [q1v (.inr h2)])
end Go.Sy
namespace Go.Sy
open Go.Proofs
def i0t (pk:Bool) (w:Int) (mx:List Aw):List Int→List Aw
 | []=>mx
 |t::r=>i0t pk w (if t=1∧pk=true then mx++[Mv (3+w)] else mx) r
def Tz (lt pk:Bool):Nat→Ik→List (List Int)→Ik
 |_,s,[]=>s
 |i,s,l::r=>Tz lt pk (i+1) ((Ik.turn pk (Hz (d0f lt i)) s l).tell (Fv (20+(i:Int)))) r
def p0k (lt pk:Bool) (p0 p1:List Int) (ts:List (List Int)):Ik:=Tz lt pk 0 ⟨i0t pk 1 (i0t pk 0 [] p0) p1,0,[]⟩ ts
theorem d0i (pk:Bool) (w:Int) (s:Ik) (t:Int):(s.token pk w t).out.length≤s.out.length+1:=by
 unfold Ik.token
 split
 ·simp only;split<;>simp [Ik.mix]
 split
 ·simp [Ik.tell]
 repeat' (first|split|(simp [Ik.mix];done))
theorem g0u (pk:Bool) (w:Int) (s:Ik) (t:Int):(s.token pk w t).ps≤s.ps+1:=by
 unfold Ik.token
 split
 ·simp only;split<;>simp [Ik.mix]
 split
 ·simp [Ik.tell]
 repeat' (first|split|(simp [Ik.mix];done))
theorem a0h (pk:Bool) (w:Int) (s:Ik) (t:Int) (h:s.out≠[]):(s.token pk w t).out≠[]:=by
 unfold Ik.token
 split
 ·simp only;split<;>simp [Ik.mix]
 split
 ·simp [Ik.tell]
 repeat' (first|split|(simp [Ik.mix,h];done))
theorem g0w (s:Ik) (t:Aw):(s.tell t).out.length=s.out.length+1:=by simp [Ik.tell]
theorem i0o (s:Ik) (t:Aw):(s.tell t).out≠[]:=by simp [Ik.tell]
theorem f0o (s:Ik) (t:Aw):(s.tell t).ps=s.ps:=rfl
theorem b0m (b:Bool):0≤Hz b∧Hz b≤1:=by cases b<;>decide
theorem h1m {R:V→List (Nat×Ob)→Prop} {m:List (Nat×Ob)} {b:Bool} {k:Nat} (hl:k<500000) (l:List Aw) (e:Int) (h:R (.tup [.one (.pl (.R false 4 (Ay l))),.one (.pl (.i e))]) []) (hk:look m k=some ⟨b,pls (Ay l).flatten⟩):
 Told R (.tup [.one (.s k [] l.length 4),.one (.pl (.i e))]) m:=by
 refine b0n k (Ay l).flatten hk hl ?_
 have:s0i k (Ay l).flatten (.tup [.one (.s k [] l.length 4),.one (.pl (.i e))])=.tup [.one (.pl (.R false 4 (Ay l))),.one (.pl (.i e))]:=by
  show V.tup [W.one (b0a k (Ay l).flatten (.s k [] l.length 4)),W.one (.pl (.i e))]=_
  rw [l0r]
 rw [this]
 exact told_plain rfl h
def hN (mx:List Aw):List (Nat×Ob):=[(26,⟨false,Ew (Gq 1 mx) (l0d mx) (q0y mx) 0 (.pl (.R true 1 []))⟩)]
end Go.Sy
namespace Go.Sy
open Go.Proofs
attribute [local irreducible] Cj HT Bv Rj onC onE onO onG goV goA goS Tj Ck
theorem s1r (bs:List UInt8) (lt:Bool) (ps:List (List PL)) (p0 p1:List Int) (ts:List (List Int)) (e:Int) (he:¬e=0) (hC:Ct Try.prog 34 [.w (.agg (Ow bs lt ps p0 p1 ts))] (fun v m=>v=.w (.one (.pl (.i e))))):
 Ct Try.prog 21 [.w (.agg (Ow bs lt ps p0 p1 ts))] (Told (fun v m=>v=.tup [.one (.pl (.R true 1 [])),.one (.pl (.i e))]∧m=[])):=by
 skip
 have F0:=yA Ow.eq_1<|he
 have cv0:=Ct.cv (hC)
 exact Ct.go Try.func21 rfl Try.ntmps21 Try.results21
theorem k1k (bs:List UInt8) (lt:Bool) (ps:List (List PL)) (p0 p1:List Int) (ts:List (List Int)) (hps:(4:Int)<((ps.length:Nat):Int)) (hC:Ct Try.prog 34 [.w (.agg (Ow bs lt ps p0 p1 ts))] (fun v m=>v=.w (.one (.pl (.i 0))))):
 Ct Try.prog 21 [.w (.agg (Ow bs lt ps p0 p1 ts))] (Told (fun v m=>v=.tup [.one (.pl (.R true 1 [])),.one (.pl (.i 1))]∧m=[])):=by
 skip
 have F0:=yA Ow.eq_1<|hps
 have cv0:=Ct.cv (hC)
 exact Ct.go Try.func21 rfl Try.ntmps21 Try.results21
end Go.Sy
namespace Go.Sy
open Go.Proofs
attribute [local irreducible] Cj HT Bv Rj onC onE onO onG goV goA goS Tj Ck
theorem Zy (j:Nat):(0:Int)≤((j:Nat):Int):=yN j
theorem h0g {j n:Nat} (h:j<n):((j:Nat):Int)<((n:Nat):Int):=Int.ofNat_lt.mpr h
theorem d0p {n:Nat}:¬((n:Nat):Int)<((n:Nat):Int):=Int.lt_irrefl _
theorem Ov {j n:Nat} (h:j<n) (hn:n≤1000000):Go.RowKit.wrap64 ((j:Int)+1)=((j+1:Nat):Int):=b0l (by omega) (by omega)
theorem s1i {a s j n i t:Nat} (h1:a≤s+j) (h2:j≤n) (h3:n≤6) (h4:s≤7*i) (h5:i<t) (h6:t≤5):a≤1000000:=by omega
theorem o2a {a s j n i t:Nat} (h1:a≤s+j) (h2:j≤n) (h3:n≤6) (h4:s≤6*i) (h5:i<t) (h6:t≤5):a≤1000:=by omega
theorem n2z {a q s n i:Nat} (h0:a=q+1) (h1:q≤s+n) (h3:n≤6) (h4:s≤7*i):a≤7*(i+1):=by omega
theorem n2y {a q s n i:Nat} (h0:a=q) (h1:q≤s+n) (h3:n≤6) (h4:s≤6*i):a≤6*(i+1):=by omega
theorem w20 {i n:Nat} (h:i<n) (hn:n≤1000000):Go.RowKit.wrap64 (20+(i:Int))=20+(i:Int):=w64 (by omega)
theorem h2i (mx:List Aw):h0v 26 20 ⟨mx,0,[]⟩=hN mx:=rfl
theorem y1k :hN []=[(26,⟨false,Ew (Fv 0) [.i 0,.i 0,.i 0,.R true 1 []] false 0 (.pl (.R true 1 []))⟩)]:=rfl
theorem d2d (bs:List UInt8) (lt:Bool) (ps:List (List PL)) (p0 p1:List Int) (ts:List (List Int)) (pk:Bool) (hpk:decide ((0:Int)<((ps.length:Nat):Int))=pk) (hps:¬(4:Int)<((ps.length:Nat):Int)) (ht5:1≤ts.length∧ts.length≤5) (hrng: ∀ l∈p0::p1::ts,a0d l=0∧l.length≤6) (hC:Ct Try.prog 34 [.w (.agg (Ow bs lt ps p0 p1 ts))] (fun v m=>v=.w (.one (.pl (.i 0))))):
 Ct Try.prog 21 [.w (.agg (Ow bs lt ps p0 p1 ts))] (Told (fun v m=>v=.tup [.one (.pl (.R false 4 (Ay (p0k lt pk p0 p1 ts).out))),.one (.pl (.i 0))]∧m=[])):=by
 have hts:ts.length≤1000000:=by omega
 have hsz0:0<ts.length:=by omega
 have F0:=yA Ow.eq_1<|yA Fx<|yA Fz<|yA Ez<|yA Cv<|yA Dz<|yA Dj<|yA Gw<|yA Iy<|yA Dy<|yA c0u<|yA Fq<|yA Kw<|hps
 have cv0:=Ct.cv (hC)
 have zF:NF:=⟨⟩
 refine Ct.go Try.func21 rfl Try.ntmps21 Try.results21 fun w0 ro zZ zhZ=>?_
 have cq:=yA cv0<|yA (CtM.ch [] (((n0l 0).plain fun _ _ h=>h).hands))<|trivial
 have zU:=yA ur<|trivial
 refine (fun zX=>goW) ?_
 refine Nq [(1,.w (.one (.p 1 []))),(28,.w (.agg [.pl (.R false 1 (Kq p0)),.pl (.R false 1 (Kq p1))])),(29,.w (.one (.pl (.i 0)))),(6,.w (.one (.pl (.i 0)))),(33,.w (.one (.pl (.R false 1 (Kq p0))))),(34,.w (.one (.pl (.i ((p0.length:Nat):Int))))),(5,.w (.one (.p 26 [])))] [(1,⟨false,Ow bs lt ps p0 p1 ts⟩)] (fun y=>[(35,.w (.one (.pl (.i ((y.1.1:Nat):Int)))))]) (fun y=>hN y.1.2) (fun y=>p0.length-y.1.1) (⟨(0,[]),yP _,rfl⟩:{y:Nat×List Aw//y.1≤p0.length∧i0t pk 0 y.2 (p0.drop y.1)=i0t pk 0 [] p0}) ?_ (by (simp only [go_sem,leX,yC,yD,F0];try simp)) (by (simp only [go_sem,leX,y1k,Ew.eq_1,yC,yD,F0];try simp))
 intro zz xN0 xM0 xhN0 xhM0
 simp only [yC,yD]
 obtain ⟨⟨j,q0⟩,g1,g4⟩:=zz
 simp only at g1 g4
 have hd:(j<p0.length∧p0.getD j 0=1∧pk=true)∨(j<p0.length∧p0.getD j 0=1∧pk=false)∨(j<p0.length∧¬p0.getD j 0=1)∨j=p0.length:=by
  by_cases h:j<p0.length
  ·by_cases h2:p0.getD j 0=1
   ·rcases Bool.eq_false_or_eq_true pk with hb|hb
    ·exact .inl ⟨h,h2,hb⟩
    exact .inr (.inl ⟨h,h2,hb⟩)
   exact .inr (.inr (.inl ⟨h,h2⟩))
  exact .inr (.inr (.inr (xJ g1 (wM h))))
 rcases hd with ⟨glt,hx,hb⟩|⟨glt,hx,hb⟩|⟨glt,hx⟩|rfl
 ·have gcq:=h0g glt
  have gj:=Zy j
  have gg:=Bj glt
  rw [Ak (z:=0) glt,i0t] at g4
  simp only [Int.reduceAdd,vI] at g4
  have gs1:=Ov glt (yJ (hrng p0 (by simp)).2 (by decide))
  rw [if_pos ⟨hx,hb⟩] at g4
  rw [hx] at gg
  have hq:(0:Int)<((ps.length:Nat):Int):=of_decide_eq_true (hpk.trans hb)
  have F0:=yA gcq<|yA gj<|yA glt<|yA gg<|yA gs1<|yA hN.eq_1<|yA Ew.eq_1<|yA Qz<|yA b0t<|yA b0v<|yA hq<|F0
  have cq:=yA (CtM.ch [] (((a1o 3).plain fun _ _ h=>h).hands))<|yA (CtM.ch [(500000,26)] ((q0l (Gq 1 q0) (Mv 3) (l0d q0) (c0u q0) (q0y q0) 0).told))<|trivial
  have zL:=fun S2=>xhN0 ⟨(j+1,q0++[(Mv 3)]),glt,g4⟩ S2 (by exact yB glt (yE j))
  exact goW
 ·have gcq:=h0g glt
  have gj:=Zy j
  have gg:=Bj glt
  rw [Ak (z:=0) glt,i0t] at g4
  simp only [Int.reduceAdd,vI] at g4
  have gs1:=Ov glt (yJ (hrng p0 (by simp)).2 (by decide))
  rw [if_neg (by simp [hb])] at g4
  rw [hx] at gg
  have hq:¬(0:Int)<((ps.length:Nat):Int):=of_decide_eq_false (hpk.trans hb)
  have F0:=yA gcq<|yA gj<|yA glt<|yA gg<|yA gs1<|yA hN.eq_1<|yA Ew.eq_1<|yA Qz<|yA b0t<|yA b0v<|yA hq<|F0
  have zL:=fun S2=>xhN0 ⟨(j+1,q0),glt,g4⟩ S2 (by exact yB glt (yE j))
  exact goW
 ·have gcq:=h0g glt
  have gj:=Zy j
  have gg:=Bj glt
  rw [Ak (z:=0) glt,i0t] at g4
  simp only [Int.reduceAdd,vI] at g4
  have gs1:=Ov glt (yJ (hrng p0 (by simp)).2 (by decide))
  rw [if_neg (fun h=>hx h.1)] at g4
  have F0:=yA gcq<|yA gj<|yA glt<|yA gg<|yA gs1<|yA hN.eq_1<|yA Ew.eq_1<|yA Qz<|yA b0t<|yA b0v<|yA hx<|F0
  have zL:=fun S2=>xhN0 ⟨(j+1,q0),glt,g4⟩ S2 (by exact yB glt (yE j))
  exact goW
 rw [yG,i0t] at g4
 have gcq:=d0p (n:=p0.length)
 have hq0:=g4
 have F0:=yA gcq<|yA hN.eq_1<|yA Ew.eq_1<|F0
 have zU:=trivial
 refine (fun zX=>goW) ?_
 refine Nq [(1,.w (.one (.p 1 []))),(28,.w (.agg [.pl (.R false 1 (Kq p0)),.pl (.R false 1 (Kq p1))])),(29,.w (.one (.pl (.i 1)))),(6,.w (.one (.pl (.i 1)))),(33,.w (.one (.pl (.R false 1 (Kq p1))))),(34,.w (.one (.pl (.i ((p1.length:Nat):Int))))),(5,.w (.one (.p 26 [])))] [(1,⟨false,Ow bs lt ps p0 p1 ts⟩)] (fun y=>[(35,.w (.one (.pl (.i ((y.1.1:Nat):Int)))))]) (fun y=>hN y.1.2) (fun y=>p1.length-y.1.1) (⟨(0,q0),yP _,rfl⟩:{y:Nat×List Aw//y.1≤p1.length∧i0t pk 1 y.2 (p1.drop y.1)=i0t pk 1 q0 p1}) ?_ (by (simp only [go_sem,leX,yC,yD,F0];try simp)) (by (simp only [go_sem,leX,hN.eq_1,Ew.eq_1,yC,yD,F0];try simp))
 intro zz xN1 xM1 xhN1 xhM1
 simp only [yC,yD]
 obtain ⟨⟨j,q1⟩,g1,g4⟩:=zz
 simp only at g1 g4
 have hd:(j<p1.length∧p1.getD j 0=1∧pk=true)∨(j<p1.length∧p1.getD j 0=1∧pk=false)∨(j<p1.length∧¬p1.getD j 0=1)∨j=p1.length:=by
  by_cases h:j<p1.length
  ·by_cases h2:p1.getD j 0=1
   ·rcases Bool.eq_false_or_eq_true pk with hb|hb
    ·exact .inl ⟨h,h2,hb⟩
    exact .inr (.inl ⟨h,h2,hb⟩)
   exact .inr (.inr (.inl ⟨h,h2⟩))
  exact .inr (.inr (.inr (xJ g1 (wM h))))
 rcases hd with ⟨glt,hx,hb⟩|⟨glt,hx,hb⟩|⟨glt,hx⟩|rfl
 ·have gcq:=h0g glt
  have gj:=Zy j
  have gg:=Bj glt
  rw [Ak (z:=0) glt,i0t] at g4
  simp only [Int.reduceAdd,vI] at g4
  have gs1:=Ov glt (yJ (hrng p1 (by simp)).2 (by decide))
  rw [if_pos ⟨hx,hb⟩] at g4
  rw [hx] at gg
  have hq:(0:Int)<((ps.length:Nat):Int):=of_decide_eq_true (hpk.trans hb)
  have F0:=yA gcq<|yA gj<|yA glt<|yA gg<|yA gs1<|yA hN.eq_1<|yA Ew.eq_1<|yA Qz<|yA b0t<|yA b0v<|yA hq<|F0
  have cq:=yA (CtM.ch [] (((a1o 4).plain fun _ _ h=>h).hands))<|yA (CtM.ch [(500000,26)] ((q0l (Gq 1 q1) (Mv 4) (l0d q1) (c0u q1) (q0y q1) 0).told))<|trivial
  have zL:=fun S2=>xhN1 ⟨(j+1,q1++[(Mv 4)]),glt,g4⟩ S2 (by exact yB glt (yE j))
  exact goW
 ·have gcq:=h0g glt
  have gj:=Zy j
  have gg:=Bj glt
  rw [Ak (z:=0) glt,i0t] at g4
  simp only [Int.reduceAdd,vI] at g4
  have gs1:=Ov glt (yJ (hrng p1 (by simp)).2 (by decide))
  rw [if_neg (by simp [hb])] at g4
  rw [hx] at gg
  have hq:¬(0:Int)<((ps.length:Nat):Int):=of_decide_eq_false (hpk.trans hb)
  have F0:=yA gcq<|yA gj<|yA glt<|yA gg<|yA gs1<|yA hN.eq_1<|yA Ew.eq_1<|yA Qz<|yA b0t<|yA b0v<|yA hq<|F0
  have zL:=fun S2=>xhN1 ⟨(j+1,q1),glt,g4⟩ S2 (by exact yB glt (yE j))
  exact goW
 ·have gcq:=h0g glt
  have gj:=Zy j
  have gg:=Bj glt
  rw [Ak (z:=0) glt,i0t] at g4
  simp only [Int.reduceAdd,vI] at g4
  have gs1:=Ov glt (yJ (hrng p1 (by simp)).2 (by decide))
  rw [if_neg (fun h=>hx h.1)] at g4
  have F0:=yA gcq<|yA gj<|yA glt<|yA gg<|yA gs1<|yA hN.eq_1<|yA Ew.eq_1<|yA Qz<|yA b0t<|yA b0v<|yA hx<|F0
  have zL:=fun S2=>xhN1 ⟨(j+1,q1),glt,g4⟩ S2 (by exact yB glt (yE j))
  exact goW
 rw [yG,i0t] at g4
 have gcq:=d0p (n:=p1.length)
 have hq1:=g4
 have F0:=yA gcq<|yA hN.eq_1<|yA Ew.eq_1<|F0
 have zU:=trivial
 refine (fun zX=>goW) ?_
 refine Nq [(1,.w (.one (.p 1 []))),(5,.w (.one (.p 26 []))),(55,.w (.one (.pl (.R false 1 (a0u ts))))),(56,.w (.one (.pl (.i ((ts.length:Nat):Int)))))] [(1,⟨false,Ow bs lt ps p0 p1 ts⟩)] (fun y=>[(57,.w (.one (.pl (.i ((y.1.1:Nat):Int)))))]) (fun y=>h0v 26 20 y.1.2) (fun y=>ts.length-y.1.1) (⟨(0,⟨q1,0,[]⟩),yP _,rfl,yP _,yP _,fun h=>absurd h (Nat.lt_irrefl 0)⟩:{y:Nat×Ik//y.1≤ts.length∧Tz lt pk y.1 y.2 (ts.drop y.1)=Tz lt pk 0 ⟨q1,0,[]⟩ ts∧y.2.out.length≤7*y.1∧y.2.ps≤6*y.1∧(0<y.1→y.2.out≠[])}) ?_ (by (simp only [go_sem,leX,yC,yD,F0];try simp)) (by (simp only [go_sem,leX,h2i,hN.eq_1,Ew.eq_1,yC,yD,F0];try simp))
 intro yy xN2 xM2 xhN2 xhM2
 simp only [yC,yD]
 obtain ⟨⟨i,s⟩,h1,h4,h5,h6,h7⟩:=yy
 simp only at h1 h4 h5 h6 h7
 have hd:(i<ts.length∧s.out=[])∨(i<ts.length∧s.out≠[])∨(i=ts.length∧s.out≠[]):=by
  rcases Nat.lt_or_eq_of_le h1 with h|h
  ·by_cases h2:s.out=[]
   ·exact .inl ⟨h,h2⟩
   exact .inr (.inl ⟨h,h2⟩)
  exact .inr (.inr ⟨h,h7 (h▸hsz0)⟩)
 rcases hd with ⟨hlt,hs⟩|⟨hlt,hs⟩|⟨rfl,hs⟩
 ·have hcq:=h0g hlt
  have hi0:=Zy i
  have hg:=Vq hlt
  obtain ⟨l,hl⟩: ∃ l,ts.getD i []=l:=⟨_,rfl⟩
  have hlm:l∈ts:=hl▸Cw hlt
  have hlr:=hrng l (by simp [hlm])
  obtain ⟨wb,hwb⟩: ∃ wb,d0f lt i=wb:=⟨_,rfl⟩
  rw [Ak (z:=[]) hlt,Tz,hl,hwb] at h4
  rw [hl] at hg
  have hs1:=Ov hlt hts
  have hw20:Go.RowKit.wrap64 (20+(i:Int))=20+(i:Int):=w20 hlt hts
  have hM0:=Yk (h:=26) (o:=20) hs
  have F0:=yA hcq<|yA hi0<|yA hlt<|yA hg<|yA hs1<|yA hw20<|yA hM0<|yA Ew.eq_1<|F0
  have zU:=trivial
  have zG:ZG 21:=⟨⟩
  refine (fun zX=>goW) ?_
  refine ⟨?_⟩;clear zG
  refine g0d (fun w=>[(12,.w (.one (.pl (.i (Hz w)))))]) (fun _=>[]) (fun w=>d0f lt i=w) (fun xNj xMj xhNj xhMj=>?_) (fun wc hwc=>?_)
  ·rcases lt with _|_
   ·have hw1:=a1s i
    have F0:=yA hw1<|F0
    have zL:=fun S2=>xhNj (d0f false i) rfl S2
    exact goW
   have hw1:=s1k i
   have hw2:=s1l (d0f true i)
   have F0:=yA hw1<|yA hw2<|F0
   have zL:=fun S2=>xhNj (d0f true i) rfl S2
   exact goW
  rw [hwb] at hwc
  subst hwc
  have zU:=trivial
  refine (fun zX=>goW) ?_
  refine Nq [(57,.w (.one (.pl (.i ((i:Nat):Int))))),(10,.w (.one (.pl (.i ((i:Nat):Int))))),(12,.w (.one (.pl (.i (Hz wb))))),(68,.w (.one (.pl (.R false 1 (Kq l))))),(69,.w (.one (.pl (.i ((l.length:Nat):Int))))),(1,.w (.one (.p 1 []))),(5,.w (.one (.p 26 []))),(55,.w (.one (.pl (.R false 1 (a0u ts))))),(56,.w (.one (.pl (.i ((ts.length:Nat):Int)))))] [(1,⟨false,Ow bs lt ps p0 p1 ts⟩)] (fun y=>[(70,.w (.one (.pl (.i ((y.1.1:Nat):Int)))))]) (fun y=>h0v 26 20 y.1.2) (fun y=>l.length-y.1.1) (⟨(0,s),yP _,rfl,yV _,yV _⟩:{y:Nat×Ik//y.1≤l.length∧Ik.turn pk (Hz wb) y.2 (l.drop y.1)=Ik.turn pk (Hz wb) s l∧y.2.out.length≤s.out.length+y.1∧y.2.ps≤s.ps+y.1}) ?_
  intro zz xN3 xM3 xhN3 xhM3
  simp only [yC,yD]
  obtain ⟨⟨j,q⟩,g1,g4,g5,g6⟩:=zz
  simp only at g1 g4 g5 g6
  have hd:(j<l.length∧q.out=[]∧(q.token pk (Hz wb) (l.getD j 0)).out=[])∨(j<l.length∧q.out=[]∧(q.token pk (Hz wb) (l.getD j 0)).out≠[])∨(j<l.length∧q.out≠[])∨(j=l.length∧q.out=[])∨(j=l.length∧q.out≠[]):=by
   rcases Nat.lt_or_eq_of_le g1 with h|h
   ·by_cases h1:q.out=[]
    ·by_cases h2:(q.token pk (Hz wb) (l.getD j 0)).out=[]
     ·exact .inl ⟨h,h1,h2⟩
     exact .inr (.inl ⟨h,h1,h2⟩)
    exact .inr (.inr (.inl ⟨h,h1⟩))
   by_cases h1:q.out=[]
   ·exact .inr (.inr (.inr (.inl ⟨h,h1⟩)))
   exact .inr (.inr (.inr (.inr ⟨h,h1⟩)))
  rcases hd with ⟨glt,hn,hn2⟩|⟨glt,hn,hn2⟩|⟨glt,hn⟩|⟨rfl,hn⟩|⟨rfl,hn⟩
  ·have gcq:=h0g glt
   have gj:=Zy j
   have gg:=Bj glt
   obtain ⟨x,hx⟩: ∃ x,l.getD j 0=x:=⟨_,rfl⟩
   have hxr:=Dk hlr.1 x (hx▸Cw glt)
   rw [Ak (z:=0) glt,Ik.turn,hx] at g4
   rw [hx] at gg hn2
   have gs1:=Ov glt (yJ hlr.2 (by decide))
   have ht:=e1l pk (Hz wb) (b0m wb) q x hxr (s1i g5 (xV glt) hlr.2 h5 hlt ht5.2) (o2a g6 (xV glt) hlr.2 h6 hlt ht5.2)
   have k1:(q.token pk (Hz wb) x).out.length≤s.out.length+(j+1):=yJ (d0i pk (Hz wb) q x) (xH g5)
   have k2:(q.token pk (Hz wb) x).ps≤s.ps+(j+1):=yJ (g0u pk (Hz wb) q x) (xH g6)
   obtain ⟨q2,hq2⟩: ∃ z,q.token pk (Hz wb) x=z:=⟨_,rfl⟩
   rw [hq2] at g4 k1 k2 hn2 ht
   rw [show a1n q 20=20 from if_pos hn,Yk hn,Yk hn2] at ht
   have hM:=Yk (h:=26) (o:=20) hn
   have hE:=Yk (h:=26) (o:=20) hn2
   have F0:=yA gcq<|yA gj<|yA glt<|yA gg<|yA gs1<|yA hpk<|yA hM<|yA hE<|yA Ew.eq_1<|F0
   have cq:=yA (CtM.ch [(500000,26)] (ht))<|trivial
   have zL:=fun S2=>xhN3 ⟨(j+1,q2),glt,g4,k1,k2⟩ S2 (by exact yB glt (yE j))
   exact goW
  ·have gcq:=h0g glt
   have gj:=Zy j
   have gg:=Bj glt
   obtain ⟨x,hx⟩: ∃ x,l.getD j 0=x:=⟨_,rfl⟩
   have hxr:=Dk hlr.1 x (hx▸Cw glt)
   rw [Ak (z:=0) glt,Ik.turn,hx] at g4
   rw [hx] at gg hn2
   have gs1:=Ov glt (yJ hlr.2 (by decide))
   have ht:=e1l pk (Hz wb) (b0m wb) q x hxr (s1i g5 (xV glt) hlr.2 h5 hlt ht5.2) (o2a g6 (xV glt) hlr.2 h6 hlt ht5.2)
   have k1:(q.token pk (Hz wb) x).out.length≤s.out.length+(j+1):=yJ (d0i pk (Hz wb) q x) (xH g5)
   have k2:(q.token pk (Hz wb) x).ps≤s.ps+(j+1):=yJ (g0u pk (Hz wb) q x) (xH g6)
   obtain ⟨q2,hq2⟩: ∃ z,q.token pk (Hz wb) x=z:=⟨_,rfl⟩
   rw [hq2] at g4 k1 k2 hn2 ht
   rw [show a1n q 20=20 from if_pos hn,Yk hn,Jj hn2] at ht
   have hM:=Yk (h:=26) (o:=20) hn
   have hE:=Jj (h:=26) (o:=20) hn2
   have F0:=yA gcq<|yA gj<|yA glt<|yA gg<|yA gs1<|yA hpk<|yA hM<|yA hE<|yA Ew.eq_1<|F0
   have cq:=yA (CtM.ch [(500000,26)] (ht))<|trivial
   have zL:=fun S2=>xhN3 ⟨(j+1,q2),glt,g4,k1,k2⟩ S2 (by exact yB glt (yE j))
   exact goW
  ·have gcq:=h0g glt
   have gj:=Zy j
   have gg:=Bj glt
   obtain ⟨x,hx⟩: ∃ x,l.getD j 0=x:=⟨_,rfl⟩
   have hxr:=Dk hlr.1 x (hx▸Cw glt)
   rw [Ak (z:=0) glt,Ik.turn,hx] at g4
   rw [hx] at gg
   have gs1:=Ov glt (yJ hlr.2 (by decide))
   have ht:=e1l pk (Hz wb) (b0m wb) q x hxr (s1i g5 (xV glt) hlr.2 h5 hlt ht5.2) (o2a g6 (xV glt) hlr.2 h6 hlt ht5.2)
   have k1:(q.token pk (Hz wb) x).out.length≤s.out.length+(j+1):=yJ (d0i pk (Hz wb) q x) (xH g5)
   have k2:(q.token pk (Hz wb) x).ps≤s.ps+(j+1):=yJ (g0u pk (Hz wb) q x) (xH g6)
   have hn2:=a0h pk (Hz wb) q x hn
   obtain ⟨q2,hq2⟩: ∃ z,q.token pk (Hz wb) x=z:=⟨_,rfl⟩
   rw [hq2] at g4 k1 k2 hn2 ht
   rw [show a1n q 20=750001 from if_neg hn,Jj hn,Jj hn2] at ht
   have hM:=Jj (h:=26) (o:=20) hn
   have hE:=Jj (h:=26) (o:=20) hn2
   have F0:=yA gcq<|yA gj<|yA glt<|yA gg<|yA gs1<|yA hpk<|yA hM<|yA hE<|yA Ew.eq_1<|F0
   have zU:=trivial
   have zS:ZS 26:=⟨⟩
   refine (fun zX=>goW) ?_
   refine ⟨?_⟩;clear zS
   refine Jv fun zK zhK=>?_
   simp only [go_sem,F0]
   repeat' (first|apply yA|intro _)
   all_goals (refine b0j false [(500000,26),(750001,20)] (fun k=>k) (fun _ _=>rfl) ?_ (by decide) ?_ ?_ ht ?_;iterate 3 (focus (first|rfl|(simp only [go_sem,F0]<;>first|done|rfl|simp))))
   all_goals (rintro v m ⟨hR,hm⟩;subst hR;subst hm)
   all_goals (refine yA ?_ (yA ?_ (yA ?_ ?_));iterate 3 (focus (first|rfl|(simp only [go_sem,F0];done)|(simp [go_sem,look,F0];done))))
   all_goals (try simp only [go_sem,F0])
   all_goals (try simp only [go_sem,F0])
   all_goals repeat' (first|apply yA|intro _)
   refine zhK _ ?_
   have zL:=fun S2=>xhN3 ⟨(j+1,q2),glt,g4,k1,k2⟩ S2 (by exact yB glt (yE j))
   exact goW
  ·rw [yG,Ik.turn] at g4
   have gcq:=d0p (n:=l.length)
   rw [←g4] at h4
   have k1:=g0w q (Fv (20+(i:Int)))
   have k2:=f0o q (Fv (20+(i:Int)))
   have hn2:=i0o q (Fv (20+(i:Int)))
   have ht:=d2v q (Fv (20+(i:Int))) (s1i g5 (yV _) hlr.2 h5 hlt ht5.2)
   obtain ⟨q2,hq2⟩: ∃ z,q.tell (Fv (20+(i:Int)))=z:=⟨_,rfl⟩
   rw [hq2] at h4 k1 k2 hn2 ht
   have k4:=n2z k1 g5 hlr.2 h5
   have k5:=n2y k2 g6 hlr.2 h6
   rw [show a1n q 29=29 from if_pos hn,Yk hn,Jj hn2] at ht
   have hM:=Yk (h:=26) (o:=20) hn
   have hE:=Jj (h:=26) (o:=20) hn2
   have F0:=yA gcq<|yA hM<|yA hE<|yA Ew.eq_1<|F0
   have zU:=trivial
   have zS:ZS 28:=⟨⟩
   refine (fun zX=>goW) ?_
   refine ⟨?_⟩;clear zS
   refine Jv fun zK zhK=>?_
   simp only [go_sem,F0]
   repeat' (first|apply yA|intro _)
   all_goals (refine Iq false [] (fun k=>k) (fun _ _=>rfl) ?_ (by decide) ?_ ((n0l (20+(i:Int))).plain fun _ _ h=>h).hands ?_;iterate 2 (focus (first|rfl|(simp only [go_sem,F0]<;>first|done|rfl|simp))))
   all_goals (rintro v m ⟨hR,hm⟩;subst hR;subst hm)
   all_goals (refine yA ?_ (yA ?_ (yA ?_ ?_));iterate 3 (focus (first|rfl|(simp only [go_sem,F0];done)|(simp [go_sem,look,F0];done))))
   all_goals (try simp only [go_sem,F0])
   all_goals (try simp only [go_sem,F0])
   all_goals repeat' (first|apply yA|intro _)
   all_goals (refine Iq false [(500000,26)] (fun k=>if k=29 then 20 else k) (fun _ _=>rfl) ?_ (by decide) ?_ ht ?_;iterate 2 (focus (first|rfl|(simp only [go_sem,F0]<;>first|done|rfl|simp))))
   all_goals (rintro v m ⟨hR,hm⟩;subst hR;subst hm)
   all_goals (refine yA ?_ (yA ?_ (yA ?_ ?_));iterate 3 (focus (first|rfl|(simp only [go_sem,F0];done)|(simp [go_sem,look,F0];done))))
   all_goals (try simp only [go_sem,F0])
   all_goals (try simp only [go_sem,F0])
   all_goals repeat' (first|apply yA|intro _)
   refine zhK _ ?_
   have zL:=fun S2=>xhN2 ⟨(i+1,q2),hlt,h4,k4,k5,fun _=>hn2⟩ S2 (by exact yB hlt (yE i))
   exact goW
  rw [yG,Ik.turn] at g4
  have gcq:=d0p (n:=l.length)
  rw [←g4] at h4
  have k1:=g0w q (Fv (20+(i:Int)))
  have k2:=f0o q (Fv (20+(i:Int)))
  have hn2:=i0o q (Fv (20+(i:Int)))
  have ht:=d2v q (Fv (20+(i:Int))) (s1i g5 (yV _) hlr.2 h5 hlt ht5.2)
  obtain ⟨q2,hq2⟩: ∃ z,q.tell (Fv (20+(i:Int)))=z:=⟨_,rfl⟩
  rw [hq2] at h4 k1 k2 hn2 ht
  have k4:=n2z k1 g5 hlr.2 h5
  have k5:=n2y k2 g6 hlr.2 h6
  rw [show a1n q 29=750001 from if_neg hn,Jj hn,Jj hn2] at ht
  have hM:=Jj (h:=26) (o:=20) hn
  have hE:=Jj (h:=26) (o:=20) hn2
  have F0:=yA gcq<|yA hM<|yA hE<|yA Ew.eq_1<|F0
  have zU:=trivial
  have zS:ZS 28:=⟨⟩
  refine (fun zX=>goW) ?_
  refine ⟨?_⟩;clear zS
  refine Jv fun zK zhK=>?_
  simp only [go_sem,F0]
  repeat' (first|apply yA|intro _)
  all_goals (refine Iq false [] (fun k=>k) (fun _ _=>rfl) ?_ (by decide) ?_ ((n0l (20+(i:Int))).plain fun _ _ h=>h).hands ?_;iterate 2 (focus (first|rfl|(simp only [go_sem,F0]<;>first|done|rfl|simp))))
  all_goals (rintro v m ⟨hR,hm⟩;subst hR;subst hm)
  all_goals (refine yA ?_ (yA ?_ (yA ?_ ?_));iterate 3 (focus (first|rfl|(simp only [go_sem,F0];done)|(simp [go_sem,look,F0];done))))
  all_goals (try simp only [go_sem,F0])
  all_goals (try simp only [go_sem,F0])
  all_goals repeat' (first|apply yA|intro _)
  all_goals (refine b0j false [(500000,26),(750001,20)] (fun k=>k) (fun _ _=>rfl) ?_ (by decide) ?_ ?_ ht ?_;iterate 3 (focus (first|rfl|(simp only [go_sem,F0]<;>first|done|rfl|simp))))
  all_goals (rintro v m ⟨hR,hm⟩;subst hR;subst hm)
  all_goals (refine yA ?_ (yA ?_ (yA ?_ ?_));iterate 3 (focus (first|rfl|(simp only [go_sem,F0];done)|(simp [go_sem,look,F0];done))))
  all_goals (try simp only [go_sem,F0])
  all_goals (try simp only [go_sem,F0])
  all_goals repeat' (first|apply yA|intro _)
  refine zhK _ ?_
  have zL:=fun S2=>xhN2 ⟨(i+1,q2),hlt,h4,k4,k5,fun _=>hn2⟩ S2 (by exact yB hlt (yE i))
  exact goW
 ·have hcq:=h0g hlt
  have hi0:=Zy i
  have hg:=Vq hlt
  obtain ⟨l,hl⟩: ∃ l,ts.getD i []=l:=⟨_,rfl⟩
  have hlm:l∈ts:=hl▸Cw hlt
  have hlr:=hrng l (by simp [hlm])
  obtain ⟨wb,hwb⟩: ∃ wb,d0f lt i=wb:=⟨_,rfl⟩
  rw [Ak (z:=[]) hlt,Tz,hl,hwb] at h4
  rw [hl] at hg
  have hs1:=Ov hlt hts
  have hw20:Go.RowKit.wrap64 (20+(i:Int))=20+(i:Int):=w20 hlt hts
  have hM0:=Jj (h:=26) (o:=20) hs
  have F0:=yA hcq<|yA hi0<|yA hlt<|yA hg<|yA hs1<|yA hw20<|yA hM0<|yA Ew.eq_1<|F0
  have zU:=trivial
  have zG:ZG 21:=⟨⟩
  refine (fun zX=>goW) ?_
  refine ⟨?_⟩;clear zG
  refine g0d (fun w=>[(12,.w (.one (.pl (.i (Hz w)))))]) (fun _=>[]) (fun w=>d0f lt i=w) (fun xNj xMj xhNj xhMj=>?_) (fun wc hwc=>?_)
  ·rcases lt with _|_
   ·have hw1:=a1s i
    have F0:=yA hw1<|F0
    have zL:=fun S2=>xhNj (d0f false i) rfl S2
    exact goW
   have hw1:=s1k i
   have hw2:=s1l (d0f true i)
   have F0:=yA hw1<|yA hw2<|F0
   have zL:=fun S2=>xhNj (d0f true i) rfl S2
   exact goW
  rw [hwb] at hwc
  subst hwc
  have zU:=trivial
  refine (fun zX=>goW) ?_
  refine Nq [(57,.w (.one (.pl (.i ((i:Nat):Int))))),(10,.w (.one (.pl (.i ((i:Nat):Int))))),(12,.w (.one (.pl (.i (Hz wb))))),(68,.w (.one (.pl (.R false 1 (Kq l))))),(69,.w (.one (.pl (.i ((l.length:Nat):Int))))),(1,.w (.one (.p 1 []))),(5,.w (.one (.p 26 []))),(55,.w (.one (.pl (.R false 1 (a0u ts))))),(56,.w (.one (.pl (.i ((ts.length:Nat):Int)))))] [(1,⟨false,Ow bs lt ps p0 p1 ts⟩)] (fun y=>[(70,.w (.one (.pl (.i ((y.1.1:Nat):Int)))))]) (fun y=>h0v 26 20 y.1.2) (fun y=>l.length-y.1.1) (⟨(0,s),yP _,rfl,yV _,yV _,hs⟩:{y:Nat×Ik//y.1≤l.length∧Ik.turn pk (Hz wb) y.2 (l.drop y.1)=Ik.turn pk (Hz wb) s l∧y.2.out.length≤s.out.length+y.1∧y.2.ps≤s.ps+y.1∧y.2.out≠[]}) ?_
  intro zz xN3 xM3 xhN3 xhM3
  simp only [yC,yD]
  obtain ⟨⟨j,q⟩,g1,g4,g5,g6,hn⟩:=zz
  simp only at g1 g4 g5 g6 hn
  rcases Nat.lt_or_eq_of_le g1 with glt|rfl
  ·have gcq:=h0g glt
   have gj:=Zy j
   have gg:=Bj glt
   obtain ⟨x,hx⟩: ∃ x,l.getD j 0=x:=⟨_,rfl⟩
   have hxr:=Dk hlr.1 x (hx▸Cw glt)
   rw [Ak (z:=0) glt,Ik.turn,hx] at g4
   rw [hx] at gg
   have gs1:=Ov glt (yJ hlr.2 (by decide))
   have ht:=e1l pk (Hz wb) (b0m wb) q x hxr (s1i g5 (xV glt) hlr.2 h5 hlt ht5.2) (o2a g6 (xV glt) hlr.2 h6 hlt ht5.2)
   have k1:(q.token pk (Hz wb) x).out.length≤s.out.length+(j+1):=yJ (d0i pk (Hz wb) q x) (xH g5)
   have k2:(q.token pk (Hz wb) x).ps≤s.ps+(j+1):=yJ (g0u pk (Hz wb) q x) (xH g6)
   have hn2:=a0h pk (Hz wb) q x hn
   obtain ⟨q2,hq2⟩: ∃ z,q.token pk (Hz wb) x=z:=⟨_,rfl⟩
   rw [hq2] at g4 k1 k2 hn2 ht
   rw [show a1n q 20=750001 from if_neg hn,Jj hn,Jj hn2] at ht
   have hM:=Jj (h:=26) (o:=20) hn
   have hE:=Jj (h:=26) (o:=20) hn2
   have k3:=hn2
   have F0:=yA gcq<|yA gj<|yA glt<|yA gg<|yA gs1<|yA hpk<|yA hM<|yA hE<|yA Ew.eq_1<|F0
   have zU:=trivial
   have zS:ZS 26:=⟨⟩
   refine (fun zX=>goW) ?_
   refine ⟨?_⟩;clear zS
   refine Jv fun zK zhK=>?_
   simp only [go_sem,F0]
   repeat' (first|apply yA|intro _)
   all_goals (refine b0j false [(500000,26),(750001,20)] (fun k=>k) (fun _ _=>rfl) ?_ (by decide) ?_ ?_ ht ?_;iterate 3 (focus (first|rfl|(simp only [go_sem,F0]<;>first|done|rfl|simp))))
   all_goals (rintro v m ⟨hR,hm⟩;subst hR;subst hm)
   all_goals (refine yA ?_ (yA ?_ (yA ?_ ?_));iterate 3 (focus (first|rfl|(simp only [go_sem,F0];done)|(simp [go_sem,look,F0];done))))
   all_goals (try simp only [go_sem,F0])
   all_goals (try simp only [go_sem,F0])
   all_goals repeat' (first|apply yA|intro _)
   refine zhK _ ?_
   have zL:=fun S2=>xhN3 ⟨(j+1,q2),glt,g4,k1,k2,k3⟩ S2 (by exact yB glt (yE j))
   exact goW
  rw [yG,Ik.turn] at g4
  have gcq:=d0p (n:=l.length)
  rw [←g4] at h4
  have k1:=g0w q (Fv (20+(i:Int)))
  have k2:=f0o q (Fv (20+(i:Int)))
  have hn2:=i0o q (Fv (20+(i:Int)))
  have ht:=d2v q (Fv (20+(i:Int))) (s1i g5 (yV _) hlr.2 h5 hlt ht5.2)
  obtain ⟨q2,hq2⟩: ∃ z,q.tell (Fv (20+(i:Int)))=z:=⟨_,rfl⟩
  rw [hq2] at h4 k1 k2 hn2 ht
  have k4:=n2z k1 g5 hlr.2 h5
  have k5:=n2y k2 g6 hlr.2 h6
  rw [show a1n q 29=750001 from if_neg hn,Jj hn,Jj hn2] at ht
  have hM:=Jj (h:=26) (o:=20) hn
  have hE:=Jj (h:=26) (o:=20) hn2
  have F0:=yA gcq<|yA hM<|yA hE<|yA Ew.eq_1<|F0
  have zU:=trivial
  have zS:ZS 28:=⟨⟩
  refine (fun zX=>goW) ?_
  refine ⟨?_⟩;clear zS
  refine Jv fun zK zhK=>?_
  simp only [go_sem,F0]
  repeat' (first|apply yA|intro _)
  all_goals (refine Iq false [] (fun k=>k) (fun _ _=>rfl) ?_ (by decide) ?_ ((n0l (20+(i:Int))).plain fun _ _ h=>h).hands ?_;iterate 2 (focus (first|rfl|(simp only [go_sem,F0]<;>first|done|rfl|simp))))
  all_goals (rintro v m ⟨hR,hm⟩;subst hR;subst hm)
  all_goals (refine yA ?_ (yA ?_ (yA ?_ ?_));iterate 3 (focus (first|rfl|(simp only [go_sem,F0];done)|(simp [go_sem,look,F0];done))))
  all_goals (try simp only [go_sem,F0])
  all_goals (try simp only [go_sem,F0])
  all_goals repeat' (first|apply yA|intro _)
  all_goals (refine b0j false [(500000,26),(750001,20)] (fun k=>k) (fun _ _=>rfl) ?_ (by decide) ?_ ?_ ht ?_;iterate 3 (focus (first|rfl|(simp only [go_sem,F0]<;>first|done|rfl|simp))))
  all_goals (rintro v m ⟨hR,hm⟩;subst hR;subst hm)
  all_goals (refine yA ?_ (yA ?_ (yA ?_ ?_));iterate 3 (focus (first|rfl|(simp only [go_sem,F0];done)|(simp [go_sem,look,F0];done))))
  all_goals (try simp only [go_sem,F0])
  all_goals (try simp only [go_sem,F0])
  all_goals repeat' (first|apply yA|intro _)
  refine zhK _ ?_
  have zL:=fun S2=>xhN2 ⟨(i+1,q2),hlt,h4,k4,k5,fun _=>hn2⟩ S2 (by exact yB hlt (yE i))
  exact goW
 rw [yG,Tz] at h4
 have hcq:=d0p (n:=ts.length)
 have hM0:=Jj (h:=26) (o:=20) hs
 have hout:p0k lt pk p0 p1 ts=s:=by rw [p0k,←hq0,←hq1];exact h4.symm
 rw [hout] at zhZ
 have F0:=yA hcq<|yA hM0<|yA Ew.eq_1<|F0
 have zE:=fun m=>h1m (R:=fun v m=>v=.tup [.one (.pl (.R false 4 (Ay s.out))),.one (.pl (.i 0))]∧m=[]) (m:=m) (b:=true) (k:=20) (by decide) s.out 0 ⟨rfl,rfl⟩
 exact goW
end Go.Sy
namespace Go.Sy
open Go.Proofs
attribute [local irreducible] Cj HT Bv Rj onC onE onO onG goV goA goS Tj Ck
theorem x0e {α:Type} {l:List α} {n:Nat} {z:α} (h:n<l.length):l.take (n+1)=l.take n++[l.getD n z]:=by
 rw [List.take_add_one,yX h];simp [List.getD,yX h]
theorem n2g {j n:Nat} (h:j+1=n) (hn:n≤1000000):Go.RowKit.wrap64 (((n:Nat):Int)-1)=((j:Nat):Int):=b0l (by omega) (by omega)
theorem m2e {j n:Nat} (h:j+1<n) (hn:n≤1000000):¬((j:Nat):Int)=Go.RowKit.wrap64 (((n:Nat):Int)-1):=by
 rw [show Go.RowKit.wrap64 (((n:Nat):Int)-1)=((n-1:Nat):Int) from b0l (by omega) (by omega)];omega
theorem p0s (k:Nat) (a b:Aw):b0a k (Ay [a,b]).flatten (.s k [] 2 4)=.pl (.R false 4 (Ay [a,b])):=l0r k [a,b]
theorem c0z {k j:Nat} (h:¬j=k) (d:List PL) (p:Path):b0a k d (.p j p)=.p j p:=by
 simp only [b0a,if_neg h]
theorem s0w (d:List PL) (p:Path) (n z:Nat):b0a 25 d (.s 500001 p n z)=.s 500001 p n z:=f0q d p n z (by decide)
theorem flat_get {l:List Aw} {n:Nat} (h:n<l.length):List.take 4 (List.drop (n*4) (pls (Ay l).flatten))=pls (l.getD n (Fv 0)).cells:=by
 induction l generalizing n with
 |nil=>exact absurd h (Nat.not_lt_zero _)
 |cons a r ih=>
  rw [Ay,xU,←f2e]
  have ha:(pls a.cells).length=4:=by rw [Fq,Dy]
  cases n with
  |zero=>rw [vC,List.drop_zero,List.take_append_of_le_length (by omega),←ha,List.take_length];rfl
  |succ k=>
   rw [show (k+1)*4=4+k*4 from by omega,←List.drop_drop,←ha,List.drop_left,ha]
   simp only [wV];exact ih (Nat.lt_of_succ_lt_succ h)
theorem q2m {j n:Nat} (h:j<n):j*4+4≤n*4:=by omega
theorem z0d (w:Int) (c x:Aw):(a0t w c x).cells=[.i 6,.i w,.i 0,.R false 4 (Ay [c,x])]:=by rw [a0t,Aw.cells]
theorem c2s (which:Int) (mx:List Aw) (hn:mx.length≤1000000):
 CtM Try.prog 39 [.w (.one (.pl (.i which))),.w (.one (.p 500000 []))] [(500000,⟨false,[.s 500001 [] mx.length 4]⟩),(500001,⟨true,pls (Ay mx).flatten⟩)] (Told (fun v m=>v=Gj (Gq which mx)∧m=[(500000,⟨false,[.s 500001 [] mx.length 4]⟩),(500001,⟨true,pls (Ay mx).flatten⟩)])):=by
 have F0:=yA Ij<|yA Dy<|yA Fq<|yA Ez<|yA Mq<|yA a2b<|yA Dz<|Gw
 refine CtM.go Try.func39 rfl Try.ntmps39 Try.results39 fun w0 ro may fx zZ zhY=>?_
 have cq:=yA (CtM.ch [] (((c0e 0).plain fun _ _ h=>h).hands))<|trivial
 refine (fun zX=>goW) ?_
 refine Nq [(0,.w (.one (.pl (.i which)))),(1,.w (.one (.p 500000 []))),(3,.w (.one (.p 3 []))),(4,.w (.one (.p 4 []))),(9,.w (.one (.s 500001 [] mx.length 4))),(10,.w (.one (.pl (.i ((mx.length:Nat):Int)))))] [(3,⟨false,[.pl (.i 0),.pl (.i 0),.pl (.i 0),.pl (.R true 1 [])]⟩),(500000,⟨false,[.s 500001 [] mx.length 4]⟩),(500001,⟨true,pls (Ay mx).flatten⟩)] (fun y=>[(11,.w (.one (.pl (.i ((y.1.1:Nat):Int)))))]) (fun y=>[(4,⟨false,pls y.1.2.cells⟩)]) (fun y=>mx.length-y.1.1) (⟨(0,Fv 0),yP _,(by simp [Gq,i0i])⟩:{y:Nat×Aw//y.1≤mx.length∧y.2=Gq (if y.1=mx.length then which else 1) (mx.take y.1)}) ?_
 intro zz xN0 xM0 xhN0 xhM0
 simp only [yC,yD]
 obtain ⟨⟨j,T⟩,g1,g4⟩:=zz
 simp only at g1 g4
 have hd:(j<mx.length∧j+1<mx.length)∨(j<mx.length∧j+1=mx.length)∨j=mx.length:=by
  rcases Nat.lt_or_eq_of_le g1 with h|h
  ·rcases Nat.lt_or_eq_of_le (show j+1≤mx.length from h) with h2|h2
   ·exact .inl ⟨h,h2⟩
   exact .inr (.inl ⟨h,h2⟩)
  exact .inr (.inr h)
 rcases hd with ⟨glt,hlast⟩|⟨glt,hlast⟩|rfl
 ·have gcq:=h0g glt
  have gj:=Zy j
  have gg:=flat_get glt
  have gr:=q2m glt
  obtain ⟨x,hx⟩: ∃ x,mx.getD j (Fv 0)=x:=⟨_,rfl⟩
  rw [hx] at gg
  have gs1:=Ov glt hn
  have gl:=m2e hlast hn
  have g4':a0t 1 T x=Gq (if j+1=mx.length then which else 1) (mx.take (j+1)):=by
   rw [x0e (z:=Fv 0) glt,hx,Qz,if_neg (Nat.ne_of_lt hlast),g4,if_neg (Nat.ne_of_lt glt)]
  have hkc:=z0d 1 T x
  have F0:=yA gcq<|yA gj<|yA glt<|yA gg<|yA gr<|yA gs1<|yA gl<|yA hkc<|F0
  have zS:ZS 9:=⟨⟩
  refine (fun zX=>goW) ?_
  refine ⟨?_⟩;clear zS
  refine p1d 25 (Ay [T,x]).flatten (b:=true) (by rw [a2b];simp [look]) (by decide) ?_
  simp only [St.laid,i1d,j0s,s0i,i1c,yM,wC,Vj,l0s,p0s,c0z (j:=3) (k:=25) (by decide),c0z (j:=4) (k:=25) (by decide),c0z (j:=6) (k:=25) (by decide),c0z (j:=500000) (k:=25) (by decide),c0z (j:=500001) (k:=25) (by decide),s0w,Nat.reduceLT,Nat.reduceEqDiff,if_true,if_false,reduceIte,F0]
  have zL:=fun S2=>xhN0 ⟨(j+1,a0t 1 T x),glt,g4'⟩ S2 (by exact yB glt (yE j))
  exact goW
 ·have gcq:=h0g glt
  have gj:=Zy j
  have gg:=flat_get glt
  have gr:=q2m glt
  obtain ⟨x,hx⟩: ∃ x,mx.getD j (Fv 0)=x:=⟨_,rfl⟩
  rw [hx] at gg
  have gs1:=Ov glt hn
  have gl:=n2g hlast hn
  have g4':a0t which T x=Gq (if j+1=mx.length then which else 1) (mx.take (j+1)):=by
   rw [x0e (z:=Fv 0) glt,hx,Qz,if_pos hlast,g4,if_neg (Nat.ne_of_lt glt)]
  have hkc:=z0d which T x
  have F0:=yA gcq<|yA gj<|yA glt<|yA gg<|yA gr<|yA gs1<|yA gl<|yA hkc<|F0
  have zS:ZS 9:=⟨⟩
  refine (fun zX=>goW) ?_
  refine ⟨?_⟩;clear zS
  refine p1d 25 (Ay [T,x]).flatten (b:=true) (by rw [a2b];simp [look]) (by decide) ?_
  simp only [St.laid,i1d,j0s,s0i,i1c,yM,wC,Vj,l0s,p0s,c0z (j:=3) (k:=25) (by decide),c0z (j:=4) (k:=25) (by decide),c0z (j:=6) (k:=25) (by decide),c0z (j:=500000) (k:=25) (by decide),c0z (j:=500001) (k:=25) (by decide),s0w,Nat.reduceLT,Nat.reduceEqDiff,if_true,if_false,reduceIte,F0]
  have zL:=fun S2=>xhN0 ⟨(j+1,a0t which T x),glt,g4'⟩ S2 (by exact yB glt (yE j))
  exact goW
 rw [if_pos rfl,List.take_length] at g4
 have gcq:=d0p (n:=mx.length)
 have F0:=yA gcq<|F0
 refine (fun zX=>goW) ?_
 refine zhY _ _ ?_
 simp only [go_sem,F0]
 all_goals (refine k1l (a:=500000) (b:=500001) ⟨by rw [←g4],rfl⟩ ?_ ?_<;>simp [look])
end Go.Sy
namespace Go.Sy
open Go.Proofs
attribute [local irreducible] Cj HT Bv Rj onC onE onO onG goV goA goS Tj Ck
@[go_sem] theorem sz67 :Try.prog.cellsOf 67=1:=by kernel_rfl
attribute [go_sem] Try.underlying67
theorem s0x (d:List PL) (f:Nat):b0a 15 d (.fn f [500000])=.fn f [500000]:=rfl
theorem t0j {t:Aw} (k:Nat):(Gj t).has k=false:=by
 show (pls t.cells).any (L.has k)=false
 exact Ez k _
theorem t0i {t:Aw} (f:Nat→Nat):(Gj t).ren f=Gj t:=p0z (t0h t)
def s1g (mx:List Aw):List (Nat×Ob):=[(500000,⟨false,[.s 500001 [] mx.length 4]⟩),(500001,⟨true,pls (Ay mx).flatten⟩)]
theorem n1m (mx:List Aw) (hd:Hand) (S:St):c0h false (fun k=>k) hd S (s1g mx) (s1g mx) (s1g mx):=by
 simp [c0h,s1g,Rx,okN,look,Dj]
theorem m1t (mx:List Aw) (hmx:mx.length≤1000000) (h0:¬(0:Int)<((mx.length:Nat):Int)) (t:Aw):
 CtM Try.prog 40 [Gj t,.w (.one (.p 500000 [])),.w (.one (.p 500002 [])),.w (.one (.p 500003 []))] [(500000,⟨false,[.s 500001 [] mx.length 4]⟩),(500001,⟨true,pls (Ay mx).flatten⟩),(500002,⟨false,[.fn 39 [500000]]⟩),(500003,⟨false,[(.pl (.R true 1 []))]⟩)] (Told (fun v m=>v=.tup []∧m=[(500000,⟨false,[.s 500001 [] mx.length 4]⟩),(500001,⟨true,pls (Ay mx).flatten⟩),(500002,⟨false,[.fn 39 [500000]]⟩),(500003,⟨false,[(.s 21 [] 1 4)]⟩),(21,⟨true,pls t.cells⟩)])):=by
 skip
 have F0:=yA Ij<|yA Dy<|yA Fq<|yA Ez<|yA Mq<|yA h0<|yA Dz<|yA Cv<|yA Dj<|yA Gw<|Kw
 refine CtM.go Try.func40 rfl Try.ntmps40 Try.results40 fun w0 ro may fx zZ zhZ=>?_
 refine (fun zX=>goW) ?_
 refine Zq (id:=3) mixed fun zE zhE=>?_
 refine Aq (p:=0) 4 [17,18,19,20] [0,0,1,0,15,31,63,31] [] rfl (by kernel_rfl) rfl (by simp only [go_sem]) fun zR zK zhR zhK=>?_
 simp only [go_sem,F0]
 repeat' (first|apply yA|intro _)
 refine zhK _ _ trivial (zhR _ ?_)
 refine Cz 1 5 rfl (by kernel_rfl) rfl rfl fun zR zhR=>?_
 simp only [go_sem,F0]
 repeat' (first|apply yA|intro _)
 refine zhR _ ?_
 refine Aq (p:=5) 8 [22] [0,0,1,0,15,31,63,31] [(0,2),(1,2)] rfl (by kernel_rfl) rfl (by simp only [go_sem]) fun zR zK zhR zhK=>?_
 simp only [go_sem,F0]
 repeat' (first|apply yA|intro _)
 refine zhK _ _ ?_ (zhR _ ?_)
 focus (first|trivial|(simp only [go_sem];done)|(simp only [go_sem];simp;done)|(simp only [go_sem];simp;simp only [go_sem]))
 refine Gv rfl (zhE _ ?_)
 exact goW
theorem m1r (mx:List Aw) (hmx:mx.length≤1000000) (h0:(0:Int)<((mx.length:Nat):Int)) (t:Aw):
 CtM Try.prog 40 [Gj t,.w (.one (.p 500000 [])),.w (.one (.p 500002 [])),.w (.one (.p 500003 []))] [(500000,⟨false,[.s 500001 [] mx.length 4]⟩),(500001,⟨true,pls (Ay mx).flatten⟩),(500002,⟨false,[.fn 39 [500000]]⟩),(500003,⟨false,[(.pl (.R true 1 []))]⟩)] (Told (fun v m=>v=.tup []∧m=[(500000,⟨false,[.s 500001 [] mx.length 4]⟩),(500001,⟨true,pls (Ay mx).flatten⟩),(500002,⟨false,[.fn 39 [500000]]⟩),(500003,⟨false,[(.s 21 [] 1 4)]⟩),(21,⟨true,pls (f0x (Gq 2 mx) 100 t).cells⟩)])):=by
 skip
 have F0:=yA Ij<|yA Dy<|yA Fq<|yA Ez<|yA Mq<|yA h0<|yA Dz<|yA Cv<|yA Dj<|yA Gw<|Kw
 refine CtM.go Try.func40 rfl Try.ntmps40 Try.results40 fun w0 ro may fx zZ zhY=>?_
 refine (fun zX=>goW) ?_
 refine Zq (id:=2) mixed fun zE zhE=>?_
 refine Aq (p:=0) 7 [8,9,10,11,12,13,14] [0,1,0,4,12,31,0,127,255,511] [] rfl (by kernel_rfl) rfl (by simp only [go_sem]) fun zR zK zhR zhK=>?_
 simp only [go_sem,F0]
 repeat' (first|apply yA|intro _)
 all_goals (refine r0w (m:=s1g mx) (vs:=[.w (.one (.pl (.i 2)))]) (ks:=[500000]) (caps:=[500000]) rfl [(500000,500000),(500001,500001)] (Gj (Gq 2 mx)) ?_ ?_ (fun _ _=>rfl) ?_ rfl ?_ ?_ ?_ (c2s 2 mx hmx).told ?_ ⟨t0i _,t0j⟩ (fun S=>n1m mx _ S) rfl ?_;(iterate 7 (focus (first|rfl|(simp only [go_sem,i1s,s1g,F0]<;>first|done|rfl|simp)|(simp [s1g,i1s,go_sem,Mj,c0t,Rx,look,F0];done)))))
 all_goals try (refine yA ?_ ?_<;>first|rfl|(simp only [go_sem,F0];done))
 all_goals simp only [go_sem,F0]
 all_goals repeat' (first|apply yA|intro _)
 all_goals (refine Iz false (fun k=>k) (Gj (Fv 100)) [] (fun _ _=>rfl) ?_ ?_ ?_ ((c0e 100).plain fun _ _ h=>h).hands ?_ ?_;(iterate 2 (focus (first|rfl|(simp only [go_sem,F0]<;>first|done|rfl|simp))));(first|kernel_rfl|rfl|simp [l0e,l0f,pls]))
 all_goals try (refine yA ?_ (yA ?_ (yA ?_ ?_))<;>(first|rfl|(simp only [go_sem,F0];done)|(simp [go_sem,look,F0];done)))
 all_goals (try simp only [go_sem,F0])
 all_goals (try simp only [go_sem,F0])
 all_goals repeat' (first|apply yA|intro _)
 refine zhK _ _ trivial (zhR _ ?_)
 refine Cz 3 10 rfl (by kernel_rfl) rfl rfl fun zR zhR=>?_
 simp only [go_sem,F0]
 repeat' (first|apply yA|intro _)
 refine zhR _ ?_
 refine Gv rfl (zhE _ ?_)
 refine (fun zX=>goW) ?_
 refine Zq (id:=3) mixed fun zE zhE=>?_
 refine Aq (p:=0) 4 [17,18,19,20] [0,0,1,0,15,31,63,31] [] rfl (by kernel_rfl) rfl (by simp only [go_sem]) fun zR zK zhR zhK=>?_
 simp only [go_sem,F0]
 repeat' (first|apply yA|intro _)
 refine zhK _ _ trivial (zhR _ ?_)
 refine Cz 1 5 rfl (by kernel_rfl) rfl rfl fun zR zhR=>?_
 simp only [go_sem,F0]
 repeat' (first|apply yA|intro _)
 refine zhR _ ?_
 refine Aq (p:=5) 8 [22] [0,0,1,0,15,31,63,31] [(0,2),(1,2)] rfl (by kernel_rfl) rfl (by simp only [go_sem]) fun zR zK zhR zhK=>?_
 simp only [go_sem,F0]
 repeat' (first|apply yA|intro _)
 refine zhK _ _ ?_ (zhR _ ?_)
 focus (first|trivial|(simp only [go_sem];done)|(simp only [go_sem];simp;done)|(simp only [go_sem];simp;simp only [go_sem]))
 refine Gv rfl (zhE _ ?_)
 refine zhY _ _ ?_
 simp only [go_sem,F0]
 all_goals (trace_state;refine b0n 15 (b:=true) (Ay [Gq 2 mx,Fv 100,t]).flatten (by rw [flat3];simp [look]) (by decide) ?_;refine Vv (m2:=[(500000,⟨false,[.s 500001 [] mx.length 4]⟩),(500001,⟨true,pls (Ay mx).flatten⟩),(500002,⟨false,[.fn 39 [500000]]⟩),(500003,⟨false,[(.s 21 [] 1 4)]⟩),(21,⟨true,pls (f0x (Gq 2 mx) 100 t).cells⟩)]) ?_ ⟨rfl,by simp [pls]⟩;intro y hy;simp only [yT,List.not_mem_nil,or_false] at hy;rcases hy with rfl|rfl|rfl|rfl|rfl<;>(try simp only [j0s,look,xK,yM,wC,Vj,l0s,e0f,s0x,Nat.reduceEqDiff,if_true,if_false,Nat.reduceLT,reduceIte])<;>simp [look,f0q,Vj,f0x,h0h,pls])
theorem m1s (mx:List Aw) (hmx:mx.length≤1000000) (h0:¬(0:Int)<((mx.length:Nat):Int)) (t:Aw) (n:Nat) (hn:n≤1000000) (cs:List PL) (hcs:cs.length=n*4):
 CtM Try.prog 40 [Gj t,.w (.one (.p 500000 [])),.w (.one (.p 500002 [])),.w (.one (.p 500003 []))] [(500000,⟨false,[.s 500001 [] mx.length 4]⟩),(500001,⟨true,pls (Ay mx).flatten⟩),(500002,⟨false,[.fn 39 [500000]]⟩),(500003,⟨false,[(.s 750001 [] n 4)]⟩),(750001,⟨true,pls cs⟩)] (Told (fun v m=>v=.tup []∧m=[(500000,⟨false,[.s 500001 [] mx.length 4]⟩),(500001,⟨true,pls (Ay mx).flatten⟩),(500002,⟨false,[.fn 39 [500000]]⟩),(500003,⟨false,[(.s 750001 [] (n+1) 4)]⟩),(750001,⟨true,pls (cs++t.cells)⟩)])):=by
 have hn1:(n+1)*48≤140737488355328:=by omega
 have hn2:(n+1)*4=n*4+4:=by omega
 have hi0:(0:Int)≤(n:Int):=by omega
 have hi1:(n:Int)<((n+1:Nat):Int):=by omega
 have F0:=yA Ij<|yA Dy<|yA Fq<|yA Ez<|yA Mq<|yA h0<|yA Dz<|yA Cv<|yA Dj<|yA Gw<|yA Kw<|yA hcs<|yA hn1<|yA hn2<|yA hi0<|hi1
 refine CtM.go Try.func40 rfl Try.ntmps40 Try.results40 fun w0 ro may fx zZ zhZ=>?_
 refine (fun zX=>goW) ?_
 refine Zq (id:=3) mixed fun zE zhE=>?_
 refine Aq (p:=0) 4 [17,18,19,20] [0,0,1,0,15,31,63,31] [] rfl (by kernel_rfl) rfl (by simp only [go_sem]) fun zR zK zhR zhK=>?_
 simp only [go_sem,F0]
 repeat' (first|apply yA|intro _)
 refine zhK _ _ trivial (zhR _ ?_)
 refine Cz 1 5 rfl (by kernel_rfl) rfl rfl fun zR zhR=>?_
 simp only [go_sem,F0]
 repeat' (first|apply yA|intro _)
 refine zhR _ ?_
 refine Aq (p:=5) 8 [22] [0,0,1,0,15,31,63,31] [(0,2),(1,2)] rfl (by kernel_rfl) rfl (by simp only [go_sem]) fun zR zK zhR zhK=>?_
 simp only [go_sem,F0]
 repeat' (first|apply yA|intro _)
 refine zhK _ _ ?_ (zhR _ ?_)
 focus (first|trivial|(simp only [go_sem];done)|(simp only [go_sem];simp;done)|(simp only [go_sem];simp;simp only [go_sem]))
 refine Gv rfl (zhE _ ?_)
 exact goW
theorem m1q (mx:List Aw) (hmx:mx.length≤1000000) (h0:(0:Int)<((mx.length:Nat):Int)) (t:Aw) (n:Nat) (hn:n≤1000000) (cs:List PL) (hcs:cs.length=n*4):
 CtM Try.prog 40 [Gj t,.w (.one (.p 500000 [])),.w (.one (.p 500002 [])),.w (.one (.p 500003 []))] [(500000,⟨false,[.s 500001 [] mx.length 4]⟩),(500001,⟨true,pls (Ay mx).flatten⟩),(500002,⟨false,[.fn 39 [500000]]⟩),(500003,⟨false,[(.s 750001 [] n 4)]⟩),(750001,⟨true,pls cs⟩)] (Told (fun v m=>v=.tup []∧m=[(500000,⟨false,[.s 500001 [] mx.length 4]⟩),(500001,⟨true,pls (Ay mx).flatten⟩),(500002,⟨false,[.fn 39 [500000]]⟩),(500003,⟨false,[(.s 750001 [] (n+1) 4)]⟩),(750001,⟨true,pls (cs++(f0x (Gq 2 mx) (100+(n:Int)) t).cells)⟩)])):=by
 have hn1:(n+1)*48≤140737488355328:=by omega
 have hn2:(n+1)*4=n*4+4:=by omega
 have hi0:(0:Int)≤(n:Int):=by omega
 have hi1:(n:Int)<((n+1:Nat):Int):=by omega
 have hw:Go.RowKit.wrap64 (100+(n:Int))=100+(n:Int):=w64 (by omega)
 have F0:=yA Ij<|yA Dy<|yA Fq<|yA Ez<|yA Mq<|yA h0<|yA Dz<|yA Cv<|yA Dj<|yA Gw<|yA Kw<|yA hcs<|yA hn1<|yA hn2<|yA hi0<|yA hi1<|hw
 refine CtM.go Try.func40 rfl Try.ntmps40 Try.results40 fun w0 ro may fx zZ zhY=>?_
 refine (fun zX=>goW) ?_
 refine Zq (id:=2) mixed fun zE zhE=>?_
 refine Aq (p:=0) 7 [8,9,10,11,12,13,14] [0,1,0,4,12,31,0,127,255,511] [] rfl (by kernel_rfl) rfl (by simp only [go_sem]) fun zR zK zhR zhK=>?_
 simp only [go_sem,F0]
 repeat' (first|apply yA|intro _)
 all_goals (refine r0w (m:=s1g mx) (vs:=[.w (.one (.pl (.i 2)))]) (ks:=[500000]) (caps:=[500000]) rfl [(500000,500000),(500001,500001)] (Gj (Gq 2 mx)) ?_ ?_ (fun _ _=>rfl) ?_ rfl ?_ ?_ ?_ (c2s 2 mx hmx).told ?_ ⟨t0i _,t0j⟩ (fun S=>n1m mx _ S) rfl ?_;(iterate 7 (focus (first|rfl|(simp only [go_sem,i1s,s1g,F0]<;>first|done|rfl|simp)|(simp [s1g,i1s,go_sem,Mj,c0t,Rx,look,F0];done)))))
 all_goals try (refine yA ?_ ?_<;>first|rfl|(simp only [go_sem,F0];done))
 all_goals simp only [go_sem,F0]
 all_goals repeat' (first|apply yA|intro _)
 all_goals (refine Iz false (fun k=>k) (Gj (Fv (100+(n:Int)))) [] (fun _ _=>rfl) ?_ ?_ ?_ ((c0e (100+(n:Int))).plain fun _ _ h=>h).hands ?_ ?_;(iterate 2 (focus (first|rfl|(simp only [go_sem,F0]<;>first|done|rfl|simp))));(first|kernel_rfl|rfl|simp [l0e,l0f,pls]))
 all_goals try (refine yA ?_ (yA ?_ (yA ?_ ?_))<;>(first|rfl|(simp only [go_sem,F0];done)|(simp [go_sem,look,F0];done)))
 all_goals (try simp only [go_sem,F0])
 all_goals (try simp only [go_sem,F0])
 all_goals repeat' (first|apply yA|intro _)
 refine zhK _ _ trivial (zhR _ ?_)
 refine Cz 3 10 rfl (by kernel_rfl) rfl rfl fun zR zhR=>?_
 simp only [go_sem,F0]
 repeat' (first|apply yA|intro _)
 refine zhR _ ?_
 refine Gv rfl (zhE _ ?_)
 refine (fun zX=>goW) ?_
 refine Zq (id:=3) mixed fun zE zhE=>?_
 refine Aq (p:=0) 4 [17,18,19,20] [0,0,1,0,15,31,63,31] [] rfl (by kernel_rfl) rfl (by simp only [go_sem]) fun zR zK zhR zhK=>?_
 simp only [go_sem,F0]
 repeat' (first|apply yA|intro _)
 refine zhK _ _ trivial (zhR _ ?_)
 refine Cz 1 5 rfl (by kernel_rfl) rfl rfl fun zR zhR=>?_
 simp only [go_sem,F0]
 repeat' (first|apply yA|intro _)
 refine zhR _ ?_
 refine Aq (p:=5) 8 [22] [0,0,1,0,15,31,63,31] [(0,2),(1,2)] rfl (by kernel_rfl) rfl (by simp only [go_sem]) fun zR zK zhR zhK=>?_
 simp only [go_sem,F0]
 repeat' (first|apply yA|intro _)
 refine zhK _ _ ?_ (zhR _ ?_)
 focus (first|trivial|(simp only [go_sem];done)|(simp only [go_sem];simp;done)|(simp only [go_sem];simp;simp only [go_sem]))
 refine Gv rfl (zhE _ ?_)
 refine zhY _ _ ?_
 simp only [go_sem,F0]
 all_goals (trace_state;refine b0n 15 (b:=true) (Ay [Gq 2 mx,Fv (100+(n:Int)),t]).flatten (by rw [flat3];simp [look]) (by decide) ?_;refine Vv (m2:=[(500000,⟨false,[.s 500001 [] mx.length 4]⟩),(500001,⟨true,pls (Ay mx).flatten⟩),(500002,⟨false,[.fn 39 [500000]]⟩),(500003,⟨false,[(.s 750001 [] (n+1) 4)]⟩),(750001,⟨true,pls (cs++(f0x (Gq 2 mx) (100+(n:Int)) t).cells)⟩)]) ?_ ⟨rfl,by simp [pls]⟩;intro y hy;simp only [yT,List.not_mem_nil,or_false] at hy;rcases hy with rfl|rfl|rfl|rfl|rfl<;>(try simp only [j0s,look,xK,yM,wC,Vj,l0s,e0f,s0x,Nat.reduceEqDiff,if_true,if_false,Nat.reduceLT,reduceIte])<;>simp [look,f0q,Vj,f0x,h0h,pls])
end Go.Sy
namespace Go.Sy
open Go.Proofs
def rtM (o:Nat) (s:Ik):List (Nat×Ob):=(500000,⟨false,[.s 500001 [] s.mx.length 4]⟩)::(500001,⟨true,pls (Ay s.mx).flatten⟩)::(500002,⟨false,[.fn 39 [500000]]⟩)::(500003,⟨false,[j2f o s.out]⟩)::j2e o s.out
theorem m1u {o:Nat} {s:Ik} (h:s.out=[]):rtM o s=[(500000,⟨false,[.s 500001 [] s.mx.length 4]⟩),(500001,⟨true,pls (Ay s.mx).flatten⟩),(500002,⟨false,[.fn 39 [500000]]⟩),(500003,⟨false,[.pl (.R true 1 [])]⟩)]:=by
 rw [rtM,h];rfl
theorem i0s {o:Nat} {s:Ik} (h:s.out≠[]):rtM o s=[(500000,⟨false,[.s 500001 [] s.mx.length 4]⟩),(500001,⟨true,pls (Ay s.mx).flatten⟩),(500002,⟨false,[.fn 39 [500000]]⟩),(500003,⟨false,[.s o [] s.out.length 4]⟩),(o,⟨true,pls (Ay s.out).flatten⟩)]:=by
 rw [rtM,n0s h,n0r h]
theorem u0u {s:Ik} {x:Aw} {o:Nat}:(fun (v:V) (m:List (Nat×Ob))=>v=.tup []∧m=rtM o {s with out:=s.out++[x]})=(fun v m=>v=.tup []∧m=[(500000,⟨false,[.s 500001 [] s.mx.length 4]⟩),(500001,⟨true,pls (Ay s.mx).flatten⟩),(500002,⟨false,[.fn 39 [500000]]⟩),(500003,⟨false,[.s o [] (s.out.length+1) 4]⟩),(o,⟨true,pls ((Ay s.out).flatten++x.cells)⟩)]):=by
 rw [i0s (by simp)];simp [Jw]
theorem f1b (s:Ik) (t:Aw) (hmx:s.mx.length≤1000000) (hn:s.out.length≤1000000):CtM Try.prog 40 [Gj t,.w (.one (.p 500000 [])),.w (.one (.p 500002 [])),.w (.one (.p 500003 []))] (rtM 750001 s) (fun v m=>v=.tup []∧m=rtM (a1n s 21) (s.tell t)):=by
 obtain ⟨mx,ps,out⟩:=s
 rw [a1x]
 have hc:(Ay out).flatten.length=out.length*4:=Mq out
 have hmx:mx.length≤1000000:=hmx
 have hn:out.length≤1000000:=hn
 have h0:¬(0:Int)<((([]:List Aw).length:Nat):Int):=by simp
 have h1: ∀ (a:Aw) (r:List Aw),(0:Int)<(((a::r).length:Nat):Int):=fun a r=>by simp only [yH];omega
 cases out with
 |nil=>
  cases mx with
  |nil=>refine (m1t [] hmx h0 t).told.eq rfl rfl ?_;rw [u0u];rfl
  |cons a r=>refine (m1r (a::r) hmx (h1 a r) t).told.eq rfl rfl ?_;rw [u0u];rfl
 |cons b l=>
  cases mx with
  |nil=>refine (m1s [] hmx h0 t (b::l).length hn _ hc).told.eq rfl rfl ?_;rw [u0u];rfl
  |cons a r=>refine (m1q (a::r) hmx (h1 a r) t (b::l).length hn _ hc).told.eq rfl rfl ?_;rw [u0u];rfl
end Go.Sy
namespace Go.Sy
open Go.Proofs
attribute [local irreducible] Cj HT Bv Rj onC onE onO onG goV goA goS Tj Ck
@[go_sem] theorem zc67 :Ox Try.prog 67=some (L.pl (.val .nilFunc)::[]):=by kernel_rfl
def rM (s:Ik):List (Nat×Ob):=(5,⟨false,[.s 29 [] s.mx.length 4]⟩)::(29,⟨true,pls (Ay s.mx).flatten⟩)::(6,⟨false,[.fn 39 [5]]⟩)::(7,⟨false,[j2f 111 s.out]⟩)::j2e 111 s.out
theorem b0p {s:Ik} (h:s.out=[]):rM s=[(5,⟨false,[.s 29 [] s.mx.length 4]⟩),(29,⟨true,pls (Ay s.mx).flatten⟩),(6,⟨false,[.fn 39 [5]]⟩),(7,⟨false,[.pl (.R true 1 [])]⟩)]:=by
 rw [rM,h];rfl
theorem Tx {s:Ik} (h:s.out≠[]):rM s=[(5,⟨false,[.s 29 [] s.mx.length 4]⟩),(29,⟨true,pls (Ay s.mx).flatten⟩),(6,⟨false,[.fn 39 [5]]⟩),(7,⟨false,[.s 111 [] s.out.length 4]⟩),(111,⟨true,pls (Ay s.out).flatten⟩)]:=by
 rw [rM,n0s h,n0r h]
def rN (mx:List Aw):List (Nat×Ob):=[(5,⟨false,[.s 29 [] mx.length 4]⟩),(29,⟨true,pls (Ay mx).flatten⟩),(6,⟨false,[.fn 39 [5]]⟩),(7,⟨false,[.pl (.R true 1 [])]⟩)]
theorem w1m :rN []=[(5,⟨false,[.s 29 [] 0 4]⟩),(29,⟨true,[]⟩),(6,⟨false,[.fn 39 [5]]⟩),(7,⟨false,[.pl (.R true 1 [])]⟩)]:=rfl
theorem p2i (mx:List Aw):rM ⟨mx,0,[]⟩=rN mx:=rfl
theorem t1a (pk:Bool) (w:Int) (s:Ik) (t:Int):(s.token pk w t).mx.length≤s.mx.length+1:=by
 unfold Ik.token
 split
 ·simp only;split<;>simp [Ik.mix]
 split
 ·simp [Ik.tell]
 repeat' (first|split|(simp [Ik.mix];done))
theorem k1o (s:Ik) (t:Aw):(s.tell t).mx=s.mx:=rfl
theorem Hq.split_ {α β:Type} {R:α→β→Prop}: ∀ {l l':List α} {m:List β},Hq R (l++l') m→∃ m1 m2,m=m1++m2∧Hq R l m1∧Hq R l' m2
 | [],_,m,h=>⟨[],m,rfl,.nil,h⟩
 |a::l,l',_,.cons h hs=>by
  obtain ⟨m1,m2,rfl,h1,h2⟩:=Hq.split_ (l:=l) hs
  exact ⟨_::m1,m2,rfl,.cons h h1,h2⟩
theorem c0s (c:List L) (k i o:Int) (d:Va) (vals:List Value) (h:Hq (L.den d) (c++[.pl (.i k),.pl (.i i),.pl (.i o),.pl (.R true 1 [])]) vals):Hq (L.den d) (c++pls (Aw.mk k i o []).cells) vals:=by
 obtain ⟨m1,m2,rfl,h1,h2⟩:=Hq.split_ h
 refine h1.append ?_
 have e:pls (Aw.mk k i o []).cells=[.pl (.i k),.pl (.i i),.pl (.i o),.pl (.R false 4 [])]:=by rw [Aw.cells,Ay];rfl
 rw [e]
 cases h2 with
 |cons h1 h2=>cases h2 with
  |cons h3 h2=>cases h2 with
   |cons h4 h2=>cases h2 with
    |cons h5 h2=>exact .cons h1 (.cons h3 (.cons h4 (.cons (g1t h5) h2)))
theorem w3 {w:Int} (h:0≤w∧w≤1):Go.RowKit.wrap64 (3+w)=3+w:=w64 (by omega)
theorem w1 {w:Int} (h:0≤w∧w≤1):Go.RowKit.wrap64 (1+w)=1+w:=w64 (by omega)
theorem w10 {q:Nat} (h:q≤1000):Go.RowKit.wrap64 (10+(q:Int))=10+(q:Int):=w64 (by omega)
theorem wS {q:Nat} (h:q≤1000):Go.RowKit.wrap64 ((q:Int)+1)=((q+1:Nat):Int):=b0l (by omega) (by omega)
theorem cap4 {n:Nat} (h:n≤1000000):(n+1)*48≤140737488355328:=by omega
theorem p1s (x:Aw):(Ay [x]).flatten=x.cells:=by simp [Ay]
theorem r0d (n:Nat):(n+1)*4=n*4+4:=by omega
theorem q0w (n:Nat):((n:Nat):Int)<((n+1:Nat):Int):=by omega
theorem r2b {a s j n:Nat} (h1:a≤s+j) (h2:j≤n) (h3:n≤6) (h4:s≤6):a≤1000000:=by omega
theorem q2g {a s j n i t:Nat} (h1:a≤s+j) (h2:j≤n) (h3:n≤6) (h4:s≤12+6*i) (h5:i<t) (h6:t≤5):a≤1000000:=by omega
theorem r2a {a q s n i:Nat} (h0:a=q) (h1:q≤s+n) (h3:n≤6) (h4:s≤12+6*i):a≤12+6*(i+1):=by omega
theorem Vz (pk wb:Bool) (s0 s:Ik) {S':Ik} {l:List Int} {x:Int} {i j t:Nat} (hx:l.getD j 0=x) (glt:j<l.length) (hl:l.length≤6) (g4:Ik.turn pk (Hz wb) s (l.drop j)=S') (g5:s.out.length≤s0.out.length+j) (g6:s.ps≤s0.ps+j) (g7:s.mx.length≤s0.mx.length+j) (h5:s0.out.length≤7*i) (h6:s0.ps≤6*i) (h8:s0.mx.length≤12+6*i) (hlt:i<t) (ht:t≤5):
 ((j:Nat):Int)<((l.length:Nat):Int)∧(0:Int)≤(j:Int)∧(Kq l).getD j []=[.i x]∧Go.RowKit.wrap64 ((j:Int)+1)=((j+1:Nat):Int)∧Ik.turn pk (Hz wb) (s.token pk (Hz wb) x) (l.drop (j+1))=S'∧s.out.length≤1000000∧s.ps≤1000∧s.mx.length≤1000000∧(s.token pk (Hz wb) x).out.length≤s0.out.length+(j+1)∧(s.token pk (Hz wb) x).ps≤s0.ps+(j+1)∧(s.token pk (Hz wb) x).mx.length≤s0.mx.length+(j+1):=by
 rw [Ak (z:=0) glt,Ik.turn,hx] at g4
 refine ⟨h0g glt,Zy j,hx▸Bj glt,Ov glt (yJ hl (by decide)),g4,s1i g5 (xV glt) hl h5 hlt ht,o2a g6 (xV glt) hl h6 hlt ht,q2g g7 (xV glt) hl h8 hlt ht,yJ (d0i _ _ _ _) (xH g5),yJ (g0u _ _ _ _) (xH g6),yJ (t1a _ _ _ _) (xH g7)⟩
theorem x1w (s:Ik) (r:List (Nat×Ob)):look (rM s++r) 1=look r 1:=by
 by_cases h:s.out=[]
 ·rw [b0p h];simp [look]
 rw [Tx h];simp [look]
theorem bnd8 {a s n:Nat} (h1:a≤s+n) (h3:n≤6) (h4:s≤6):a≤12:=by omega
theorem k1j {R:V→List (Nat×Ob)→Prop} {m:List (Nat×Ob)} {b:Bool} {k:Nat} {v:V} {c:List L} (h:R v [(k,⟨b,c⟩)]) (hk:look m k=some ⟨b,c⟩):Told R v m:=
 Vv (m2:=[(k,⟨b,c⟩)]) (by simpa using hk) h
theorem m1p (bs:List UInt8) (lt:Bool) (ps:List (List PL)) (p0 p1:List Int) (ts:List (List Int)) (e:Int) (he:¬e=0) (hC:Ct Try.prog 38 [.w (.agg (Ow bs lt ps p0 p1 ts))] (fun v m=>v=.w (.one (.pl (.i e))))):
 Ct Try.prog 24 [.w (.agg (Ow bs lt ps p0 p1 ts))] (Told (fun v m=>v=.tup [.one (.pl (.R true 1 [])),.one (.pl (.i e))]∧m=[])):=by
 skip
 have F0:=yA Ow.eq_1<|he
 have cv0:=Ct.cv (hC)
 exact Ct.go Try.func24 rfl Try.ntmps24 Try.results24
theorem i1e (bs:List UInt8) (lt:Bool) (ps:List (List PL)) (p0 p1:List Int) (ts:List (List Int)) (hps:(4:Int)<((ps.length:Nat):Int)) (hC:Ct Try.prog 38 [.w (.agg (Ow bs lt ps p0 p1 ts))] (fun v m=>v=.w (.one (.pl (.i 0))))):
 Ct Try.prog 24 [.w (.agg (Ow bs lt ps p0 p1 ts))] (Told (fun v m=>v=.tup [.one (.pl (.R true 1 [])),.one (.pl (.i 1))]∧m=[])):=by
 skip
 have F0:=yA Ow.eq_1<|hps
 have cv0:=Ct.cv (hC)
 exact Ct.go Try.func24 rfl Try.ntmps24 Try.results24
theorem w1d (bs:List UInt8) (lt:Bool) (ps:List (List PL)) (p0 p1:List Int) (ts:List (List Int)) (pk:Bool) (hpk:decide ((0:Int)<((ps.length:Nat):Int))=pk) (hps:¬(4:Int)<((ps.length:Nat):Int)) (ht5:1≤ts.length∧ts.length≤5) (hrng: ∀ l∈p0::p1::ts,a0d l=0∧l.length≤6) (hC:Ct Try.prog 38 [.w (.agg (Ow bs lt ps p0 p1 ts))] (fun v m=>v=.w (.one (.pl (.i 0))))):
 Ct Try.prog 24 [.w (.agg (Ow bs lt ps p0 p1 ts))] (Told (fun v m=>v=.tup [.one (.s 111 [] (p0k lt pk p0 p1 ts).out.length 4),.one (.pl (.i 0))]∧m=[(111,⟨true,pls (Ay (p0k lt pk p0 p1 ts).out).flatten⟩)])):=by
 have hts:ts.length≤1000000:=by omega
 have hsz0:0<ts.length:=by omega
 have F0:=yA Ow.eq_1<|yA Fx<|yA Fz<|yA Iy<|yA Ij<|yA Dy<|yA Fq<|yA Ez<|yA Mq<|yA Dz<|yA Cv<|yA Dj<|yA Gw<|yA Kw<|yA r0d<|yA q0w<|yA d0d<|yA Oz<|yA p1s<|hps
 have cv0:=Ct.cv (hC)
 have zF:NF:=⟨⟩
 refine Ct.go Try.func24 rfl Try.ntmps24 Try.results24 fun w0 ro zZ zhZ=>?_
 have cq:=yA cv0<|trivial
 have zU:=yA ur<|trivial
 refine (fun zX=>goW) ?_
 refine Nq [(32,.w (.one (.pl (.i 0)))),(10,.w (.one (.pl (.i 0)))),(38,.w (.one (.pl (.R false 1 (Kq p0))))),(39,.w (.one (.pl (.i ((p0.length:Nat):Int))))),(9,.w (.one (.pl (.i 0)))),(1,.w (.one (.p 1 []))),(5,.w (.one (.p 5 []))),(7,.w (.one (.p 7 []))),(8,.w (.one (.fn 40 [5,6,7])))] [(1,⟨false,Ow bs lt ps p0 p1 ts⟩)] (fun y=>[(40,.w (.one (.pl (.i ((y.1.1:Nat):Int)))))]) (fun y=>rN y.1.2) (fun y=>p0.length-y.1.1) (⟨(0,[]),yP _,rfl,yV _⟩:{y:Nat×List Aw//y.1≤p0.length∧i0t pk 0 y.2 (p0.drop y.1)=i0t pk 0 [] p0∧y.2.length≤([]:List Aw).length+y.1}) ?_ (by (simp only [go_sem,leX,yC,yD,F0];try simp)) (by (simp only [go_sem,leX,w1m,yC,yD,F0];try simp))
 intro zz xN0 xM0 xhN0 xhM0
 simp only [yC,yD]
 obtain ⟨⟨j,q0⟩,g1,g4,g5⟩:=zz
 simp only at g1 g4 g5
 have hd:(j<p0.length∧p0.getD j 0=1∧pk=true)∨(j<p0.length∧p0.getD j 0=1∧pk=false)∨(j<p0.length∧¬p0.getD j 0=1)∨j=p0.length:=by
  by_cases h:j<p0.length
  ·by_cases h2:p0.getD j 0=1
   ·rcases Bool.eq_false_or_eq_true pk with hb|hb
    ·exact .inl ⟨h,h2,hb⟩
    exact .inr (.inl ⟨h,h2,hb⟩)
   exact .inr (.inr (.inl ⟨h,h2⟩))
  exact .inr (.inr (.inr (xJ g1 (wM h))))
 rcases hd with ⟨glt,hx,hb⟩|⟨glt,hx,hb⟩|⟨glt,hx⟩|rfl
 ·have gcq:=h0g glt
  have gj:=Zy j
  have gg:=Bj glt
  rw [Ak (z:=0) glt,i0t] at g4
  simp only [Int.reduceAdd,vI] at g4
  have gs1:=Ov glt (yJ (hrng p0 (by simp)).2 (by decide))
  rw [if_pos ⟨hx,hb⟩] at g4
  rw [hx] at gg
  have hq:(0:Int)<((ps.length:Nat):Int):=of_decide_eq_true (hpk.trans hb)
  have hn:=r2b g5 (xV glt) (hrng p0 (by simp)).2 (yP 6)
  have hn1:=cap4 hn
  have hi0:=Zy q0.length
  have F0:=yA gcq<|yA gj<|yA glt<|yA gg<|yA gs1<|yA hq<|yA hn1<|yA hi0<|yA rN.eq_1<|yA Jw<|F0
  have zU:=trivial
  refine (fun zX=>goW) ?_
  refine Zq (id:=18) mixed fun zE zhE=>?_
  refine Aq (p:=0) 6 [52,53,54,55,56,57] [0,0,2,6,1,0,63,127,255,127] [] rfl (by kernel_rfl) rfl (by simp only [go_sem]) fun zR zK zhR zhK=>?_
  simp only [go_sem,F0]
  repeat' (first|apply yA|intro _)
  all_goals (refine Iz false (fun k=>k) (Gj (Mv 3)) [] (fun _ _=>rfl) ?_ ?_ ?_ ((c0m 3).plain fun _ _ h=>h).hands ?_ ?_;(iterate 2 (focus (first|rfl|(simp only [go_sem,F0]<;>first|done|rfl|simp))));(first|kernel_rfl|rfl|simp [l0e,l0f,pls]))
  all_goals try (refine yA ?_ (yA ?_ (yA ?_ ?_))<;>(first|rfl|(simp only [go_sem,F0];done)|(simp [go_sem,look,F0];done)))
  all_goals (try simp only [go_sem,F0])
  all_goals (try simp only [go_sem,F0])
  all_goals repeat' (first|apply yA|intro _)
  refine zhK _ _ trivial (zhR _ ?_)
  refine Cz 1 7 rfl (by kernel_rfl) rfl rfl fun zR zhR=>?_
  simp only [go_sem,F0]
  repeat' (first|apply yA|intro _)
  refine zhR _ ?_
  refine Aq (p:=7) 10 [59] [0,0,2,6,1,0,63,127,255,127] [(0,2),(1,2)] rfl (by kernel_rfl) rfl (by simp only [go_sem]) fun zR zK zhR zhK=>?_
  simp only [go_sem,F0]
  repeat' (first|apply yA|intro _)
  refine zhK _ _ ?_ (zhR _ ?_)
  focus (first|trivial|(simp only [go_sem];done)|(simp only [go_sem];simp;done)|(simp only [go_sem];simp;simp only [go_sem]))
  refine Gv rfl (zhE _ ?_)
  have zL:=fun S2=>xhN0 ⟨(j+1,q0++[(Mv 3)]),glt,g4,by rw [yL];exact xH g5⟩ S2 (by exact yB glt (yE j))
  exact goW
 ·have gcq:=h0g glt
  have gj:=Zy j
  have gg:=Bj glt
  rw [Ak (z:=0) glt,i0t] at g4
  simp only [Int.reduceAdd,vI] at g4
  have gs1:=Ov glt (yJ (hrng p0 (by simp)).2 (by decide))
  rw [if_neg (by simp [hb])] at g4
  rw [hx] at gg
  have hq:¬(0:Int)<((ps.length:Nat):Int):=of_decide_eq_false (hpk.trans hb)
  have F0:=yA gcq<|yA gj<|yA glt<|yA gg<|yA gs1<|yA hq<|yA rN.eq_1<|F0
  have zL:=fun S2=>xhN0 ⟨(j+1,q0),glt,g4,vM g5⟩ S2 (by exact yB glt (yE j))
  exact goW
 ·have gcq:=h0g glt
  have gj:=Zy j
  have gg:=Bj glt
  rw [Ak (z:=0) glt,i0t] at g4
  simp only [Int.reduceAdd,vI] at g4
  have gs1:=Ov glt (yJ (hrng p0 (by simp)).2 (by decide))
  rw [if_neg (fun h=>hx h.1)] at g4
  have F0:=yA gcq<|yA gj<|yA glt<|yA gg<|yA gs1<|yA hx<|yA rN.eq_1<|F0
  have zL:=fun S2=>xhN0 ⟨(j+1,q0),glt,g4,vM g5⟩ S2 (by exact yB glt (yE j))
  exact goW
 rw [yG,i0t] at g4
 have gcq:=d0p (n:=p0.length)
 have hq0:=g4
 have hl0:=yJ g5 ((wY p0.length).symm▸(hrng p0 (by simp)).2)
 have F0:=yA gcq<|yA rN.eq_1<|F0
 have zU:=trivial
 refine (fun zX=>goW) ?_
 refine Nq [(32,.w (.one (.pl (.i 1)))),(10,.w (.one (.pl (.i 1)))),(38,.w (.one (.pl (.R false 1 (Kq p1))))),(39,.w (.one (.pl (.i ((p1.length:Nat):Int))))),(9,.w (.one (.pl (.i 0)))),(1,.w (.one (.p 1 []))),(5,.w (.one (.p 5 []))),(7,.w (.one (.p 7 []))),(8,.w (.one (.fn 40 [5,6,7])))] [(1,⟨false,Ow bs lt ps p0 p1 ts⟩)] (fun y=>[(40,.w (.one (.pl (.i ((y.1.1:Nat):Int)))))]) (fun y=>rN y.1.2) (fun y=>p1.length-y.1.1) (⟨(0,q0),yP _,rfl,yV _⟩:{y:Nat×List Aw//y.1≤p1.length∧i0t pk 1 y.2 (p1.drop y.1)=i0t pk 1 q0 p1∧y.2.length≤(q0:List Aw).length+y.1}) ?_ (by (simp only [go_sem,leX,yC,yD,F0];try simp)) (by (simp only [go_sem,leX,rN.eq_1,yC,yD,F0];try simp))
 intro zz xN1 xM1 xhN1 xhM1
 simp only [yC,yD]
 obtain ⟨⟨j,q1⟩,g1,g4,g5⟩:=zz
 simp only at g1 g4 g5
 have hd:(j<p1.length∧p1.getD j 0=1∧pk=true)∨(j<p1.length∧p1.getD j 0=1∧pk=false)∨(j<p1.length∧¬p1.getD j 0=1)∨j=p1.length:=by
  by_cases h:j<p1.length
  ·by_cases h2:p1.getD j 0=1
   ·rcases Bool.eq_false_or_eq_true pk with hb|hb
    ·exact .inl ⟨h,h2,hb⟩
    exact .inr (.inl ⟨h,h2,hb⟩)
   exact .inr (.inr (.inl ⟨h,h2⟩))
  exact .inr (.inr (.inr (xJ g1 (wM h))))
 rcases hd with ⟨glt,hx,hb⟩|⟨glt,hx,hb⟩|⟨glt,hx⟩|rfl
 ·have gcq:=h0g glt
  have gj:=Zy j
  have gg:=Bj glt
  rw [Ak (z:=0) glt,i0t] at g4
  simp only [Int.reduceAdd,vI] at g4
  have gs1:=Ov glt (yJ (hrng p1 (by simp)).2 (by decide))
  rw [if_pos ⟨hx,hb⟩] at g4
  rw [hx] at gg
  have hq:(0:Int)<((ps.length:Nat):Int):=of_decide_eq_true (hpk.trans hb)
  have hn:=r2b g5 (xV glt) (hrng p1 (by simp)).2 hl0
  have hn1:=cap4 hn
  have hi0:=Zy q1.length
  have F0:=yA gcq<|yA gj<|yA glt<|yA gg<|yA gs1<|yA hq<|yA hn1<|yA hi0<|yA rN.eq_1<|yA Jw<|F0
  have zU:=trivial
  refine (fun zX=>goW) ?_
  refine Zq (id:=18) mixed fun zE zhE=>?_
  refine Aq (p:=0) 6 [52,53,54,55,56,57] [0,0,2,6,1,0,63,127,255,127] [] rfl (by kernel_rfl) rfl (by simp only [go_sem]) fun zR zK zhR zhK=>?_
  simp only [go_sem,F0]
  repeat' (first|apply yA|intro _)
  all_goals (refine Iz false (fun k=>k) (Gj (Mv 4)) [] (fun _ _=>rfl) ?_ ?_ ?_ ((c0m 4).plain fun _ _ h=>h).hands ?_ ?_;(iterate 2 (focus (first|rfl|(simp only [go_sem,F0]<;>first|done|rfl|simp))));(first|kernel_rfl|rfl|simp [l0e,l0f,pls]))
  all_goals try (refine yA ?_ (yA ?_ (yA ?_ ?_))<;>(first|rfl|(simp only [go_sem,F0];done)|(simp [go_sem,look,F0];done)))
  all_goals (try simp only [go_sem,F0])
  all_goals (try simp only [go_sem,F0])
  all_goals repeat' (first|apply yA|intro _)
  refine zhK _ _ trivial (zhR _ ?_)
  refine Cz 1 7 rfl (by kernel_rfl) rfl rfl fun zR zhR=>?_
  simp only [go_sem,F0]
  repeat' (first|apply yA|intro _)
  refine zhR _ ?_
  refine Aq (p:=7) 10 [59] [0,0,2,6,1,0,63,127,255,127] [(0,2),(1,2)] rfl (by kernel_rfl) rfl (by simp only [go_sem]) fun zR zK zhR zhK=>?_
  simp only [go_sem,F0]
  repeat' (first|apply yA|intro _)
  refine zhK _ _ ?_ (zhR _ ?_)
  focus (first|trivial|(simp only [go_sem];done)|(simp only [go_sem];simp;done)|(simp only [go_sem];simp;simp only [go_sem]))
  refine Gv rfl (zhE _ ?_)
  have zL:=fun S2=>xhN1 ⟨(j+1,q1++[(Mv 4)]),glt,g4,by rw [yL];exact xH g5⟩ S2 (by exact yB glt (yE j))
  exact goW
 ·have gcq:=h0g glt
  have gj:=Zy j
  have gg:=Bj glt
  rw [Ak (z:=0) glt,i0t] at g4
  simp only [Int.reduceAdd,vI] at g4
  have gs1:=Ov glt (yJ (hrng p1 (by simp)).2 (by decide))
  rw [if_neg (by simp [hb])] at g4
  rw [hx] at gg
  have hq:¬(0:Int)<((ps.length:Nat):Int):=of_decide_eq_false (hpk.trans hb)
  have F0:=yA gcq<|yA gj<|yA glt<|yA gg<|yA gs1<|yA hq<|yA rN.eq_1<|F0
  have zL:=fun S2=>xhN1 ⟨(j+1,q1),glt,g4,vM g5⟩ S2 (by exact yB glt (yE j))
  exact goW
 ·have gcq:=h0g glt
  have gj:=Zy j
  have gg:=Bj glt
  rw [Ak (z:=0) glt,i0t] at g4
  simp only [Int.reduceAdd,vI] at g4
  have gs1:=Ov glt (yJ (hrng p1 (by simp)).2 (by decide))
  rw [if_neg (fun h=>hx h.1)] at g4
  have F0:=yA gcq<|yA gj<|yA glt<|yA gg<|yA gs1<|yA hx<|yA rN.eq_1<|F0
  have zL:=fun S2=>xhN1 ⟨(j+1,q1),glt,g4,vM g5⟩ S2 (by exact yB glt (yE j))
  exact goW
 rw [yG,i0t] at g4
 have gcq:=d0p (n:=p1.length)
 have hq1:=g4
 have hl1:=bnd8 g5 (hrng p1 (by simp)).2 hl0
 have F0:=yA gcq<|yA rN.eq_1<|F0
 have zU:=trivial
 refine (fun zX=>goW) ?_
 refine Nq [(63,.w (.one (.pl (.R false 1 (a0u ts))))),(64,.w (.one (.pl (.i ((ts.length:Nat):Int))))),(1,.w (.one (.p 1 []))),(5,.w (.one (.p 5 []))),(7,.w (.one (.p 7 []))),(8,.w (.one (.fn 40 [5,6,7])))] [(1,⟨false,Ow bs lt ps p0 p1 ts⟩)] (fun y=>[(65,.w (.one (.pl (.i ((y.1.1:Nat):Int))))),(9,.w (.one (.pl (.i ((y.1.2.ps:Nat):Int)))))]) (fun y=>rM y.1.2) (fun y=>ts.length-y.1.1) (⟨(0,⟨q1,0,[]⟩),yP _,rfl,yP _,yP _,hl1,fun h=>absurd h (Nat.lt_irrefl 0)⟩:{y:Nat×Ik//y.1≤ts.length∧Tz lt pk y.1 y.2 (ts.drop y.1)=Tz lt pk 0 ⟨q1,0,[]⟩ ts∧y.2.out.length≤7*y.1∧y.2.ps≤6*y.1∧y.2.mx.length≤12+6*y.1∧(0<y.1→y.2.out≠[])}) ?_ (by (simp only [go_sem,leX,yC,yD,F0];try simp)) (by (simp only [go_sem,leX,p2i,rN.eq_1,yC,yD,F0];try simp))
 intro yy xN2 xM2 xhN2 xhM2
 simp only [yC,yD]
 obtain ⟨⟨i,s⟩,h1,h4,h5,h6,h8,h7⟩:=yy
 simp only at h1 h4 h5 h6 h7 h8
 rcases Nat.lt_or_eq_of_le h1 with hlt|rfl
 all_goals try have hs:=h7 hsz0
 ·have hcq:=h0g hlt
  have hi0:=Zy i
  have hg:=Vq hlt
  obtain ⟨l,hl⟩: ∃ l,ts.getD i []=l:=⟨_,rfl⟩
  have hlm:l∈ts:=hl▸Cw hlt
  have hlr:=hrng l (by simp [hlm])
  obtain ⟨wb,hwb⟩: ∃ wb,d0f lt i=wb:=⟨_,rfl⟩
  rw [Ak (z:=[]) hlt,Tz,hl,hwb] at h4
  rw [hl] at hg
  have hs1:=Ov hlt hts
  have hw20:Go.RowKit.wrap64 (20+(i:Int))=20+(i:Int):=w20 hlt hts
  have F0:=yA hcq<|yA hi0<|yA hlt<|yA hg<|yA hs1<|yA hw20<|yA x1w<|F0
  have zU:=trivial
  have zG:ZG 25:=⟨⟩
  refine (fun zX=>goW) ?_
  refine ⟨?_⟩;clear zG
  refine g0d (fun w=>[(15,.w (.one (.pl (.i (Hz w)))))]) (fun _=>[]) (fun w=>d0f lt i=w) (fun xNj xMj xhNj xhMj=>?_) (fun wc hwc=>?_)
  ·rcases lt with _|_
   ·have hw1:=a1s i
    have F0:=yA hw1<|yA ((Yj (α:=Ob)))<|F0
    have zL:=fun S2=>xhNj (d0f false i) rfl S2
    exact goW
   have hw1:=s1k i
   have hw2:=s1l (d0f true i)
   have F0:=yA hw1<|yA hw2<|yA ((Yj (α:=Ob)))<|F0
   have zL:=fun S2=>xhNj (d0f true i) rfl S2
   exact goW
  rw [hwb] at hwc
  subst hwc
  have zU:=trivial
  refine (fun zX=>goW) ?_
  refine Nq [(65,.w (.one (.pl (.i ((i:Nat):Int))))),(13,.w (.one (.pl (.i ((i:Nat):Int))))),(15,.w (.one (.pl (.i (Hz wb))))),(76,.w (.one (.pl (.R false 1 (Kq l))))),(77,.w (.one (.pl (.i ((l.length:Nat):Int))))),(63,.w (.one (.pl (.R false 1 (a0u ts))))),(64,.w (.one (.pl (.i ((ts.length:Nat):Int))))),(1,.w (.one (.p 1 []))),(5,.w (.one (.p 5 []))),(7,.w (.one (.p 7 []))),(8,.w (.one (.fn 40 [5,6,7])))] [(1,⟨false,Ow bs lt ps p0 p1 ts⟩)] (fun y=>[(78,.w (.one (.pl (.i ((y.1.1:Nat):Int))))),(9,.w (.one (.pl (.i ((y.1.2.ps:Nat):Int)))))]) (fun y=>rM y.1.2) (fun y=>l.length-y.1.1) (⟨(0,s),yP _,rfl,yV _,yV _,yV _⟩:{y:Nat×Ik//y.1≤l.length∧Ik.turn pk (Hz wb) y.2 (l.drop y.1)=Ik.turn pk (Hz wb) s l∧y.2.out.length≤s.out.length+y.1∧y.2.ps≤s.ps+y.1∧y.2.mx.length≤s.mx.length+y.1}) ?_ (by (simp only [go_sem,leX,yC,yD,F0];try simp)) (by (first|exact Yj _|(simp only [go_sem,F0];exact Yj _)))
  intro zz xN3 xM3 xhN3 xhM3
  simp only [yC,yD]
  obtain ⟨⟨j,mx,qs,out⟩,g1,g4,g5,g6,g7⟩:=zz
  simp only at g1 g4 g5 g6 g7
  have hd:(j<l.length∧((l.getD j 0=1∧pk=true)∨(l.getD j 0=1∧pk=false)∨(l.getD j 0=2)∨(l.getD j 0=7)∨(l.getD j 0=3)∨(l.getD j 0=4)∨(l.getD j 0=5)∨(l.getD j 0=6)))∨j=l.length:=by
   rcases Nat.lt_or_eq_of_le g1 with h|h
   ·refine .inl ⟨h,?_⟩
    have hxr:=Dk hlr.1 (l.getD j 0) (Cw h)
    rcases Bool.eq_false_or_eq_true pk with hb|hb
    all_goals (simp only [hb,and_true,and_false];simp only [Bool.true_eq_false,yQ,and_false,or_false,false_or];omega)
   exact .inr h
  by_cases hn:out=[]
  all_goals rcases hd with ⟨glt,⟨hx,hb⟩|⟨hx,hb⟩|hx|hx|hx|hx|hx|hx⟩|rfl
  ·obtain ⟨gcq,gj,gg,gs1,g4,hno,hnp,hnm,k1,k2,k5⟩:=Vz pk wb s ⟨mx,qs,out⟩ hx glt hlr.2 g4 g5 g6 g7 h5 h6 h8 hlt ht5.2
   have hM:=b0p (s:=⟨mx,qs,out⟩) hn
   have hn0:out=[]:=hn
   subst hn0
   have hqk:(0:Int)<((ps.length:Nat):Int):=of_decide_eq_true (hpk.trans hb)
   subst hb
   have hw3:Go.RowKit.wrap64 (3+Hz wb)=3+Hz wb:=w3 (b0m wb)
   have hm1:=cap4 hnm
   have hm0:=Zy mx.length
   have e:Ik.token true (Hz wb) ⟨mx,qs,[]⟩ 1=⟨mx++[(Mv (3+Hz wb))],qs,[(Mv (3+Hz wb))]⟩:=rfl
   rw [e] at g4 k1 k2 k5
   have hE:=Tx (s:=⟨mx++[(Mv (3+Hz wb))],qs,[(Mv (3+Hz wb))]⟩) (by simp)
   have F0:=yA gcq<|yA gj<|yA glt<|yA gg<|yA gs1<|yA hM<|yA hqk<|yA hw3<|yA hm1<|yA hm0<|yA hE<|yA Jw<|F0
   have zU:=trivial
   refine (fun zX=>goW) ?_
   refine Zq (id:=35) mixed fun zE zhE=>?_
   refine Aq (p:=0) 6 [105,106,107,108,109,110] [0,0,2,6,1,0,63,127,255,127] [] rfl (by kernel_rfl) rfl (by simp only [go_sem]) fun zR zK zhR zhK=>?_
   simp only [go_sem,F0]
   repeat' (first|apply yA|intro _)
   all_goals (refine Iz false (fun k=>k) (Gj (Mv (3+Hz wb))) [] (fun _ _=>rfl) ?_ ?_ ?_ ((c0m (3+Hz wb)).plain fun _ _ h=>h).hands ?_ ?_;(iterate 2 (focus (first|rfl|(simp only [go_sem,F0]<;>first|done|rfl|simp))));(first|kernel_rfl|rfl|simp [l0e,l0f,pls]))
   all_goals try (refine yA ?_ (yA ?_ (yA ?_ ?_))<;>(first|rfl|(simp only [go_sem,F0];done)|(simp [go_sem,look,F0];done)))
   all_goals (try simp only [go_sem,F0])
   all_goals (try simp only [go_sem,F0])
   all_goals repeat' (first|apply yA|intro _)
   refine zhK _ _ trivial (zhR _ ?_)
   refine Cz 1 7 rfl (by kernel_rfl) rfl rfl fun zR zhR=>?_
   simp only [go_sem,F0]
   repeat' (first|apply yA|intro _)
   refine zhR _ ?_
   refine Aq (p:=7) 10 [112] [0,0,2,6,1,0,63,127,255,127] [(0,2),(1,2)] rfl (by kernel_rfl) rfl (by simp only [go_sem]) fun zR zK zhR zhK=>?_
   simp only [go_sem,F0]
   repeat' (first|apply yA|intro _)
   refine zhK _ _ ?_ (zhR _ ?_)
   focus (first|trivial|(simp only [go_sem];done)|(simp only [go_sem];simp;done)|(simp only [go_sem];simp;simp only [go_sem]))
   refine Gv rfl (zhE _ ?_)
   have zU:=trivial
   refine (fun zX=>goW) ?_
   refine Zq (id:=37) mixed fun zE zhE=>?_
   refine Aq (p:=0) 6 [117,118,119,120,121,122] [0,0,2,6,1,0,63,127,255,127] [] rfl (by kernel_rfl) rfl (by simp only [go_sem]) fun zR zK zhR zhK=>?_
   simp only [go_sem,F0]
   repeat' (first|apply yA|intro _)
   all_goals (refine Iz false (fun k=>k) (Gj (Mv (3+Hz wb))) [] (fun _ _=>rfl) ?_ ?_ ?_ ((c0m (3+Hz wb)).plain fun _ _ h=>h).hands ?_ ?_;(iterate 2 (focus (first|rfl|(simp only [go_sem,F0]<;>first|done|rfl|simp))));(first|kernel_rfl|rfl|simp [l0e,l0f,pls]))
   all_goals try (refine yA ?_ (yA ?_ (yA ?_ ?_))<;>(first|rfl|(simp only [go_sem,F0];done)|(simp [go_sem,look,F0];done)))
   all_goals (try simp only [go_sem,F0])
   all_goals (try simp only [go_sem,F0])
   all_goals repeat' (first|apply yA|intro _)
   refine zhK _ _ trivial (zhR _ ?_)
   refine Cz 1 7 rfl (by kernel_rfl) rfl rfl fun zR zhR=>?_
   simp only [go_sem,F0]
   repeat' (first|apply yA|intro _)
   refine zhR _ ?_
   refine Aq (p:=7) 10 [124] [0,0,2,6,1,0,63,127,255,127] [(0,2),(1,2)] rfl (by kernel_rfl) rfl (by simp only [go_sem]) fun zR zK zhR zhK=>?_
   simp only [go_sem,F0]
   repeat' (first|apply yA|intro _)
   refine zhK _ _ ?_ (zhR _ ?_)
   focus (first|trivial|(simp only [go_sem];done)|(simp only [go_sem];simp;done)|(simp only [go_sem];simp;simp only [go_sem]))
   refine Gv rfl (zhE _ ?_)
   have zL:=fun S2=>xhN3 ⟨(j+1,⟨mx++[(Mv (3+Hz wb))],qs,[(Mv (3+Hz wb))]⟩),glt,g4,k1,k2,k5⟩ S2 (by exact yB glt (yE j))
   exact goW
  ·obtain ⟨gcq,gj,gg,gs1,g4,hno,hnp,hnm,k1,k2,k5⟩:=Vz pk wb s ⟨mx,qs,out⟩ hx glt hlr.2 g4 g5 g6 g7 h5 h6 h8 hlt ht5.2
   have hM:=b0p (s:=⟨mx,qs,out⟩) hn
   have hn0:out=[]:=hn
   subst hn0
   have hqk:¬(0:Int)<((ps.length:Nat):Int):=of_decide_eq_false (hpk.trans hb)
   subst hb
   have hw3:Go.RowKit.wrap64 (3+Hz wb)=3+Hz wb:=w3 (b0m wb)
   have e:Ik.token false (Hz wb) ⟨mx,qs,[]⟩ 1=⟨mx,qs,[(Mv (3+Hz wb))]⟩:=rfl
   rw [e] at g4 k1 k2 k5
   have hE:=Tx (s:=⟨mx,qs,[(Mv (3+Hz wb))]⟩) (by simp)
   have F0:=yA gcq<|yA gj<|yA glt<|yA gg<|yA gs1<|yA hM<|yA hqk<|yA hw3<|yA hE<|yA Jw<|F0
   have zU:=trivial
   refine (fun zX=>goW) ?_
   refine Zq (id:=35) mixed fun zE zhE=>?_
   refine Aq (p:=0) 6 [105,106,107,108,109,110] [0,0,2,6,1,0,63,127,255,127] [] rfl (by kernel_rfl) rfl (by simp only [go_sem]) fun zR zK zhR zhK=>?_
   simp only [go_sem,F0]
   repeat' (first|apply yA|intro _)
   all_goals (refine Iz false (fun k=>k) (Gj (Mv (3+Hz wb))) [] (fun _ _=>rfl) ?_ ?_ ?_ ((c0m (3+Hz wb)).plain fun _ _ h=>h).hands ?_ ?_;(iterate 2 (focus (first|rfl|(simp only [go_sem,F0]<;>first|done|rfl|simp))));(first|kernel_rfl|rfl|simp [l0e,l0f,pls]))
   all_goals try (refine yA ?_ (yA ?_ (yA ?_ ?_))<;>(first|rfl|(simp only [go_sem,F0];done)|(simp [go_sem,look,F0];done)))
   all_goals (try simp only [go_sem,F0])
   all_goals (try simp only [go_sem,F0])
   all_goals repeat' (first|apply yA|intro _)
   refine zhK _ _ trivial (zhR _ ?_)
   refine Cz 1 7 rfl (by kernel_rfl) rfl rfl fun zR zhR=>?_
   simp only [go_sem,F0]
   repeat' (first|apply yA|intro _)
   refine zhR _ ?_
   refine Aq (p:=7) 10 [112] [0,0,2,6,1,0,63,127,255,127] [(0,2),(1,2)] rfl (by kernel_rfl) rfl (by simp only [go_sem]) fun zR zK zhR zhK=>?_
   simp only [go_sem,F0]
   repeat' (first|apply yA|intro _)
   refine zhK _ _ ?_ (zhR _ ?_)
   focus (first|trivial|(simp only [go_sem];done)|(simp only [go_sem];simp;done)|(simp only [go_sem];simp;simp only [go_sem]))
   refine Gv rfl (zhE _ ?_)
   have zL:=fun S2=>xhN3 ⟨(j+1,⟨mx,qs,[(Mv (3+Hz wb))]⟩),glt,g4,k1,k2,k5⟩ S2 (by exact yB glt (yE j))
   exact goW
  ·obtain ⟨gcq,gj,gg,gs1,g4,hno,hnp,hnm,k1,k2,k5⟩:=Vz pk wb s ⟨mx,qs,out⟩ hx glt hlr.2 g4 g5 g6 g7 h5 h6 h8 hlt ht5.2
   have hM:=b0p (s:=⟨mx,qs,out⟩) hn
   have hn0:out=[]:=hn
   subst hn0
   have hw3:Go.RowKit.wrap64 (1+Hz wb)=1+Hz wb:=w1 (b0m wb)
   have ht:=f1b ⟨mx,qs,[]⟩ (Mv (1+Hz wb)) hnm hno
   have hn2:=i0o ⟨mx,qs,[]⟩ (Mv (1+Hz wb))
   rw [show a1n ⟨mx,qs,[]⟩ 21=21 from if_pos rfl,m1u rfl,i0s hn2] at ht
   have e:Ik.token pk (Hz wb) ⟨mx,qs,[]⟩ 2=(Ik.tell ⟨mx,qs,[]⟩ (Mv (1+Hz wb))):=rfl
   rw [e] at g4 k1 k2 k5
   have hE:=Tx (s:=(Ik.tell ⟨mx,qs,[]⟩ (Mv (1+Hz wb)))) (by exact hn2)
   have F0:=yA gcq<|yA gj<|yA glt<|yA gg<|yA gs1<|yA hM<|yA hw3<|yA hE<|yA f0o<|F0
   have zU:=trivial
   have zS:ZS 39:=⟨⟩
   refine (fun zX=>goW) ?_
   refine ⟨?_⟩;clear zS
   refine Jv fun zK zhK=>?_
   simp only [go_sem,F0]
   repeat' (first|apply yA|intro _)
   all_goals (refine Iq false [] (fun k=>k) (fun _ _=>rfl) ?_ (by decide) ?_ ((c0m (1+Hz wb)).plain fun _ _ h=>h).hands ?_;iterate 2 (focus (first|rfl|(simp only [go_sem,F0]<;>first|done|rfl|simp))))
   all_goals (rintro v m ⟨hR,hm⟩;subst hR;subst hm)
   all_goals (refine yA ?_ (yA ?_ (yA ?_ ?_));iterate 3 (focus (first|rfl|(simp only [go_sem,F0];done)|(simp [go_sem,look,F0];done))))
   all_goals (try simp only [go_sem,F0])
   all_goals (try simp only [go_sem,F0])
   all_goals repeat' (first|apply yA|intro _)
   all_goals (refine a0w (caps:=[5,6,7]) (ks:=[500000,500002,500003]) (vs:=[Gj (Mv (1+Hz wb))]) false [(500000,5),(500001,29),(500002,6),(500003,7)] (fun k=>if k=21 then 111 else k) ?_ ?_ (fun _ _=>rfl) ?_ (by decide) ?_ ht ?_;iterate 4 (focus (first|rfl|(simp only [go_sem,F0]<;>first|done|rfl|simp))))
   all_goals (rintro v m ⟨hR,hm⟩;subst hR;subst hm)
   all_goals (refine yA ?_ (yA ?_ (yA ?_ ?_));iterate 3 (focus (first|rfl|(simp only [go_sem,F0];done)|(simp [go_sem,look,F0];done))))
   all_goals (try simp only [go_sem,F0])
   all_goals (try simp only [go_sem,F0])
   all_goals repeat' (first|apply yA|intro _)
   refine zhK _ ?_
   have zL:=fun S2=>xhN3 ⟨(j+1,(Ik.tell ⟨mx,qs,[]⟩ (Mv (1+Hz wb)))),glt,g4,k1,k2,k5⟩ S2 (by exact yB glt (yE j))
   exact goW
  ·obtain ⟨gcq,gj,gg,gs1,g4,hno,hnp,hnm,k1,k2,k5⟩:=Vz pk wb s ⟨mx,qs,out⟩ hx glt hlr.2 g4 g5 g6 g7 h5 h6 h8 hlt ht5.2
   have hM:=b0p (s:=⟨mx,qs,out⟩) hn
   have hn0:out=[]:=hn
   subst hn0
   have hm1:=cap4 hnm
   have hm0:=Zy mx.length
   have hp1:Go.RowKit.wrap64 (10+(qs:Int))=10+(qs:Int):=w10 hnp
   have hp2:Go.RowKit.wrap64 ((qs:Int)+1)=((qs+1:Nat):Int):=wS hnp
   have e:Ik.token pk (Hz wb) ⟨mx,qs,[]⟩ 7=⟨mx++[(Fv (10+(qs:Int)))],qs+1,[]⟩:=rfl
   rw [e] at g4 k1 k2 k5
   have hE:=b0p (s:=⟨mx++[(Fv (10+(qs:Int)))],qs+1,[]⟩) rfl
   have F0:=yA gcq<|yA gj<|yA glt<|yA gg<|yA gs1<|yA hM<|yA hm1<|yA hm0<|yA hp1<|yA hp2<|yA hE<|yA Jw<|F0
   have zU:=trivial
   refine (fun zX=>goW) ?_
   refine Zq (id:=41) mixed fun zE zhE=>?_
   refine Aq (p:=0) 6 [134,135,136,137,138,139] [0,0,2,6,1,0,63,127,255,127] [] rfl (by kernel_rfl) rfl (by simp only [go_sem]) fun zR zK zhR zhK=>?_
   simp only [go_sem,F0]
   repeat' (first|apply yA|intro _)
   all_goals (refine Iz false (fun k=>k) (Gj (Fv (10+(qs:Int)))) [] (fun _ _=>rfl) ?_ ?_ ?_ ((c0e (10+(qs:Int))).plain fun _ _ h=>h).hands ?_ ?_;(iterate 2 (focus (first|rfl|(simp only [go_sem,F0]<;>first|done|rfl|simp))));(first|kernel_rfl|rfl|simp [l0e,l0f,pls]))
   all_goals try (refine yA ?_ (yA ?_ (yA ?_ ?_))<;>(first|rfl|(simp only [go_sem,F0];done)|(simp [go_sem,look,F0];done)))
   all_goals (try simp only [go_sem,F0])
   all_goals (try simp only [go_sem,F0])
   all_goals repeat' (first|apply yA|intro _)
   refine zhK _ _ trivial (zhR _ ?_)
   refine Cz 1 7 rfl (by kernel_rfl) rfl rfl fun zR zhR=>?_
   simp only [go_sem,F0]
   repeat' (first|apply yA|intro _)
   refine zhR _ ?_
   refine Aq (p:=7) 10 [141] [0,0,2,6,1,0,63,127,255,127] [(0,2),(1,2)] rfl (by kernel_rfl) rfl (by simp only [go_sem]) fun zR zK zhR zhK=>?_
   simp only [go_sem,F0]
   repeat' (first|apply yA|intro _)
   refine zhK _ _ ?_ (zhR _ ?_)
   focus (first|trivial|(simp only [go_sem];done)|(simp only [go_sem];simp;done)|(simp only [go_sem];simp;simp only [go_sem]))
   refine Gv rfl (zhE _ ?_)
   have zL:=fun S2=>xhN3 ⟨(j+1,⟨mx++[(Fv (10+(qs:Int)))],qs+1,[]⟩),glt,g4,k1,k2,k5⟩ S2 (by exact yB glt (yE j))
   exact goW
  ·obtain ⟨gcq,gj,gg,gs1,g4,hno,hnp,hnm,k1,k2,k5⟩:=Vz pk wb s ⟨mx,qs,out⟩ hx glt hlr.2 g4 g5 g6 g7 h5 h6 h8 hlt ht5.2
   have hM:=b0p (s:=⟨mx,qs,out⟩) hn
   have hn0:out=[]:=hn
   subst hn0
   have hm1:=cap4 hnm
   have hm0:=Zy mx.length
   have e:Ik.token pk (Hz wb) ⟨mx,qs,[]⟩ 3=⟨mx++[(dhT 3 4)],qs,[]⟩:=rfl
   rw [e] at g4 k1 k2 k5
   have hE:=b0p (s:=⟨mx++[(dhT 3 4)],qs,[]⟩) rfl
   have F0:=yA gcq<|yA gj<|yA glt<|yA gg<|yA gs1<|yA hM<|yA hm1<|yA hm0<|yA hE<|yA Jw<|F0
   have zU:=trivial
   refine (fun zX=>goW) ?_
   refine Zq (id:=33) mixed fun zE zhE=>?_
   refine Aq (p:=0) 10 [91,92,93,94,95,96,97,98,99,100] [0,0,0,6,0,0,48,126,1,0,1023,2047,4095,2047] [] rfl (by kernel_rfl) rfl (by simp only [go_sem]) fun zR zK zhR zhK=>?_
   simp only [go_sem,F0]
   repeat' (first|apply yA|intro _)
   refine zhK _ _ trivial (zhR _ ?_)
   refine Cz 1 11 rfl (by kernel_rfl) rfl rfl fun zR zhR=>?_
   simp only [go_sem,F0]
   repeat' (first|apply yA|intro _)
   refine zhR _ ?_
   refine Aq (p:=11) 14 [102] [0,0,0,6,0,0,48,126,1,0,1023,2047,4095,2047] [(0,2),(1,2)] rfl (by kernel_rfl) rfl (by simp only [go_sem]) fun zR zK zhR zhK=>?_
   simp only [go_sem,F0]
   repeat' (first|apply yA|intro _)
   refine zhK _ _ ?_ (zhR _ ?_)
   focus (first|trivial|(simp only [go_sem];done)|(simp only [go_sem];simp;done)|(simp only [go_sem];simp;simp only [go_sem]))
   refine Gv rfl (zhE _ ?_)
   have zU:=trivial
   have zS:ZS 43:=⟨⟩
   refine (fun zX=>goW) ?_
   refine ⟨?_⟩;clear zS
   refine g0e 29 (pls (Ay mx).flatten++pls (dhT 3 4).cells) rfl (by decide) (c0s _ _ _ _) ?_
   simp only [wkM,Nat.reduceEqDiff,reduceIte,if_true,if_false]
   have zL:=fun S2=>xhN3 ⟨(j+1,⟨mx++[(dhT 3 4)],qs,[]⟩),glt,g4,k1,k2,k5⟩ S2 (by exact yB glt (yE j))
   exact goW
  ·obtain ⟨gcq,gj,gg,gs1,g4,hno,hnp,hnm,k1,k2,k5⟩:=Vz pk wb s ⟨mx,qs,out⟩ hx glt hlr.2 g4 g5 g6 g7 h5 h6 h8 hlt ht5.2
   have hM:=b0p (s:=⟨mx,qs,out⟩) hn
   have hn0:out=[]:=hn
   subst hn0
   have hm1:=cap4 hnm
   have hm0:=Zy mx.length
   have e:Ik.token pk (Hz wb) ⟨mx,qs,[]⟩ 4=⟨mx++[(dhT 2 3)],qs,[]⟩:=rfl
   rw [e] at g4 k1 k2 k5
   have hE:=b0p (s:=⟨mx++[(dhT 2 3)],qs,[]⟩) rfl
   have F0:=yA gcq<|yA gj<|yA glt<|yA gg<|yA gs1<|yA hM<|yA hm1<|yA hm0<|yA hE<|yA Jw<|F0
   have zU:=trivial
   refine (fun zX=>goW) ?_
   refine Zq (id:=33) mixed fun zE zhE=>?_
   refine Aq (p:=0) 10 [91,92,93,94,95,96,97,98,99,100] [0,0,0,6,0,0,48,126,1,0,1023,2047,4095,2047] [] rfl (by kernel_rfl) rfl (by simp only [go_sem]) fun zR zK zhR zhK=>?_
   simp only [go_sem,F0]
   repeat' (first|apply yA|intro _)
   refine zhK _ _ trivial (zhR _ ?_)
   refine Cz 1 11 rfl (by kernel_rfl) rfl rfl fun zR zhR=>?_
   simp only [go_sem,F0]
   repeat' (first|apply yA|intro _)
   refine zhR _ ?_
   refine Aq (p:=11) 14 [102] [0,0,0,6,0,0,48,126,1,0,1023,2047,4095,2047] [(0,2),(1,2)] rfl (by kernel_rfl) rfl (by simp only [go_sem]) fun zR zK zhR zhK=>?_
   simp only [go_sem,F0]
   repeat' (first|apply yA|intro _)
   refine zhK _ _ ?_ (zhR _ ?_)
   focus (first|trivial|(simp only [go_sem];done)|(simp only [go_sem];simp;done)|(simp only [go_sem];simp;simp only [go_sem]))
   refine Gv rfl (zhE _ ?_)
   have zU:=trivial
   have zS:ZS 43:=⟨⟩
   refine (fun zX=>goW) ?_
   refine ⟨?_⟩;clear zS
   refine g0e 29 (pls (Ay mx).flatten++pls (dhT 2 3).cells) rfl (by decide) (c0s _ _ _ _) ?_
   simp only [wkM,Nat.reduceEqDiff,reduceIte,if_true,if_false]
   have zL:=fun S2=>xhN3 ⟨(j+1,⟨mx++[(dhT 2 3)],qs,[]⟩),glt,g4,k1,k2,k5⟩ S2 (by exact yB glt (yE j))
   exact goW
  ·obtain ⟨gcq,gj,gg,gs1,g4,hno,hnp,hnm,k1,k2,k5⟩:=Vz pk wb s ⟨mx,qs,out⟩ hx glt hlr.2 g4 g5 g6 g7 h5 h6 h8 hlt ht5.2
   have hM:=b0p (s:=⟨mx,qs,out⟩) hn
   have hn0:out=[]:=hn
   subst hn0
   have hm1:=cap4 hnm
   have hm0:=Zy mx.length
   have e:Ik.token pk (Hz wb) ⟨mx,qs,[]⟩ 5=⟨mx++[(dhT 1 4)],qs,[]⟩:=rfl
   rw [e] at g4 k1 k2 k5
   have hE:=b0p (s:=⟨mx++[(dhT 1 4)],qs,[]⟩) rfl
   have F0:=yA gcq<|yA gj<|yA glt<|yA gg<|yA gs1<|yA hM<|yA hm1<|yA hm0<|yA hE<|yA Jw<|F0
   have zU:=trivial
   refine (fun zX=>goW) ?_
   refine Zq (id:=33) mixed fun zE zhE=>?_
   refine Aq (p:=0) 10 [91,92,93,94,95,96,97,98,99,100] [0,0,0,6,0,0,48,126,1,0,1023,2047,4095,2047] [] rfl (by kernel_rfl) rfl (by simp only [go_sem]) fun zR zK zhR zhK=>?_
   simp only [go_sem,F0]
   repeat' (first|apply yA|intro _)
   refine zhK _ _ trivial (zhR _ ?_)
   refine Cz 1 11 rfl (by kernel_rfl) rfl rfl fun zR zhR=>?_
   simp only [go_sem,F0]
   repeat' (first|apply yA|intro _)
   refine zhR _ ?_
   refine Aq (p:=11) 14 [102] [0,0,0,6,0,0,48,126,1,0,1023,2047,4095,2047] [(0,2),(1,2)] rfl (by kernel_rfl) rfl (by simp only [go_sem]) fun zR zK zhR zhK=>?_
   simp only [go_sem,F0]
   repeat' (first|apply yA|intro _)
   refine zhK _ _ ?_ (zhR _ ?_)
   focus (first|trivial|(simp only [go_sem];done)|(simp only [go_sem];simp;done)|(simp only [go_sem];simp;simp only [go_sem]))
   refine Gv rfl (zhE _ ?_)
   have zU:=trivial
   have zS:ZS 43:=⟨⟩
   refine (fun zX=>goW) ?_
   refine ⟨?_⟩;clear zS
   refine g0e 29 (pls (Ay mx).flatten++pls (dhT 1 4).cells) rfl (by decide) (c0s _ _ _ _) ?_
   simp only [wkM,Nat.reduceEqDiff,reduceIte,if_true,if_false]
   have zL:=fun S2=>xhN3 ⟨(j+1,⟨mx++[(dhT 1 4)],qs,[]⟩),glt,g4,k1,k2,k5⟩ S2 (by exact yB glt (yE j))
   exact goW
  ·obtain ⟨gcq,gj,gg,gs1,g4,hno,hnp,hnm,k1,k2,k5⟩:=Vz pk wb s ⟨mx,qs,out⟩ hx glt hlr.2 g4 g5 g6 g7 h5 h6 h8 hlt ht5.2
   have hM:=b0p (s:=⟨mx,qs,out⟩) hn
   have hn0:out=[]:=hn
   subst hn0
   have hm1:=cap4 hnm
   have hm0:=Zy mx.length
   have e:Ik.token pk (Hz wb) ⟨mx,qs,[]⟩ 6=⟨mx++[(dhT 1 2)],qs,[]⟩:=rfl
   rw [e] at g4 k1 k2 k5
   have hE:=b0p (s:=⟨mx++[(dhT 1 2)],qs,[]⟩) rfl
   have F0:=yA gcq<|yA gj<|yA glt<|yA gg<|yA gs1<|yA hM<|yA hm1<|yA hm0<|yA hE<|yA Jw<|F0
   have zU:=trivial
   refine (fun zX=>goW) ?_
   refine Zq (id:=33) mixed fun zE zhE=>?_
   refine Aq (p:=0) 10 [91,92,93,94,95,96,97,98,99,100] [0,0,0,6,0,0,48,126,1,0,1023,2047,4095,2047] [] rfl (by kernel_rfl) rfl (by simp only [go_sem]) fun zR zK zhR zhK=>?_
   simp only [go_sem,F0]
   repeat' (first|apply yA|intro _)
   refine zhK _ _ trivial (zhR _ ?_)
   refine Cz 1 11 rfl (by kernel_rfl) rfl rfl fun zR zhR=>?_
   simp only [go_sem,F0]
   repeat' (first|apply yA|intro _)
   refine zhR _ ?_
   refine Aq (p:=11) 14 [102] [0,0,0,6,0,0,48,126,1,0,1023,2047,4095,2047] [(0,2),(1,2)] rfl (by kernel_rfl) rfl (by simp only [go_sem]) fun zR zK zhR zhK=>?_
   simp only [go_sem,F0]
   repeat' (first|apply yA|intro _)
   refine zhK _ _ ?_ (zhR _ ?_)
   focus (first|trivial|(simp only [go_sem];done)|(simp only [go_sem];simp;done)|(simp only [go_sem];simp;simp only [go_sem]))
   refine Gv rfl (zhE _ ?_)
   have zU:=trivial
   have zS:ZS 43:=⟨⟩
   refine (fun zX=>goW) ?_
   refine ⟨?_⟩;clear zS
   refine g0e 29 (pls (Ay mx).flatten++pls (dhT 1 2).cells) rfl (by decide) (c0s _ _ _ _) ?_
   simp only [wkM,Nat.reduceEqDiff,reduceIte,if_true,if_false]
   have zL:=fun S2=>xhN3 ⟨(j+1,⟨mx++[(dhT 1 2)],qs,[]⟩),glt,g4,k1,k2,k5⟩ S2 (by exact yB glt (yE j))
   exact goW
  ·rw [yG,Ik.turn] at g4
   have gcq:=d0p (n:=l.length)
   rw [←g4] at h4
   have hno:=s1i g5 (yV _) hlr.2 h5 hlt ht5.2
   have hnm:=q2g g7 (yV _) hlr.2 h8 hlt ht5.2
   have k1:=g0w ⟨mx,qs,out⟩ (Fv (20+(i:Int)))
   have k2:=f0o ⟨mx,qs,out⟩ (Fv (20+(i:Int)))
   have k6:=congrArg List.length (k1o ⟨mx,qs,out⟩ (Fv (20+(i:Int))))
   have hn2:=i0o ⟨mx,qs,out⟩ (Fv (20+(i:Int)))
   have ht:=f1b ⟨mx,qs,out⟩ (Fv (20+(i:Int))) hnm hno
   obtain ⟨q2,hq2⟩: ∃ z,Ik.tell ⟨mx,qs,out⟩ (Fv (20+(i:Int)))=z:=⟨_,rfl⟩
   rw [hq2] at h4 k1 k2 k6 hn2 ht
   have k4:=n2z k1 g5 hlr.2 h5
   have k5:=n2y k2 g6 hlr.2 h6
   have k7:=r2a k6 g7 hlr.2 h8
   have hE:=Tx hn2
   have hps:((qs:Nat):Int)=((q2.ps:Nat):Int):=by rw [k2]
   have hM:=b0p (s:=⟨mx,qs,out⟩) hn
   rw [show a1n ⟨mx,qs,out⟩ 21=21 from if_pos hn,m1u hn,i0s hn2] at ht
   have F0:=yA gcq<|yA hM<|yA hE<|yA hps<|F0
   have zU:=trivial
   have zS:ZS 44:=⟨⟩
   refine (fun zX=>goW) ?_
   refine ⟨?_⟩;clear zS
   refine Jv fun zK zhK=>?_
   simp only [go_sem,F0]
   repeat' (first|apply yA|intro _)
   all_goals (refine Iq false [] (fun k=>k) (fun _ _=>rfl) ?_ (by decide) ?_ ((c0e (20+(i:Int))).plain fun _ _ h=>h).hands ?_;iterate 2 (focus (first|rfl|(simp only [go_sem,F0]<;>first|done|rfl|simp))))
   all_goals (rintro v m ⟨hR,hm⟩;subst hR;subst hm)
   all_goals (refine yA ?_ (yA ?_ (yA ?_ ?_));iterate 3 (focus (first|rfl|(simp only [go_sem,F0];done)|(simp [go_sem,look,F0];done))))
   all_goals (try simp only [go_sem,F0])
   all_goals (try simp only [go_sem,F0])
   all_goals repeat' (first|apply yA|intro _)
   all_goals (refine a0w (caps:=[5,6,7]) (ks:=[500000,500002,500003]) (vs:=[Gj (Fv (20+(i:Int)))]) false [(500000,5),(500001,29),(500002,6),(500003,7)] (fun k=>if k=21 then 111 else k) ?_ ?_ (fun _ _=>rfl) ?_ (by decide) ?_ ht ?_;iterate 4 (focus (first|rfl|(simp only [go_sem,F0]<;>first|done|rfl|simp))))
   all_goals (rintro v m ⟨hR,hm⟩;subst hR;subst hm)
   all_goals (refine yA ?_ (yA ?_ (yA ?_ ?_));iterate 3 (focus (first|rfl|(simp only [go_sem,F0];done)|(simp [go_sem,look,F0];done))))
   all_goals (try simp only [go_sem,F0])
   all_goals (try simp only [go_sem,F0])
   all_goals repeat' (first|apply yA|intro _)
   refine zhK _ ?_
   have zL:=fun S2=>xhN2 ⟨(i+1,q2),hlt,h4,k4,k5,k7,fun _=>hn2⟩ S2 (by exact yB hlt (yE i))
   exact goW
  ·obtain ⟨gcq,gj,gg,gs1,g4,hno,hnp,hnm,k1,k2,k5⟩:=Vz pk wb s ⟨mx,qs,out⟩ hx glt hlr.2 g4 g5 g6 g7 h5 h6 h8 hlt ht5.2
   have hM:=Tx (s:=⟨mx,qs,out⟩) hn
   have hqk:(0:Int)<((ps.length:Nat):Int):=of_decide_eq_true (hpk.trans hb)
   subst hb
   have hw3:Go.RowKit.wrap64 (3+Hz wb)=3+Hz wb:=w3 (b0m wb)
   have ho1:=cap4 hno
   have ho0:=Zy out.length
   have hm1:=cap4 hnm
   have hm0:=Zy mx.length
   have e:Ik.token true (Hz wb) ⟨mx,qs,out⟩ 1=⟨mx++[(Mv (3+Hz wb))],qs,out++[(Mv (3+Hz wb))]⟩:=rfl
   rw [e] at g4 k1 k2 k5
   have k3:=a0h true (Hz wb) ⟨mx,qs,out⟩ 1 hn
   rw [e] at k3
   have hE:=Tx (s:=⟨mx++[(Mv (3+Hz wb))],qs,out++[(Mv (3+Hz wb))]⟩) k3
   have F0:=yA gcq<|yA gj<|yA glt<|yA gg<|yA gs1<|yA hM<|yA hqk<|yA hw3<|yA ho1<|yA ho0<|yA hm1<|yA hm0<|yA hE<|yA Jw<|F0
   have zU:=trivial
   refine (fun zX=>goW) ?_
   refine Zq (id:=35) mixed fun zE zhE=>?_
   refine Aq (p:=0) 6 [105,106,107,108,109,110] [0,0,2,6,1,0,63,127,255,127] [] rfl (by kernel_rfl) rfl (by simp only [go_sem]) fun zR zK zhR zhK=>?_
   simp only [go_sem,F0]
   repeat' (first|apply yA|intro _)
   all_goals (refine Iz false (fun k=>k) (Gj (Mv (3+Hz wb))) [] (fun _ _=>rfl) ?_ ?_ ?_ ((c0m (3+Hz wb)).plain fun _ _ h=>h).hands ?_ ?_;(iterate 2 (focus (first|rfl|(simp only [go_sem,F0]<;>first|done|rfl|simp))));(first|kernel_rfl|rfl|simp [l0e,l0f,pls]))
   all_goals try (refine yA ?_ (yA ?_ (yA ?_ ?_))<;>(first|rfl|(simp only [go_sem,F0];done)|(simp [go_sem,look,F0];done)))
   all_goals (try simp only [go_sem,F0])
   all_goals (try simp only [go_sem,F0])
   all_goals repeat' (first|apply yA|intro _)
   refine zhK _ _ trivial (zhR _ ?_)
   refine Cz 1 7 rfl (by kernel_rfl) rfl rfl fun zR zhR=>?_
   simp only [go_sem,F0]
   repeat' (first|apply yA|intro _)
   refine zhR _ ?_
   refine Aq (p:=7) 10 [112] [0,0,2,6,1,0,63,127,255,127] [(0,2),(1,2)] rfl (by kernel_rfl) rfl (by simp only [go_sem]) fun zR zK zhR zhK=>?_
   simp only [go_sem,F0]
   repeat' (first|apply yA|intro _)
   refine zhK _ _ ?_ (zhR _ ?_)
   focus (first|trivial|(simp only [go_sem];done)|(simp only [go_sem];simp;done)|(simp only [go_sem];simp;simp only [go_sem]))
   refine Gv rfl (zhE _ ?_)
   have zU:=trivial
   refine (fun zX=>goW) ?_
   refine Zq (id:=37) mixed fun zE zhE=>?_
   refine Aq (p:=0) 6 [117,118,119,120,121,122] [0,0,2,6,1,0,63,127,255,127] [] rfl (by kernel_rfl) rfl (by simp only [go_sem]) fun zR zK zhR zhK=>?_
   simp only [go_sem,F0]
   repeat' (first|apply yA|intro _)
   all_goals (refine Iz false (fun k=>k) (Gj (Mv (3+Hz wb))) [] (fun _ _=>rfl) ?_ ?_ ?_ ((c0m (3+Hz wb)).plain fun _ _ h=>h).hands ?_ ?_;(iterate 2 (focus (first|rfl|(simp only [go_sem,F0]<;>first|done|rfl|simp))));(first|kernel_rfl|rfl|simp [l0e,l0f,pls]))
   all_goals try (refine yA ?_ (yA ?_ (yA ?_ ?_))<;>(first|rfl|(simp only [go_sem,F0];done)|(simp [go_sem,look,F0];done)))
   all_goals (try simp only [go_sem,F0])
   all_goals (try simp only [go_sem,F0])
   all_goals repeat' (first|apply yA|intro _)
   refine zhK _ _ trivial (zhR _ ?_)
   refine Cz 1 7 rfl (by kernel_rfl) rfl rfl fun zR zhR=>?_
   simp only [go_sem,F0]
   repeat' (first|apply yA|intro _)
   refine zhR _ ?_
   refine Aq (p:=7) 10 [124] [0,0,2,6,1,0,63,127,255,127] [(0,2),(1,2)] rfl (by kernel_rfl) rfl (by simp only [go_sem]) fun zR zK zhR zhK=>?_
   simp only [go_sem,F0]
   repeat' (first|apply yA|intro _)
   refine zhK _ _ ?_ (zhR _ ?_)
   focus (first|trivial|(simp only [go_sem];done)|(simp only [go_sem];simp;done)|(simp only [go_sem];simp;simp only [go_sem]))
   refine Gv rfl (zhE _ ?_)
   have zL:=fun S2=>xhN3 ⟨(j+1,⟨mx++[(Mv (3+Hz wb))],qs,out++[(Mv (3+Hz wb))]⟩),glt,g4,k1,k2,k5⟩ S2 (by exact yB glt (yE j))
   exact goW
  ·obtain ⟨gcq,gj,gg,gs1,g4,hno,hnp,hnm,k1,k2,k5⟩:=Vz pk wb s ⟨mx,qs,out⟩ hx glt hlr.2 g4 g5 g6 g7 h5 h6 h8 hlt ht5.2
   have hM:=Tx (s:=⟨mx,qs,out⟩) hn
   have hqk:¬(0:Int)<((ps.length:Nat):Int):=of_decide_eq_false (hpk.trans hb)
   subst hb
   have hw3:Go.RowKit.wrap64 (3+Hz wb)=3+Hz wb:=w3 (b0m wb)
   have ho1:=cap4 hno
   have ho0:=Zy out.length
   have e:Ik.token false (Hz wb) ⟨mx,qs,out⟩ 1=⟨mx,qs,out++[(Mv (3+Hz wb))]⟩:=rfl
   rw [e] at g4 k1 k2 k5
   have k3:=a0h false (Hz wb) ⟨mx,qs,out⟩ 1 hn
   rw [e] at k3
   have hE:=Tx (s:=⟨mx,qs,out++[(Mv (3+Hz wb))]⟩) k3
   have F0:=yA gcq<|yA gj<|yA glt<|yA gg<|yA gs1<|yA hM<|yA hqk<|yA hw3<|yA ho1<|yA ho0<|yA hE<|yA Jw<|F0
   have zU:=trivial
   refine (fun zX=>goW) ?_
   refine Zq (id:=35) mixed fun zE zhE=>?_
   refine Aq (p:=0) 6 [105,106,107,108,109,110] [0,0,2,6,1,0,63,127,255,127] [] rfl (by kernel_rfl) rfl (by simp only [go_sem]) fun zR zK zhR zhK=>?_
   simp only [go_sem,F0]
   repeat' (first|apply yA|intro _)
   all_goals (refine Iz false (fun k=>k) (Gj (Mv (3+Hz wb))) [] (fun _ _=>rfl) ?_ ?_ ?_ ((c0m (3+Hz wb)).plain fun _ _ h=>h).hands ?_ ?_;(iterate 2 (focus (first|rfl|(simp only [go_sem,F0]<;>first|done|rfl|simp))));(first|kernel_rfl|rfl|simp [l0e,l0f,pls]))
   all_goals try (refine yA ?_ (yA ?_ (yA ?_ ?_))<;>(first|rfl|(simp only [go_sem,F0];done)|(simp [go_sem,look,F0];done)))
   all_goals (try simp only [go_sem,F0])
   all_goals (try simp only [go_sem,F0])
   all_goals repeat' (first|apply yA|intro _)
   refine zhK _ _ trivial (zhR _ ?_)
   refine Cz 1 7 rfl (by kernel_rfl) rfl rfl fun zR zhR=>?_
   simp only [go_sem,F0]
   repeat' (first|apply yA|intro _)
   refine zhR _ ?_
   refine Aq (p:=7) 10 [112] [0,0,2,6,1,0,63,127,255,127] [(0,2),(1,2)] rfl (by kernel_rfl) rfl (by simp only [go_sem]) fun zR zK zhR zhK=>?_
   simp only [go_sem,F0]
   repeat' (first|apply yA|intro _)
   refine zhK _ _ ?_ (zhR _ ?_)
   focus (first|trivial|(simp only [go_sem];done)|(simp only [go_sem];simp;done)|(simp only [go_sem];simp;simp only [go_sem]))
   refine Gv rfl (zhE _ ?_)
   have zL:=fun S2=>xhN3 ⟨(j+1,⟨mx,qs,out++[(Mv (3+Hz wb))]⟩),glt,g4,k1,k2,k5⟩ S2 (by exact yB glt (yE j))
   exact goW
  ·obtain ⟨gcq,gj,gg,gs1,g4,hno,hnp,hnm,k1,k2,k5⟩:=Vz pk wb s ⟨mx,qs,out⟩ hx glt hlr.2 g4 g5 g6 g7 h5 h6 h8 hlt ht5.2
   have hM:=Tx (s:=⟨mx,qs,out⟩) hn
   have hw3:Go.RowKit.wrap64 (1+Hz wb)=1+Hz wb:=w1 (b0m wb)
   have ht:=f1b ⟨mx,qs,out⟩ (Mv (1+Hz wb)) hnm hno
   have hn2:=i0o ⟨mx,qs,out⟩ (Mv (1+Hz wb))
   rw [show a1n ⟨mx,qs,out⟩ 21=750001 from if_neg hn,i0s hn,i0s hn2] at ht
   have e:Ik.token pk (Hz wb) ⟨mx,qs,out⟩ 2=(Ik.tell ⟨mx,qs,out⟩ (Mv (1+Hz wb))):=rfl
   rw [e] at g4 k1 k2 k5
   have k3:=a0h pk (Hz wb) ⟨mx,qs,out⟩ 2 hn
   rw [e] at k3
   have hE:=Tx (s:=(Ik.tell ⟨mx,qs,out⟩ (Mv (1+Hz wb)))) k3
   have F0:=yA gcq<|yA gj<|yA glt<|yA gg<|yA gs1<|yA hM<|yA hw3<|yA hE<|yA f0o<|F0
   have zU:=trivial
   have zS:ZS 39:=⟨⟩
   refine (fun zX=>goW) ?_
   refine ⟨?_⟩;clear zS
   refine Jv fun zK zhK=>?_
   simp only [go_sem,F0]
   repeat' (first|apply yA|intro _)
   all_goals (refine Iq false [] (fun k=>k) (fun _ _=>rfl) ?_ (by decide) ?_ ((c0m (1+Hz wb)).plain fun _ _ h=>h).hands ?_;iterate 2 (focus (first|rfl|(simp only [go_sem,F0]<;>first|done|rfl|simp))))
   all_goals (rintro v m ⟨hR,hm⟩;subst hR;subst hm)
   all_goals (refine yA ?_ (yA ?_ (yA ?_ ?_));iterate 3 (focus (first|rfl|(simp only [go_sem,F0];done)|(simp [go_sem,look,F0];done))))
   all_goals (try simp only [go_sem,F0])
   all_goals (try simp only [go_sem,F0])
   all_goals repeat' (first|apply yA|intro _)
   all_goals (refine w0l (caps:=[5,6,7]) (ks:=[500000,500002,500003]) (vs:=[Gj (Mv (1+Hz wb))]) false [(500000,5),(500001,29),(500002,6),(500003,7),(750001,111)] (fun k=>k) ?_ ?_ (fun _ _=>rfl) ?_ (by decide) ?_ ?_ ht ?_;iterate 5 (focus (first|rfl|(simp only [go_sem,F0]<;>first|done|rfl|simp))))
   all_goals (rintro v m ⟨hR,hm⟩;subst hR;subst hm)
   all_goals (refine yA ?_ (yA ?_ (yA ?_ ?_));iterate 3 (focus (first|rfl|(simp only [go_sem,F0];done)|(simp [go_sem,look,F0];done))))
   all_goals (try simp only [go_sem,F0])
   all_goals (try simp only [go_sem,F0])
   all_goals repeat' (first|apply yA|intro _)
   refine zhK _ ?_
   have zL:=fun S2=>xhN3 ⟨(j+1,(Ik.tell ⟨mx,qs,out⟩ (Mv (1+Hz wb)))),glt,g4,k1,k2,k5⟩ S2 (by exact yB glt (yE j))
   exact goW
  ·obtain ⟨gcq,gj,gg,gs1,g4,hno,hnp,hnm,k1,k2,k5⟩:=Vz pk wb s ⟨mx,qs,out⟩ hx glt hlr.2 g4 g5 g6 g7 h5 h6 h8 hlt ht5.2
   have hM:=Tx (s:=⟨mx,qs,out⟩) hn
   have hm1:=cap4 hnm
   have hm0:=Zy mx.length
   have hp1:Go.RowKit.wrap64 (10+(qs:Int))=10+(qs:Int):=w10 hnp
   have hp2:Go.RowKit.wrap64 ((qs:Int)+1)=((qs+1:Nat):Int):=wS hnp
   have e:Ik.token pk (Hz wb) ⟨mx,qs,out⟩ 7=⟨mx++[(Fv (10+(qs:Int)))],qs+1,out⟩:=rfl
   rw [e] at g4 k1 k2 k5
   have k3:=a0h pk (Hz wb) ⟨mx,qs,out⟩ 7 hn
   rw [e] at k3
   have hE:=Tx (s:=⟨mx++[(Fv (10+(qs:Int)))],qs+1,out⟩) k3
   have F0:=yA gcq<|yA gj<|yA glt<|yA gg<|yA gs1<|yA hM<|yA hm1<|yA hm0<|yA hp1<|yA hp2<|yA hE<|yA Jw<|F0
   have zU:=trivial
   refine (fun zX=>goW) ?_
   refine Zq (id:=41) mixed fun zE zhE=>?_
   refine Aq (p:=0) 6 [134,135,136,137,138,139] [0,0,2,6,1,0,63,127,255,127] [] rfl (by kernel_rfl) rfl (by simp only [go_sem]) fun zR zK zhR zhK=>?_
   simp only [go_sem,F0]
   repeat' (first|apply yA|intro _)
   all_goals (refine Iz false (fun k=>k) (Gj (Fv (10+(qs:Int)))) [] (fun _ _=>rfl) ?_ ?_ ?_ ((c0e (10+(qs:Int))).plain fun _ _ h=>h).hands ?_ ?_;(iterate 2 (focus (first|rfl|(simp only [go_sem,F0]<;>first|done|rfl|simp))));(first|kernel_rfl|rfl|simp [l0e,l0f,pls]))
   all_goals try (refine yA ?_ (yA ?_ (yA ?_ ?_))<;>(first|rfl|(simp only [go_sem,F0];done)|(simp [go_sem,look,F0];done)))
   all_goals (try simp only [go_sem,F0])
   all_goals (try simp only [go_sem,F0])
   all_goals repeat' (first|apply yA|intro _)
   refine zhK _ _ trivial (zhR _ ?_)
   refine Cz 1 7 rfl (by kernel_rfl) rfl rfl fun zR zhR=>?_
   simp only [go_sem,F0]
   repeat' (first|apply yA|intro _)
   refine zhR _ ?_
   refine Aq (p:=7) 10 [141] [0,0,2,6,1,0,63,127,255,127] [(0,2),(1,2)] rfl (by kernel_rfl) rfl (by simp only [go_sem]) fun zR zK zhR zhK=>?_
   simp only [go_sem,F0]
   repeat' (first|apply yA|intro _)
   refine zhK _ _ ?_ (zhR _ ?_)
   focus (first|trivial|(simp only [go_sem];done)|(simp only [go_sem];simp;done)|(simp only [go_sem];simp;simp only [go_sem]))
   refine Gv rfl (zhE _ ?_)
   have zL:=fun S2=>xhN3 ⟨(j+1,⟨mx++[(Fv (10+(qs:Int)))],qs+1,out⟩),glt,g4,k1,k2,k5⟩ S2 (by exact yB glt (yE j))
   exact goW
  ·obtain ⟨gcq,gj,gg,gs1,g4,hno,hnp,hnm,k1,k2,k5⟩:=Vz pk wb s ⟨mx,qs,out⟩ hx glt hlr.2 g4 g5 g6 g7 h5 h6 h8 hlt ht5.2
   have hM:=Tx (s:=⟨mx,qs,out⟩) hn
   have hm1:=cap4 hnm
   have hm0:=Zy mx.length
   have e:Ik.token pk (Hz wb) ⟨mx,qs,out⟩ 3=⟨mx++[(dhT 3 4)],qs,out⟩:=rfl
   rw [e] at g4 k1 k2 k5
   have k3:=a0h pk (Hz wb) ⟨mx,qs,out⟩ 3 hn
   rw [e] at k3
   have hE:=Tx (s:=⟨mx++[(dhT 3 4)],qs,out⟩) k3
   have F0:=yA gcq<|yA gj<|yA glt<|yA gg<|yA gs1<|yA hM<|yA hm1<|yA hm0<|yA hE<|yA Jw<|F0
   have zU:=trivial
   refine (fun zX=>goW) ?_
   refine Zq (id:=33) mixed fun zE zhE=>?_
   refine Aq (p:=0) 10 [91,92,93,94,95,96,97,98,99,100] [0,0,0,6,0,0,48,126,1,0,1023,2047,4095,2047] [] rfl (by kernel_rfl) rfl (by simp only [go_sem]) fun zR zK zhR zhK=>?_
   simp only [go_sem,F0]
   repeat' (first|apply yA|intro _)
   refine zhK _ _ trivial (zhR _ ?_)
   refine Cz 1 11 rfl (by kernel_rfl) rfl rfl fun zR zhR=>?_
   simp only [go_sem,F0]
   repeat' (first|apply yA|intro _)
   refine zhR _ ?_
   refine Aq (p:=11) 14 [102] [0,0,0,6,0,0,48,126,1,0,1023,2047,4095,2047] [(0,2),(1,2)] rfl (by kernel_rfl) rfl (by simp only [go_sem]) fun zR zK zhR zhK=>?_
   simp only [go_sem,F0]
   repeat' (first|apply yA|intro _)
   refine zhK _ _ ?_ (zhR _ ?_)
   focus (first|trivial|(simp only [go_sem];done)|(simp only [go_sem];simp;done)|(simp only [go_sem];simp;simp only [go_sem]))
   refine Gv rfl (zhE _ ?_)
   have zU:=trivial
   have zS:ZS 43:=⟨⟩
   refine (fun zX=>goW) ?_
   refine ⟨?_⟩;clear zS
   refine g0e 29 (pls (Ay mx).flatten++pls (dhT 3 4).cells) rfl (by decide) (c0s _ _ _ _) ?_
   simp only [wkM,Nat.reduceEqDiff,reduceIte,if_true,if_false]
   have zL:=fun S2=>xhN3 ⟨(j+1,⟨mx++[(dhT 3 4)],qs,out⟩),glt,g4,k1,k2,k5⟩ S2 (by exact yB glt (yE j))
   exact goW
  ·obtain ⟨gcq,gj,gg,gs1,g4,hno,hnp,hnm,k1,k2,k5⟩:=Vz pk wb s ⟨mx,qs,out⟩ hx glt hlr.2 g4 g5 g6 g7 h5 h6 h8 hlt ht5.2
   have hM:=Tx (s:=⟨mx,qs,out⟩) hn
   have hm1:=cap4 hnm
   have hm0:=Zy mx.length
   have e:Ik.token pk (Hz wb) ⟨mx,qs,out⟩ 4=⟨mx++[(dhT 2 3)],qs,out⟩:=rfl
   rw [e] at g4 k1 k2 k5
   have k3:=a0h pk (Hz wb) ⟨mx,qs,out⟩ 4 hn
   rw [e] at k3
   have hE:=Tx (s:=⟨mx++[(dhT 2 3)],qs,out⟩) k3
   have F0:=yA gcq<|yA gj<|yA glt<|yA gg<|yA gs1<|yA hM<|yA hm1<|yA hm0<|yA hE<|yA Jw<|F0
   have zU:=trivial
   refine (fun zX=>goW) ?_
   refine Zq (id:=33) mixed fun zE zhE=>?_
   refine Aq (p:=0) 10 [91,92,93,94,95,96,97,98,99,100] [0,0,0,6,0,0,48,126,1,0,1023,2047,4095,2047] [] rfl (by kernel_rfl) rfl (by simp only [go_sem]) fun zR zK zhR zhK=>?_
   simp only [go_sem,F0]
   repeat' (first|apply yA|intro _)
   refine zhK _ _ trivial (zhR _ ?_)
   refine Cz 1 11 rfl (by kernel_rfl) rfl rfl fun zR zhR=>?_
   simp only [go_sem,F0]
   repeat' (first|apply yA|intro _)
   refine zhR _ ?_
   refine Aq (p:=11) 14 [102] [0,0,0,6,0,0,48,126,1,0,1023,2047,4095,2047] [(0,2),(1,2)] rfl (by kernel_rfl) rfl (by simp only [go_sem]) fun zR zK zhR zhK=>?_
   simp only [go_sem,F0]
   repeat' (first|apply yA|intro _)
   refine zhK _ _ ?_ (zhR _ ?_)
   focus (first|trivial|(simp only [go_sem];done)|(simp only [go_sem];simp;done)|(simp only [go_sem];simp;simp only [go_sem]))
   refine Gv rfl (zhE _ ?_)
   have zU:=trivial
   have zS:ZS 43:=⟨⟩
   refine (fun zX=>goW) ?_
   refine ⟨?_⟩;clear zS
   refine g0e 29 (pls (Ay mx).flatten++pls (dhT 2 3).cells) rfl (by decide) (c0s _ _ _ _) ?_
   simp only [wkM,Nat.reduceEqDiff,reduceIte,if_true,if_false]
   have zL:=fun S2=>xhN3 ⟨(j+1,⟨mx++[(dhT 2 3)],qs,out⟩),glt,g4,k1,k2,k5⟩ S2 (by exact yB glt (yE j))
   exact goW
  ·obtain ⟨gcq,gj,gg,gs1,g4,hno,hnp,hnm,k1,k2,k5⟩:=Vz pk wb s ⟨mx,qs,out⟩ hx glt hlr.2 g4 g5 g6 g7 h5 h6 h8 hlt ht5.2
   have hM:=Tx (s:=⟨mx,qs,out⟩) hn
   have hm1:=cap4 hnm
   have hm0:=Zy mx.length
   have e:Ik.token pk (Hz wb) ⟨mx,qs,out⟩ 5=⟨mx++[(dhT 1 4)],qs,out⟩:=rfl
   rw [e] at g4 k1 k2 k5
   have k3:=a0h pk (Hz wb) ⟨mx,qs,out⟩ 5 hn
   rw [e] at k3
   have hE:=Tx (s:=⟨mx++[(dhT 1 4)],qs,out⟩) k3
   have F0:=yA gcq<|yA gj<|yA glt<|yA gg<|yA gs1<|yA hM<|yA hm1<|yA hm0<|yA hE<|yA Jw<|F0
   have zU:=trivial
   refine (fun zX=>goW) ?_
   refine Zq (id:=33) mixed fun zE zhE=>?_
   refine Aq (p:=0) 10 [91,92,93,94,95,96,97,98,99,100] [0,0,0,6,0,0,48,126,1,0,1023,2047,4095,2047] [] rfl (by kernel_rfl) rfl (by simp only [go_sem]) fun zR zK zhR zhK=>?_
   simp only [go_sem,F0]
   repeat' (first|apply yA|intro _)
   refine zhK _ _ trivial (zhR _ ?_)
   refine Cz 1 11 rfl (by kernel_rfl) rfl rfl fun zR zhR=>?_
   simp only [go_sem,F0]
   repeat' (first|apply yA|intro _)
   refine zhR _ ?_
   refine Aq (p:=11) 14 [102] [0,0,0,6,0,0,48,126,1,0,1023,2047,4095,2047] [(0,2),(1,2)] rfl (by kernel_rfl) rfl (by simp only [go_sem]) fun zR zK zhR zhK=>?_
   simp only [go_sem,F0]
   repeat' (first|apply yA|intro _)
   refine zhK _ _ ?_ (zhR _ ?_)
   focus (first|trivial|(simp only [go_sem];done)|(simp only [go_sem];simp;done)|(simp only [go_sem];simp;simp only [go_sem]))
   refine Gv rfl (zhE _ ?_)
   have zU:=trivial
   have zS:ZS 43:=⟨⟩
   refine (fun zX=>goW) ?_
   refine ⟨?_⟩;clear zS
   refine g0e 29 (pls (Ay mx).flatten++pls (dhT 1 4).cells) rfl (by decide) (c0s _ _ _ _) ?_
   simp only [wkM,Nat.reduceEqDiff,reduceIte,if_true,if_false]
   have zL:=fun S2=>xhN3 ⟨(j+1,⟨mx++[(dhT 1 4)],qs,out⟩),glt,g4,k1,k2,k5⟩ S2 (by exact yB glt (yE j))
   exact goW
  ·obtain ⟨gcq,gj,gg,gs1,g4,hno,hnp,hnm,k1,k2,k5⟩:=Vz pk wb s ⟨mx,qs,out⟩ hx glt hlr.2 g4 g5 g6 g7 h5 h6 h8 hlt ht5.2
   have hM:=Tx (s:=⟨mx,qs,out⟩) hn
   have hm1:=cap4 hnm
   have hm0:=Zy mx.length
   have e:Ik.token pk (Hz wb) ⟨mx,qs,out⟩ 6=⟨mx++[(dhT 1 2)],qs,out⟩:=rfl
   rw [e] at g4 k1 k2 k5
   have k3:=a0h pk (Hz wb) ⟨mx,qs,out⟩ 6 hn
   rw [e] at k3
   have hE:=Tx (s:=⟨mx++[(dhT 1 2)],qs,out⟩) k3
   have F0:=yA gcq<|yA gj<|yA glt<|yA gg<|yA gs1<|yA hM<|yA hm1<|yA hm0<|yA hE<|yA Jw<|F0
   have zU:=trivial
   refine (fun zX=>goW) ?_
   refine Zq (id:=33) mixed fun zE zhE=>?_
   refine Aq (p:=0) 10 [91,92,93,94,95,96,97,98,99,100] [0,0,0,6,0,0,48,126,1,0,1023,2047,4095,2047] [] rfl (by kernel_rfl) rfl (by simp only [go_sem]) fun zR zK zhR zhK=>?_
   simp only [go_sem,F0]
   repeat' (first|apply yA|intro _)
   refine zhK _ _ trivial (zhR _ ?_)
   refine Cz 1 11 rfl (by kernel_rfl) rfl rfl fun zR zhR=>?_
   simp only [go_sem,F0]
   repeat' (first|apply yA|intro _)
   refine zhR _ ?_
   refine Aq (p:=11) 14 [102] [0,0,0,6,0,0,48,126,1,0,1023,2047,4095,2047] [(0,2),(1,2)] rfl (by kernel_rfl) rfl (by simp only [go_sem]) fun zR zK zhR zhK=>?_
   simp only [go_sem,F0]
   repeat' (first|apply yA|intro _)
   refine zhK _ _ ?_ (zhR _ ?_)
   focus (first|trivial|(simp only [go_sem];done)|(simp only [go_sem];simp;done)|(simp only [go_sem];simp;simp only [go_sem]))
   refine Gv rfl (zhE _ ?_)
   have zU:=trivial
   have zS:ZS 43:=⟨⟩
   refine (fun zX=>goW) ?_
   refine ⟨?_⟩;clear zS
   refine g0e 29 (pls (Ay mx).flatten++pls (dhT 1 2).cells) rfl (by decide) (c0s _ _ _ _) ?_
   simp only [wkM,Nat.reduceEqDiff,reduceIte,if_true,if_false]
   have zL:=fun S2=>xhN3 ⟨(j+1,⟨mx++[(dhT 1 2)],qs,out⟩),glt,g4,k1,k2,k5⟩ S2 (by exact yB glt (yE j))
   exact goW
  rw [yG,Ik.turn] at g4
  have gcq:=d0p (n:=l.length)
  rw [←g4] at h4
  have hno:=s1i g5 (yV _) hlr.2 h5 hlt ht5.2
  have hnm:=q2g g7 (yV _) hlr.2 h8 hlt ht5.2
  have k1:=g0w ⟨mx,qs,out⟩ (Fv (20+(i:Int)))
  have k2:=f0o ⟨mx,qs,out⟩ (Fv (20+(i:Int)))
  have k6:=congrArg List.length (k1o ⟨mx,qs,out⟩ (Fv (20+(i:Int))))
  have hn2:=i0o ⟨mx,qs,out⟩ (Fv (20+(i:Int)))
  have ht:=f1b ⟨mx,qs,out⟩ (Fv (20+(i:Int))) hnm hno
  obtain ⟨q2,hq2⟩: ∃ z,Ik.tell ⟨mx,qs,out⟩ (Fv (20+(i:Int)))=z:=⟨_,rfl⟩
  rw [hq2] at h4 k1 k2 k6 hn2 ht
  have k4:=n2z k1 g5 hlr.2 h5
  have k5:=n2y k2 g6 hlr.2 h6
  have k7:=r2a k6 g7 hlr.2 h8
  have hE:=Tx hn2
  have hps:((qs:Nat):Int)=((q2.ps:Nat):Int):=by rw [k2]
  have hM:=Tx (s:=⟨mx,qs,out⟩) hn
  rw [show a1n ⟨mx,qs,out⟩ 21=750001 from if_neg hn,i0s hn,i0s hn2] at ht
  have F0:=yA gcq<|yA hM<|yA hE<|yA hps<|F0
  have zU:=trivial
  have zS:ZS 44:=⟨⟩
  refine (fun zX=>goW) ?_
  refine ⟨?_⟩;clear zS
  refine Jv fun zK zhK=>?_
  simp only [go_sem,F0]
  repeat' (first|apply yA|intro _)
  all_goals (refine Iq false [] (fun k=>k) (fun _ _=>rfl) ?_ (by decide) ?_ ((c0e (20+(i:Int))).plain fun _ _ h=>h).hands ?_;iterate 2 (focus (first|rfl|(simp only [go_sem,F0]<;>first|done|rfl|simp))))
  all_goals (rintro v m ⟨hR,hm⟩;subst hR;subst hm)
  all_goals (refine yA ?_ (yA ?_ (yA ?_ ?_));iterate 3 (focus (first|rfl|(simp only [go_sem,F0];done)|(simp [go_sem,look,F0];done))))
  all_goals (try simp only [go_sem,F0])
  all_goals (try simp only [go_sem,F0])
  all_goals repeat' (first|apply yA|intro _)
  all_goals (refine w0l (caps:=[5,6,7]) (ks:=[500000,500002,500003]) (vs:=[Gj (Fv (20+(i:Int)))]) false [(500000,5),(500001,29),(500002,6),(500003,7),(750001,111)] (fun k=>k) ?_ ?_ (fun _ _=>rfl) ?_ (by decide) ?_ ?_ ht ?_;iterate 5 (focus (first|rfl|(simp only [go_sem,F0]<;>first|done|rfl|simp))))
  all_goals (rintro v m ⟨hR,hm⟩;subst hR;subst hm)
  all_goals (refine yA ?_ (yA ?_ (yA ?_ ?_));iterate 3 (focus (first|rfl|(simp only [go_sem,F0];done)|(simp [go_sem,look,F0];done))))
  all_goals (try simp only [go_sem,F0])
  all_goals (try simp only [go_sem,F0])
  all_goals repeat' (first|apply yA|intro _)
  refine zhK _ ?_
  have zL:=fun S2=>xhN2 ⟨(i+1,q2),hlt,h4,k4,k5,k7,fun _=>hn2⟩ S2 (by exact yB hlt (yE i))
  exact goW
 rw [yG,Tz] at h4
 have hcq:=d0p (n:=ts.length)
 have hM0:=Tx hs
 have hout:p0k lt pk p0 p1 ts=s:=by rw [p0k,←hq0,←hq1];exact h4.symm
 rw [hout] at zhZ
 have F0:=yA hcq<|yA hM0<|F0
 have zE:=fun m=>k1j (R:=(fun v m=>v=.tup [.one (.s 111 [] s.out.length 4),.one (.pl (.i 0))]∧m=[(111,⟨true,pls (Ay s.out).flatten⟩)])) (m:=m) (b:=true) (k:=111) (v:=.tup [.one (.s 111 [] s.out.length 4),.one (.pl (.i 0))]) (c:=pls (Ay s.out).flatten) ⟨rfl,rfl⟩
 exact goW
end Go.Sy
namespace Go.Sy
open Go.Proofs
attribute [local irreducible] Cj HT Bv Rj onC onE onO onG goV goA goS Tj Ck
def l0b (w:Int):List Int→List Aw
 | []=>[]
 |t::r=>(if t=1 then [Mv (3+w)] else [])++l0b w r
def a1q (p0 p1 ss:List Int):List Aw:=[Fv 0,Mv 1,Mv 2]++l0b 0 p0++l0b 1 p1++ss.map Fv
theorem q2v {n m:Nat} (h:n≤1000000) (g:m≤900000):(n+m)*48≤140737488355328:=by omega
theorem c2t {a s j n b:Nat} (h1:a≤s+j) (h2:j≤n) (h3:n≤6) (h4:s≤b+6) (hb:b≤900100):a≤1000000:=by omega
theorem b2k {a s n b:Nat} (h1:a≤s+n) (h3:n≤6) (h4:s≤b):a≤b+6:=by omega
theorem b0i (l:List Aw) (x:Aw):pls (Ay (l++[x])).flatten=pls (Ay l).flatten++pls x.cells:=by rw [Jw];simp [pls]
theorem k0n (a b:List Aw):(Ay (a++b)).flatten=(Ay a).flatten++(Ay b).flatten:=by simp [Xx]
theorem y1p {ss:List Int} {j:Nat} (h: ∀ n∈ss,0≤n) (hj:j<ss.length):¬ss.getD j 0<0:=Int.not_lt.mpr (h _ (Cw hj))
theorem k2c {ss:List Int} {j:Nat} {x:Int} (hj:j<ss.length) (hx:ss.getD j 0=x) (hn:¬x<0) (h: ∀ n∈ss.take j,0≤n): ∀ n∈ss.take (j+1),0≤n:=by
 intro n hm
 rw [List.take_add_one,yU] at hm
 rcases hm with hm|hm
 ·exact h n hm
 rw [yX hj] at hm
 have e:ss[j]=x:=by rw [←hx];simp [List.getD,yX hj]
 simp only [Option.toList_some,xW] at hm
 rw [hm,e];omega
theorem s1a {ss:List Int} {j:Nat} (hj:j<ss.length) (hn:ss.getD j 0<0):¬∀ n∈ss,0≤n:=fun h=>y1p h hj hn
theorem w0p {ss:List Int} (h: ∀ n∈ss.take ss.length,0≤n): ∀ n∈ss,0≤n:=by rwa [List.take_length] at h
theorem p1e (bs:List UInt8) (lt:Bool) (ps:List (List PL)) (p0 p1:List Int) (ts:List (List Int)) (ss:List Int) (turn:Int) (e:Int) (he:¬e=0) (hT:Ct Try.prog 21 [.w (.agg (Ow bs lt ps p0 p1 ts))] (fun v m=>v=.tup [.one (.pl (.R true 1 [])),.one (.pl (.i e))]∧m=[])):
 Ct Try.prog 7 [.w (.agg (Ow bs lt ps p0 p1 ts)),.w (.one (.pl (.R false 1 (Kq ss)))),.w (.one (.pl (.i turn)))] (fun v m=>v=.tup [.one (.pl (.b (false))),.one (.pl (.i (e)))]):=by
 skip
 have F0:=yA Ow.eq_1<|he
 have cq:=yA (CtM.ch [] (hT.hands))<|trivial
 exact Ct.go Try.func7 rfl Try.ntmps7 Try.results7
theorem m2s (bs:List UInt8) (lt:Bool) (ps:List (List PL)) (p0 p1:List Int) (ts:List (List Int)) (ss:List Int) (turn:Int) (L:List Aw) (hLl:L.length≤900000) (hT:CtM Try.prog 21 [.w (.agg (Ow bs lt ps p0 p1 ts))] [] (fun v m=>v=.tup [.one (.pl (.R false 4 (Ay L))),.one (.pl (.i 0))]∧m=[])) (h1:turn<0):
 Ct Try.prog 7 [.w (.agg (Ow bs lt ps p0 p1 ts)),.w (.one (.pl (.R false 1 (Kq ss)))),.w (.one (.pl (.i turn)))] (fun v m=>v=.tup [.one (.pl (.b (false))),.one (.pl (.i (6)))]):=by
 skip
 have F0:=yA Ow.eq_1<|yA Fx<|yA Fz<|h1
 have cq:=yA (CtM.ch [] (hT))<|trivial
 exact Ct.go Try.func7 rfl Try.ntmps7 Try.results7
theorem m2r (bs:List UInt8) (lt:Bool) (ps:List (List PL)) (p0 p1:List Int) (ts:List (List Int)) (ss:List Int) (turn:Int) (L:List Aw) (hLl:L.length≤900000) (hT:CtM Try.prog 21 [.w (.agg (Ow bs lt ps p0 p1 ts))] [] (fun v m=>v=.tup [.one (.pl (.R false 4 (Ay L))),.one (.pl (.i 0))]∧m=[])) (h1:¬turn<0) (h2:turn≥((ts.length:Nat):Int)):
 Ct Try.prog 7 [.w (.agg (Ow bs lt ps p0 p1 ts)),.w (.one (.pl (.R false 1 (Kq ss)))),.w (.one (.pl (.i turn)))] (fun v m=>v=.tup [.one (.pl (.b (false))),.one (.pl (.i (6)))]):=by
 skip
 have F0:=yA Ow.eq_1<|yA Fx<|yA Fz<|yA h1<|h2
 have cq:=yA (CtM.ch [] (hT))<|trivial
 exact Ct.go Try.func7 rfl Try.ntmps7 Try.results7
theorem m2q (bs:List UInt8) (lt:Bool) (ps:List (List PL)) (p0 p1:List Int) (ts:List (List Int)) (ss:List Int) (turn:Int) (L:List Aw) (hLl:L.length≤900000) (hT:CtM Try.prog 21 [.w (.agg (Ow bs lt ps p0 p1 ts))] [] (fun v m=>v=.tup [.one (.pl (.R false 4 (Ay L))),.one (.pl (.i 0))]∧m=[])) (h1:¬turn<0) (h2:¬turn≥((ts.length:Nat):Int)) (h3:((ss.length:Nat):Int)>6):
 Ct Try.prog 7 [.w (.agg (Ow bs lt ps p0 p1 ts)),.w (.one (.pl (.R false 1 (Kq ss)))),.w (.one (.pl (.i turn)))] (fun v m=>v=.tup [.one (.pl (.b (false))),.one (.pl (.i (6)))]):=by
 skip
 have F0:=yA Ow.eq_1<|yA Fx<|yA Fz<|yA h1<|yA h2<|h3
 have cq:=yA (CtM.ch [] (hT))<|trivial
 exact Ct.go Try.func7 rfl Try.ntmps7 Try.results7
theorem c2e (bs:List UInt8) (lt:Bool) (ps:List (List PL)) (p0 p1:List Int) (ts:List (List Int)) (ss:List Int) (tn:Nat) (L:List Aw) (hLl:L.length≤900000) (hT:CtM Try.prog 21 [.w (.agg (Ow bs lt ps p0 p1 ts))] [] (fun v m=>v=.tup [.one (.pl (.R false 4 (Ay L))),.one (.pl (.i 0))]∧m=[])) (htn:tn<ts.length) (ht5:ts.length≤5) (hss6:ss.length≤6) (hp0:p0.length≤6) (hp1:p1.length≤6) (K:List Aw) (hK:a1q p0 p1 ss++L=K) (b0:Bool) (e0:Int) (hKn:Ct Try.prog 5 [.w (.one (.pl (.R false 4 (Ay K)))),Yy (Fv (20+(tn:Int)))] (fun v m=>v=.tup [.one (.pl (.b b0)),.one (.pl (.i e0))])) (res:V) (hres:((∀ n∈ss,0≤n)→res=.tup [.one (.pl (.b (!b0&&decide (e0=0)))),.one (.pl (.i e0))])∧((¬∀ n∈ss,0≤n)→res=.tup [.one (.pl (.b false)),.one (.pl (.i 6))])):
 Ct Try.prog 7 [.w (.agg (Ow bs lt ps p0 p1 ts)),.w (.one (.pl (.R false 1 (Kq ss)))),.w (.one (.pl (.i (tn:Int))))] (fun v m=>v=res):=by
 have h1:¬(tn:Int)<0:=Int.not_lt.mpr (yN tn)
 have h2:¬(tn:Int)≥((ts.length:Nat):Int):=Int.not_le.mpr (Int.ofNat_lt.mpr htn)
 have h3:¬((ss.length:Nat):Int)>6:=Int.not_lt.mpr (Int.ofNat_le.mpr hss6)
 have hb0:=Nat.le_add_right ([Fv 0,Mv 1,Mv 2]:List Aw).length 6
 have hbl:([Fv 0,Mv 1,Mv 2]:List Aw).length=3:=by simp
 have hb3:([Fv 0,Mv 1,Mv 2]:List Aw).length≤900100:=by omega
 have hb4:([Fv 0,Mv 1,Mv 2]:List Aw).length+6≤900100:=by omega
 have F0:=yA Ow.eq_1<|yA Fx<|yA Fz<|yA Iy<|yA Ij<|yA Dy<|yA Fq<|yA Ez<|yA Fj<|yA Dz<|yA Cv<|yA Dj<|yA Gw<|yA Kw<|yA r0d<|yA q0w<|yA d0d<|yA Oz<|yA o0o<|yA flat3<|yA h1<|yA h2<|h3
 have zF:NF:=⟨⟩
 refine Ct.go Try.func7 rfl Try.ntmps7 Try.results7 fun w0 ro zZ zhZ=>?_
 have cq:=yA (CtM.ch [] (hT))<|yA (CtM.ch [] (((n0l 0).plain fun _ _ h=>h).hands))<|yA (CtM.ch [] (((a1o 1).plain fun _ _ h=>h).hands))<|yA (CtM.ch [] (((a1o 2).plain fun _ _ h=>h).hands))<|trivial
 have zU:=yA ur<|trivial
 refine (fun zX=>goW) ?_
 refine Nq [(46,.w (.one (.pl (.i 0)))),(45,.w (.agg [.pl (.R false 1 (Kq p0)),.pl (.R false 1 (Kq p1))])),(11,.w (.one (.pl (.i 0)))),(50,.w (.one (.pl (.R false 1 (Kq p0))))),(51,.w (.one (.pl (.i ((p0.length:Nat):Int))))),(3,.w (.one (.p 3 []))),(2,.w (.one (.pl (.i (tn:Int))))),(1,.w (.one (.pl (.R false 1 (Kq ss))))),(8,.w (.one (.pl (.R false 4 (Ay L)))))] [(3,⟨false,Ow bs lt ps p0 p1 ts⟩)] (fun y=>[(52,.w (.one (.pl (.i ((y.1.1:Nat):Int))))),(10,.w (.one (.s 43 [] y.1.2.length 4)))]) (fun y=>[(43,⟨true,pls (Ay y.1.2).flatten⟩)]) (fun y=>p0.length-y.1.1) (⟨(0,[Fv 0,Mv 1,Mv 2]),yP _,rfl,yV _⟩:{y:Nat×List Aw//y.1≤p0.length∧y.2++l0b 0 (p0.drop y.1)=[Fv 0,Mv 1,Mv 2]++l0b 0 p0∧y.2.length≤([Fv 0,Mv 1,Mv 2]:List Aw).length+y.1}) ?_ (by (simp only [go_sem,leX,yC,yD,F0];try simp)) (by (simp only [go_sem,leX,k0n,Xw,flat3,yC,yD,F0];try simp))
 intro zz xN0 xM0 xhN0 xhM0
 simp only [yC,yD]
 obtain ⟨⟨j,q0⟩,g1,g4,g5⟩:=zz
 simp only at g1 g4 g5
 have hd:(j<p0.length∧p0.getD j 0=1)∨(j<p0.length∧¬p0.getD j 0=1)∨j=p0.length:=by
  by_cases h:j<p0.length
  ·by_cases h2:p0.getD j 0=1
   ·exact .inl ⟨h,h2⟩
   exact .inr (.inl ⟨h,h2⟩)
  exact .inr (.inr (xJ g1 (wM h)))
 rcases hd with ⟨glt,hx⟩|⟨glt,hx⟩|rfl
 ·have gcq:=h0g glt
  have gj:=Zy j
  have gg:=Bj glt
  rw [Ak (z:=0) glt,l0b] at g4
  have gs1:=Ov glt (yJ hp0 (by decide))
  rw [if_pos hx] at g4
  rw [hx] at gg
  have hn1:=cap4 (c2t g5 (xV glt) hp0 hb0 hb3)
  have hi0:=Zy q0.length
  have F0:=yA gcq<|yA gj<|yA glt<|yA gg<|yA gs1<|yA hn1<|yA hi0<|yA b0i<|F0
  have cq:=yA (CtM.ch [] (((a1o 3).plain fun _ _ h=>h).hands))<|trivial
  have zL:=fun S2=>xhN0 ⟨(j+1,q0++[Mv 3]),glt,(wD _ _ _).trans g4,by rw [yL];exact xH g5⟩ S2 (by exact yB glt (yE j))
  exact goW
 ·have gcq:=h0g glt
  have gj:=Zy j
  have gg:=Bj glt
  rw [Ak (z:=0) glt,l0b] at g4
  have gs1:=Ov glt (yJ hp0 (by decide))
  rw [if_neg hx,yD] at g4
  have F0:=yA gcq<|yA gj<|yA glt<|yA gg<|yA gs1<|yA hx<|F0
  have zL:=fun S2=>xhN0 ⟨(j+1,q0),glt,g4,vM g5⟩ S2 (by exact yB glt (yE j))
  exact goW
 rw [yG,l0b,xX] at g4
 have gcq:=d0p (n:=p0.length)
 have hq0:=g4
 have hl0:=b2k g5 hp0 (yV _)
 have F0:=yA gcq<|F0
 have zU:=trivial
 refine (fun zX=>goW) ?_
 refine Nq [(46,.w (.one (.pl (.i 1)))),(45,.w (.agg [.pl (.R false 1 (Kq p0)),.pl (.R false 1 (Kq p1))])),(11,.w (.one (.pl (.i 1)))),(50,.w (.one (.pl (.R false 1 (Kq p1))))),(51,.w (.one (.pl (.i ((p1.length:Nat):Int))))),(3,.w (.one (.p 3 []))),(2,.w (.one (.pl (.i (tn:Int))))),(1,.w (.one (.pl (.R false 1 (Kq ss))))),(8,.w (.one (.pl (.R false 4 (Ay L)))))] [(3,⟨false,Ow bs lt ps p0 p1 ts⟩)] (fun y=>[(52,.w (.one (.pl (.i ((y.1.1:Nat):Int))))),(10,.w (.one (.s 43 [] y.1.2.length 4)))]) (fun y=>[(43,⟨true,pls (Ay y.1.2).flatten⟩)]) (fun y=>p1.length-y.1.1) (⟨(0,q0),yP _,rfl,yV _⟩:{y:Nat×List Aw//y.1≤p1.length∧y.2++l0b 1 (p1.drop y.1)=q0++l0b 1 p1∧y.2.length≤(q0:List Aw).length+y.1}) ?_ (by (simp only [go_sem,leX,yC,yD,F0];try simp)) (by (simp only [go_sem,leX,k0n,Xw,flat3,yC,yD,F0];try simp))
 intro zz xN1 xM1 xhN1 xhM1
 simp only [yC,yD]
 obtain ⟨⟨j,q1⟩,g1,g4,g5⟩:=zz
 simp only at g1 g4 g5
 have hd:(j<p1.length∧p1.getD j 0=1)∨(j<p1.length∧¬p1.getD j 0=1)∨j=p1.length:=by
  by_cases h:j<p1.length
  ·by_cases h2:p1.getD j 0=1
   ·exact .inl ⟨h,h2⟩
   exact .inr (.inl ⟨h,h2⟩)
  exact .inr (.inr (xJ g1 (wM h)))
 rcases hd with ⟨glt,hx⟩|⟨glt,hx⟩|rfl
 ·have gcq:=h0g glt
  have gj:=Zy j
  have gg:=Bj glt
  rw [Ak (z:=0) glt,l0b] at g4
  have gs1:=Ov glt (yJ hp1 (by decide))
  rw [if_pos hx] at g4
  rw [hx] at gg
  have hn1:=cap4 (c2t g5 (xV glt) hp1 hl0 hb3)
  have hi0:=Zy q1.length
  have F0:=yA gcq<|yA gj<|yA glt<|yA gg<|yA gs1<|yA hn1<|yA hi0<|yA b0i<|F0
  have cq:=yA (CtM.ch [] (((a1o 4).plain fun _ _ h=>h).hands))<|trivial
  have zL:=fun S2=>xhN1 ⟨(j+1,q1++[Mv 4]),glt,(wD _ _ _).trans g4,by rw [yL];exact xH g5⟩ S2 (by exact yB glt (yE j))
  exact goW
 ·have gcq:=h0g glt
  have gj:=Zy j
  have gg:=Bj glt
  rw [Ak (z:=0) glt,l0b] at g4
  have gs1:=Ov glt (yJ hp1 (by decide))
  rw [if_neg hx,yD] at g4
  have F0:=yA gcq<|yA gj<|yA glt<|yA gg<|yA gs1<|yA hx<|F0
  have zL:=fun S2=>xhN1 ⟨(j+1,q1),glt,g4,vM g5⟩ S2 (by exact yB glt (yE j))
  exact goW
 rw [yG,l0b,xX] at g4
 have gcq:=d0p (n:=p1.length)
 have hq1:=g4
 have hl1:=b2k g5 hp1 hl0
 have F0:=yA gcq<|F0
 have zU:=trivial
 refine (fun zX=>goW) ?_
 refine Nq [(66,.w (.one (.pl (.R false 1 (Kq ss))))),(67,.w (.one (.pl (.i ((ss.length:Nat):Int))))),(3,.w (.one (.p 3 []))),(2,.w (.one (.pl (.i (tn:Int))))),(1,.w (.one (.pl (.R false 1 (Kq ss))))),(8,.w (.one (.pl (.R false 4 (Ay L)))))] [(3,⟨false,Ow bs lt ps p0 p1 ts⟩)] (fun y=>[(68,.w (.one (.pl (.i ((y.1.1:Nat):Int))))),(10,.w (.one (.s 43 [] y.1.2.length 4)))]) (fun y=>[(43,⟨true,pls (Ay y.1.2).flatten⟩)]) (fun y=>ss.length-y.1.1) (⟨(0,q1),yP _,rfl,yV _,fun n hn=>by cases hn⟩:{y:Nat×List Aw//y.1≤ss.length∧y.2++(ss.drop y.1).map Fv=q1++ss.map Fv∧y.2.length≤q1.length+y.1∧∀ n∈ss.take y.1,0≤n}) ?_
 intro zz xN2 xM2 xhN2 xhM2
 simp only [yC,yD]
 obtain ⟨⟨j,q2⟩,g1,g4,g5,g6⟩:=zz
 simp only at g1 g4 g5 g6
 have hd:(j<ss.length∧¬ss.getD j 0<0)∨(j<ss.length∧ss.getD j 0<0)∨j=ss.length:=by
  by_cases h:j<ss.length
  ·by_cases h2:ss.getD j 0<0
   ·exact .inr (.inl ⟨h,h2⟩)
   exact .inl ⟨h,h2⟩
  exact .inr (.inr (xJ g1 (wM h)))
 rcases hd with ⟨glt,hneg⟩|⟨glt,hneg⟩|rfl
 rotate_left 2
 rcases b0 with _|_
 rotate_left 2
 ·have gcq:=h0g glt
  have gj:=Zy j
  have gg:=Bj glt
  rw [Ak (z:=0) glt,yM] at g4
  have gs1:=Ov glt (yJ hss6 (by decide))
  obtain ⟨x,hx⟩: ∃ x,ss.getD j 0=x:=⟨_,rfl⟩
  rw [hx] at gg g4
  rw [hx] at hneg
  have hn1:=cap4 (c2t g5 (xV glt) hss6 hl1 hb4)
  have hi0:=Zy q2.length
  have F0:=yA gcq<|yA gj<|yA glt<|yA gg<|yA gs1<|yA hneg<|yA hn1<|yA hi0<|yA b0i<|F0
  have cq:=yA (CtM.ch [] (((n0l x).plain fun _ _ h=>h).hands))<|trivial
  have zL:=fun S2=>xhN2 ⟨(j+1,q2++[Fv x]),glt,(wD _ _ _).trans g4,by rw [yL];exact xH g5,k2c glt hx hneg g6⟩ S2 (by exact yB glt (yE j))
  exact goW
 ·have gcq:=h0g glt
  have gj:=Zy j
  have gg:=Bj glt
  rw [Ak (z:=0) glt,yM] at g4
  have gs1:=Ov glt (yJ hss6 (by decide))
  obtain ⟨x,hx⟩: ∃ x,ss.getD j 0=x:=⟨_,rfl⟩
  rw [hx] at gg g4
  rw [hx] at hneg
  have hres2:=hres.2 (s1a glt (hx▸hneg))
  have F0:=yA gcq<|yA gj<|yA glt<|yA gg<|yA gs1<|yA hneg<|F0
  have zE:=hres2.symm
  exact goW
 ·rw [yG,wC,xX] at g4
  have hKq:q2++L=K:=by rw [←hK,g4,hq1,hq0];simp [a1q]
  have gcq:=d0p (n:=ss.length)
  have hbc:=Wv K
  have hun:m0o (pls (Ay K).flatten)=some (Ay K).flatten:=Uw _
  have hw20:=w20 htn (yJ ht5 (by decide))
  have hfa:pls (Ay q2).flatten++pls (Ay L).flatten=pls (Ay K).flatten:=by rw [←hKq,o0p]
  have hlk:q2.length+L.length=K.length:=by rw [←hKq,yL]
  have hla:K.length*48≤140737488355328:=by rw [←hlk];exact q2v (c2t g5 (yV _) hss6 hl1 hb4) hLl
  have hres1:=hres.1 (w0p g6)
  have F0:=yA gcq<|yA hbc<|yA hun<|yA hw20<|yA Fj<|yA Az<|yA hla<|yA hfa<|yA hlk<|F0
  have zE:=hres1.symm
  have cq:=yA (CtM.ch [] (((n0l (20+(tn:Int))).plain fun _ _ h=>h).hands))<|yA (Ct.cv (hKn))<|trivial
  exact goW
 rw [yG,wC,xX] at g4
 have hKq:q2++L=K:=by rw [←hK,g4,hq1,hq0];simp [a1q]
 have gcq:=d0p (n:=ss.length)
 have hbc:=Wv K
 have hun:m0o (pls (Ay K).flatten)=some (Ay K).flatten:=Uw _
 have hw20:=w20 htn (yJ ht5 (by decide))
 have hfa:pls (Ay q2).flatten++pls (Ay L).flatten=pls (Ay K).flatten:=by rw [←hKq,o0p]
 have hlk:q2.length+L.length=K.length:=by rw [←hKq,yL]
 have hla:K.length*48≤140737488355328:=by rw [←hlk];exact q2v (c2t g5 (yV _) hss6 hl1 hb4) hLl
 have hres1:=hres.1 (w0p g6)
 have F0:=yA gcq<|yA hbc<|yA hun<|yA hw20<|yA Fj<|yA Az<|yA hla<|yA hfa<|yA hlk<|F0
 have zE:=hres1.symm
 have cq:=yA (CtM.ch [] (((n0l (20+(tn:Int))).plain fun _ _ h=>h).hands))<|yA (Ct.cv (hKn))<|trivial
 exact goW
end Go.Sy
namespace Go.Sy
open Go.Proofs
attribute [local irreducible] Cj HT Bv Rj onC onE onO onG goV goA goS Tj Ck
theorem f1c (bs:List UInt8) (lt:Bool) (ps:List (List PL)) (p0 p1:List Int) (ts:List (List Int)) (ss:List Int) (turn:Int) (e:Int) (he:¬e=0) (hT:Ct Try.prog 24 [.w (.agg (Ow bs lt ps p0 p1 ts))] (fun v m=>v=.tup [.one (.pl (.R true 1 [])),.one (.pl (.i e))]∧m=[])):
 Ct Try.prog 8 [.w (.agg (Ow bs lt ps p0 p1 ts)),.w (.one (.pl (.R false 1 (Kq ss)))),.w (.one (.pl (.i turn)))] (fun v m=>v=.tup [.one (.pl (.b (false))),.one (.pl (.i (e)))]):=by
 skip
 have F0:=yA Ow.eq_1<|he
 have cq:=yA (CtM.ch [] (hT.hands))<|trivial
 exact Ct.go Try.func8 rfl Try.ntmps8 Try.results8
theorem e2w (bs:List UInt8) (lt:Bool) (ps:List (List PL)) (p0 p1:List Int) (ts:List (List Int)) (ss:List Int) (turn:Int) (L:List Aw) (hLl:L.length≤900000) (hT:CtM Try.prog 24 [.w (.agg (Ow bs lt ps p0 p1 ts))] [] (fun v m=>v=.tup [.one (.s 111 [] L.length 4),.one (.pl (.i 0))]∧m=[(111,⟨true,pls (Ay L).flatten⟩)])) (h1:turn<0):
 Ct Try.prog 8 [.w (.agg (Ow bs lt ps p0 p1 ts)),.w (.one (.pl (.R false 1 (Kq ss)))),.w (.one (.pl (.i turn)))] (fun v m=>v=.tup [.one (.pl (.b (false))),.one (.pl (.i (6)))]):=by
 skip
 have F0:=yA Ow.eq_1<|yA Fx<|yA Fz<|h1
 have cq:=yA (CtM.ch [] (hT))<|trivial
 exact Ct.go Try.func8 rfl Try.ntmps8 Try.results8
theorem e2v (bs:List UInt8) (lt:Bool) (ps:List (List PL)) (p0 p1:List Int) (ts:List (List Int)) (ss:List Int) (turn:Int) (L:List Aw) (hLl:L.length≤900000) (hT:CtM Try.prog 24 [.w (.agg (Ow bs lt ps p0 p1 ts))] [] (fun v m=>v=.tup [.one (.s 111 [] L.length 4),.one (.pl (.i 0))]∧m=[(111,⟨true,pls (Ay L).flatten⟩)])) (h1:¬turn<0) (h2:turn≥((ts.length:Nat):Int)):
 Ct Try.prog 8 [.w (.agg (Ow bs lt ps p0 p1 ts)),.w (.one (.pl (.R false 1 (Kq ss)))),.w (.one (.pl (.i turn)))] (fun v m=>v=.tup [.one (.pl (.b (false))),.one (.pl (.i (6)))]):=by
 skip
 have F0:=yA Ow.eq_1<|yA Fx<|yA Fz<|yA h1<|h2
 have cq:=yA (CtM.ch [] (hT))<|trivial
 exact Ct.go Try.func8 rfl Try.ntmps8 Try.results8
theorem e2u (bs:List UInt8) (lt:Bool) (ps:List (List PL)) (p0 p1:List Int) (ts:List (List Int)) (ss:List Int) (turn:Int) (L:List Aw) (hLl:L.length≤900000) (hT:CtM Try.prog 24 [.w (.agg (Ow bs lt ps p0 p1 ts))] [] (fun v m=>v=.tup [.one (.s 111 [] L.length 4),.one (.pl (.i 0))]∧m=[(111,⟨true,pls (Ay L).flatten⟩)])) (h1:¬turn<0) (h2:¬turn≥((ts.length:Nat):Int)) (h3:((ss.length:Nat):Int)>6):
 Ct Try.prog 8 [.w (.agg (Ow bs lt ps p0 p1 ts)),.w (.one (.pl (.R false 1 (Kq ss)))),.w (.one (.pl (.i turn)))] (fun v m=>v=.tup [.one (.pl (.b (false))),.one (.pl (.i (6)))]):=by
 skip
 have F0:=yA Ow.eq_1<|yA Fx<|yA Fz<|yA h1<|yA h2<|h3
 have cq:=yA (CtM.ch [] (hT))<|trivial
 exact Ct.go Try.func8 rfl Try.ntmps8 Try.results8
theorem m1w (bs:List UInt8) (lt:Bool) (ps:List (List PL)) (p0 p1:List Int) (ts:List (List Int)) (ss:List Int) (tn:Nat) (L:List Aw) (hLl:L.length≤900000) (hT:CtM Try.prog 24 [.w (.agg (Ow bs lt ps p0 p1 ts))] [] (fun v m=>v=.tup [.one (.s 111 [] L.length 4),.one (.pl (.i 0))]∧m=[(111,⟨true,pls (Ay L).flatten⟩)])) (htn:tn<ts.length) (ht5:ts.length≤5) (hss6:ss.length≤6) (hp0:p0.length≤6) (hp1:p1.length≤6) (K:List Aw) (hK:L++a1q p0 p1 ss=K) (b0:Bool) (e0:Int) (hKn:Ct Try.prog 6 [.w (.one (.pl (.R false 4 (Ay K)))),Yy (Fv (20+(tn:Int)))] (fun v m=>v=.tup [.one (.pl (.b b0)),.one (.pl (.i e0))])) (res:V) (hres:((∀ n∈ss,0≤n)→res=.tup [.one (.pl (.b (!b0&&decide (e0=0)))),.one (.pl (.i e0))])∧((¬∀ n∈ss,0≤n)→res=.tup [.one (.pl (.b false)),.one (.pl (.i 6))])):
 Ct Try.prog 8 [.w (.agg (Ow bs lt ps p0 p1 ts)),.w (.one (.pl (.R false 1 (Kq ss)))),.w (.one (.pl (.i (tn:Int))))] (fun v m=>v=res):=by
 have h1:¬(tn:Int)<0:=Int.not_lt.mpr (yN tn)
 have h2:¬(tn:Int)≥((ts.length:Nat):Int):=Int.not_le.mpr (Int.ofNat_lt.mpr htn)
 have h3:¬((ss.length:Nat):Int)>6:=Int.not_lt.mpr (Int.ofNat_le.mpr hss6)
 have hb0:=Nat.le_add_right ((L++[Fv 0,Mv 1,Mv 2]):List Aw).length 6
 have hbl:((L++[Fv 0,Mv 1,Mv 2]):List Aw).length=L.length+3:=by simp
 have hb3:((L++[Fv 0,Mv 1,Mv 2]):List Aw).length≤900100:=by omega
 have hb4:((L++[Fv 0,Mv 1,Mv 2]):List Aw).length+6≤900100:=by omega
 have hcL:(L.length+3)*48≤140737488355328:=by omega
 have hiL:=Zy L.length
 have F0:=yA Ow.eq_1<|yA Fx<|yA Fz<|yA Iy<|yA Ij<|yA Dy<|yA Fq<|yA Ez<|yA Fj<|yA Dz<|yA Cv<|yA Dj<|yA Gw<|yA Kw<|yA r0d<|yA q0w<|yA d0d<|yA Oz<|yA o0o<|yA flat3<|yA h1<|yA h2<|yA h3<|yA hcL<|hiL
 have zF:NF:=⟨⟩
 refine Ct.go Try.func8 rfl Try.ntmps8 Try.results8 fun w0 ro zZ zhZ=>?_
 have cq:=yA (CtM.ch [] (hT))<|yA (CtM.ch [] (((c0e 0).plain fun _ _ h=>h).hands))<|yA (CtM.ch [] (((c0m 1).plain fun _ _ h=>h).hands))<|yA (CtM.ch [] (((c0m 2).plain fun _ _ h=>h).hands))<|trivial
 have zU:=yA ur<|trivial
 refine (fun zX=>goW) ?_
 refine Nq [(44,.w (.one (.pl (.i 0)))),(10,.w (.one (.pl (.i 0)))),(50,.w (.one (.pl (.R false 1 (Kq p0))))),(51,.w (.one (.pl (.i ((p0.length:Nat):Int))))),(3,.w (.one (.p 3 []))),(2,.w (.one (.pl (.i (tn:Int))))),(1,.w (.one (.pl (.R false 1 (Kq ss)))))] [(3,⟨false,Ow bs lt ps p0 p1 ts⟩)] (fun y=>[(52,.w (.one (.pl (.i ((y.1.1:Nat):Int))))),(8,.w (.one (.s 111 [] y.1.2.length 4)))]) (fun y=>[(111,⟨true,pls (Ay y.1.2).flatten⟩)]) (fun y=>p0.length-y.1.1) (⟨(0,(L++[Fv 0,Mv 1,Mv 2])),yP _,rfl,yV _⟩:{y:Nat×List Aw//y.1≤p0.length∧y.2++l0b 0 (p0.drop y.1)=(L++[Fv 0,Mv 1,Mv 2])++l0b 0 p0∧y.2.length≤((L++[Fv 0,Mv 1,Mv 2]):List Aw).length+y.1}) ?_ (by (simp only [go_sem,leX,yC,yD,F0];try simp)) (by (simp only [go_sem,leX,k0n,Xw,flat3,yC,yD,F0];try simp))
 intro zz xN0 xM0 xhN0 xhM0
 simp only [yC,yD]
 obtain ⟨⟨j,q0⟩,g1,g4,g5⟩:=zz
 simp only at g1 g4 g5
 have hd:(j<p0.length∧p0.getD j 0=1)∨(j<p0.length∧¬p0.getD j 0=1)∨j=p0.length:=by
  by_cases h:j<p0.length
  ·by_cases h2:p0.getD j 0=1
   ·exact .inl ⟨h,h2⟩
   exact .inr (.inl ⟨h,h2⟩)
  exact .inr (.inr (xJ g1 (wM h)))
 rcases hd with ⟨glt,hx⟩|⟨glt,hx⟩|rfl
 ·have gcq:=h0g glt
  have gj:=Zy j
  have gg:=Bj glt
  rw [Ak (z:=0) glt,l0b] at g4
  have gs1:=Ov glt (yJ hp0 (by decide))
  rw [if_pos hx] at g4
  rw [hx] at gg
  have hn1:=cap4 (c2t g5 (xV glt) hp0 hb0 hb3)
  have hi0:=Zy q0.length
  have F0:=yA gcq<|yA gj<|yA glt<|yA gg<|yA gs1<|yA hn1<|yA hi0<|yA b0i<|F0
  have cq:=yA (CtM.ch [] (((c0m 3).plain fun _ _ h=>h).hands))<|trivial
  have zL:=fun S2=>xhN0 ⟨(j+1,q0++[Mv 3]),glt,(wD _ _ _).trans g4,by rw [yL];exact xH g5⟩ S2 (by exact yB glt (yE j))
  exact goW
 ·have gcq:=h0g glt
  have gj:=Zy j
  have gg:=Bj glt
  rw [Ak (z:=0) glt,l0b] at g4
  have gs1:=Ov glt (yJ hp0 (by decide))
  rw [if_neg hx,yD] at g4
  have F0:=yA gcq<|yA gj<|yA glt<|yA gg<|yA gs1<|yA hx<|F0
  have zL:=fun S2=>xhN0 ⟨(j+1,q0),glt,g4,vM g5⟩ S2 (by exact yB glt (yE j))
  exact goW
 rw [yG,l0b,xX] at g4
 have gcq:=d0p (n:=p0.length)
 have hq0:=g4
 have hl0:=b2k g5 hp0 (yV _)
 have F0:=yA gcq<|F0
 have zU:=trivial
 refine (fun zX=>goW) ?_
 refine Nq [(44,.w (.one (.pl (.i 1)))),(10,.w (.one (.pl (.i 1)))),(50,.w (.one (.pl (.R false 1 (Kq p1))))),(51,.w (.one (.pl (.i ((p1.length:Nat):Int))))),(3,.w (.one (.p 3 []))),(2,.w (.one (.pl (.i (tn:Int))))),(1,.w (.one (.pl (.R false 1 (Kq ss)))))] [(3,⟨false,Ow bs lt ps p0 p1 ts⟩)] (fun y=>[(52,.w (.one (.pl (.i ((y.1.1:Nat):Int))))),(8,.w (.one (.s 111 [] y.1.2.length 4)))]) (fun y=>[(111,⟨true,pls (Ay y.1.2).flatten⟩)]) (fun y=>p1.length-y.1.1) (⟨(0,q0),yP _,rfl,yV _⟩:{y:Nat×List Aw//y.1≤p1.length∧y.2++l0b 1 (p1.drop y.1)=q0++l0b 1 p1∧y.2.length≤(q0:List Aw).length+y.1}) ?_ (by (simp only [go_sem,leX,yC,yD,F0];try simp)) (by (simp only [go_sem,leX,k0n,Xw,flat3,yC,yD,F0];try simp))
 intro zz xN1 xM1 xhN1 xhM1
 simp only [yC,yD]
 obtain ⟨⟨j,q1⟩,g1,g4,g5⟩:=zz
 simp only at g1 g4 g5
 have hd:(j<p1.length∧p1.getD j 0=1)∨(j<p1.length∧¬p1.getD j 0=1)∨j=p1.length:=by
  by_cases h:j<p1.length
  ·by_cases h2:p1.getD j 0=1
   ·exact .inl ⟨h,h2⟩
   exact .inr (.inl ⟨h,h2⟩)
  exact .inr (.inr (xJ g1 (wM h)))
 rcases hd with ⟨glt,hx⟩|⟨glt,hx⟩|rfl
 ·have gcq:=h0g glt
  have gj:=Zy j
  have gg:=Bj glt
  rw [Ak (z:=0) glt,l0b] at g4
  have gs1:=Ov glt (yJ hp1 (by decide))
  rw [if_pos hx] at g4
  rw [hx] at gg
  have hn1:=cap4 (c2t g5 (xV glt) hp1 hl0 hb3)
  have hi0:=Zy q1.length
  have F0:=yA gcq<|yA gj<|yA glt<|yA gg<|yA gs1<|yA hn1<|yA hi0<|yA b0i<|F0
  have cq:=yA (CtM.ch [] (((c0m 4).plain fun _ _ h=>h).hands))<|trivial
  have zL:=fun S2=>xhN1 ⟨(j+1,q1++[Mv 4]),glt,(wD _ _ _).trans g4,by rw [yL];exact xH g5⟩ S2 (by exact yB glt (yE j))
  exact goW
 ·have gcq:=h0g glt
  have gj:=Zy j
  have gg:=Bj glt
  rw [Ak (z:=0) glt,l0b] at g4
  have gs1:=Ov glt (yJ hp1 (by decide))
  rw [if_neg hx,yD] at g4
  have F0:=yA gcq<|yA gj<|yA glt<|yA gg<|yA gs1<|yA hx<|F0
  have zL:=fun S2=>xhN1 ⟨(j+1,q1),glt,g4,vM g5⟩ S2 (by exact yB glt (yE j))
  exact goW
 rw [yG,l0b,xX] at g4
 have gcq:=d0p (n:=p1.length)
 have hq1:=g4
 have hl1:=b2k g5 hp1 hl0
 have F0:=yA gcq<|F0
 have zU:=trivial
 refine (fun zX=>goW) ?_
 refine Nq [(66,.w (.one (.pl (.R false 1 (Kq ss))))),(67,.w (.one (.pl (.i ((ss.length:Nat):Int))))),(3,.w (.one (.p 3 []))),(2,.w (.one (.pl (.i (tn:Int))))),(1,.w (.one (.pl (.R false 1 (Kq ss)))))] [(3,⟨false,Ow bs lt ps p0 p1 ts⟩)] (fun y=>[(68,.w (.one (.pl (.i ((y.1.1:Nat):Int))))),(8,.w (.one (.s 111 [] y.1.2.length 4)))]) (fun y=>[(111,⟨true,pls (Ay y.1.2).flatten⟩)]) (fun y=>ss.length-y.1.1) (⟨(0,q1),yP _,rfl,yV _,fun n hn=>by cases hn⟩:{y:Nat×List Aw//y.1≤ss.length∧y.2++(ss.drop y.1).map Fv=q1++ss.map Fv∧y.2.length≤q1.length+y.1∧∀ n∈ss.take y.1,0≤n}) ?_
 intro zz xN2 xM2 xhN2 xhM2
 simp only [yC,yD]
 obtain ⟨⟨j,q2⟩,g1,g4,g5,g6⟩:=zz
 simp only at g1 g4 g5 g6
 have hd:(j<ss.length∧¬ss.getD j 0<0)∨(j<ss.length∧ss.getD j 0<0)∨j=ss.length:=by
  by_cases h:j<ss.length
  ·by_cases h2:ss.getD j 0<0
   ·exact .inr (.inl ⟨h,h2⟩)
   exact .inl ⟨h,h2⟩
  exact .inr (.inr (xJ g1 (wM h)))
 rcases hd with ⟨glt,hneg⟩|⟨glt,hneg⟩|rfl
 rotate_left 2
 rcases hec:decide (e0=0) with _|_
 rotate_left 2
 ·have gcq:=h0g glt
  have gj:=Zy j
  have gg:=Bj glt
  rw [Ak (z:=0) glt,yM] at g4
  have gs1:=Ov glt (yJ hss6 (by decide))
  obtain ⟨x,hx⟩: ∃ x,ss.getD j 0=x:=⟨_,rfl⟩
  rw [hx] at gg g4
  rw [hx] at hneg
  have hn1:=cap4 (c2t g5 (xV glt) hss6 hl1 hb4)
  have hi0:=Zy q2.length
  have F0:=yA gcq<|yA gj<|yA glt<|yA gg<|yA gs1<|yA hneg<|yA hn1<|yA hi0<|yA b0i<|F0
  have cq:=yA (CtM.ch [] (((c0e x).plain fun _ _ h=>h).hands))<|trivial
  have zL:=fun S2=>xhN2 ⟨(j+1,q2++[Fv x]),glt,(wD _ _ _).trans g4,by rw [yL];exact xH g5,k2c glt hx hneg g6⟩ S2 (by exact yB glt (yE j))
  exact goW
 ·have gcq:=h0g glt
  have gj:=Zy j
  have gg:=Bj glt
  rw [Ak (z:=0) glt,yM] at g4
  have gs1:=Ov glt (yJ hss6 (by decide))
  obtain ⟨x,hx⟩: ∃ x,ss.getD j 0=x:=⟨_,rfl⟩
  rw [hx] at gg g4
  rw [hx] at hneg
  have hres2:=hres.2 (s1a glt (hx▸hneg))
  have F0:=yA gcq<|yA gj<|yA glt<|yA gg<|yA gs1<|yA hneg<|F0
  have zE:=hres2.symm
  exact goW
 ·rw [yG,wC,xX] at g4
  have hKq:q2=K:=by rw [←hK,g4,hq1,hq0];simp [a1q]
  have gcq:=d0p (n:=ss.length)
  have hbc:=Wv K
  have hun:m0o (pls (Ay K).flatten)=some (Ay K).flatten:=Uw _
  have hw20:=w20 htn (yJ ht5 (by decide))
  subst hKq
  have hres1:=hres.1 (w0p g6)
  rw [hec,Bool.and_false] at hres1
  have F0:=yA gcq<|yA hbc<|yA hun<|yA hw20<|yA Fj<|yA Az<|yA hec<|F0
  have zE:=hres1.symm
  have cq:=yA (CtM.ch [] (((c0e (20+(tn:Int))).plain fun _ _ h=>h).hands))<|yA (Ct.cv (hKn))<|trivial
  exact goW
 rw [yG,wC,xX] at g4
 have hKq:q2=K:=by rw [←hK,g4,hq1,hq0];simp [a1q]
 have gcq:=d0p (n:=ss.length)
 have hbc:=Wv K
 have hun:m0o (pls (Ay K).flatten)=some (Ay K).flatten:=Uw _
 have hw20:=w20 htn (yJ ht5 (by decide))
 subst hKq
 have hres1:=hres.1 (w0p g6)
 rw [hec,Bool.and_true,of_decide_eq_true hec] at hres1
 have F0:=yA gcq<|yA hbc<|yA hun<|yA hw20<|yA Fj<|yA Az<|yA hec<|F0
 have zE:=hres1.symm
 have cq:=yA (CtM.ch [] (((c0e (20+(tn:Int))).plain fun _ _ h=>h).hands))<|yA (Ct.cv (hKn))<|trivial
 exact goW
end Go.Sy
namespace Go.Sy
open Go.Proofs
attribute [local irreducible] Cj HT Bv Rj onC onE onO onG goV goA goS Tj Ck
theorem e1e {a b:Int} (h:0≤a∧a≤b∧b≤9):wfT (dhT a b):=by
 refine ⟨?_,?_⟩
 ·rw [dhT,Aw.ok,Dq]
  exact ⟨⟨by decide,by decide⟩,⟨by omega,by omega⟩,⟨by omega,by omega⟩,by decide,trivial⟩
 rw [dhT,Bq,if_neg (by decide),if_pos (by simp [okT,h0x];omega),Cq]
theorem k1f {w:Int} {c x:Aw} (hw:0≤w∧w≤9) (hc:wfT c) (hx:wfT x):wfT (a0t w c x):=by
 refine ⟨?_,?_⟩
 ·rw [a0t,Aw.ok,Dq,Dq,Dq]
  exact ⟨⟨by decide,by decide⟩,⟨by omega,by omega⟩,⟨by decide,by decide⟩,by simp,hc.1,hx.1,trivial⟩
 rw [a0t,Bq,if_neg (by decide),if_pos (by simp [okT,h0x,hw.1]),Cq,if_pos hc.2,Cq,if_pos hx.2,Cq]
theorem s1m {k t:Aw} {n:Int} (hn:0≤n∧n≤9223372036854775807) (hk:wfT k) (ht:wfT t):wfT (f0x k n t):=by
 have ha:wfT (Fv n):=j0h (.inl rfl) hn
 refine ⟨?_,?_⟩
 ·rw [f0x,Aw.ok,Dq,Dq,Dq,Dq]
  exact ⟨⟨by decide,by decide⟩,⟨by decide,by decide⟩,⟨by decide,by decide⟩,by simp,hk.1,ha.1,ht.1,trivial⟩
 rw [f0x,Bq,if_neg (by decide),if_pos (by simp [okT,h0x]),Cq,if_pos hk.2,Cq,if_pos ha.2,Cq,if_pos ht.2,Cq]
theorem i0l {n:Int} (h:0≤n∧n≤9223372036854775807):wfT (Fv n):=j0h (.inl rfl) h
theorem m0n {n:Int} (h:0≤n∧n≤9223372036854775807):wfT (Mv n):=j0h (.inr rfl) h
theorem e1f {w:Int} (hw:0≤w∧w≤9): ∀ (l:List Aw) {c:Aw},wfT c→(∀ x∈l,wfT x)→wfT (i0i w c l)
 | [],_,hc,_=>by rw [i0i];exact hc
 | [m],_,hc,h=>by rw [i0i];exact k1f hw hc (h m (by simp))
 |m::n::r,_,hc,h=>by rw [i0i];exact e1f hw (n::r) (k1f ⟨by decide,by decide⟩ hc (h m (by simp))) fun x hx=>h x (wT _ hx)
theorem i0q {l:List Aw} {t:Aw} (h: ∀ x∈l,wfT x) (ht:wfT t): ∀ x∈l++[t],wfT x:=by
 intro x hx
 rcases yU.mp hx with hx|hx
 ·exact h x hx
 rw [xW] at hx;subst hx;exact ht
structure Ik.wf (s:Ik):Prop where
 mx: ∀ x∈s.mx,wfT x
 out: ∀ x∈s.out,wfT x
theorem Ik.wf.mix {s:Ik} {t:Aw} (h:s.wf) (ht:wfT t):(s.mix t).wf:=⟨i0q h.mx ht,h.out⟩
theorem Ik.wf.tell {s:Ik} {t:Aw} (h:s.wf) (hn:s.out.length≤1000000) (ht:wfT t):(s.tell t).wf:=by
 refine ⟨h.mx,i0q h.out ?_⟩
 split
 ·exact ht
 exact s1m ⟨by omega,by omega⟩ (e1f ⟨by decide,by decide⟩ _ (i0l ⟨by decide,by decide⟩) h.mx) ht
theorem Ik.wf.token {pk:Bool} {w:Int} (hw:0≤w∧w≤1) {s:Ik} {t:Int} (h:s.wf) (hn:s.out.length≤1000000) (hp:s.ps≤1000000):(s.token pk w t).wf:=by
 have p3:wfT (Mv (3+w)):=m0n ⟨by omega,by omega⟩
 unfold Ik.token
 split
 ·cases pk
  ·exact ⟨h.mx,i0q h.out p3⟩
  exact ⟨i0q h.mx p3,i0q h.out p3⟩
 split
 ·exact h.tell hn (m0n ⟨by omega,by omega⟩)
 split
 ·exact h.mix (e1e (by decide))
 split
 ·exact h.mix (e1e (by decide))
 split
 ·exact h.mix (e1e (by decide))
 split
 ·exact h.mix (e1e (by decide))
 exact ⟨i0q h.mx (i0l ⟨by omega,by omega⟩),h.out⟩
theorem Ik.wf.turn {pk:Bool} {w:Int} (hw:0≤w∧w≤1): ∀ {l:List Int} {s:Ik},s.wf→s.out.length+l.length≤1000000→s.ps+l.length≤1000000→(Ik.turn pk w s l).wf∧(Ik.turn pk w s l).out.length≤s.out.length+l.length∧(Ik.turn pk w s l).ps≤s.ps+l.length
 | [],s,h,_,_=>⟨h,yV _,yV _⟩
 |t::r,s,h,hn,hp=>by
  rw [yH] at hn hp ⊢
  have h1:=d0i pk w s t
  have h2:=g0u pk w s t
  have h3:=Ik.wf.turn (pk:=pk) hw (l:=r) (Ik.wf.token (pk:=pk) (t:=t) hw h (by omega) (by omega)) (by omega) (by omega)
  rw [Ik.turn]
  exact ⟨h3.1,by omega,by omega⟩
theorem Ik.wf.turns {lt pk:Bool}: ∀ {ts:List (List Int)} {i:Nat} {s:Ik},s.wf→(∀ l∈ts,l.length≤6)→i+ts.length≤1000→s.out.length+7*ts.length≤1000000→s.ps+6*ts.length≤1000000→(Tz lt pk i s ts).wf∧(Tz lt pk i s ts).out.length≤s.out.length+7*ts.length
 | [],_,s,h,_,_,_,_=>⟨h,yV _⟩
 |l::r,i,s,h,hl,hi,hn,hp=>by
  rw [yH] at hi hn hp ⊢
  have h6:=hl l (by simp)
  obtain ⟨h1,h2,h3⟩:=Ik.wf.turn (pk:=pk) (b0m (d0f lt i)) (l:=l) h (by omega) (by omega)
  have h4:=h1.tell (by omega) (i0l (n:=20+(i:Int)) ⟨by omega,by omega⟩)
  have h5:=g0w (Ik.turn pk (Hz (d0f lt i)) s l) (Fv (20+(i:Int)))
  have h7:=Ik.wf.turns (lt:=lt) (pk:=pk) (ts:=r) (i:=i+1) h4 (fun x hx=>hl x (by simp [hx])) (by omega) (by omega) (by rw [f0o];omega)
  rw [Tz]
  exact ⟨h7.1,by have:=h7.2;omega⟩
theorem b1n {pk:Bool} {w:Int} (hw:0≤w∧w≤1): ∀ {l:List Int} {mx:List Aw},(∀ x∈mx,wfT x)→∀ x∈i0t pk w mx l,wfT x
 | [],_,h=>h
 |t::r,mx,h=>by
  rw [i0t]
  refine b1n hw ?_
  split
  ·exact i0q h (m0n ⟨by omega,by omega⟩)
  exact h
theorem v1n (lt pk:Bool) (p0 p1:List Int) (ts:List (List Int)) (hl: ∀ l∈ts,l.length≤6) (ht:ts.length≤5):(∀ x∈(p0k lt pk p0 p1 ts).out,wfT x)∧(p0k lt pk p0 p1 ts).out.length≤35:=by
 rw [p0k]
 have h:=Ik.wf.turns (lt:=lt) (pk:=pk) (ts:=ts) (i:=0) (s:=⟨i0t pk 1 (i0t pk 0 [] p0) p1,0,[]⟩) ⟨b1n (by decide) (b1n (by decide) (fun _ h=>by cases h)),fun _ h=>by cases h⟩ hl (by omega) (by simp;omega) (by simp;omega)
 refine ⟨h.1.out,?_⟩
 have:=h.2
 simp only [xE] at this
 omega
theorem p0y {w:Int} (hw:0≤w∧w≤1): ∀ {l:List Int},∀ x∈l0b w l,wfT x
 | [],_,h=>by cases h
 |t::r,x,h=>by
  rw [l0b,yU] at h
  rcases h with h|h
  ·split at h
   ·rw [xW.mp h];exact m0n ⟨by omega,by omega⟩
   cases h
  exact p0y hw x h
theorem h2g {p0 p1 ss:List Int} (hs: ∀ n∈ss,0≤n) (hb: ∀ n∈ss,n≤9223372036854775807): ∀ x∈a1q p0 p1 ss,wfT x:=by
 intro x hx
 simp only [a1q,yU,yT,List.not_mem_nil,or_false,yY] at hx
 rcases hx with ((((rfl|rfl|rfl)|hx)|hx))|⟨n,hn,rfl⟩
 ·exact i0l (by decide)
 ·exact m0n (by decide)
 ·exact m0n (by decide)
 ·exact p0y (by decide) x hx
 ·exact p0y (by decide) x hx
 exact i0l ⟨hs n hn,hb n hn⟩
def h1l :List Aw→Int
 | []=>0
 |a::l=>Kz a 1+h1l l
theorem e1j : ∀ l,0≤h1l l
 | []=>by rw [h1l];omega
 |a::l=>by rw [h1l];have:=e1j l;have:=Yq a 1;omega
theorem e1k : ∀ a b,h1l (a++b)=h1l a+h1l b
 | [],b=>by rw [yD,h1l];omega
 |x::a,b=>by rw [yC,h1l,h1l,e1k a b];omega
theorem a1y : ∀ (l:List Aw) (n:Int),300<l0a Kz l n↔300<n+h1l l
 | [],n=>by rw [c0k,h1l];omega
 |a::l,n=>by
  have h1:=e1j l
  rw [Sj,h1l]
  split
  ·omega
  rw [a1y l];omega
theorem v0u : ∀ {l:List Aw},(∀ x∈l,wfT x)→Cq l=0
 | [],_=>g0j
 |a::l,h=>by rw [Uq,if_pos (h a (by simp)).2,v0u fun x hx=>h x (by simp [hx])]
theorem o1s {a b:List Aw} {t:Aw} (ha: ∀ x∈a,wfT x) (hb: ∀ x∈b,wfT x) (ht:t.ok):k0d (b++a) t=k0d (a++b) t∧y1c (b++a) t=y1d (a++b) t:=by
 have w1: ∀ x∈a++b,wfT x:=fun x hx=>(yU.mp hx).elim (ha x) (hb x)
 have w2: ∀ x∈b++a,wfT x:=fun x hx=>(yU.mp hx).elim (hb x) (ha x)
 have hf:Jz Kz (b++a)=Jz Kz (a++b):=by
  have h1:=a1y (a++b) 0
  have h2:=a1y (b++a) 0
  rw [e1k] at h1 h2
  rw [Jz,Jz,v0u w1,v0u w2]
  by_cases h:300<l0a Kz (a++b) 0
  ·rw [if_pos h,if_pos (h2.mpr (by have:=h1.mp h;omega))]
  rw [if_neg h,if_neg fun q=>h (h1.mpr (by have:=h2.mp q;omega))]
 have he:k0d (b++a) t=k0d (a++b) t:=by rw [k0d,k0d,hf]
 refine ⟨he,?_⟩
 rw [y1c,y1d,he]
 by_cases h:k0d (a++b) t=0
 ·have h':=h
  rw [k0d] at h'
  split at h'
  ·rename_i hz
   have k1:=v0m (a0b fun x hx=>(w1 x hx).1) ht hz h'
   have k2:=v0m (a0b fun x hx=>(w2 x hx).1) ht (hf.trans hz) h'
   rw [y1b k2 k1 fun x=>by rw [yU,yU];exact Or.comm]
  rename_i hz;exact absurd h' hz
 simp [h]
theorem y1h (p0 p1 ss:List Int) (h0:p0.length≤6) (h1:p1.length≤6) (h2:ss.length≤6):(a1q p0 p1 ss).length≤21:=by
 have hp: ∀ (w:Int) (l:List Int),(l0b w l).length≤l.length:=by
  intro w l
  induction l with
  |nil=>simp [l0b]
  |cons t r ih=>rw [l0b,yL,yH];split<;>simp<;>omega
 have a:=hp 0 p0
 have b:=hp 1 p1
 simp only [a1q,yL,yH,xE,vG]
 omega
end Go.Sy
