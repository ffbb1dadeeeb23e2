/- Walks: the form of a term, kind by kind. -/
import Derived.Test.YtijngjidkdkmeaavE3
import Derived.Test.YtijngjidkdkmeaavS3
set_option linter.unusedVariables false
set_option linter.unusedSimpArgs false
set_option maxHeartbeats 1600000
set_option maxRecDepth 100000
namespace Go.Sy
open Go.Proofs
attribute [local irreducible] Cj HT Bv Rj onC onE onO onG goV goA goS Tj Ck
theorem l1r (i o:Int) (l:List Aw) (hn:¬((l.length:Nat):Int)=0):
 Ct Try.prog 14 [Jy 3 i o l] (fun v m=>v=.w (.one (.pl (.i (Bq (.mk 3 i o l)))))):=by
 rw [Dv (by decide) (by rw [s0j];omega)]
 have F0:=yA @Az<|hn
 exact Ct.go Try.func14 rfl Try.ntmps14 Try.results14
theorem l1s (i o:Int) (l:List Aw) (hn:((l.length:Nat):Int)=0) (hi:¬0≤i):
 Ct Try.prog 14 [Jy 3 i o l] (fun v m=>v=.w (.one (.pl (.i (Bq (.mk 3 i o l)))))):=by
 have qn:(((l.length:Nat):Int)=0)=True:=eq_true hn
 rw [Dv (by decide) (by rw [s0j];omega)]
 have F0:=yA @Az<|yA qn<|hi
 exact Ct.go Try.func14 rfl Try.ntmps14 Try.results14
theorem l1q (i o:Int) (l:List Aw) (hn:((l.length:Nat):Int)=0) (hi:0≤i) (ho:¬0≤o):
 Ct Try.prog 14 [Jy 3 i o l] (fun v m=>v=.w (.one (.pl (.i (Bq (.mk 3 i o l)))))):=by
 have qn:(((l.length:Nat):Int)=0)=True:=eq_true hn
 rw [Dv (by decide) (by rw [s0j];omega)]
 have F0:=yA @Az<|yA qn<|yA hi<|ho
 exact Ct.go Try.func14 rfl Try.ntmps14 Try.results14
theorem l1t (i o:Int) (l:List Aw) (hn:((l.length:Nat):Int)=0) (hi:0≤i) (ho:0≤o) (hf:¬i≤o):
 Ct Try.prog 14 [Jy 3 i o l] (fun v m=>v=.w (.one (.pl (.i (Bq (.mk 3 i o l)))))):=by
 have qn:(((l.length:Nat):Int)=0)=True:=eq_true hn
 rw [Dv (by decide) (by rw [s0j];omega)]
 have F0:=yA @Az<|yA qn<|yA hi<|yA ho<|hf
 exact Ct.go Try.func14 rfl Try.ntmps14 Try.results14
theorem l1p (i o:Int) (l:List Aw) (hn:((l.length:Nat):Int)=0) (hi:0≤i) (ho:0≤o) (hf:i≤o) (ih: ∀ a,a∈l→Ct Try.prog 14 [Yy a] (fun v m=>v=.w (.one (.pl (.i (Bq a)))))) (hl:l.length≤9223372036854775807):
 Ct Try.prog 14 [Jy 3 i o l] (fun v m=>v=.w (.one (.pl (.i (Bq (.mk 3 i o l)))))):=by
 have qn:(((l.length:Nat):Int)=0)=True:=eq_true hn
 have hr:Bq (.mk 3 i o l)=Cq l:=Pk (by decide) (by rw [s0j];omega)
 have F0:=yA @Az<|yA qn<|yA hi<|yA ho<|hf
 refine Ct.go Try.func14 rfl Try.ntmps14 Try.results14 fun w0 ro zZ zhY=>?_
 refine (fun zX=>goW) ?_
 refine Kj [0,1,3,4,8,9,10,11,12,13,14,15,16,17,18,19,20,21,22,23,24,25,26,27,28,29,30,31,32,33,34,35,36,37,38,39,40,41,42,43,44,45,46,47,48,49,50,51,52,53,54,55,56,57,58,59,60,61,62,63,64,65,66,67,68,69,70,71,72,73,74,75] ?_
 simp only [Lx,Oq,Kk,xA,xG,Nat.reduceBEq,beq_self_eq_true,xM,xP,xO,xD,yQ,reduceIte]
 refine Nw (fun y=>[(78,.w (.one (.pl (.i ((y.1:Nat):Int)))))]) (fun _=>[]) (fun y=>l.length-y.1) (⟨0,yP _,rfl⟩:{y:Nat//y≤l.length∧Cq (l.drop y)=Cq l}) ?_
 intro yy xN0 xM0 xhN0 xhM0
 simp only [yC,yD]
 obtain ⟨j,h1,h4⟩:=yy
 rcases yZ j l.length with hlt|hge
 rcases Int.decEq (Bq (l.getD j (.mk 0 0 0 []))) 0 with hbad|hgood
 ·obtain ⟨k2,i2,o2,m2,he,hm,hdr,hg⟩:=Cy hlt
  have hc:=ih _ hm
  rw [Bw] at hc
  have hcq:((j:Nat):Int)<((l.length:Nat):Int):=by omega
  have hj:(0:Int)≤((j:Nat):Int):=by omega
  have hjl:j<(Ay l).length:=by rw [Az];exact hlt
  rw [hdr,Cq] at h4
  obtain ⟨w,hw⟩: ∃ w,Bq (.mk k2 i2 o2 m2)=w:=⟨_,rfl⟩
  rw [hw] at hc h4
  rw [he,hw] at hbad
  rw [if_neg hbad] at h4
  have F0:=yA hcq<|yA hj<|yA hjl<|yA hg<|yA hbad<|F0
  have cq:=yA ((hc.plain fun _ _ h=>h))<|trivial
  refine (fun zX=>goW) ?_
  refine zhY _ _ ?_
  simp only [go_sem,F0]
  all_goals (rw [hr,←h4])
 ·obtain ⟨k2,i2,o2,m2,he,hm,hdr,hg⟩:=Cy hlt
  have hc:=ih _ hm
  rw [Bw] at hc
  have hcq:((j:Nat):Int)<((l.length:Nat):Int):=by omega
  have hj:(0:Int)≤((j:Nat):Int):=by omega
  have hjl:j<(Ay l).length:=by rw [Az];exact hlt
  rw [hdr,Cq] at h4
  obtain ⟨w,hw⟩: ∃ w,Bq (.mk k2 i2 o2 m2)=w:=⟨_,rfl⟩
  rw [hw] at hc h4
  rw [he,hw] at hgood
  rw [if_pos hgood] at h4
  have hs1:Go.RowKit.wrap64 (((j:Nat):Int)+1)=((j+1:Nat):Int):=s0e (by omega) (by omega)
  have F0:=yA hcq<|yA hj<|yA hjl<|yA hg<|yA hgood<|yA hs1<|F0
  have cq:=yA ((hc.plain fun _ _ h=>h))<|trivial
  have zL:=fun S2=>xhN0 ⟨j+1,hlt,h4⟩ S2 (by (exact yB hlt (yE j)))
  exact goW
 obtain rfl:j=l.length:=by omega
 rw [yG,Cq] at h4
 have hcq:¬((l.length:Nat):Int)<((l.length:Nat):Int):=by omega
 have F0:=yA hcq<|F0
 refine (fun zX=>goW) ?_
 refine zhY _ _ ?_
 simp only [go_sem,F0]
 all_goals (rw [hr,←h4])
theorem l1n (i o:Int) (l:List Aw) (hn:¬((l.length:Nat):Int)=2):
 Ct Try.prog 14 [Jy 4 i o l] (fun v m=>v=.w (.one (.pl (.i (Bq (.mk 4 i o l)))))):=by
 rw [Dv (by decide) (by rw [q0g];omega)]
 have F0:=yA @Az<|hn
 exact Ct.go Try.func14 rfl Try.ntmps14 Try.results14
theorem l1o (i o:Int) (l:List Aw) (hn:((l.length:Nat):Int)=2) (hi:¬0≤i):
 Ct Try.prog 14 [Jy 4 i o l] (fun v m=>v=.w (.one (.pl (.i (Bq (.mk 4 i o l)))))):=by
 have qn:(((l.length:Nat):Int)=2)=True:=eq_true hn
 rw [Dv (by decide) (by rw [q0g];omega)]
 have F0:=yA @Az<|yA qn<|hi
 exact Ct.go Try.func14 rfl Try.ntmps14 Try.results14
theorem l1m (i o:Int) (l:List Aw) (hn:((l.length:Nat):Int)=2) (hi:0≤i) (ho:¬0≤o):
 Ct Try.prog 14 [Jy 4 i o l] (fun v m=>v=.w (.one (.pl (.i (Bq (.mk 4 i o l)))))):=by
 have qn:(((l.length:Nat):Int)=2)=True:=eq_true hn
 rw [Dv (by decide) (by rw [q0g];omega)]
 have F0:=yA @Az<|yA qn<|yA hi<|ho
 exact Ct.go Try.func14 rfl Try.ntmps14 Try.results14
theorem h1u (i o:Int) (l:List Aw) (hn:((l.length:Nat):Int)=2) (hi:0≤i) (ho:0≤o) (hf:¬o=0):
 Ct Try.prog 14 [Jy 4 i o l] (fun v m=>v=.w (.one (.pl (.i (Bq (.mk 4 i o l)))))):=by
 have qn:(((l.length:Nat):Int)=2)=True:=eq_true hn
 rw [Dv (by decide) (by rw [q0g];omega)]
 have F0:=yA @Az<|yA qn<|yA hi<|yA ho<|hf
 exact Ct.go Try.func14 rfl Try.ntmps14 Try.results14
theorem h1t (i:Int) (l:List Aw) (hn:((l.length:Nat):Int)=2) (hi:0≤i) (hf:¬i=0):
 Ct Try.prog 14 [Jy 4 i 0 l] (fun v m=>v=.w (.one (.pl (.i (Bq (.mk 4 i 0 l)))))):=by
 have qn:(((l.length:Nat):Int)=2)=True:=eq_true hn
 rw [Dv (by decide) (by rw [q0g];omega)]
 have F0:=yA @Az<|yA qn<|yA hi<|yA hf<|@wO
 exact Ct.go Try.func14 rfl Try.ntmps14 Try.results14
theorem l1l (l:List Aw) (hn:((l.length:Nat):Int)=2) (ih: ∀ a,a∈l→Ct Try.prog 14 [Yy a] (fun v m=>v=.w (.one (.pl (.i (Bq a)))))) (hl:l.length≤9223372036854775807):
 Ct Try.prog 14 [Jy 4 0 0 l] (fun v m=>v=.w (.one (.pl (.i (Bq (.mk 4 0 0 l)))))):=by
 have qn:(((l.length:Nat):Int)=2)=True:=eq_true hn
 have hr:Bq (.mk 4 0 0 l)=Cq l:=Pk (by decide) (by rw [q0g];omega)
 have F0:=yA @Az<|yA qn<|@wO
 refine Ct.go Try.func14 rfl Try.ntmps14 Try.results14 fun w0 ro zZ zhY=>?_
 refine (fun zX=>goW) ?_
 refine Kj [0,1,3,4,8,9,10,11,12,13,14,15,16,17,18,19,20,21,22,23,24,25,26,27,28,29,30,31,32,33,34,35,36,37,38,39,40,41,42,43,44,45,46,47,48,49,50,51,52,53,54,55,56,57,58,59,60,61,62,63,64,65,66,67,68,69,70,71,72,73,74,75] ?_
 simp only [Lx,Oq,Kk,xA,xG,Nat.reduceBEq,beq_self_eq_true,xM,xP,xO,xD,yQ,reduceIte]
 refine Nw (fun y=>[(78,.w (.one (.pl (.i ((y.1:Nat):Int)))))]) (fun _=>[]) (fun y=>l.length-y.1) (⟨0,yP _,rfl⟩:{y:Nat//y≤l.length∧Cq (l.drop y)=Cq l}) ?_
 intro yy xN0 xM0 xhN0 xhM0
 simp only [yC,yD]
 obtain ⟨j,h1,h4⟩:=yy
 rcases yZ j l.length with hlt|hge
 rcases Int.decEq (Bq (l.getD j (.mk 0 0 0 []))) 0 with hbad|hgood
 ·obtain ⟨k2,i2,o2,m2,he,hm,hdr,hg⟩:=Cy hlt
  have hc:=ih _ hm
  rw [Bw] at hc
  have hcq:((j:Nat):Int)<((l.length:Nat):Int):=by omega
  have hj:(0:Int)≤((j:Nat):Int):=by omega
  have hjl:j<(Ay l).length:=by rw [Az];exact hlt
  rw [hdr,Cq] at h4
  obtain ⟨w,hw⟩: ∃ w,Bq (.mk k2 i2 o2 m2)=w:=⟨_,rfl⟩
  rw [hw] at hc h4
  rw [he,hw] at hbad
  rw [if_neg hbad] at h4
  have F0:=yA hcq<|yA hj<|yA hjl<|yA hg<|yA hbad<|F0
  have cq:=yA ((hc.plain fun _ _ h=>h))<|trivial
  refine (fun zX=>goW) ?_
  refine zhY _ _ ?_
  simp only [go_sem,F0]
  all_goals (rw [hr,←h4])
 ·obtain ⟨k2,i2,o2,m2,he,hm,hdr,hg⟩:=Cy hlt
  have hc:=ih _ hm
  rw [Bw] at hc
  have hcq:((j:Nat):Int)<((l.length:Nat):Int):=by omega
  have hj:(0:Int)≤((j:Nat):Int):=by omega
  have hjl:j<(Ay l).length:=by rw [Az];exact hlt
  rw [hdr,Cq] at h4
  obtain ⟨w,hw⟩: ∃ w,Bq (.mk k2 i2 o2 m2)=w:=⟨_,rfl⟩
  rw [hw] at hc h4
  rw [he,hw] at hgood
  rw [if_pos hgood] at h4
  have hs1:Go.RowKit.wrap64 (((j:Nat):Int)+1)=((j+1:Nat):Int):=s0e (by omega) (by omega)
  have F0:=yA hcq<|yA hj<|yA hjl<|yA hg<|yA hgood<|yA hs1<|F0
  have cq:=yA ((hc.plain fun _ _ h=>h))<|trivial
  have zL:=fun S2=>xhN0 ⟨j+1,hlt,h4⟩ S2 (by (exact yB hlt (yE j)))
  exact goW
 obtain rfl:j=l.length:=by omega
 rw [yG,Cq] at h4
 have hcq:¬((l.length:Nat):Int)<((l.length:Nat):Int):=by omega
 have F0:=yA hcq<|F0
 refine (fun zX=>goW) ?_
 refine zhY _ _ ?_
 simp only [go_sem,F0]
 all_goals (rw [hr,←h4])
end Go.Sy
