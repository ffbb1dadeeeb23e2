/- Walks: the form of a term, kind by kind. -/
import Derived.Test.YtijngjidkdkmeaavE3
import Derived.Test.YtijngjidkdkmeaavS3
set_option linter.unusedVariables false
set_option linter.unusedSimpArgs false
set_option maxHeartbeats 1600000
set_option maxRecDepth 100000
namespace Go.Sy
open Go.Proofs
attribute [local irreducible] Cj HT Bv Rj onC onE onO onG goV goA goS Tj Ck
theorem y1u (i o:Int) (l:List Aw) (hn:¬((l.length:Nat):Int)=3):
 Ct Try.prog 28 [Jy 7 i o l] (fun v m=>v=.w (.one (.pl (.i (Bq (.mk 7 i o l)))))):=by
 rw [Dv (by decide) (by rw [q0d];omega)]
 have F0:=yA @Az<|hn
 have cq:=yA (Ct.cv (a1b))<|trivial
 have zd0:DQ 3 [15,16,17,18,19,20,21,22,23,24,25,26,27,28,29,30,31,3] [0,1,3,0,8,24,63,127,255,511,1023,2047,4095,8191,16383,32767,65535,131071] []:=⟨⟩
 exact Ct.go Try.func28 rfl Try.ntmps28 Try.results28
theorem y1v (i o:Int) (l:List Aw) (hn:((l.length:Nat):Int)=3) (hi:¬0≤i):
 Ct Try.prog 28 [Jy 7 i o l] (fun v m=>v=.w (.one (.pl (.i (Bq (.mk 7 i o l)))))):=by
 have qn:(((l.length:Nat):Int)=3)=True:=eq_true hn
 rw [Dv (by decide) (by rw [q0d];omega)]
 have F0:=yA @Az<|yA qn<|hi
 have cq:=yA (Ct.cv (a1b))<|trivial
 have zd0:DQ 3 [15,16,17,18,19,20,21,22,23,24,25,26,27,28,29,30,31,3] [0,1,3,0,8,24,63,127,255,511,1023,2047,4095,8191,16383,32767,65535,131071] []:=⟨⟩
 exact Ct.go Try.func28 rfl Try.ntmps28 Try.results28
theorem y1t (i o:Int) (l:List Aw) (hn:((l.length:Nat):Int)=3) (hi:0≤i) (ho:¬0≤o):
 Ct Try.prog 28 [Jy 7 i o l] (fun v m=>v=.w (.one (.pl (.i (Bq (.mk 7 i o l)))))):=by
 have qn:(((l.length:Nat):Int)=3)=True:=eq_true hn
 rw [Dv (by decide) (by rw [q0d];omega)]
 have F0:=yA @Az<|yA qn<|yA hi<|ho
 have cq:=yA (Ct.cv (a1b))<|trivial
 have zd0:DQ 3 [15,16,17,18,19,20,21,22,23,24,25,26,27,28,29,30,31,3] [0,1,3,0,8,24,63,127,255,511,1023,2047,4095,8191,16383,32767,65535,131071] []:=⟨⟩
 exact Ct.go Try.func28 rfl Try.ntmps28 Try.results28
theorem y1w (i o:Int) (l:List Aw) (hn:((l.length:Nat):Int)=3) (hi:0≤i) (ho:0≤o) (hib:i≤9223372036854775807) (hob:o≤9223372036854775807) (hf:¬(i=0∧o=0)):
 Ct Try.prog 28 [Jy 7 i o l] (fun v m=>v=.w (.one (.pl (.i (Bq (.mk 7 i o l)))))):=by
 have qn:(((l.length:Nat):Int)=3)=True:=eq_true hn
 have hw:=wrap_zero ⟨hi,hib⟩ ⟨ho,hob⟩ hf
 rw [Dv (by decide) (by rw [q0d];omega)]
 have F0:=yA @Az<|yA qn<|yA hi<|yA ho<|hw
 have cq:=yA (Ct.cv (a1b))<|trivial
 have zd0:DQ 3 [15,16,17,18,19,20,21,22,23,24,25,26,27,28,29,30,31,3] [0,1,3,0,8,24,63,127,255,511,1023,2047,4095,8191,16383,32767,65535,131071] []:=⟨⟩
 exact Ct.go Try.func28 rfl Try.ntmps28 Try.results28
theorem y1s (l:List Aw) (hn:((l.length:Nat):Int)=3) (ih: ∀ a,a∈l→Ct Try.prog 28 [Yy a] (fun v m=>v=.w (.one (.pl (.i (Bq a)))))) (hl:l.length≤9223372036854775807):
 Ct Try.prog 28 [Jy 7 0 0 l] (fun v m=>v=.w (.one (.pl (.i (Bq (.mk 7 0 0 l)))))):=by
 have qn:(((l.length:Nat):Int)=3)=True:=eq_true hn
 have hr:Bq (.mk 7 0 0 l)=Cq l:=Pk (by decide) (by rw [q0d];omega)
 have F0:=yA @Az<|yA qn<|@wO
 refine Ct.go Try.func28 rfl Try.ntmps28 Try.results28 fun w0 ro zZ zhY=>?_
 have cq:=yA (Ct.cv (a1b))<|trivial
 have zd0:DQ 3 [15,16,17,18,19,20,21,22,23,24,25,26,27,28,29,30,31,3] [0,1,3,0,8,24,63,127,255,511,1023,2047,4095,8191,16383,32767,65535,131071] []:=⟨⟩
 refine (fun zX=>goW) ?_
 refine Kj [0,1,3,7,8,9,10,11,12,13,14,15,16,17,18,19,20,21,22,23,24,25,26,27,28,29,30,31,32,33,34,35,36,37,38,39,40,41,42,43,44,45,46,47,48,49,50,51,52,53,54,55,56,57,58,59,60,61,62,63,64,65] ?_
 simp only [Lx,Oq,Kk,xA,xG,Nat.reduceBEq,beq_self_eq_true,xM,xP,xO,xD,yQ,reduceIte]
 refine Nw (fun y=>[(68,.w (.one (.pl (.i ((y.1:Nat):Int)))))]) (fun _=>[]) (fun y=>l.length-y.1) (⟨0,yP _,rfl⟩:{y:Nat//y≤l.length∧Cq (l.drop y)=Cq l}) ?_
 intro yy xN0 xM0 xhN0 xhM0
 simp only [yC,yD]
 obtain ⟨j,h1,h4⟩:=yy
 rcases yZ j l.length with hlt|hge
 rcases Int.decEq (Bq (l.getD j (.mk 0 0 0 []))) 0 with hbad|hgood
 ·obtain ⟨k2,i2,o2,m2,he,hm,hdr,hg⟩:=Cy hlt
  have hc:=ih _ hm
  rw [Bw] at hc
  have hcq:((j:Nat):Int)<((l.length:Nat):Int):=by omega
  have hj:(0:Int)≤((j:Nat):Int):=by omega
  have hjl:j<(Ay l).length:=by rw [Az];exact hlt
  rw [hdr,Cq] at h4
  obtain ⟨w,hw⟩: ∃ w,Bq (.mk k2 i2 o2 m2)=w:=⟨_,rfl⟩
  rw [hw] at hc h4
  rw [he,hw] at hbad
  rw [if_neg hbad] at h4
  have F0:=yA hcq<|yA hj<|yA hjl<|yA hg<|yA hbad<|F0
  have cq:=yA ((hc.plain fun _ _ h=>h))<|trivial
  refine (fun zX=>goW) ?_
  refine zhY _ _ ?_
  simp only [go_sem,F0]
  all_goals (rw [hr,←h4])
 ·obtain ⟨k2,i2,o2,m2,he,hm,hdr,hg⟩:=Cy hlt
  have hc:=ih _ hm
  rw [Bw] at hc
  have hcq:((j:Nat):Int)<((l.length:Nat):Int):=by omega
  have hj:(0:Int)≤((j:Nat):Int):=by omega
  have hjl:j<(Ay l).length:=by rw [Az];exact hlt
  rw [hdr,Cq] at h4
  obtain ⟨w,hw⟩: ∃ w,Bq (.mk k2 i2 o2 m2)=w:=⟨_,rfl⟩
  rw [hw] at hc h4
  rw [he,hw] at hgood
  rw [if_pos hgood] at h4
  have hs1:Go.RowKit.wrap64 (((j:Nat):Int)+1)=((j+1:Nat):Int):=s0e (by omega) (by omega)
  have F0:=yA hcq<|yA hj<|yA hjl<|yA hg<|yA hgood<|yA hs1<|F0
  have cq:=yA ((hc.plain fun _ _ h=>h))<|trivial
  have zL:=fun S2=>xhN0 ⟨j+1,hlt,h4⟩ S2 (by (exact yB hlt (yE j)))
  exact goW
 obtain rfl:j=l.length:=by omega
 rw [yG,Cq] at h4
 have hcq:¬((l.length:Nat):Int)<((l.length:Nat):Int):=by omega
 have F0:=yA hcq<|F0
 refine (fun zX=>goW) ?_
 refine zhY _ _ ?_
 simp only [go_sem,F0]
 all_goals (rw [hr,←h4])
end Go.Sy
