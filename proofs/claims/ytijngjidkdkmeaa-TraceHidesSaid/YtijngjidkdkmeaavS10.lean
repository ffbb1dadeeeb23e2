/- Walks and what they compute. CONDITIONS: those that each theorem names. -/
import Derived.Test.YtijngjidkdkmeaavE3
import Derived.Test.YtijngjidkdkmeaavS3
import Derived.Test.YtijngjidkdkmeaavS2
import Derived.Test.YtijngjidkdkmeaavE5
import Derived.Test.YtijngjidkdkmeaavS4
import Derived.Test.YtijngjidkdkmeaavS5
import Derived.Test.YtijngjidkdkmeaavS6
import Derived.Test.YtijngjidkdkmeaavS7
import Derived.Test.YtijngjidkdkmeaavS8
import Derived.Test.YtijngjidkdkmeaavS9
set_option linter.unusedVariables false
set_option linter.unusedSimpArgs false
set_option maxHeartbeats 1600000
set_option maxRecDepth 100000
namespace Go.Sy
open Go.Proofs
attribute [local irreducible] Cj HT Bv Rj onC onE onO onG goV goA goS Tj Ck
theorem l1b (i o:Int) (l:List Aw) (hn:¬((l.length:Nat):Int)=3):
 Ct Try.prog 14 [Jy 7 i o l] (fun v m=>v=.w (.one (.pl (.i (Bq (.mk 7 i o l)))))):=by
 rw [Dv (by decide) (by rw [q0d];omega)]
 have F0:=yA @Az<|hn
 exact Ct.go Try.func14 rfl Try.ntmps14 Try.results14
theorem l1c (i o:Int) (l:List Aw) (hn:((l.length:Nat):Int)=3) (hi:¬0≤i):
 Ct Try.prog 14 [Jy 7 i o l] (fun v m=>v=.w (.one (.pl (.i (Bq (.mk 7 i o l)))))):=by
 have qn:(((l.length:Nat):Int)=3)=True:=eq_true hn
 rw [Dv (by decide) (by rw [q0d];omega)]
 have F0:=yA @Az<|yA qn<|hi
 exact Ct.go Try.func14 rfl Try.ntmps14 Try.results14
theorem l1a (i o:Int) (l:List Aw) (hn:((l.length:Nat):Int)=3) (hi:0≤i) (ho:¬0≤o):
 Ct Try.prog 14 [Jy 7 i o l] (fun v m=>v=.w (.one (.pl (.i (Bq (.mk 7 i o l)))))):=by
 have qn:(((l.length:Nat):Int)=3)=True:=eq_true hn
 rw [Dv (by decide) (by rw [q0d];omega)]
 have F0:=yA @Az<|yA qn<|yA hi<|ho
 exact Ct.go Try.func14 rfl Try.ntmps14 Try.results14
theorem h1o (i o:Int) (l:List Aw) (hn:((l.length:Nat):Int)=3) (hi:0≤i) (ho:0≤o) (hf:¬o=0):
 Ct Try.prog 14 [Jy 7 i o l] (fun v m=>v=.w (.one (.pl (.i (Bq (.mk 7 i o l)))))):=by
 have qn:(((l.length:Nat):Int)=3)=True:=eq_true hn
 rw [Dv (by decide) (by rw [q0d];omega)]
 have F0:=yA @Az<|yA qn<|yA hi<|yA ho<|hf
 exact Ct.go Try.func14 rfl Try.ntmps14 Try.results14
theorem h1n (i:Int) (l:List Aw) (hn:((l.length:Nat):Int)=3) (hi:0≤i) (hf:¬i=0):
 Ct Try.prog 14 [Jy 7 i 0 l] (fun v m=>v=.w (.one (.pl (.i (Bq (.mk 7 i 0 l)))))):=by
 have qn:(((l.length:Nat):Int)=3)=True:=eq_true hn
 rw [Dv (by decide) (by rw [q0d];omega)]
 have F0:=yA @Az<|yA qn<|yA hi<|yA hf<|@wO
 exact Ct.go Try.func14 rfl Try.ntmps14 Try.results14
theorem k1z (l:List Aw) (hn:((l.length:Nat):Int)=3) (ih: ∀ a,a∈l→Ct Try.prog 14 [Yy a] (fun v m=>v=.w (.one (.pl (.i (Bq a)))))) (hl:l.length≤9223372036854775807):
 Ct Try.prog 14 [Jy 7 0 0 l] (fun v m=>v=.w (.one (.pl (.i (Bq (.mk 7 0 0 l)))))):=by
 have qn:(((l.length:Nat):Int)=3)=True:=eq_true hn
 have hr:Bq (.mk 7 0 0 l)=Cq l:=Pk (by decide) (by rw [q0d];omega)
 have F0:=yA @Az<|yA qn<|@wO
 refine Ct.go Try.func14 rfl Try.ntmps14 Try.results14 fun w0 ro zZ zhY=>?_
 refine (fun zX=>goW) ?_
 refine Kj [0,1,3,4,8,9,10,11,12,13,14,15,16,17,18,19,20,21,22,23,24,25,26,27,28,29,30,31,32,33,34,35,36,37,38,39,40,41,42,43,44,45,46,47,48,49,50,51,52,53,54,55,56,57,58,59,60,61,62,63,64,65,66,67,68,69,70,71,72,73,74,75] ?_
 simp only [Lx,Oq,Kk,xA,xG,Nat.reduceBEq,beq_self_eq_true,xM,xP,xO,xD,yQ,reduceIte]
 refine Nw (fun y=>[(78,.w (.one (.pl (.i ((y.1:Nat):Int)))))]) (fun _=>[]) (fun y=>l.length-y.1) (⟨0,yP _,rfl⟩:{y:Nat//y≤l.length∧Cq (l.drop y)=Cq l}) ?_
 intro yy xN0 xM0 xhN0 xhM0
 simp only [yC,yD]
 obtain ⟨j,h1,h4⟩:=yy
 rcases yZ j l.length with hlt|hge
 rcases Int.decEq (Bq (l.getD j (.mk 0 0 0 []))) 0 with hbad|hgood
 ·obtain ⟨k2,i2,o2,m2,he,hm,hdr,hg⟩:=Cy hlt
  have hc:=ih _ hm
  rw [Bw] at hc
  have hcq:((j:Nat):Int)<((l.length:Nat):Int):=by omega
  have hj:(0:Int)≤((j:Nat):Int):=by omega
  have hjl:j<(Ay l).length:=by rw [Az];exact hlt
  rw [hdr,Cq] at h4
  obtain ⟨w,hw⟩: ∃ w,Bq (.mk k2 i2 o2 m2)=w:=⟨_,rfl⟩
  rw [hw] at hc h4
  rw [he,hw] at hbad
  rw [if_neg hbad] at h4
  have F0:=yA hcq<|yA hj<|yA hjl<|yA hg<|yA hbad<|F0
  have cq:=yA ((hc.plain fun _ _ h=>h))<|trivial
  refine (fun zX=>goW) ?_
  refine zhY _ _ ?_
  simp only [go_sem,F0]
  all_goals (rw [hr,←h4])
 ·obtain ⟨k2,i2,o2,m2,he,hm,hdr,hg⟩:=Cy hlt
  have hc:=ih _ hm
  rw [Bw] at hc
  have hcq:((j:Nat):Int)<((l.length:Nat):Int):=by omega
  have hj:(0:Int)≤((j:Nat):Int):=by omega
  have hjl:j<(Ay l).length:=by rw [Az];exact hlt
  rw [hdr,Cq] at h4
  obtain ⟨w,hw⟩: ∃ w,Bq (.mk k2 i2 o2 m2)=w:=⟨_,rfl⟩
  rw [hw] at hc h4
  rw [he,hw] at hgood
  rw [if_pos hgood] at h4
  have hs1:Go.RowKit.wrap64 (((j:Nat):Int)+1)=((j+1:Nat):Int):=s0e (by omega) (by omega)
  have F0:=yA hcq<|yA hj<|yA hjl<|yA hg<|yA hgood<|yA hs1<|F0
  have cq:=yA ((hc.plain fun _ _ h=>h))<|trivial
  have zL:=fun S2=>xhN0 ⟨j+1,hlt,h4⟩ S2 (by (exact yB hlt (yE j)))
  exact goW
 obtain rfl:j=l.length:=by omega
 rw [yG,Cq] at h4
 have hcq:¬((l.length:Nat):Int)<((l.length:Nat):Int):=by omega
 have F0:=yA hcq<|F0
 refine (fun zX=>goW) ?_
 refine zhY _ _ ?_
 simp only [go_sem,F0]
 all_goals (rw [hr,←h4])
end Go.Sy
namespace Go.Sy
open Go.Proofs
attribute [local irreducible] Cj HT Bv Rj onC onE onO onG goV goA goS Tj Ck
@[go_sem] theorem c2w {P:Program} {t:TypeId} (ht:P.underlying t=some .bool) (a b:Bool):Tq P .eql t (.w (.one (.pl (.b a)))) (.w (.one (.pl (.b b))))=some (.w (.one (.pl (.b (a==b))))):=by simp [Tq,ht]
theorem n2b (i o:Int) (l:List Aw) (hib:c0v i) (hob:c0v o) (hl:l.length≤9223372036854775807) (ih: ∀ a,a∈l→Ct Try.prog 28 [Yy a] (fun v m=>v=.w (.one (.pl (.i (Bq a)))))):Ct Try.prog 28 [Jy 1 i o l] (fun v m=>v=.w (.one (.pl (.i (Bq (.mk 1 i o l)))))):=by
 by_cases hn:((l.length:Nat):Int)=0
 ·by_cases hi:0≤i
  ·by_cases ho:0≤o
   ·by_cases hf:o=0
    ·subst hf;exact z1w i l hn hi ih hl
    exact a2a i o l hn hi ho hf
   exact z1x i o l hn hi ho
  exact z1z i o l hn hi
 exact z1y i o l hn
theorem n2a (i o:Int) (l:List Aw) (hib:c0v i) (hob:c0v o) (hl:l.length≤9223372036854775807) (ih: ∀ a,a∈l→Ct Try.prog 28 [Yy a] (fun v m=>v=.w (.one (.pl (.i (Bq a)))))):Ct Try.prog 28 [Jy 2 i o l] (fun v m=>v=.w (.one (.pl (.i (Bq (.mk 2 i o l)))))):=by
 by_cases hn:((l.length:Nat):Int)=0
 ·by_cases hi:0≤i
  ·by_cases ho:0≤o
   ·by_cases hf:o=0
    ·subst hf;exact z1r i l hn hi ih hl
    exact z1v i o l hn hi ho hf
   exact z1s i o l hn hi ho
  exact z1u i o l hn hi
 exact z1t i o l hn
theorem m2z (i o:Int) (l:List Aw) (hib:c0v i) (hob:c0v o) (hl:l.length≤9223372036854775807) (ih: ∀ a,a∈l→Ct Try.prog 28 [Yy a] (fun v m=>v=.w (.one (.pl (.i (Bq a)))))):Ct Try.prog 28 [Jy 3 i o l] (fun v m=>v=.w (.one (.pl (.i (Bq (.mk 3 i o l)))))):=by
 by_cases hn:((l.length:Nat):Int)=0
 ·by_cases hi:0≤i
  ·by_cases ho:0≤o
   ·by_cases hf:i≤o
    ·exact z1m i o l hn hi ho hf ih hl
    exact z1q i o l hn hi ho hf
   exact z1n i o l hn hi ho
  exact z1p i o l hn hi
 exact z1o i o l hn
theorem m2y (i o:Int) (l:List Aw) (hib:c0v i) (hob:c0v o) (hl:l.length≤9223372036854775807) (ih: ∀ a,a∈l→Ct Try.prog 28 [Yy a] (fun v m=>v=.w (.one (.pl (.i (Bq a)))))):Ct Try.prog 28 [Jy 4 i o l] (fun v m=>v=.w (.one (.pl (.i (Bq (.mk 4 i o l)))))):=by
 by_cases hn:((l.length:Nat):Int)=2
 ·by_cases hi:0≤i
  ·by_cases ho:0≤o
   ·by_cases hf:i=0∧o=0
    ·obtain ⟨rfl,rfl⟩:=hf;exact z1h l hn ih hl
    exact z1l i o l hn hi ho hib.2 hob.2 hf
   exact z1i i o l hn hi ho
  exact z1k i o l hn hi
 exact z1j i o l hn
theorem m2x (i o:Int) (l:List Aw) (hib:c0v i) (hob:c0v o) (hl:l.length≤9223372036854775807) (ih: ∀ a,a∈l→Ct Try.prog 28 [Yy a] (fun v m=>v=.w (.one (.pl (.i (Bq a)))))):Ct Try.prog 28 [Jy 5 i o l] (fun v m=>v=.w (.one (.pl (.i (Bq (.mk 5 i o l)))))):=by
 by_cases hn:((l.length:Nat):Int)=1
 ·by_cases hi:0≤i
  ·by_cases ho:0≤o
   ·by_cases hf:i=0∧o=0
    ·obtain ⟨rfl,rfl⟩:=hf;exact z1c l hn ih hl
    exact z1g i o l hn hi ho hib.2 hob.2 hf
   exact z1d i o l hn hi ho
  exact z1f i o l hn hi
 exact z1e i o l hn
theorem m2w (i o:Int) (l:List Aw) (hib:c0v i) (hob:c0v o) (hl:l.length≤9223372036854775807) (ih: ∀ a,a∈l→Ct Try.prog 28 [Yy a] (fun v m=>v=.w (.one (.pl (.i (Bq a)))))):Ct Try.prog 28 [Jy 6 i o l] (fun v m=>v=.w (.one (.pl (.i (Bq (.mk 6 i o l)))))):=by
 by_cases hn:((l.length:Nat):Int)=2
 ·by_cases hi:0≤i
  ·by_cases ho:0≤o
   ·by_cases hf:o=0
    ·subst hf;exact y1x i l hn hi ih hl
    exact z1b i o l hn hi ho hf
   exact y1y i o l hn hi ho
  exact z1a i o l hn hi
 exact y1z i o l hn
theorem m2v (i o:Int) (l:List Aw) (hib:c0v i) (hob:c0v o) (hl:l.length≤9223372036854775807) (ih: ∀ a,a∈l→Ct Try.prog 28 [Yy a] (fun v m=>v=.w (.one (.pl (.i (Bq a)))))):Ct Try.prog 28 [Jy 7 i o l] (fun v m=>v=.w (.one (.pl (.i (Bq (.mk 7 i o l)))))):=by
 by_cases hn:((l.length:Nat):Int)=3
 ·by_cases hi:0≤i
  ·by_cases ho:0≤o
   ·by_cases hf:i=0∧o=0
    ·obtain ⟨rfl,rfl⟩:=hf;exact y1s l hn ih hl
    exact y1w i o l hn hi ho hib.2 hob.2 hf
   exact y1t i o l hn hi ho
  exact y1v i o l hn hi
 exact y1u i o l hn
theorem p1o : ∀ (t:Aw),t.ok→Ct Try.prog 28 [Yy t] (fun v m=>v=.w (.one (.pl (.i (Bq t)))))
 | .mk k i o l,ht=>by
  rw [Aw.ok] at ht
  rw [Bw]
  have ih: ∀ a,a∈l→Ct Try.prog 28 [Yy a] (fun v m=>v=.w (.one (.pl (.i (Bq a))))):=fun a ha=>p1o a (Dw ht.2.2.2.2 a ha)
  by_cases h1:k<1
  ·exact h2l k i o l h1
  by_cases h7:7<k
  ·exact h2m k i o l h1 h7
  have hk:k=1∨k=2∨k=3∨k=4∨k=5∨k=6∨k=7:=by omega
  rcases hk with rfl|rfl|rfl|rfl|rfl|rfl|rfl
  ·exact n2b i o l ht.2.1 ht.2.2.1 ht.2.2.2.1 ih
  ·exact n2a i o l ht.2.1 ht.2.2.1 ht.2.2.2.1 ih
  ·exact m2z i o l ht.2.1 ht.2.2.1 ht.2.2.2.1 ih
  ·exact m2y i o l ht.2.1 ht.2.2.1 ht.2.2.2.1 ih
  ·exact m2x i o l ht.2.1 ht.2.2.1 ht.2.2.2.1 ih
  ·exact m2w i o l ht.2.1 ht.2.2.1 ht.2.2.2.1 ih
  exact m2v i o l ht.2.1 ht.2.2.1 ht.2.2.2.1 ih
termination_by t=>SizeOf.sizeOf t
decreasing_by
 have:=vB ha
 simp only [Aw.mk.sizeOf_spec]
 omega
theorem e2j (i o:Int) (l:List Aw) (hib:c0v i) (hob:c0v o) (hl:l.length≤9223372036854775807) (ih: ∀ a,a∈l→Ct Try.prog 14 [Yy a] (fun v m=>v=.w (.one (.pl (.i (Bq a)))))):Ct Try.prog 14 [Jy 1 i o l] (fun v m=>v=.w (.one (.pl (.i (Bq (.mk 1 i o l)))))):=by
 by_cases hn:((l.length:Nat):Int)=0
 ·by_cases hi:0≤i
  ·by_cases ho:0≤o
   ·by_cases hf:o=0
    ·subst hf
     by_cases hz:i=0
     ·subst hz;exact i1b l hn ih hl
     exact i1a i l hn hi hz ih hl
    exact m1b i o l hn hi ho hf
   exact l1y i o l hn hi ho
  exact m1a i o l hn hi
 exact l1z i o l hn
theorem e2i (i o:Int) (l:List Aw) (hib:c0v i) (hob:c0v o) (hl:l.length≤9223372036854775807) (ih: ∀ a,a∈l→Ct Try.prog 14 [Yy a] (fun v m=>v=.w (.one (.pl (.i (Bq a)))))):Ct Try.prog 14 [Jy 2 i o l] (fun v m=>v=.w (.one (.pl (.i (Bq (.mk 2 i o l)))))):=by
 by_cases hn:((l.length:Nat):Int)=0
 ·by_cases hi:0≤i
  ·by_cases ho:0≤o
   ·by_cases hf:o=0
    ·subst hf
     by_cases hz:i=0
     ·subst hz;exact h1y l hn ih hl
     exact h1w i l hn hi hz ih hl
    exact l1x i o l hn hi ho hf
   exact l1u i o l hn hi ho
  exact l1w i o l hn hi
 exact l1v i o l hn
theorem e2h (i o:Int) (l:List Aw) (hib:c0v i) (hob:c0v o) (hl:l.length≤9223372036854775807) (ih: ∀ a,a∈l→Ct Try.prog 14 [Yy a] (fun v m=>v=.w (.one (.pl (.i (Bq a)))))):Ct Try.prog 14 [Jy 3 i o l] (fun v m=>v=.w (.one (.pl (.i (Bq (.mk 3 i o l)))))):=by
 by_cases hn:((l.length:Nat):Int)=0
 ·by_cases hi:0≤i
  ·by_cases ho:0≤o
   ·by_cases hf:i≤o
    ·exact l1p i o l hn hi ho hf ih hl
    exact l1t i o l hn hi ho hf
   exact l1q i o l hn hi ho
  exact l1s i o l hn hi
 exact l1r i o l hn
theorem e2g (i o:Int) (l:List Aw) (hib:c0v i) (hob:c0v o) (hl:l.length≤9223372036854775807) (ih: ∀ a,a∈l→Ct Try.prog 14 [Yy a] (fun v m=>v=.w (.one (.pl (.i (Bq a)))))):Ct Try.prog 14 [Jy 4 i o l] (fun v m=>v=.w (.one (.pl (.i (Bq (.mk 4 i o l)))))):=by
 by_cases hn:((l.length:Nat):Int)=2
 ·by_cases hi:0≤i
  ·by_cases ho:0≤o
   ·by_cases hf:o=0
    ·subst hf
     by_cases hz:i=0
     ·subst hz;exact l1l l hn ih hl
     exact h1t i l hn hi hz
    exact h1u i o l hn hi ho hf
   exact l1m i o l hn hi ho
  exact l1o i o l hn hi
 exact l1n i o l hn
theorem e2f (i o:Int) (l:List Aw) (hib:c0v i) (hob:c0v o) (hl:l.length≤9223372036854775807) (ih: ∀ a,a∈l→Ct Try.prog 14 [Yy a] (fun v m=>v=.w (.one (.pl (.i (Bq a)))))):Ct Try.prog 14 [Jy 5 i o l] (fun v m=>v=.w (.one (.pl (.i (Bq (.mk 5 i o l)))))):=by
 by_cases hn:((l.length:Nat):Int)=1
 ·by_cases hi:0≤i
  ·by_cases ho:0≤o
   ·by_cases hf:o=0
    ·subst hf
     by_cases hz:i=0
     ·subst hz;exact l1h l hn ih hl
     exact h1r i l hn hi hz
    exact h1s i o l hn hi ho hf
   exact l1i i o l hn hi ho
  exact l1k i o l hn hi
 exact l1j i o l hn
theorem e2e (i o:Int) (l:List Aw) (hib:c0v i) (hob:c0v o) (hl:l.length≤9223372036854775807) (ih: ∀ a,a∈l→Ct Try.prog 14 [Yy a] (fun v m=>v=.w (.one (.pl (.i (Bq a)))))):Ct Try.prog 14 [Jy 6 i o l] (fun v m=>v=.w (.one (.pl (.i (Bq (.mk 6 i o l)))))):=by
 by_cases hn:((l.length:Nat):Int)=2
 ·by_cases hi:0≤i
  ·by_cases ho:0≤o
   ·by_cases hf:o=0
    ·subst hf
     by_cases hz:i=0
     ·subst hz;exact h1q l hn ih hl
     exact h1p i l hn hi hz ih hl
    exact l1g i o l hn hi ho hf
   exact l1d i o l hn hi ho
  exact l1f i o l hn hi
 exact l1e i o l hn
theorem e2d (i o:Int) (l:List Aw) (hib:c0v i) (hob:c0v o) (hl:l.length≤9223372036854775807) (ih: ∀ a,a∈l→Ct Try.prog 14 [Yy a] (fun v m=>v=.w (.one (.pl (.i (Bq a)))))):Ct Try.prog 14 [Jy 7 i o l] (fun v m=>v=.w (.one (.pl (.i (Bq (.mk 7 i o l)))))):=by
 by_cases hn:((l.length:Nat):Int)=3
 ·by_cases hi:0≤i
  ·by_cases ho:0≤o
   ·by_cases hf:o=0
    ·subst hf
     by_cases hz:i=0
     ·subst hz;exact k1z l hn ih hl
     exact h1n i l hn hi hz
    exact h1o i o l hn hi ho hf
   exact l1a i o l hn hi ho
  exact l1c i o l hn hi
 exact l1b i o l hn
theorem j0r : ∀ (t:Aw),t.ok→Ct Try.prog 14 [Yy t] (fun v m=>v=.w (.one (.pl (.i (Bq t)))))
 | .mk k i o l,ht=>by
  rw [Aw.ok] at ht
  rw [Bw]
  have ih: ∀ a,a∈l→Ct Try.prog 14 [Yy a] (fun v m=>v=.w (.one (.pl (.i (Bq a))))):=fun a ha=>j0r a (Dw ht.2.2.2.2 a ha)
  by_cases h1:k<1
  ·exact v1w k i o l h1
  by_cases h7:7<k
  ·exact v1x k i o l h1 h7
  have hk:k=1∨k=2∨k=3∨k=4∨k=5∨k=6∨k=7:=by omega
  rcases hk with rfl|rfl|rfl|rfl|rfl|rfl|rfl
  ·exact e2j i o l ht.2.1 ht.2.2.1 ht.2.2.2.1 ih
  ·exact e2i i o l ht.2.1 ht.2.2.1 ht.2.2.2.1 ih
  ·exact e2h i o l ht.2.1 ht.2.2.1 ht.2.2.2.1 ih
  ·exact e2g i o l ht.2.1 ht.2.2.1 ht.2.2.2.1 ih
  ·exact e2f i o l ht.2.1 ht.2.2.1 ht.2.2.2.1 ih
  ·exact e2e i o l ht.2.1 ht.2.2.1 ht.2.2.2.1 ih
  exact e2d i o l ht.2.1 ht.2.2.1 ht.2.2.2.1 ih
termination_by t=>SizeOf.sizeOf t
decreasing_by
 have:=vB ha
 simp only [Aw.mk.sizeOf_spec]
 omega
theorem k1x : ∀ (t:Aw),t.ok→∀ d,1≤d→d≤41→Ct Try.prog 27 [Yy t,.w (.one (.pl (.i d)))] (fun v m=>v=.w (.one (.pl (.i (Kz t d)))))
 | .mk k i o l,ht,d,h1,h2=>by
  rw [Aw.ok] at ht
  rw [Bw]
  by_cases h:40<d
  ·exact k1w k i o l ht.2.2.2.1 d ⟨h1,h2⟩ h
  exact k1v k i o l ht.2.2.2.1 d ⟨h1,h2⟩ h fun a ha=>k1x a (Dw ht.2.2.2.2 a ha)
termination_by t=>SizeOf.sizeOf t
decreasing_by
 have:=vB ha
 simp only [Aw.mk.sizeOf_spec]
 omega
theorem j0i : ∀ (t:Aw),t.ok→∀ d,1≤d→d≤41→Ct Try.prog 13 [Yy t,.w (.one (.pl (.i d)))] (fun v m=>v=.w (.one (.pl (.i (Ej t d)))))
 | .mk k i o l,ht,d,h1,h2=>by
  rw [Aw.ok] at ht
  rw [Bw]
  by_cases h:40<d
  ·exact h1f k i o l ht.2.2.2.1 d ⟨h1,h2⟩ h
  exact h1e k i o l ht.2.2.2.1 d ⟨h1,h2⟩ h fun a ha=>j0i a (Dw ht.2.2.2.2 a ha)
termination_by t=>SizeOf.sizeOf t
decreasing_by
 have:=vB ha
 simp only [Aw.mk.sizeOf_spec]
 omega
def Tv (t:Aw):Int:=if 300<Kz t 1 then 1 else Bq t
theorem e0p (t:Aw):300<Ej t 1↔300<Kz t 1:=by
 rcases l0o t 1 with ⟨h1,h2⟩|⟨h1,h2⟩<;>omega
theorem q1w (k i o:Int) (l:List Aw) (hok:(Aw.mk k i o l).ok) (h:300<Kz (.mk k i o l) 1):
 Ct Try.prog 10 [Jy k i o l] (fun v m=>v=.w (.one (.pl (.i (Tv (.mk k i o l)))))):=by
 have hs:=k1x (.mk k i o l) hok 1 (by omega) (by omega)
 have hf:=p1o (.mk k i o l) hok
 rw [Bw] at hs hf
 have hcw:=e0p (.mk k i o l)
 have hr:Tv (.mk k i o l)=1:=if_pos h
 obtain ⟨w,hw⟩: ∃ w,Kz (.mk k i o l) 1=w:=⟨_,rfl⟩
 obtain ⟨f,hfe⟩: ∃ f,Bq (.mk k i o l)=f:=⟨_,rfl⟩
 rw [hw] at hs h
 rw [hfe] at hf
 rw [hr]
 have F0:=h
 have cq:=yA ((hs.plain fun _ _ h=>h))<|trivial
 exact Ct.go Try.func10 rfl Try.ntmps10 Try.results10
theorem c1r (k i o:Int) (l:List Aw) (hok:(Aw.mk k i o l).ok) (h:¬300<Kz (.mk k i o l) 1):
 Ct Try.prog 10 [Jy k i o l] (fun v m=>v=.w (.one (.pl (.i (Tv (.mk k i o l)))))):=by
 have hs:=k1x (.mk k i o l) hok 1 (by omega) (by omega)
 have hf:=p1o (.mk k i o l) hok
 rw [Bw] at hs hf
 have hcw:=e0p (.mk k i o l)
 have hr:Tv (.mk k i o l)=Bq (.mk k i o l):=if_neg h
 obtain ⟨w,hw⟩: ∃ w,Kz (.mk k i o l) 1=w:=⟨_,rfl⟩
 obtain ⟨f,hfe⟩: ∃ f,Bq (.mk k i o l)=f:=⟨_,rfl⟩
 rw [hw] at hs h
 rw [hfe] at hf
 rw [hr,hfe]
 have F0:=h
 have cq:=yA ((hs.plain fun _ _ h=>h))<|yA ((hf.plain fun _ _ h=>h))<|trivial
 exact Ct.go Try.func10 rfl Try.ntmps10 Try.results10
theorem c2r (t:Aw) (ht:t.ok):Ct Try.prog 10 [Yy t] (fun v m=>v=.w (.one (.pl (.i (Tv t))))):=by
 obtain ⟨k,i,o,l⟩:=t
 rw [Bw]
 by_cases h:300<Kz (.mk k i o l) 1
 ·exact q1w k i o l ht h
 exact c1r k i o l ht h
theorem p1x (k i o:Int) (l:List Aw) (hok:(Aw.mk k i o l).ok) (h:300<Ej (.mk k i o l) 1):
 Ct Try.prog 15 [Jy k i o l] (fun v m=>v=.w (.one (.pl (.i (Tv (.mk k i o l)))))):=by
 have hs:=j0i (.mk k i o l) hok 1 (by omega) (by omega)
 have hf:=j0r (.mk k i o l) hok
 rw [Bw] at hs hf
 have hcw:=e0p (.mk k i o l)
 have hr:Tv (.mk k i o l)=1:=if_pos (hcw.mp h)
 obtain ⟨w,hw⟩: ∃ w,Ej (.mk k i o l) 1=w:=⟨_,rfl⟩
 obtain ⟨f,hfe⟩: ∃ f,Bq (.mk k i o l)=f:=⟨_,rfl⟩
 rw [hw] at hs h
 rw [hfe] at hf
 rw [hr]
 have F0:=h
 have cq:=yA ((hs.plain fun _ _ h=>h))<|trivial
 exact Ct.go Try.func15 rfl Try.ntmps15 Try.results15
theorem c1l (k i o:Int) (l:List Aw) (hok:(Aw.mk k i o l).ok) (h:¬300<Ej (.mk k i o l) 1):
 Ct Try.prog 15 [Jy k i o l] (fun v m=>v=.w (.one (.pl (.i (Tv (.mk k i o l)))))):=by
 have hs:=j0i (.mk k i o l) hok 1 (by omega) (by omega)
 have hf:=j0r (.mk k i o l) hok
 rw [Bw] at hs hf
 have hcw:=e0p (.mk k i o l)
 have hr:Tv (.mk k i o l)=Bq (.mk k i o l):=if_neg (fun q=>h (hcw.mpr q))
 obtain ⟨w,hw⟩: ∃ w,Ej (.mk k i o l) 1=w:=⟨_,rfl⟩
 obtain ⟨f,hfe⟩: ∃ f,Bq (.mk k i o l)=f:=⟨_,rfl⟩
 rw [hw] at hs h
 rw [hfe] at hf
 rw [hr,hfe]
 have F0:=h
 have cq:=yA ((hs.plain fun _ _ h=>h))<|yA ((hf.plain fun _ _ h=>h))<|trivial
 exact Ct.go Try.func15 rfl Try.ntmps15 Try.results15
theorem c2l (t:Aw) (ht:t.ok):Ct Try.prog 15 [Yy t] (fun v m=>v=.w (.one (.pl (.i (Tv t))))):=by
 obtain ⟨k,i,o,l⟩:=t
 rw [Bw]
 by_cases h:300<Ej (.mk k i o l) 1
 ·exact p1x k i o l ht h
 exact c1l k i o l ht h
end Go.Sy
