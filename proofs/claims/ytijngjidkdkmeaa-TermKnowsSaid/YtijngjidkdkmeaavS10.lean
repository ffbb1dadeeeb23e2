/- Walks and what they compute. CONDITIONS: those that each theorem names. -/
import Derived.Test.YtijngjidkdkmeaavS3
import Derived.Test.YtijngjidkdkmeaavS2
import Derived.Test.YtijngjidkdkmeaavE5
import Derived.Test.YtijngjidkdkmeaavS4
import Derived.Test.YtijngjidkdkmeaavS5
import Derived.Test.YtijngjidkdkmeaavS6
import Derived.Test.YtijngjidkdkmeaavS7
import Derived.Test.YtijngjidkdkmeaavS8
import Derived.Test.YtijngjidkdkmeaavS9
set_option linter.unusedVariables false
set_option linter.unusedSimpArgs false
set_option maxHeartbeats 1600000
set_option maxRecDepth 100000
namespace Go.Sy
open Go.Proofs
attribute [local irreducible] Ey HT Bq Tk onC onE onO onG goV goA goS Wv Fx
theorem y0v (i o:Int) (l:List Aw) (hn:¬((l.length:Nat):Int)=3):
 Ct Try.prog 14 [Fy 7 i o l] (fun v m=>v=.w (.one (.pl (.i (Bz (.mk 7 i o l)))))):=by
 rw [Dy (by decide) (by rw [i0u];omega)]
 refine Ct.k Try.func14 rfl Try.ntmps14 (congrArg Array.toList Try.results14) (by simp) fun w0 ro=>?_
 refine Ck fun zZ zhZ=>?_
 iterate 28 first
  |refine zhK _ ?_
  |(refine Dw fun zK zhK=>?_;simp only [go_sem,Az,hn];(repeat' (first|apply And.intro|intro _)))
  |(refine zhN _ ?_;clear zhN zhM)
  |refine Bv ?_
  |(refine Aq fun zK zhK=>?_;simp only [go_sem,Az,hn];(repeat' (first|apply And.intro|intro _)))
  |refine Cq ?_
  |(refine zhM _ _ ?_;clear zhN zhM)
  |(refine zhZ _ _ ?_;simp only [go_sem,Az,hn];(all_goals (rfl)))
  |refine Bj fun zN zM zhN zhM=>?_
  |(refine Av ?_ ?_;focus (first|rfl|(simp [go_sem,Az,hn];done)))
  |(refine Aj ?_ ?_;focus (first|rfl|(simp [go_sem,Az,hn];done)))
theorem y0w (i o:Int) (l:List Aw) (hn:((l.length:Nat):Int)=3) (hi:¬0≤i):
 Ct Try.prog 14 [Fy 7 i o l] (fun v m=>v=.w (.one (.pl (.i (Bz (.mk 7 i o l)))))):=by
 have qn:(((l.length:Nat):Int)=3)=True:=eq_true hn
 rw [Dy (by decide) (by rw [i0u];omega)]
 refine Ct.k Try.func14 rfl Try.ntmps14 (congrArg Array.toList Try.results14) (by simp) fun w0 ro=>?_
 refine Ck fun zZ zhZ=>?_
 iterate 28 first
  |refine zhK _ ?_
  |(refine Dw fun zK zhK=>?_;simp only [go_sem,Az,qn,hi];(repeat' (first|apply And.intro|intro _)))
  |(refine zhN _ ?_;clear zhN zhM)
  |refine Bv ?_
  |(refine Aq fun zK zhK=>?_;simp only [go_sem,Az,qn,hi];(repeat' (first|apply And.intro|intro _)))
  |refine Cq ?_
  |(refine zhM _ _ ?_;clear zhN zhM)
  |(refine zhZ _ _ ?_;simp only [go_sem,Az,qn,hi];(all_goals (rfl)))
  |refine Bj fun zN zM zhN zhM=>?_
  |(refine Av ?_ ?_;focus (first|rfl|(simp [go_sem,Az,qn,hi];done)))
  |(refine Aj ?_ ?_;focus (first|rfl|(simp [go_sem,Az,qn,hi];done)))
theorem y0u (i o:Int) (l:List Aw) (hn:((l.length:Nat):Int)=3) (hi:0≤i) (ho:¬0≤o):
 Ct Try.prog 14 [Fy 7 i o l] (fun v m=>v=.w (.one (.pl (.i (Bz (.mk 7 i o l)))))):=by
 have qn:(((l.length:Nat):Int)=3)=True:=eq_true hn
 rw [Dy (by decide) (by rw [i0u];omega)]
 have F0:=And.intro qn<|And.intro hi<|ho
 refine Ct.k Try.func14 rfl Try.ntmps14 (congrArg Array.toList Try.results14) (by simp) fun w0 ro=>?_
 refine Ck fun zZ zhZ=>?_
 iterate 28 first
  |refine zhK _ ?_
  |(refine Dw fun zK zhK=>?_;simp only [go_sem,Az,F0];(repeat' (first|apply And.intro|intro _)))
  |(refine zhN _ ?_;clear zhN zhM)
  |refine Bv ?_
  |(refine Aq fun zK zhK=>?_;simp only [go_sem,Az,F0];(repeat' (first|apply And.intro|intro _)))
  |refine Cq ?_
  |(refine zhM _ _ ?_;clear zhN zhM)
  |(refine zhZ _ _ ?_;simp only [go_sem,Az,F0];(all_goals (rfl)))
  |refine Bj fun zN zM zhN zhM=>?_
  |(refine Av ?_ ?_;focus (first|rfl|(simp [go_sem,Az,F0];done)))
  |(refine Aj ?_ ?_;focus (first|rfl|(simp [go_sem,Az,F0];done)))
theorem v0w (i o:Int) (l:List Aw) (hn:((l.length:Nat):Int)=3) (hi:0≤i) (ho:0≤o) (hf:¬o=0):
 Ct Try.prog 14 [Fy 7 i o l] (fun v m=>v=.w (.one (.pl (.i (Bz (.mk 7 i o l)))))):=by
 have qn:(((l.length:Nat):Int)=3)=True:=eq_true hn
 rw [Dy (by decide) (by rw [i0u];omega)]
 have F0:=And.intro qn<|And.intro hi<|And.intro ho<|hf
 refine Ct.k Try.func14 rfl Try.ntmps14 (congrArg Array.toList Try.results14) (by simp) fun w0 ro=>?_
 refine Ck fun zZ zhZ=>?_
 iterate 28 first
  |refine zhK _ ?_
  |(refine Dw fun zK zhK=>?_;simp only [go_sem,Az,F0];(repeat' (first|apply And.intro|intro _)))
  |(refine zhN _ ?_;clear zhN zhM)
  |refine Bv ?_
  |(refine Aq fun zK zhK=>?_;simp only [go_sem,Az,F0];(repeat' (first|apply And.intro|intro _)))
  |refine Cq ?_
  |(refine zhM _ _ ?_;clear zhN zhM)
  |(refine zhZ _ _ ?_;simp only [go_sem,Az,F0];(all_goals (rfl)))
  |refine Bj fun zN zM zhN zhM=>?_
  |(refine Av ?_ ?_;focus (first|rfl|(simp [go_sem,Az,F0];done)))
  |(refine Aj ?_ ?_;focus (first|rfl|(simp [go_sem,Az,F0];done)))
theorem v0v (i:Int) (l:List Aw) (hn:((l.length:Nat):Int)=3) (hi:0≤i) (hf:¬i=0):
 Ct Try.prog 14 [Fy 7 i 0 l] (fun v m=>v=.w (.one (.pl (.i (Bz (.mk 7 i 0 l)))))):=by
 have qn:(((l.length:Nat):Int)=3)=True:=eq_true hn
 rw [Dy (by decide) (by rw [i0u];omega)]
 have F0:=And.intro qn<|And.intro hi<|hf
 refine Ct.k Try.func14 rfl Try.ntmps14 (congrArg Array.toList Try.results14) (by simp) fun w0 ro=>?_
 refine Ck fun zZ zhZ=>?_
 iterate 28 first
  |refine zhK _ ?_
  |(refine Dw fun zK zhK=>?_;simp only [go_sem,Az,Int.le_refl,F0];(repeat' (first|apply And.intro|intro _)))
  |(refine zhN _ ?_;clear zhN zhM)
  |refine Bv ?_
  |(refine Aq fun zK zhK=>?_;simp only [go_sem,Az,Int.le_refl,F0];(repeat' (first|apply And.intro|intro _)))
  |refine Cq ?_
  |(refine zhM _ _ ?_;clear zhN zhM)
  |(refine zhZ _ _ ?_;simp only [go_sem,Az,Int.le_refl,F0];(all_goals (rfl)))
  |refine Bj fun zN zM zhN zhM=>?_
  |(refine Av ?_ ?_;focus (first|rfl|(simp [go_sem,Az,Int.le_refl,F0];done)))
  |(refine Aj ?_ ?_;focus (first|rfl|(simp [go_sem,Az,Int.le_refl,F0];done)))
theorem y0t (l:List Aw) (hn:((l.length:Nat):Int)=3) (ih: ∀ a,a∈l→Ct Try.prog 14 [Pv a] (fun v m=>v=.w (.one (.pl (.i (Bz a)))))) (hl:l.length≤9223372036854775807):
 Ct Try.prog 14 [Fy 7 0 0 l] (fun v m=>v=.w (.one (.pl (.i (Bz (.mk 7 0 0 l)))))):=by
 have qn:(((l.length:Nat):Int)=3)=True:=eq_true hn
 have hr:Bz (.mk 7 0 0 l)=Cv l:=Jj (by decide) (by rw [i0u];omega)
 refine Ct.k Try.func14 rfl Try.ntmps14 (congrArg Array.toList Try.results14) (by simp) fun w0 ro=>?_
 refine Ck fun zZ zhZ=>?_
 iterate 29 first
  |refine zhK _ ?_
  |(refine Dw fun zK zhK=>?_;simp only [go_sem,Az,qn,Int.le_refl];(repeat' (first|apply And.intro|intro _)))
  |(refine zhN _ ?_;clear zhN zhM)
  |refine Bv ?_
  |(refine Aq fun zK zhK=>?_;simp only [go_sem,Az,qn,Int.le_refl];(repeat' (first|apply And.intro|intro _)))
  |refine Bw fun zB zbn zbx zbr zbi=>?_
  |refine Bj fun zN zM zhN zhM=>?_
  |(refine Av ?_ ?_;focus (first|rfl|(simp [go_sem,Az,qn,Int.le_refl];done)))
 refine Gw [0,1,3,4,8,9,10,11,12,13,14,15,16,17,18,19,20,21,22,23,24,25,26,27,28,29,30,31,32,33,34,35,36,37,38,39,40,41,42,43,44,45,46,47,48,49,50,51,52,53,54,55,56,57,58,59,60,61,62,63,64,65,66,67,68,69,70,71,72,73,74,75] ?_
 simp only [Gq,Iq,Gv,List.contains_cons,List.contains_nil,Nat.reduceBEq,beq_self_eq_true,Bool.or_false,Bool.or_true,Bool.true_or,Bool.false_or,Bool.false_eq_true,reduceIte]
 refine Iy (fun y=>[(78,.w (.one (.pl (.i ((y.1:Nat):Int)))))]) (fun _=>[]) (fun y=>l.length-y.1) (⟨0,Nat.zero_le _,rfl⟩:{y:Nat//y≤l.length∧Cv (l.drop y)=Cv l}) ?_ ?_ ?_
 · (simp only [go_sem,leX,List.cons_append,List.nil_append];try simp)
 · (simp only [go_sem,leX,List.cons_append,List.nil_append];try simp)
 intro yy zN zM zhN zhM
 simp only [List.cons_append,List.nil_append]
 obtain ⟨j,h1,h4⟩:=yy
 rcases Nat.lt_or_ge j l.length with hlt|hge
 rcases Int.decEq (Bz (l.getD j (.mk 0 0 0 []))) 0 with hbad|hgood
 · obtain ⟨k2,i2,o2,m2,he,hm,hdr,hg⟩:=Cy hlt
   have hc:=ih _ hm
   rw [Ak] at hc
   have hcq:((j:Nat):Int)<((l.length:Nat):Int):=by omega
   have hj:(0:Int)≤((j:Nat):Int):=by omega
   have hjl:j<(Ay l).length:=by rw [Az];exact hlt
   rw [hdr,Cv] at h4
   obtain ⟨w,hw⟩: ∃ w,Bz (.mk k2 i2 o2 m2)=w:=⟨_,rfl⟩
   rw [hw] at hc h4
   rw [he,hw] at hbad
   rw [if_neg hbad] at h4
   have F14:=And.intro hcq<|And.intro hj<|And.intro hjl<|And.intro hg<|hbad
   iterate 25 first
    |(refine Dw fun zK zhK=>?_;simp only [go_sem,Az,qn,Int.le_refl,F14];(repeat' (first|apply And.intro|intro _)))
    |refine zhK _ ?_
    |(refine zhM _ _ ?_;clear zhN zhM)
    |(refine zbr _ ?_;clear zbn zbx zbr zbi)
    |refine Bv ?_
    |(refine zhN _ ?_;clear zhN zhM)
    |refine Bw fun zB zbn zbx zbr zbi=>?_
    |refine Cq ?_
    |(refine zhZ _ _ ?_;simp only [go_sem,Az,qn,Int.le_refl,F14];(all_goals (rw [hr,←h4])))
    |((all_goals (refine Cz (fun k=>k) (fun _ _=>rfl) ?_ (hc.plain fun _ _ h=>h) ?_;focus (first|rfl|(simp only [go_sem,Az,qn,Int.le_refl,F14]<;>rfl))));(all_goals (rintro v m ⟨hR,hm⟩;subst hR;subst hm));(all_goals refine And.intro (by first|rfl|simp only [go_sem,Az,qn,Int.le_refl,F14]) (And.intro (by first|rfl|simp only [go_sem,Az,qn,Int.le_refl,F14]) ?_));(all_goals simp only [go_sem,Az,qn,Int.le_refl,F14]);(all_goals repeat' (first|apply And.intro|intro _)))
    |refine Bj fun zN zM zhN zhM=>?_
    |(refine Aj ?_ ?_;focus (first|rfl|(simp [go_sem,Az,qn,Int.le_refl,F14];done)))
 · obtain ⟨k2,i2,o2,m2,he,hm,hdr,hg⟩:=Cy hlt
   have hc:=ih _ hm
   rw [Ak] at hc
   have hcq:((j:Nat):Int)<((l.length:Nat):Int):=by omega
   have hj:(0:Int)≤((j:Nat):Int):=by omega
   have hjl:j<(Ay l).length:=by rw [Az];exact hlt
   rw [hdr,Cv] at h4
   obtain ⟨w,hw⟩: ∃ w,Bz (.mk k2 i2 o2 m2)=w:=⟨_,rfl⟩
   rw [hw] at hc h4
   rw [he,hw] at hgood
   rw [if_pos hgood] at h4
   have hs1:Go.RowKit.wrap64 (((j:Nat):Int)+1)=((j+1:Nat):Int):=k0l (by omega) (by omega)
   have F22:=And.intro hcq<|And.intro hj<|And.intro hjl<|And.intro hg<|And.intro hgood<|hs1
   iterate 21 first
    |refine zhK _ ?_
    |(refine Dw fun zK zhK=>?_;simp only [go_sem,Az,qn,Int.le_refl,F22];(repeat' (first|apply And.intro|intro _)))
    |refine Bv ?_
    |(refine zhN _ ?_;clear zhN zhM)
    |refine Bw fun zB zbn zbx zbr zbi=>?_
    |(refine zbn _ ?_;clear zbn zbx zbr zbi)
    |(refine Aq fun zK zhK=>?_;simp only [go_sem,Az,qn,Int.le_refl,F22];(repeat' (first|apply And.intro|intro _)))
    |((all_goals (refine Cz (fun k=>k) (fun _ _=>rfl) ?_ (hc.plain fun _ _ h=>h) ?_;focus (first|rfl|(simp only [go_sem,Az,qn,Int.le_refl,F22]<;>rfl))));(all_goals (rintro v m ⟨hR,hm⟩;subst hR;subst hm));(all_goals refine And.intro (by first|rfl|simp only [go_sem,Az,qn,Int.le_refl,F22]) (And.intro (by first|rfl|simp only [go_sem,Az,qn,Int.le_refl,F22]) ?_));(all_goals simp only [go_sem,Az,qn,Int.le_refl,F22]);(all_goals repeat' (first|apply And.intro|intro _)))
    |refine Bj fun zN zM zhN zhM=>?_
    |(refine Aj ?_ ?_;focus (first|rfl|(simp [go_sem,Az,qn,Int.le_refl,F22];done)))
    |(refine Av ?_ ?_;focus (first|rfl|(simp [go_sem,Az,qn,Int.le_refl,F22];done)))
   refine zhN ⟨j+1,hlt,h4⟩ _ ?_ ?_ ?_
   · (exact Nat.sub_lt_sub_left hlt (Nat.lt_succ_self j))
   · (simp only [go_sem,leX,List.cons_append,List.nil_append];try simp)
   · (simp only [go_sem,leX,List.cons_append,List.nil_append];try simp)
 · obtain rfl:j=l.length:=by omega
   rw [List.drop_length,Cv] at h4
   have hcq:¬((l.length:Nat):Int)<((l.length:Nat):Int):=by omega
   iterate 13 first
    |(refine Dw fun zK zhK=>?_;simp only [go_sem,Az,qn,Int.le_refl,hcq];(repeat' (first|apply And.intro|intro _)))
    |refine zhK _ ?_
    |(refine zhM _ _ ?_;clear zhN zhM)
    |refine Iw ?_
    |(refine zbx _ ?_;clear zbn zbx zbr zbi)
    |(refine zhN _ ?_;clear zhN zhM)
    |refine Cq ?_
    |(refine zhZ _ _ ?_;simp only [go_sem,Az,qn,Int.le_refl,hcq];(all_goals (rw [hr,←h4])))
    |refine Bj fun zN zM zhN zhM=>?_
    |(refine Av ?_ ?_;focus (first|rfl|(simp [go_sem,Az,qn,Int.le_refl,hcq];done)))
end Go.Sy
namespace Go.Sy
open Go.Proofs
attribute [local irreducible] Ey HT Bq Tk onC onE onO onG goV goA goS Wv Fx
@[go_sem] theorem k1z {P:Program} {t:TypeId} (ht:P.underlying t=some .bool) (a b:Bool):Mj P .eql t (.w (.one (.pl (.b a)))) (.w (.one (.pl (.b b))))=some (.w (.one (.pl (.b (a==b))))):=by simp [Mj,ht]
theorem s1q (i o:Int) (l:List Aw) (hib:a0p i) (hob:a0p o) (hl:l.length≤9223372036854775807) (ih: ∀ a,a∈l→Ct Try.prog 28 [Pv a] (fun v m=>v=.w (.one (.pl (.i (Bz a)))))):Ct Try.prog 28 [Fy 1 i o l] (fun v m=>v=.w (.one (.pl (.i (Bz (.mk 1 i o l)))))):=by
 by_cases hn:((l.length:Nat):Int)=0
 · by_cases hi:0≤i
   · by_cases ho:0≤o
     · by_cases hf:o=0
       · subst hf;exact i1o i l hn hi ih hl
       · exact i1s i o l hn hi ho hf
     · exact i1p i o l hn hi ho
   · exact i1r i o l hn hi
 · exact i1q i o l hn
theorem s1p (i o:Int) (l:List Aw) (hib:a0p i) (hob:a0p o) (hl:l.length≤9223372036854775807) (ih: ∀ a,a∈l→Ct Try.prog 28 [Pv a] (fun v m=>v=.w (.one (.pl (.i (Bz a)))))):Ct Try.prog 28 [Fy 2 i o l] (fun v m=>v=.w (.one (.pl (.i (Bz (.mk 2 i o l)))))):=by
 by_cases hn:((l.length:Nat):Int)=0
 · by_cases hi:0≤i
   · by_cases ho:0≤o
     · by_cases hf:o=0
       · subst hf;exact i1j i l hn hi ih hl
       · exact i1n i o l hn hi ho hf
     · exact i1k i o l hn hi ho
   · exact i1m i o l hn hi
 · exact i1l i o l hn
theorem s1o (i o:Int) (l:List Aw) (hib:a0p i) (hob:a0p o) (hl:l.length≤9223372036854775807) (ih: ∀ a,a∈l→Ct Try.prog 28 [Pv a] (fun v m=>v=.w (.one (.pl (.i (Bz a)))))):Ct Try.prog 28 [Fy 3 i o l] (fun v m=>v=.w (.one (.pl (.i (Bz (.mk 3 i o l)))))):=by
 by_cases hn:((l.length:Nat):Int)=0
 · by_cases hi:0≤i
   · by_cases ho:0≤o
     · by_cases hf:i≤o
       · exact i1e i o l hn hi ho hf ih hl
       · exact i1i i o l hn hi ho hf
     · exact i1f i o l hn hi ho
   · exact i1h i o l hn hi
 · exact i1g i o l hn
theorem s1n (i o:Int) (l:List Aw) (hib:a0p i) (hob:a0p o) (hl:l.length≤9223372036854775807) (ih: ∀ a,a∈l→Ct Try.prog 28 [Pv a] (fun v m=>v=.w (.one (.pl (.i (Bz a)))))):Ct Try.prog 28 [Fy 4 i o l] (fun v m=>v=.w (.one (.pl (.i (Bz (.mk 4 i o l)))))):=by
 by_cases hn:((l.length:Nat):Int)=2
 · by_cases hi:0≤i
   · by_cases ho:0≤o
     · by_cases hf:i=0∧o=0
       · obtain ⟨rfl,rfl⟩:=hf;exact h1y l hn ih hl
       · exact i1d i o l hn hi ho hib.2 hob.2 hf
     · exact i1a i o l hn hi ho
   · exact i1c i o l hn hi
 · exact i1b i o l hn
theorem s1m (i o:Int) (l:List Aw) (hib:a0p i) (hob:a0p o) (hl:l.length≤9223372036854775807) (ih: ∀ a,a∈l→Ct Try.prog 28 [Pv a] (fun v m=>v=.w (.one (.pl (.i (Bz a)))))):Ct Try.prog 28 [Fy 5 i o l] (fun v m=>v=.w (.one (.pl (.i (Bz (.mk 5 i o l)))))):=by
 by_cases hn:((l.length:Nat):Int)=1
 · by_cases hi:0≤i
   · by_cases ho:0≤o
     · by_cases hf:i=0∧o=0
       · obtain ⟨rfl,rfl⟩:=hf;exact h1r l hn ih hl
       · exact h1w i o l hn hi ho hib.2 hob.2 hf
     · exact h1s i o l hn hi ho
   · exact h1u i o l hn hi
 · exact h1t i o l hn
theorem s1l (i o:Int) (l:List Aw) (hib:a0p i) (hob:a0p o) (hl:l.length≤9223372036854775807) (ih: ∀ a,a∈l→Ct Try.prog 28 [Pv a] (fun v m=>v=.w (.one (.pl (.i (Bz a)))))):Ct Try.prog 28 [Fy 6 i o l] (fun v m=>v=.w (.one (.pl (.i (Bz (.mk 6 i o l)))))):=by
 by_cases hn:((l.length:Nat):Int)=2
 · by_cases hi:0≤i
   · by_cases ho:0≤o
     · by_cases hf:o=0
       · subst hf;exact h1m i l hn hi ih hl
       · exact h1q i o l hn hi ho hf
     · exact h1n i o l hn hi ho
   · exact h1p i o l hn hi
 · exact h1o i o l hn
theorem s1k (i o:Int) (l:List Aw) (hib:a0p i) (hob:a0p o) (hl:l.length≤9223372036854775807) (ih: ∀ a,a∈l→Ct Try.prog 28 [Pv a] (fun v m=>v=.w (.one (.pl (.i (Bz a)))))):Ct Try.prog 28 [Fy 7 i o l] (fun v m=>v=.w (.one (.pl (.i (Bz (.mk 7 i o l)))))):=by
 by_cases hn:((l.length:Nat):Int)=3
 · by_cases hi:0≤i
   · by_cases ho:0≤o
     · by_cases hf:i=0∧o=0
       · obtain ⟨rfl,rfl⟩:=hf;exact h1g l hn ih hl
       · exact h1l i o l hn hi ho hib.2 hob.2 hf
     · exact h1h i o l hn hi ho
   · exact h1j i o l hn hi
 · exact h1i i o l hn
theorem c1f : ∀ (t:Aw),t.ok→Ct Try.prog 28 [Pv t] (fun v m=>v=.w (.one (.pl (.i (Bz t)))))
 | .mk k i o l,ht=>by
  rw [Aw.ok] at ht
  rw [Ak]
  have ih: ∀ a,a∈l→Ct Try.prog 28 [Pv a] (fun v m=>v=.w (.one (.pl (.i (Bz a))))):=fun a ha=>c1f a (Dz ht.2.2.2.2 a ha)
  by_cases h1:k<1
  · exact o1b k i o l h1
  · by_cases h7:7<k
    · exact o1c k i o l h1 h7
    · have hk:k=1∨k=2∨k=3∨k=4∨k=5∨k=6∨k=7:=by omega
      rcases hk with rfl|rfl|rfl|rfl|rfl|rfl|rfl
      · exact s1q i o l ht.2.1 ht.2.2.1 ht.2.2.2.1 ih
      · exact s1p i o l ht.2.1 ht.2.2.1 ht.2.2.2.1 ih
      · exact s1o i o l ht.2.1 ht.2.2.1 ht.2.2.2.1 ih
      · exact s1n i o l ht.2.1 ht.2.2.1 ht.2.2.2.1 ih
      · exact s1m i o l ht.2.1 ht.2.2.1 ht.2.2.2.1 ih
      · exact s1l i o l ht.2.1 ht.2.2.1 ht.2.2.2.1 ih
      · exact s1k i o l ht.2.1 ht.2.2.1 ht.2.2.2.1 ih
termination_by t=>SizeOf.sizeOf t
decreasing_by
 have:=List.sizeOf_lt_of_mem ha
 simp only [Aw.mk.sizeOf_spec]
 omega
theorem l1r (i o:Int) (l:List Aw) (hib:a0p i) (hob:a0p o) (hl:l.length≤9223372036854775807) (ih: ∀ a,a∈l→Ct Try.prog 14 [Pv a] (fun v m=>v=.w (.one (.pl (.i (Bz a)))))):Ct Try.prog 14 [Fy 1 i o l] (fun v m=>v=.w (.one (.pl (.i (Bz (.mk 1 i o l)))))):=by
 by_cases hn:((l.length:Nat):Int)=0
 · by_cases hi:0≤i
   · by_cases ho:0≤o
     · by_cases hf:o=0
       · subst hf
         by_cases hz:i=0
         · subst hz;exact w0g l hn ih hl
         · exact w0f i l hn hi hz ih hl
       · exact z0v i o l hn hi ho hf
     · exact z0s i o l hn hi ho
   · exact z0u i o l hn hi
 · exact z0t i o l hn
theorem l1q (i o:Int) (l:List Aw) (hib:a0p i) (hob:a0p o) (hl:l.length≤9223372036854775807) (ih: ∀ a,a∈l→Ct Try.prog 14 [Pv a] (fun v m=>v=.w (.one (.pl (.i (Bz a)))))):Ct Try.prog 14 [Fy 2 i o l] (fun v m=>v=.w (.one (.pl (.i (Bz (.mk 2 i o l)))))):=by
 by_cases hn:((l.length:Nat):Int)=0
 · by_cases hi:0≤i
   · by_cases ho:0≤o
     · by_cases hf:o=0
       · subst hf
         by_cases hz:i=0
         · subst hz;exact w0e l hn ih hl
         · exact w0d i l hn hi hz ih hl
       · exact z0r i o l hn hi ho hf
     · exact z0o i o l hn hi ho
   · exact z0q i o l hn hi
 · exact z0p i o l hn
theorem l1p (i o:Int) (l:List Aw) (hib:a0p i) (hob:a0p o) (hl:l.length≤9223372036854775807) (ih: ∀ a,a∈l→Ct Try.prog 14 [Pv a] (fun v m=>v=.w (.one (.pl (.i (Bz a)))))):Ct Try.prog 14 [Fy 3 i o l] (fun v m=>v=.w (.one (.pl (.i (Bz (.mk 3 i o l)))))):=by
 by_cases hn:((l.length:Nat):Int)=0
 · by_cases hi:0≤i
   · by_cases ho:0≤o
     · by_cases hf:i≤o
       · exact z0j i o l hn hi ho hf ih hl
       · exact z0n i o l hn hi ho hf
     · exact z0k i o l hn hi ho
   · exact z0m i o l hn hi
 · exact z0l i o l hn
theorem l1o (i o:Int) (l:List Aw) (hib:a0p i) (hob:a0p o) (hl:l.length≤9223372036854775807) (ih: ∀ a,a∈l→Ct Try.prog 14 [Pv a] (fun v m=>v=.w (.one (.pl (.i (Bz a)))))):Ct Try.prog 14 [Fy 4 i o l] (fun v m=>v=.w (.one (.pl (.i (Bz (.mk 4 i o l)))))):=by
 by_cases hn:((l.length:Nat):Int)=2
 · by_cases hi:0≤i
   · by_cases ho:0≤o
     · by_cases hf:o=0
       · subst hf
         by_cases hz:i=0
         · subst hz;exact z0f l hn ih hl
         · exact w0b i l hn hi hz
       · exact w0c i o l hn hi ho hf
     · exact z0g i o l hn hi ho
   · exact z0i i o l hn hi
 · exact z0h i o l hn
theorem l1n (i o:Int) (l:List Aw) (hib:a0p i) (hob:a0p o) (hl:l.length≤9223372036854775807) (ih: ∀ a,a∈l→Ct Try.prog 14 [Pv a] (fun v m=>v=.w (.one (.pl (.i (Bz a)))))):Ct Try.prog 14 [Fy 5 i o l] (fun v m=>v=.w (.one (.pl (.i (Bz (.mk 5 i o l)))))):=by
 by_cases hn:((l.length:Nat):Int)=1
 · by_cases hi:0≤i
   · by_cases ho:0≤o
     · by_cases hf:o=0
       · subst hf
         by_cases hz:i=0
         · subst hz;exact z0b l hn ih hl
         · exact v0z i l hn hi hz
       · exact w0a i o l hn hi ho hf
     · exact z0c i o l hn hi ho
   · exact z0e i o l hn hi
 · exact z0d i o l hn
theorem l1m (i o:Int) (l:List Aw) (hib:a0p i) (hob:a0p o) (hl:l.length≤9223372036854775807) (ih: ∀ a,a∈l→Ct Try.prog 14 [Pv a] (fun v m=>v=.w (.one (.pl (.i (Bz a)))))):Ct Try.prog 14 [Fy 6 i o l] (fun v m=>v=.w (.one (.pl (.i (Bz (.mk 6 i o l)))))):=by
 by_cases hn:((l.length:Nat):Int)=2
 · by_cases hi:0≤i
   · by_cases ho:0≤o
     · by_cases hf:o=0
       · subst hf
         by_cases hz:i=0
         · subst hz;exact v0y l hn ih hl
         · exact v0x i l hn hi hz ih hl
       · exact z0a i o l hn hi ho hf
     · exact y0x i o l hn hi ho
   · exact y0z i o l hn hi
 · exact y0y i o l hn
theorem l1l (i o:Int) (l:List Aw) (hib:a0p i) (hob:a0p o) (hl:l.length≤9223372036854775807) (ih: ∀ a,a∈l→Ct Try.prog 14 [Pv a] (fun v m=>v=.w (.one (.pl (.i (Bz a)))))):Ct Try.prog 14 [Fy 7 i o l] (fun v m=>v=.w (.one (.pl (.i (Bz (.mk 7 i o l)))))):=by
 by_cases hn:((l.length:Nat):Int)=3
 · by_cases hi:0≤i
   · by_cases ho:0≤o
     · by_cases hf:o=0
       · subst hf
         by_cases hz:i=0
         · subst hz;exact y0t l hn ih hl
         · exact v0v i l hn hi hz
       · exact v0w i o l hn hi ho hf
     · exact y0u i o l hn hi ho
   · exact y0w i o l hn hi
 · exact y0v i o l hn
theorem e0e : ∀ (t:Aw),t.ok→Ct Try.prog 14 [Pv t] (fun v m=>v=.w (.one (.pl (.i (Bz t)))))
 | .mk k i o l,ht=>by
  rw [Aw.ok] at ht
  rw [Ak]
  have ih: ∀ a,a∈l→Ct Try.prog 14 [Pv a] (fun v m=>v=.w (.one (.pl (.i (Bz a))))):=fun a ha=>e0e a (Dz ht.2.2.2.2 a ha)
  by_cases h1:k<1
  · exact f1c k i o l h1
  · by_cases h7:7<k
    · exact f1d k i o l h1 h7
    · have hk:k=1∨k=2∨k=3∨k=4∨k=5∨k=6∨k=7:=by omega
      rcases hk with rfl|rfl|rfl|rfl|rfl|rfl|rfl
      · exact l1r i o l ht.2.1 ht.2.2.1 ht.2.2.2.1 ih
      · exact l1q i o l ht.2.1 ht.2.2.1 ht.2.2.2.1 ih
      · exact l1p i o l ht.2.1 ht.2.2.1 ht.2.2.2.1 ih
      · exact l1o i o l ht.2.1 ht.2.2.1 ht.2.2.2.1 ih
      · exact l1n i o l ht.2.1 ht.2.2.1 ht.2.2.2.1 ih
      · exact l1m i o l ht.2.1 ht.2.2.1 ht.2.2.2.1 ih
      · exact l1l i o l ht.2.1 ht.2.2.1 ht.2.2.2.1 ih
termination_by t=>SizeOf.sizeOf t
decreasing_by
 have:=List.sizeOf_lt_of_mem ha
 simp only [Aw.mk.sizeOf_spec]
 omega
theorem y0r : ∀ (t:Aw),t.ok→∀ d,1≤d→d≤41→Ct Try.prog 27 [Pv t,.w (.one (.pl (.i d)))] (fun v m=>v=.w (.one (.pl (.i (Gx t d)))))
 | .mk k i o l,ht,d,h1,h2=>by
  rw [Aw.ok] at ht
  rw [Ak]
  by_cases h:40<d
  · exact y0q k i o l ht.2.2.2.1 d ⟨h1,h2⟩ h
  · exact y0p k i o l ht.2.2.2.1 d ⟨h1,h2⟩ h fun a ha=>y0r a (Dz ht.2.2.2.2 a ha)
termination_by t=>SizeOf.sizeOf t
decreasing_by
 have:=List.sizeOf_lt_of_mem ha
 simp only [Aw.mk.sizeOf_spec]
 omega
theorem d0v : ∀ (t:Aw),t.ok→∀ d,1≤d→d≤41→Ct Try.prog 13 [Pv t,.w (.one (.pl (.i d)))] (fun v m=>v=.w (.one (.pl (.i (Dq t d)))))
 | .mk k i o l,ht,d,h1,h2=>by
  rw [Aw.ok] at ht
  rw [Ak]
  by_cases h:40<d
  · exact v0s k i o l ht.2.2.2.1 d ⟨h1,h2⟩ h
  · exact v0r k i o l ht.2.2.2.1 d ⟨h1,h2⟩ h fun a ha=>d0v a (Dz ht.2.2.2.2 a ha)
termination_by t=>SizeOf.sizeOf t
decreasing_by
 have:=List.sizeOf_lt_of_mem ha
 simp only [Aw.mk.sizeOf_spec]
 omega
def Mq (t:Aw):Int:=if 300<Gx t 1 then 1 else Bz t
theorem a0h (t:Aw):300<Dq t 1↔300<Gx t 1:=by
 rcases f0u t 1 with ⟨h1,h2⟩|⟨h1,h2⟩<;>omega
theorem d1i (k i o:Int) (l:List Aw) (hok:(Aw.mk k i o l).ok) (h:300<Gx (.mk k i o l) 1):
 Ct Try.prog 10 [Fy k i o l] (fun v m=>v=.w (.one (.pl (.i (Mq (.mk k i o l)))))):=by
 have hs:=y0r (.mk k i o l) hok 1 (by omega) (by omega)
 have hf:=c1f (.mk k i o l) hok
 rw [Ak] at hs hf
 have hcw:=a0h (.mk k i o l)
 have hr:Mq (.mk k i o l)=1:=if_pos h
 obtain ⟨w,hw⟩: ∃ w,Gx (.mk k i o l) 1=w:=⟨_,rfl⟩
 obtain ⟨f,hfe⟩: ∃ f,Bz (.mk k i o l)=f:=⟨_,rfl⟩
 rw [hw] at hs h
 rw [hfe] at hf
 rw [hr]
 refine Ct.k Try.func10 rfl Try.ntmps10 (congrArg Array.toList Try.results10) (by simp) fun w0 ro=>?_
 refine Ck fun zZ zhZ=>?_
 iterate 12 first
  |(refine Dw fun zK zhK=>?_;simp only [go_sem,h];(repeat' (first|apply And.intro|intro _)))
  |refine zhK _ ?_
  |refine Cq ?_
  |(refine zhM _ _ ?_;clear zhN zhM)
  |(refine zhZ _ _ ?_;simp only [go_sem,h];(all_goals (rfl)))
  |((all_goals (refine Cz (fun k=>k) (fun _ _=>rfl) ?_ (hs.plain fun _ _ h=>h) ?_;focus (first|rfl|(simp only [go_sem,h]<;>rfl))));(all_goals (rintro v m ⟨hR,hm⟩;subst hR;subst hm));(all_goals refine And.intro (by first|rfl|simp only [go_sem,h]) (And.intro (by first|rfl|simp only [go_sem,h]) ?_));(all_goals simp only [go_sem,h]);(all_goals repeat' (first|apply And.intro|intro _)))
  |refine Bj fun zN zM zhN zhM=>?_
  |(refine Aj ?_ ?_;focus (first|rfl|(simp [go_sem,h];done)))
theorem s0o (k i o:Int) (l:List Aw) (hok:(Aw.mk k i o l).ok) (h:¬300<Gx (.mk k i o l) 1):
 Ct Try.prog 10 [Fy k i o l] (fun v m=>v=.w (.one (.pl (.i (Mq (.mk k i o l)))))):=by
 have hs:=y0r (.mk k i o l) hok 1 (by omega) (by omega)
 have hf:=c1f (.mk k i o l) hok
 rw [Ak] at hs hf
 have hcw:=a0h (.mk k i o l)
 have hr:Mq (.mk k i o l)=Bz (.mk k i o l):=if_neg h
 obtain ⟨w,hw⟩: ∃ w,Gx (.mk k i o l) 1=w:=⟨_,rfl⟩
 obtain ⟨f,hfe⟩: ∃ f,Bz (.mk k i o l)=f:=⟨_,rfl⟩
 rw [hw] at hs h
 rw [hfe] at hf
 rw [hr,hfe]
 refine Ct.k Try.func10 rfl Try.ntmps10 (congrArg Array.toList Try.results10) (by simp) fun w0 ro=>?_
 refine Ck fun zZ zhZ=>?_
 refine Dw fun zK zhK=>?_
 simp only [go_sem,h]
 repeat' (first|apply And.intro|intro _)
 refine zhK _ ?_
 refine Bj fun zN zM zhN zhM=>?_
 refine Dw fun zK zhK=>?_
 simp only [go_sem,h]
 repeat' (first|apply And.intro|intro _)
 all_goals (refine Cz (fun k=>k) (fun _ _=>rfl) ?_ (hs.plain fun _ _ h=>h) ?_;focus (first|rfl|(simp only [go_sem,h]<;>rfl)))
 all_goals (rintro v m ⟨hR,hm⟩;subst hR;subst hm)
 all_goals refine And.intro (by first|rfl|simp only [go_sem,h]) (And.intro (by first|rfl|simp only [go_sem,h]) ?_)
 all_goals simp only [go_sem,h]
 all_goals repeat' (first|apply And.intro|intro _)
 refine zhK _ ?_
 (refine Av ?_ ?_;focus (first|rfl|(simp [go_sem,h];done)))
 refine Bv ?_
 refine zhN _ ?_;clear zhN zhM
 refine Dw fun zK zhK=>?_
 simp only [go_sem,h]
 repeat' (first|apply And.intro|intro _)
 all_goals (refine Cz (fun k=>k) (fun _ _=>rfl) ?_ (hf.plain fun _ _ h=>h) ?_;focus (first|rfl|(simp only [go_sem,h]<;>rfl)))
 all_goals (rintro v m ⟨hR,hm⟩;subst hR;subst hm)
 all_goals refine And.intro (by first|rfl|simp only [go_sem,h]) (And.intro (by first|rfl|simp only [go_sem,h]) ?_)
 all_goals simp only [go_sem,h]
 all_goals repeat' (first|apply And.intro|intro _)
 refine zhK _ ?_
 refine Cq ?_
 refine zhZ _ _ ?_
 simp only [go_sem,h]
 all_goals (rfl)
theorem k1w (t:Aw) (ht:t.ok):Ct Try.prog 10 [Pv t] (fun v m=>v=.w (.one (.pl (.i (Mq t))))):=by
 obtain ⟨k,i,o,l⟩:=t
 rw [Ak]
 by_cases h:300<Gx (.mk k i o l) 1
 · exact d1i k i o l ht h
 · exact s0o k i o l ht h
theorem c1n (k i o:Int) (l:List Aw) (hok:(Aw.mk k i o l).ok) (h:300<Dq (.mk k i o l) 1):
 Ct Try.prog 15 [Fy k i o l] (fun v m=>v=.w (.one (.pl (.i (Mq (.mk k i o l)))))):=by
 have hs:=d0v (.mk k i o l) hok 1 (by omega) (by omega)
 have hf:=e0e (.mk k i o l) hok
 rw [Ak] at hs hf
 have hcw:=a0h (.mk k i o l)
 have hr:Mq (.mk k i o l)=1:=if_pos (hcw.mp h)
 obtain ⟨w,hw⟩: ∃ w,Dq (.mk k i o l) 1=w:=⟨_,rfl⟩
 obtain ⟨f,hfe⟩: ∃ f,Bz (.mk k i o l)=f:=⟨_,rfl⟩
 rw [hw] at hs h
 rw [hfe] at hf
 rw [hr]
 refine Ct.k Try.func15 rfl Try.ntmps15 (congrArg Array.toList Try.results15) (by simp) fun w0 ro=>?_
 refine Ck fun zZ zhZ=>?_
 iterate 12 first
  |(refine Dw fun zK zhK=>?_;simp only [go_sem,h];(repeat' (first|apply And.intro|intro _)))
  |refine zhK _ ?_
  |refine Cq ?_
  |(refine zhM _ _ ?_;clear zhN zhM)
  |(refine zhZ _ _ ?_;simp only [go_sem,h];(all_goals (rfl)))
  |((all_goals (refine Cz (fun k=>k) (fun _ _=>rfl) ?_ (hs.plain fun _ _ h=>h) ?_;focus (first|rfl|(simp only [go_sem,h]<;>rfl))));(all_goals (rintro v m ⟨hR,hm⟩;subst hR;subst hm));(all_goals refine And.intro (by first|rfl|simp only [go_sem,h]) (And.intro (by first|rfl|simp only [go_sem,h]) ?_));(all_goals simp only [go_sem,h]);(all_goals repeat' (first|apply And.intro|intro _)))
  |refine Bj fun zN zM zhN zhM=>?_
  |(refine Aj ?_ ?_;focus (first|rfl|(simp [go_sem,h];done)))
theorem s0k (k i o:Int) (l:List Aw) (hok:(Aw.mk k i o l).ok) (h:¬300<Dq (.mk k i o l) 1):
 Ct Try.prog 15 [Fy k i o l] (fun v m=>v=.w (.one (.pl (.i (Mq (.mk k i o l)))))):=by
 have hs:=d0v (.mk k i o l) hok 1 (by omega) (by omega)
 have hf:=e0e (.mk k i o l) hok
 rw [Ak] at hs hf
 have hcw:=a0h (.mk k i o l)
 have hr:Mq (.mk k i o l)=Bz (.mk k i o l):=if_neg (fun q=>h (hcw.mpr q))
 obtain ⟨w,hw⟩: ∃ w,Dq (.mk k i o l) 1=w:=⟨_,rfl⟩
 obtain ⟨f,hfe⟩: ∃ f,Bz (.mk k i o l)=f:=⟨_,rfl⟩
 rw [hw] at hs h
 rw [hfe] at hf
 rw [hr,hfe]
 refine Ct.k Try.func15 rfl Try.ntmps15 (congrArg Array.toList Try.results15) (by simp) fun w0 ro=>?_
 refine Ck fun zZ zhZ=>?_
 refine Dw fun zK zhK=>?_
 simp only [go_sem,h]
 repeat' (first|apply And.intro|intro _)
 refine zhK _ ?_
 refine Bj fun zN zM zhN zhM=>?_
 refine Dw fun zK zhK=>?_
 simp only [go_sem,h]
 repeat' (first|apply And.intro|intro _)
 all_goals (refine Cz (fun k=>k) (fun _ _=>rfl) ?_ (hs.plain fun _ _ h=>h) ?_;focus (first|rfl|(simp only [go_sem,h]<;>rfl)))
 all_goals (rintro v m ⟨hR,hm⟩;subst hR;subst hm)
 all_goals refine And.intro (by first|rfl|simp only [go_sem,h]) (And.intro (by first|rfl|simp only [go_sem,h]) ?_)
 all_goals simp only [go_sem,h]
 all_goals repeat' (first|apply And.intro|intro _)
 refine zhK _ ?_
 (refine Av ?_ ?_;focus (first|rfl|(simp [go_sem,h];done)))
 refine Bv ?_
 refine zhN _ ?_;clear zhN zhM
 refine Dw fun zK zhK=>?_
 simp only [go_sem,h]
 repeat' (first|apply And.intro|intro _)
 all_goals (refine Cz (fun k=>k) (fun _ _=>rfl) ?_ (hf.plain fun _ _ h=>h) ?_;focus (first|rfl|(simp only [go_sem,h]<;>rfl)))
 all_goals (rintro v m ⟨hR,hm⟩;subst hR;subst hm)
 all_goals refine And.intro (by first|rfl|simp only [go_sem,h]) (And.intro (by first|rfl|simp only [go_sem,h]) ?_)
 all_goals simp only [go_sem,h]
 all_goals repeat' (first|apply And.intro|intro _)
 refine zhK _ ?_
 refine Cq ?_
 refine zhZ _ _ ?_
 simp only [go_sem,h]
 all_goals (rfl)
theorem k1p (t:Aw) (ht:t.ok):Ct Try.prog 15 [Pv t] (fun v m=>v=.w (.one (.pl (.i (Mq t))))):=by
 obtain ⟨k,i,o,l⟩:=t
 rw [Ak]
 by_cases h:300<Dq (.mk k i o l) 1
 · exact c1n k i o l ht h
 · exact s0k k i o l ht h
end Go.Sy
