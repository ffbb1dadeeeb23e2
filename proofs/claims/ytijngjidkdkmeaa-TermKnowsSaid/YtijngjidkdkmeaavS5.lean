/- Walks: the form of a term, kind by kind. -/
import Derived.Test.YtijngjidkdkmeaavS3
set_option linter.unusedVariables false
set_option linter.unusedSimpArgs false
set_option maxHeartbeats 1600000
set_option maxRecDepth 100000
namespace Go.Sy
open Go.Proofs
attribute [local irreducible] Ey HT Bq Tk onC onE onO onG goV goA goS Wv Fx
theorem h1t (i o:Int) (l:List Aw) (hn:¬((l.length:Nat):Int)=1):
 Ct Try.prog 28 [Fy 5 i o l] (fun v m=>v=.w (.one (.pl (.i (Bz (.mk 5 i o l)))))):=by
 rw [Dy (by decide) (by rw [i0w];omega)]
 refine Ct.k Try.func28 rfl Try.ntmps28 (congrArg Array.toList Try.results28) (by simp) fun w0 ro=>?_
 refine Ck fun zZ zhZ=>?_
 iterate 42 first
  |refine zhK _ ?_
  |(refine Dw fun zK zhK=>?_;simp only [go_sem,Az,hn];(repeat' (first|apply And.intro|intro _)))
  |(refine zhN _ ?_;clear zhN zhM)
  |(refine Aq fun zK zhK=>?_;simp only [go_sem,Az,hn];(repeat' (first|apply And.intro|intro _)))
  |refine Bv ?_
  |(refine a0m (id:=3) [15,16,17,18,19,20,21,22,23,24,25,26,27,28,29,30,31,3] [0,1,3,0,8,24,63,127,255,511,1023,2047,4095,8191,16383,32767,65535,131071] [] mixed (by kernel_rfl) (by simp only [go_sem]) fun zK zhK=>?_;simp only [go_sem,Az,hn];(repeat' (first|apply And.intro|intro _)))
  |refine zhK _ _ trivial ?_
  |refine Bw fun zB zbn zbx zbr zbi=>?_
  |(refine zbn _ ?_;clear zbn zbx zbr zbi)
  |refine Cq ?_
  |(refine zhM _ _ ?_;clear zhN zhM)
  |(refine zhZ _ _ ?_;simp only [go_sem,Az,hn];(all_goals (rfl)))
  |((all_goals (refine Cx (fun k=>k) (.w (.one (.pl (.i 1)))) [] (fun _ _=>rfl) ?_ ((q0t).plain fun _ _ h=>h) ?_ ?_;focus (first|rfl|(simp only [go_sem,Az,hn]<;>rfl))));(all_goals try (refine And.intro ?_ (And.intro ?_ (And.intro ?_ ?_))<;>first|rfl|simp only [go_sem]));(all_goals simp only [go_sem,Az,hn]);(all_goals repeat' (first|apply And.intro|intro _)))
  |refine Bj fun zN zM zhN zhM=>?_
  |(refine Av ?_ ?_;focus (first|rfl|(simp [go_sem,Az,hn];done)))
  |(refine Aj ?_ ?_;focus (first|rfl|(simp [go_sem,Az,hn];done)))
theorem h1u (i o:Int) (l:List Aw) (hn:((l.length:Nat):Int)=1) (hi:¬0≤i):
 Ct Try.prog 28 [Fy 5 i o l] (fun v m=>v=.w (.one (.pl (.i (Bz (.mk 5 i o l)))))):=by
 have qn:(((l.length:Nat):Int)=1)=True:=eq_true hn
 rw [Dy (by decide) (by rw [i0w];omega)]
 refine Ct.k Try.func28 rfl Try.ntmps28 (congrArg Array.toList Try.results28) (by simp) fun w0 ro=>?_
 refine Ck fun zZ zhZ=>?_
 iterate 42 first
  |refine zhK _ ?_
  |(refine Dw fun zK zhK=>?_;simp only [go_sem,Az,qn,hi];(repeat' (first|apply And.intro|intro _)))
  |(refine zhN _ ?_;clear zhN zhM)
  |(refine Aq fun zK zhK=>?_;simp only [go_sem,Az,qn,hi];(repeat' (first|apply And.intro|intro _)))
  |refine Bv ?_
  |(refine a0m (id:=3) [15,16,17,18,19,20,21,22,23,24,25,26,27,28,29,30,31,3] [0,1,3,0,8,24,63,127,255,511,1023,2047,4095,8191,16383,32767,65535,131071] [] mixed (by kernel_rfl) (by simp only [go_sem]) fun zK zhK=>?_;simp only [go_sem,Az,qn,hi];(repeat' (first|apply And.intro|intro _)))
  |refine zhK _ _ trivial ?_
  |refine Bw fun zB zbn zbx zbr zbi=>?_
  |(refine zbn _ ?_;clear zbn zbx zbr zbi)
  |refine Cq ?_
  |(refine zhM _ _ ?_;clear zhN zhM)
  |(refine zhZ _ _ ?_;simp only [go_sem,Az,qn,hi];(all_goals (rfl)))
  |((all_goals (refine Cx (fun k=>k) (.w (.one (.pl (.i 1)))) [] (fun _ _=>rfl) ?_ ((q0t).plain fun _ _ h=>h) ?_ ?_;focus (first|rfl|(simp only [go_sem,Az,qn,hi]<;>rfl))));(all_goals try (refine And.intro ?_ (And.intro ?_ (And.intro ?_ ?_))<;>first|rfl|simp only [go_sem]));(all_goals simp only [go_sem,Az,qn,hi]);(all_goals repeat' (first|apply And.intro|intro _)))
  |refine Bj fun zN zM zhN zhM=>?_
  |(refine Av ?_ ?_;focus (first|rfl|(simp [go_sem,Az,qn,hi];done)))
  |(refine Aj ?_ ?_;focus (first|rfl|(simp [go_sem,Az,qn,hi];done)))
theorem h1s (i o:Int) (l:List Aw) (hn:((l.length:Nat):Int)=1) (hi:0≤i) (ho:¬0≤o):
 Ct Try.prog 28 [Fy 5 i o l] (fun v m=>v=.w (.one (.pl (.i (Bz (.mk 5 i o l)))))):=by
 have qn:(((l.length:Nat):Int)=1)=True:=eq_true hn
 rw [Dy (by decide) (by rw [i0w];omega)]
 have F0:=And.intro qn<|And.intro hi<|ho
 refine Ct.k Try.func28 rfl Try.ntmps28 (congrArg Array.toList Try.results28) (by simp) fun w0 ro=>?_
 refine Ck fun zZ zhZ=>?_
 iterate 42 first
  |refine zhK _ ?_
  |(refine Dw fun zK zhK=>?_;simp only [go_sem,Az,F0];(repeat' (first|apply And.intro|intro _)))
  |(refine zhN _ ?_;clear zhN zhM)
  |(refine Aq fun zK zhK=>?_;simp only [go_sem,Az,F0];(repeat' (first|apply And.intro|intro _)))
  |refine Bv ?_
  |(refine a0m (id:=3) [15,16,17,18,19,20,21,22,23,24,25,26,27,28,29,30,31,3] [0,1,3,0,8,24,63,127,255,511,1023,2047,4095,8191,16383,32767,65535,131071] [] mixed (by kernel_rfl) (by simp only [go_sem]) fun zK zhK=>?_;simp only [go_sem,Az,F0];(repeat' (first|apply And.intro|intro _)))
  |refine zhK _ _ trivial ?_
  |refine Bw fun zB zbn zbx zbr zbi=>?_
  |(refine zbn _ ?_;clear zbn zbx zbr zbi)
  |refine Cq ?_
  |(refine zhM _ _ ?_;clear zhN zhM)
  |(refine zhZ _ _ ?_;simp only [go_sem,Az,F0];(all_goals (rfl)))
  |((all_goals (refine Cx (fun k=>k) (.w (.one (.pl (.i 1)))) [] (fun _ _=>rfl) ?_ ((q0t).plain fun _ _ h=>h) ?_ ?_;focus (first|rfl|(simp only [go_sem,Az,F0]<;>rfl))));(all_goals try (refine And.intro ?_ (And.intro ?_ (And.intro ?_ ?_))<;>first|rfl|simp only [go_sem]));(all_goals simp only [go_sem,Az,F0]);(all_goals repeat' (first|apply And.intro|intro _)))
  |refine Bj fun zN zM zhN zhM=>?_
  |(refine Av ?_ ?_;focus (first|rfl|(simp [go_sem,Az,F0];done)))
  |(refine Aj ?_ ?_;focus (first|rfl|(simp [go_sem,Az,F0];done)))
theorem h1w (i o:Int) (l:List Aw) (hn:((l.length:Nat):Int)=1) (hi:0≤i) (ho:0≤o) (hib:i≤9223372036854775807) (hob:o≤9223372036854775807) (hf:¬(i=0∧o=0)):
 Ct Try.prog 28 [Fy 5 i o l] (fun v m=>v=.w (.one (.pl (.i (Bz (.mk 5 i o l)))))):=by
 have qn:(((l.length:Nat):Int)=1)=True:=eq_true hn
 have hw:=wrap_zero ⟨hi,hib⟩ ⟨ho,hob⟩ hf
 rw [Dy (by decide) (by rw [i0w];omega)]
 have F0:=And.intro qn<|And.intro hi<|And.intro ho<|hw
 refine Ct.k Try.func28 rfl Try.ntmps28 (congrArg Array.toList Try.results28) (by simp) fun w0 ro=>?_
 refine Ck fun zZ zhZ=>?_
 iterate 42 first
  |refine zhK _ ?_
  |(refine Dw fun zK zhK=>?_;simp only [go_sem,Az,F0];(repeat' (first|apply And.intro|intro _)))
  |(refine zhN _ ?_;clear zhN zhM)
  |(refine Aq fun zK zhK=>?_;simp only [go_sem,Az,F0];(repeat' (first|apply And.intro|intro _)))
  |refine Bv ?_
  |(refine a0m (id:=3) [15,16,17,18,19,20,21,22,23,24,25,26,27,28,29,30,31,3] [0,1,3,0,8,24,63,127,255,511,1023,2047,4095,8191,16383,32767,65535,131071] [] mixed (by kernel_rfl) (by simp only [go_sem]) fun zK zhK=>?_;simp only [go_sem,Az,F0];(repeat' (first|apply And.intro|intro _)))
  |refine zhK _ _ trivial ?_
  |refine Bw fun zB zbn zbx zbr zbi=>?_
  |(refine zbn _ ?_;clear zbn zbx zbr zbi)
  |refine Cq ?_
  |(refine zhM _ _ ?_;clear zhN zhM)
  |(refine zhZ _ _ ?_;simp only [go_sem,Az,F0];(all_goals (rfl)))
  |((all_goals (refine Cx (fun k=>k) (.w (.one (.pl (.i 1)))) [] (fun _ _=>rfl) ?_ ((q0t).plain fun _ _ h=>h) ?_ ?_;focus (first|rfl|(simp only [go_sem,Az,F0]<;>rfl))));(all_goals try (refine And.intro ?_ (And.intro ?_ (And.intro ?_ ?_))<;>first|rfl|simp only [go_sem]));(all_goals simp only [go_sem,Az,F0]);(all_goals repeat' (first|apply And.intro|intro _)))
  |refine Bj fun zN zM zhN zhM=>?_
  |(refine Av ?_ ?_;focus (first|rfl|(simp [go_sem,Az,F0];done)))
  |(refine Aj ?_ ?_;focus (first|rfl|(simp [go_sem,Az,F0];done)))
theorem h1r (l:List Aw) (hn:((l.length:Nat):Int)=1) (ih: ∀ a,a∈l→Ct Try.prog 28 [Pv a] (fun v m=>v=.w (.one (.pl (.i (Bz a)))))) (hl:l.length≤9223372036854775807):
 Ct Try.prog 28 [Fy 5 0 0 l] (fun v m=>v=.w (.one (.pl (.i (Bz (.mk 5 0 0 l)))))):=by
 have qn:(((l.length:Nat):Int)=1)=True:=eq_true hn
 have hr:Bz (.mk 5 0 0 l)=Cv l:=Jj (by decide) (by rw [i0w];omega)
 refine Ct.k Try.func28 rfl Try.ntmps28 (congrArg Array.toList Try.results28) (by simp) fun w0 ro=>?_
 refine Ck fun zZ zhZ=>?_
 iterate 43 first
  |refine zhK _ ?_
  |(refine Dw fun zK zhK=>?_;simp only [go_sem,Az,qn,Int.le_refl];(repeat' (first|apply And.intro|intro _)))
  |(refine zhN _ ?_;clear zhN zhM)
  |refine Bv ?_
  |refine Bw fun zB zbn zbx zbr zbi=>?_
  |(refine Aq fun zK zhK=>?_;simp only [go_sem,Az,qn,Int.le_refl];(repeat' (first|apply And.intro|intro _)))
  |(refine a0m (id:=3) [15,16,17,18,19,20,21,22,23,24,25,26,27,28,29,30,31,3] [0,1,3,0,8,24,63,127,255,511,1023,2047,4095,8191,16383,32767,65535,131071] [] mixed (by kernel_rfl) (by simp only [go_sem]) fun zK zhK=>?_;simp only [go_sem,Az,qn,Int.le_refl];(repeat' (first|apply And.intro|intro _)))
  |refine zhK _ _ trivial ?_
  |(refine zbn _ ?_;clear zbn zbx zbr zbi)
  |((all_goals (refine Cx (fun k=>k) (.w (.one (.pl (.i 1)))) [] (fun _ _=>rfl) ?_ ((q0t).plain fun _ _ h=>h) ?_ ?_;focus (first|rfl|(simp only [go_sem,Az,qn,Int.le_refl]<;>rfl))));(all_goals try (refine And.intro ?_ (And.intro ?_ (And.intro ?_ ?_))<;>first|rfl|simp only [go_sem]));(all_goals simp only [go_sem,Az,qn,Int.le_refl]);(all_goals repeat' (first|apply And.intro|intro _)))
  |refine Bj fun zN zM zhN zhM=>?_
  |(refine Av ?_ ?_;focus (first|rfl|(simp [go_sem,Az,qn,Int.le_refl];done)))
 refine Gw [0,1,3,7,8,9,10,11,12,13,14,15,16,17,18,19,20,21,22,23,24,25,26,27,28,29,30,31,32,33,34,35,36,37,38,39,40,41,42,43,44,45,46,47,48,49,50,51,52,53,54,55,56,57,58,59,60,61,62,63,64,65] ?_
 simp only [Gq,Iq,Gv,List.contains_cons,List.contains_nil,Nat.reduceBEq,beq_self_eq_true,Bool.or_false,Bool.or_true,Bool.true_or,Bool.false_or,Bool.false_eq_true,reduceIte]
 refine Iy (fun y=>[(68,.w (.one (.pl (.i ((y.1:Nat):Int)))))]) (fun _=>[]) (fun y=>l.length-y.1) (⟨0,Nat.zero_le _,rfl⟩:{y:Nat//y≤l.length∧Cv (l.drop y)=Cv l}) ?_ ?_ ?_
 · (simp only [go_sem,leX,List.cons_append,List.nil_append];try simp)
 · (simp only [go_sem,leX,List.cons_append,List.nil_append];try simp)
 intro yy zN zM zhN zhM
 simp only [List.cons_append,List.nil_append]
 obtain ⟨j,h1,h4⟩:=yy
 rcases Nat.lt_or_ge j l.length with hlt|hge
 rcases Int.decEq (Bz (l.getD j (.mk 0 0 0 []))) 0 with hbad|hgood
 · obtain ⟨k2,i2,o2,m2,he,hm,hdr,hg⟩:=Cy hlt
   have hc:=ih _ hm
   rw [Ak] at hc
   have hcq:((j:Nat):Int)<((l.length:Nat):Int):=by omega
   have hj:(0:Int)≤((j:Nat):Int):=by omega
   have hjl:j<(Ay l).length:=by rw [Az];exact hlt
   rw [hdr,Cv] at h4
   obtain ⟨w,hw⟩: ∃ w,Bz (.mk k2 i2 o2 m2)=w:=⟨_,rfl⟩
   rw [hw] at hc h4
   rw [he,hw] at hbad
   rw [if_neg hbad] at h4
   have F19:=And.intro hcq<|And.intro hj<|And.intro hjl<|And.intro hg<|hbad
   iterate 25 first
    |(refine Dw fun zK zhK=>?_;simp only [go_sem,Az,qn,Int.le_refl,F19];(repeat' (first|apply And.intro|intro _)))
    |refine zhK _ ?_
    |(refine zhM _ _ ?_;clear zhN zhM)
    |(refine zbr _ ?_;clear zbn zbx zbr zbi)
    |refine Bv ?_
    |(refine zhN _ ?_;clear zhN zhM)
    |refine Bw fun zB zbn zbx zbr zbi=>?_
    |refine Cq ?_
    |(refine zhZ _ _ ?_;simp only [go_sem,Az,qn,Int.le_refl,F19];(all_goals (rw [hr,←h4])))
    |((all_goals (refine Cz (fun k=>k) (fun _ _=>rfl) ?_ (hc.plain fun _ _ h=>h) ?_;focus (first|rfl|(simp only [go_sem,Az,qn,Int.le_refl,F19]<;>rfl))));(all_goals (rintro v m ⟨hR,hm⟩;subst hR;subst hm));(all_goals refine And.intro (by first|rfl|simp only [go_sem,Az,qn,Int.le_refl,F19]) (And.intro (by first|rfl|simp only [go_sem,Az,qn,Int.le_refl,F19]) ?_));(all_goals simp only [go_sem,Az,qn,Int.le_refl,F19]);(all_goals repeat' (first|apply And.intro|intro _)))
    |refine Bj fun zN zM zhN zhM=>?_
    |(refine Aj ?_ ?_;focus (first|rfl|(simp [go_sem,Az,qn,Int.le_refl,F19];done)))
 · obtain ⟨k2,i2,o2,m2,he,hm,hdr,hg⟩:=Cy hlt
   have hc:=ih _ hm
   rw [Ak] at hc
   have hcq:((j:Nat):Int)<((l.length:Nat):Int):=by omega
   have hj:(0:Int)≤((j:Nat):Int):=by omega
   have hjl:j<(Ay l).length:=by rw [Az];exact hlt
   rw [hdr,Cv] at h4
   obtain ⟨w,hw⟩: ∃ w,Bz (.mk k2 i2 o2 m2)=w:=⟨_,rfl⟩
   rw [hw] at hc h4
   rw [he,hw] at hgood
   rw [if_pos hgood] at h4
   have hs1:Go.RowKit.wrap64 (((j:Nat):Int)+1)=((j+1:Nat):Int):=k0l (by omega) (by omega)
   have F27:=And.intro hcq<|And.intro hj<|And.intro hjl<|And.intro hg<|And.intro hgood<|hs1
   iterate 21 first
    |refine zhK _ ?_
    |(refine Dw fun zK zhK=>?_;simp only [go_sem,Az,qn,Int.le_refl,F27];(repeat' (first|apply And.intro|intro _)))
    |refine Bv ?_
    |(refine zhN _ ?_;clear zhN zhM)
    |refine Bw fun zB zbn zbx zbr zbi=>?_
    |(refine zbn _ ?_;clear zbn zbx zbr zbi)
    |(refine Aq fun zK zhK=>?_;simp only [go_sem,Az,qn,Int.le_refl,F27];(repeat' (first|apply And.intro|intro _)))
    |((all_goals (refine Cz (fun k=>k) (fun _ _=>rfl) ?_ (hc.plain fun _ _ h=>h) ?_;focus (first|rfl|(simp only [go_sem,Az,qn,Int.le_refl,F27]<;>rfl))));(all_goals (rintro v m ⟨hR,hm⟩;subst hR;subst hm));(all_goals refine And.intro (by first|rfl|simp only [go_sem,Az,qn,Int.le_refl,F27]) (And.intro (by first|rfl|simp only [go_sem,Az,qn,Int.le_refl,F27]) ?_));(all_goals simp only [go_sem,Az,qn,Int.le_refl,F27]);(all_goals repeat' (first|apply And.intro|intro _)))
    |refine Bj fun zN zM zhN zhM=>?_
    |(refine Aj ?_ ?_;focus (first|rfl|(simp [go_sem,Az,qn,Int.le_refl,F27];done)))
    |(refine Av ?_ ?_;focus (first|rfl|(simp [go_sem,Az,qn,Int.le_refl,F27];done)))
   refine zhN ⟨j+1,hlt,h4⟩ _ ?_ ?_ ?_
   · (exact Nat.sub_lt_sub_left hlt (Nat.lt_succ_self j))
   · (simp only [go_sem,leX,List.cons_append,List.nil_append];try simp)
   · (simp only [go_sem,leX,List.cons_append,List.nil_append];try simp)
 · obtain rfl:j=l.length:=by omega
   rw [List.drop_length,Cv] at h4
   have hcq:¬((l.length:Nat):Int)<((l.length:Nat):Int):=by omega
   iterate 13 first
    |(refine Dw fun zK zhK=>?_;simp only [go_sem,Az,qn,Int.le_refl,hcq];(repeat' (first|apply And.intro|intro _)))
    |refine zhK _ ?_
    |(refine zhM _ _ ?_;clear zhN zhM)
    |refine Iw ?_
    |(refine zbx _ ?_;clear zbn zbx zbr zbi)
    |(refine zhN _ ?_;clear zhN zhM)
    |refine Cq ?_
    |(refine zhZ _ _ ?_;simp only [go_sem,Az,qn,Int.le_refl,hcq];(all_goals (rw [hr,←h4])))
    |refine Bj fun zN zM zhN zhM=>?_
    |(refine Av ?_ ?_;focus (first|rfl|(simp [go_sem,Az,qn,Int.le_refl,hcq];done)))
theorem h1o (i o:Int) (l:List Aw) (hn:¬((l.length:Nat):Int)=2):
 Ct Try.prog 28 [Fy 6 i o l] (fun v m=>v=.w (.one (.pl (.i (Bz (.mk 6 i o l)))))):=by
 rw [Dy (by decide) (by rw [i0v];omega)]
 refine Ct.k Try.func28 rfl Try.ntmps28 (congrArg Array.toList Try.results28) (by simp) fun w0 ro=>?_
 refine Ck fun zZ zhZ=>?_
 iterate 42 first
  |refine zhK _ ?_
  |(refine Dw fun zK zhK=>?_;simp only [go_sem,Az,hn];(repeat' (first|apply And.intro|intro _)))
  |(refine zhN _ ?_;clear zhN zhM)
  |(refine Aq fun zK zhK=>?_;simp only [go_sem,Az,hn];(repeat' (first|apply And.intro|intro _)))
  |refine Bv ?_
  |(refine a0m (id:=3) [15,16,17,18,19,20,21,22,23,24,25,26,27,28,29,30,31,3] [0,1,3,0,8,24,63,127,255,511,1023,2047,4095,8191,16383,32767,65535,131071] [] mixed (by kernel_rfl) (by simp only [go_sem]) fun zK zhK=>?_;simp only [go_sem,Az,hn];(repeat' (first|apply And.intro|intro _)))
  |refine zhK _ _ trivial ?_
  |refine Bw fun zB zbn zbx zbr zbi=>?_
  |(refine zbn _ ?_;clear zbn zbx zbr zbi)
  |refine Cq ?_
  |(refine zhM _ _ ?_;clear zhN zhM)
  |(refine zhZ _ _ ?_;simp only [go_sem,Az,hn];(all_goals (rfl)))
  |((all_goals (refine Cx (fun k=>k) (.w (.one (.pl (.i 2)))) [] (fun _ _=>rfl) ?_ ((q0s).plain fun _ _ h=>h) ?_ ?_;focus (first|rfl|(simp only [go_sem,Az,hn]<;>rfl))));(all_goals try (refine And.intro ?_ (And.intro ?_ (And.intro ?_ ?_))<;>first|rfl|simp only [go_sem]));(all_goals simp only [go_sem,Az,hn]);(all_goals repeat' (first|apply And.intro|intro _)))
  |refine Bj fun zN zM zhN zhM=>?_
  |(refine Av ?_ ?_;focus (first|rfl|(simp [go_sem,Az,hn];done)))
  |(refine Aj ?_ ?_;focus (first|rfl|(simp [go_sem,Az,hn];done)))
theorem h1p (i o:Int) (l:List Aw) (hn:((l.length:Nat):Int)=2) (hi:¬0≤i):
 Ct Try.prog 28 [Fy 6 i o l] (fun v m=>v=.w (.one (.pl (.i (Bz (.mk 6 i o l)))))):=by
 have qn:(((l.length:Nat):Int)=2)=True:=eq_true hn
 rw [Dy (by decide) (by rw [i0v];omega)]
 refine Ct.k Try.func28 rfl Try.ntmps28 (congrArg Array.toList Try.results28) (by simp) fun w0 ro=>?_
 refine Ck fun zZ zhZ=>?_
 iterate 42 first
  |refine zhK _ ?_
  |(refine Dw fun zK zhK=>?_;simp only [go_sem,Az,qn,hi];(repeat' (first|apply And.intro|intro _)))
  |(refine zhN _ ?_;clear zhN zhM)
  |(refine Aq fun zK zhK=>?_;simp only [go_sem,Az,qn,hi];(repeat' (first|apply And.intro|intro _)))
  |refine Bv ?_
  |(refine a0m (id:=3) [15,16,17,18,19,20,21,22,23,24,25,26,27,28,29,30,31,3] [0,1,3,0,8,24,63,127,255,511,1023,2047,4095,8191,16383,32767,65535,131071] [] mixed (by kernel_rfl) (by simp only [go_sem]) fun zK zhK=>?_;simp only [go_sem,Az,qn,hi];(repeat' (first|apply And.intro|intro _)))
  |refine zhK _ _ trivial ?_
  |refine Bw fun zB zbn zbx zbr zbi=>?_
  |(refine zbn _ ?_;clear zbn zbx zbr zbi)
  |refine Cq ?_
  |(refine zhM _ _ ?_;clear zhN zhM)
  |(refine zhZ _ _ ?_;simp only [go_sem,Az,qn,hi];(all_goals (rfl)))
  |((all_goals (refine Cx (fun k=>k) (.w (.one (.pl (.i 2)))) [] (fun _ _=>rfl) ?_ ((q0s).plain fun _ _ h=>h) ?_ ?_;focus (first|rfl|(simp only [go_sem,Az,qn,hi]<;>rfl))));(all_goals try (refine And.intro ?_ (And.intro ?_ (And.intro ?_ ?_))<;>first|rfl|simp only [go_sem]));(all_goals simp only [go_sem,Az,qn,hi]);(all_goals repeat' (first|apply And.intro|intro _)))
  |refine Bj fun zN zM zhN zhM=>?_
  |(refine Av ?_ ?_;focus (first|rfl|(simp [go_sem,Az,qn,hi];done)))
  |(refine Aj ?_ ?_;focus (first|rfl|(simp [go_sem,Az,qn,hi];done)))
theorem h1n (i o:Int) (l:List Aw) (hn:((l.length:Nat):Int)=2) (hi:0≤i) (ho:¬0≤o):
 Ct Try.prog 28 [Fy 6 i o l] (fun v m=>v=.w (.one (.pl (.i (Bz (.mk 6 i o l)))))):=by
 have qn:(((l.length:Nat):Int)=2)=True:=eq_true hn
 rw [Dy (by decide) (by rw [i0v];omega)]
 have F0:=And.intro qn<|And.intro hi<|ho
 refine Ct.k Try.func28 rfl Try.ntmps28 (congrArg Array.toList Try.results28) (by simp) fun w0 ro=>?_
 refine Ck fun zZ zhZ=>?_
 iterate 42 first
  |refine zhK _ ?_
  |(refine Dw fun zK zhK=>?_;simp only [go_sem,Az,F0];(repeat' (first|apply And.intro|intro _)))
  |(refine zhN _ ?_;clear zhN zhM)
  |(refine Aq fun zK zhK=>?_;simp only [go_sem,Az,F0];(repeat' (first|apply And.intro|intro _)))
  |refine Bv ?_
  |(refine a0m (id:=3) [15,16,17,18,19,20,21,22,23,24,25,26,27,28,29,30,31,3] [0,1,3,0,8,24,63,127,255,511,1023,2047,4095,8191,16383,32767,65535,131071] [] mixed (by kernel_rfl) (by simp only [go_sem]) fun zK zhK=>?_;simp only [go_sem,Az,F0];(repeat' (first|apply And.intro|intro _)))
  |refine zhK _ _ trivial ?_
  |refine Bw fun zB zbn zbx zbr zbi=>?_
  |(refine zbn _ ?_;clear zbn zbx zbr zbi)
  |refine Cq ?_
  |(refine zhM _ _ ?_;clear zhN zhM)
  |(refine zhZ _ _ ?_;simp only [go_sem,Az,F0];(all_goals (rfl)))
  |((all_goals (refine Cx (fun k=>k) (.w (.one (.pl (.i 2)))) [] (fun _ _=>rfl) ?_ ((q0s).plain fun _ _ h=>h) ?_ ?_;focus (first|rfl|(simp only [go_sem,Az,F0]<;>rfl))));(all_goals try (refine And.intro ?_ (And.intro ?_ (And.intro ?_ ?_))<;>first|rfl|simp only [go_sem]));(all_goals simp only [go_sem,Az,F0]);(all_goals repeat' (first|apply And.intro|intro _)))
  |refine Bj fun zN zM zhN zhM=>?_
  |(refine Av ?_ ?_;focus (first|rfl|(simp [go_sem,Az,F0];done)))
  |(refine Aj ?_ ?_;focus (first|rfl|(simp [go_sem,Az,F0];done)))
theorem h1q (i o:Int) (l:List Aw) (hn:((l.length:Nat):Int)=2) (hi:0≤i) (ho:0≤o) (hf:¬o=0):
 Ct Try.prog 28 [Fy 6 i o l] (fun v m=>v=.w (.one (.pl (.i (Bz (.mk 6 i o l)))))):=by
 have qn:(((l.length:Nat):Int)=2)=True:=eq_true hn
 rw [Dy (by decide) (by rw [i0v];omega)]
 have F0:=And.intro qn<|And.intro hi<|And.intro ho<|hf
 refine Ct.k Try.func28 rfl Try.ntmps28 (congrArg Array.toList Try.results28) (by simp) fun w0 ro=>?_
 refine Ck fun zZ zhZ=>?_
 iterate 42 first
  |refine zhK _ ?_
  |(refine Dw fun zK zhK=>?_;simp only [go_sem,Az,F0];(repeat' (first|apply And.intro|intro _)))
  |(refine zhN _ ?_;clear zhN zhM)
  |(refine Aq fun zK zhK=>?_;simp only [go_sem,Az,F0];(repeat' (first|apply And.intro|intro _)))
  |refine Bv ?_
  |(refine a0m (id:=3) [15,16,17,18,19,20,21,22,23,24,25,26,27,28,29,30,31,3] [0,1,3,0,8,24,63,127,255,511,1023,2047,4095,8191,16383,32767,65535,131071] [] mixed (by kernel_rfl) (by simp only [go_sem]) fun zK zhK=>?_;simp only [go_sem,Az,F0];(repeat' (first|apply And.intro|intro _)))
  |refine zhK _ _ trivial ?_
  |refine Bw fun zB zbn zbx zbr zbi=>?_
  |(refine zbn _ ?_;clear zbn zbx zbr zbi)
  |refine Cq ?_
  |(refine zhM _ _ ?_;clear zhN zhM)
  |(refine zhZ _ _ ?_;simp only [go_sem,Az,F0];(all_goals (rfl)))
  |((all_goals (refine Cx (fun k=>k) (.w (.one (.pl (.i 2)))) [] (fun _ _=>rfl) ?_ ((q0s).plain fun _ _ h=>h) ?_ ?_;focus (first|rfl|(simp only [go_sem,Az,F0]<;>rfl))));(all_goals try (refine And.intro ?_ (And.intro ?_ (And.intro ?_ ?_))<;>first|rfl|simp only [go_sem]));(all_goals simp only [go_sem,Az,F0]);(all_goals repeat' (first|apply And.intro|intro _)))
  |refine Bj fun zN zM zhN zhM=>?_
  |(refine Av ?_ ?_;focus (first|rfl|(simp [go_sem,Az,F0];done)))
  |(refine Aj ?_ ?_;focus (first|rfl|(simp [go_sem,Az,F0];done)))
theorem h1m (i:Int) (l:List Aw) (hn:((l.length:Nat):Int)=2) (hi:0≤i) (ih: ∀ a,a∈l→Ct Try.prog 28 [Pv a] (fun v m=>v=.w (.one (.pl (.i (Bz a)))))) (hl:l.length≤9223372036854775807):
 Ct Try.prog 28 [Fy 6 i 0 l] (fun v m=>v=.w (.one (.pl (.i (Bz (.mk 6 i 0 l)))))):=by
 have qn:(((l.length:Nat):Int)=2)=True:=eq_true hn
 have hr:Bz (.mk 6 i 0 l)=Cv l:=Jj (by decide) (by rw [i0v];omega)
 refine Ct.k Try.func28 rfl Try.ntmps28 (congrArg Array.toList Try.results28) (by simp) fun w0 ro=>?_
 refine Ck fun zZ zhZ=>?_
 iterate 43 first
  |refine zhK _ ?_
  |(refine Dw fun zK zhK=>?_;simp only [go_sem,Az,qn,hi,Int.le_refl];(repeat' (first|apply And.intro|intro _)))
  |(refine zhN _ ?_;clear zhN zhM)
  |refine Bv ?_
  |refine Bw fun zB zbn zbx zbr zbi=>?_
  |(refine Aq fun zK zhK=>?_;simp only [go_sem,Az,qn,hi,Int.le_refl];(repeat' (first|apply And.intro|intro _)))
  |(refine a0m (id:=3) [15,16,17,18,19,20,21,22,23,24,25,26,27,28,29,30,31,3] [0,1,3,0,8,24,63,127,255,511,1023,2047,4095,8191,16383,32767,65535,131071] [] mixed (by kernel_rfl) (by simp only [go_sem]) fun zK zhK=>?_;simp only [go_sem,Az,qn,hi,Int.le_refl];(repeat' (first|apply And.intro|intro _)))
  |refine zhK _ _ trivial ?_
  |(refine zbn _ ?_;clear zbn zbx zbr zbi)
  |((all_goals (refine Cx (fun k=>k) (.w (.one (.pl (.i 2)))) [] (fun _ _=>rfl) ?_ ((q0s).plain fun _ _ h=>h) ?_ ?_;focus (first|rfl|(simp only [go_sem,Az,qn,hi,Int.le_refl]<;>rfl))));(all_goals try (refine And.intro ?_ (And.intro ?_ (And.intro ?_ ?_))<;>first|rfl|simp only [go_sem]));(all_goals simp only [go_sem,Az,qn,hi,Int.le_refl]);(all_goals repeat' (first|apply And.intro|intro _)))
  |refine Bj fun zN zM zhN zhM=>?_
  |(refine Av ?_ ?_;focus (first|rfl|(simp [go_sem,Az,qn,hi,Int.le_refl];done)))
  |(refine Aj ?_ ?_;focus (first|rfl|(simp [go_sem,Az,qn,hi,Int.le_refl];done)))
 refine Gw [0,1,3,7,8,9,10,11,12,13,14,15,16,17,18,19,20,21,22,23,24,25,26,27,28,29,30,31,32,33,34,35,36,37,38,39,40,41,42,43,44,45,46,47,48,49,50,51,52,53,54,55,56,57,58,59,60,61,62,63,64,65] ?_
 simp only [Gq,Iq,Gv,List.contains_cons,List.contains_nil,Nat.reduceBEq,beq_self_eq_true,Bool.or_false,Bool.or_true,Bool.true_or,Bool.false_or,Bool.false_eq_true,reduceIte]
 refine Iy (fun y=>[(68,.w (.one (.pl (.i ((y.1:Nat):Int)))))]) (fun _=>[]) (fun y=>l.length-y.1) (⟨0,Nat.zero_le _,rfl⟩:{y:Nat//y≤l.length∧Cv (l.drop y)=Cv l}) ?_ ?_ ?_
 · (simp only [go_sem,leX,List.cons_append,List.nil_append];try simp)
 · (simp only [go_sem,leX,List.cons_append,List.nil_append];try simp)
 intro yy zN zM zhN zhM
 simp only [List.cons_append,List.nil_append]
 obtain ⟨j,h1,h4⟩:=yy
 rcases Nat.lt_or_ge j l.length with hlt|hge
 rcases Int.decEq (Bz (l.getD j (.mk 0 0 0 []))) 0 with hbad|hgood
 · obtain ⟨k2,i2,o2,m2,he,hm,hdr,hg⟩:=Cy hlt
   have hc:=ih _ hm
   rw [Ak] at hc
   have hcq:((j:Nat):Int)<((l.length:Nat):Int):=by omega
   have hj:(0:Int)≤((j:Nat):Int):=by omega
   have hjl:j<(Ay l).length:=by rw [Az];exact hlt
   rw [hdr,Cv] at h4
   obtain ⟨w,hw⟩: ∃ w,Bz (.mk k2 i2 o2 m2)=w:=⟨_,rfl⟩
   rw [hw] at hc h4
   rw [he,hw] at hbad
   rw [if_neg hbad] at h4
   have F19:=And.intro hcq<|And.intro hj<|And.intro hjl<|And.intro hg<|hbad
   iterate 25 first
    |(refine Dw fun zK zhK=>?_;simp only [go_sem,Az,qn,hi,Int.le_refl,F19];(repeat' (first|apply And.intro|intro _)))
    |refine zhK _ ?_
    |(refine zhM _ _ ?_;clear zhN zhM)
    |(refine zbr _ ?_;clear zbn zbx zbr zbi)
    |refine Bv ?_
    |(refine zhN _ ?_;clear zhN zhM)
    |refine Bw fun zB zbn zbx zbr zbi=>?_
    |refine Cq ?_
    |(refine zhZ _ _ ?_;simp only [go_sem,Az,qn,hi,Int.le_refl,F19];(all_goals (rw [hr,←h4])))
    |((all_goals (refine Cz (fun k=>k) (fun _ _=>rfl) ?_ (hc.plain fun _ _ h=>h) ?_;focus (first|rfl|(simp only [go_sem,Az,qn,hi,Int.le_refl,F19]<;>rfl))));(all_goals (rintro v m ⟨hR,hm⟩;subst hR;subst hm));(all_goals refine And.intro (by first|rfl|simp only [go_sem,Az,qn,hi,Int.le_refl,F19]) (And.intro (by first|rfl|simp only [go_sem,Az,qn,hi,Int.le_refl,F19]) ?_));(all_goals simp only [go_sem,Az,qn,hi,Int.le_refl,F19]);(all_goals repeat' (first|apply And.intro|intro _)))
    |refine Bj fun zN zM zhN zhM=>?_
    |(refine Aj ?_ ?_;focus (first|rfl|(simp [go_sem,Az,qn,hi,Int.le_refl,F19];done)))
 · obtain ⟨k2,i2,o2,m2,he,hm,hdr,hg⟩:=Cy hlt
   have hc:=ih _ hm
   rw [Ak] at hc
   have hcq:((j:Nat):Int)<((l.length:Nat):Int):=by omega
   have hj:(0:Int)≤((j:Nat):Int):=by omega
   have hjl:j<(Ay l).length:=by rw [Az];exact hlt
   rw [hdr,Cv] at h4
   obtain ⟨w,hw⟩: ∃ w,Bz (.mk k2 i2 o2 m2)=w:=⟨_,rfl⟩
   rw [hw] at hc h4
   rw [he,hw] at hgood
   rw [if_pos hgood] at h4
   have hs1:Go.RowKit.wrap64 (((j:Nat):Int)+1)=((j+1:Nat):Int):=k0l (by omega) (by omega)
   have F27:=And.intro hcq<|And.intro hj<|And.intro hjl<|And.intro hg<|And.intro hgood<|hs1
   iterate 21 first
    |refine zhK _ ?_
    |(refine Dw fun zK zhK=>?_;simp only [go_sem,Az,qn,hi,Int.le_refl,F27];(repeat' (first|apply And.intro|intro _)))
    |refine Bv ?_
    |(refine zhN _ ?_;clear zhN zhM)
    |refine Bw fun zB zbn zbx zbr zbi=>?_
    |(refine zbn _ ?_;clear zbn zbx zbr zbi)
    |(refine Aq fun zK zhK=>?_;simp only [go_sem,Az,qn,hi,Int.le_refl,F27];(repeat' (first|apply And.intro|intro _)))
    |((all_goals (refine Cz (fun k=>k) (fun _ _=>rfl) ?_ (hc.plain fun _ _ h=>h) ?_;focus (first|rfl|(simp only [go_sem,Az,qn,hi,Int.le_refl,F27]<;>rfl))));(all_goals (rintro v m ⟨hR,hm⟩;subst hR;subst hm));(all_goals refine And.intro (by first|rfl|simp only [go_sem,Az,qn,hi,Int.le_refl,F27]) (And.intro (by first|rfl|simp only [go_sem,Az,qn,hi,Int.le_refl,F27]) ?_));(all_goals simp only [go_sem,Az,qn,hi,Int.le_refl,F27]);(all_goals repeat' (first|apply And.intro|intro _)))
    |refine Bj fun zN zM zhN zhM=>?_
    |(refine Aj ?_ ?_;focus (first|rfl|(simp [go_sem,Az,qn,hi,Int.le_refl,F27];done)))
    |(refine Av ?_ ?_;focus (first|rfl|(simp [go_sem,Az,qn,hi,Int.le_refl,F27];done)))
   refine zhN ⟨j+1,hlt,h4⟩ _ ?_ ?_ ?_
   · (exact Nat.sub_lt_sub_left hlt (Nat.lt_succ_self j))
   · (simp only [go_sem,leX,List.cons_append,List.nil_append];try simp)
   · (simp only [go_sem,leX,List.cons_append,List.nil_append];try simp)
 · obtain rfl:j=l.length:=by omega
   rw [List.drop_length,Cv] at h4
   have hcq:¬((l.length:Nat):Int)<((l.length:Nat):Int):=by omega
   iterate 13 first
    |(refine Dw fun zK zhK=>?_;simp only [go_sem,Az,qn,hi,Int.le_refl,hcq];(repeat' (first|apply And.intro|intro _)))
    |refine zhK _ ?_
    |(refine zhM _ _ ?_;clear zhN zhM)
    |refine Iw ?_
    |(refine zbx _ ?_;clear zbn zbx zbr zbi)
    |(refine zhN _ ?_;clear zhN zhM)
    |refine Cq ?_
    |(refine zhZ _ _ ?_;simp only [go_sem,Az,qn,hi,Int.le_refl,hcq];(all_goals (rw [hr,←h4])))
    |refine Bj fun zN zM zhN zhM=>?_
    |(refine Av ?_ ?_;focus (first|rfl|(simp [go_sem,Az,qn,hi,Int.le_refl,hcq];done)))
end Go.Sy
