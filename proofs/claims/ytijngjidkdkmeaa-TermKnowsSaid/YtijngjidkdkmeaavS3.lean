/- Walks and what they compute. CONDITIONS: those that each theorem names. -/
import Derived.Test.YtijngjidkdkmeaavS2
set_option linter.unusedVariables false
set_option linter.unusedSimpArgs false
set_option maxHeartbeats 1600000
set_option maxRecDepth 100000
namespace Go.Sy
open Go.Proofs
attribute [local irreducible] Ey HT Bq Tk onC onE onO onG goV goA goS Wv Fx
theorem wrap_zero {i o:Int} (hi:0≤i∧i≤9223372036854775807) (ho:0≤o∧o≤9223372036854775807) (h:¬(i=0∧o=0)):(Go.RowKit.wrap64 (i+o)=0)=False:=by
 refine eq_false fun e=>?_
 unfold Go.RowKit.wrap64 at e
 omega
theorem h0x {k i o:Int} {l:List Aw} (h:k<1∨7<k):Bz (.mk k i o l)=2:=by rw [Bz,if_pos h]
theorem Dy {k i o:Int} {l:List Aw} (h:¬(k<1∨7<k)) (h2:¬okT k i o l.length=true):Bz (.mk k i o l)=3:=by rw [Bz,if_neg h,if_neg h2]
theorem Jj {k i o:Int} {l:List Aw} (h:¬(k<1∨7<k)) (h2:okT k i o l.length=true):Bz (.mk k i o l)=Cv l:=by rw [Bz,if_neg h,if_pos h2]
theorem i0z (i o n:Int):okT 1 i o n=true↔n=0∧0≤i∧0≤o∧(o=0):=by simp [okT,g0m,and_assoc]
theorem i0y (i o n:Int):okT 2 i o n=true↔n=0∧0≤i∧0≤o∧(o=0):=by simp [okT,g0m,and_assoc]
theorem k0q (i o n:Int):okT 3 i o n=true↔n=0∧0≤i∧0≤o∧(i≤o):=by simp [okT,g0m,and_assoc]
theorem i0x (i o n:Int):okT 4 i o n=true↔n=2∧0≤i∧0≤o∧(i=0∧o=0):=by simp [okT,g0m,and_assoc]
theorem i0w (i o n:Int):okT 5 i o n=true↔n=1∧0≤i∧0≤o∧(i=0∧o=0):=by simp [okT,g0m,and_assoc]
theorem i0v (i o n:Int):okT 6 i o n=true↔n=2∧0≤i∧0≤o∧(o=0):=by simp [okT,g0m,and_assoc]
theorem i0u (i o n:Int):okT 7 i o n=true↔n=3∧0≤i∧0≤o∧(i=0∧o=0):=by simp [okT,g0m,and_assoc]
theorem q0x :
 Ct Try.prog 41 [.w (.one (.pl (.i 1)))] (fun v m=>v=.w (.one (.pl (.i 0)))):=by
 refine Ct.k Try.func41 rfl Try.ntmps41 (congrArg Array.toList Try.results41) (by simp) fun w0 ro=>?_
 refine Ck fun zZ zhZ=>?_
 iterate 6 first
  |(refine Dw fun zK zhK=>?_;simp only [go_sem];(repeat' (first|apply And.intro|intro _)))
  |refine zhK _ ?_
  |refine Cq ?_
  |(refine zhZ _ _ ?_;simp only [go_sem];(all_goals (rfl)))
theorem q0w :
 Ct Try.prog 41 [.w (.one (.pl (.i 2)))] (fun v m=>v=.w (.one (.pl (.i 0)))):=by
 refine Ct.k Try.func41 rfl Try.ntmps41 (congrArg Array.toList Try.results41) (by simp) fun w0 ro=>?_
 refine Ck fun zZ zhZ=>?_
 iterate 6 first
  |(refine Dw fun zK zhK=>?_;simp only [go_sem];(repeat' (first|apply And.intro|intro _)))
  |refine zhK _ ?_
  |refine Cq ?_
  |(refine zhZ _ _ ?_;simp only [go_sem];(all_goals (rfl)))
theorem q0v :
 Ct Try.prog 41 [.w (.one (.pl (.i 3)))] (fun v m=>v=.w (.one (.pl (.i 0)))):=by
 refine Ct.k Try.func41 rfl Try.ntmps41 (congrArg Array.toList Try.results41) (by simp) fun w0 ro=>?_
 refine Ck fun zZ zhZ=>?_
 iterate 6 first
  |(refine Dw fun zK zhK=>?_;simp only [go_sem];(repeat' (first|apply And.intro|intro _)))
  |refine zhK _ ?_
  |refine Cq ?_
  |(refine zhZ _ _ ?_;simp only [go_sem];(all_goals (rfl)))
theorem q0u :
 Ct Try.prog 41 [.w (.one (.pl (.i 4)))] (fun v m=>v=.w (.one (.pl (.i 2)))):=by
 refine Ct.k Try.func41 rfl Try.ntmps41 (congrArg Array.toList Try.results41) (by simp) fun w0 ro=>?_
 refine Ck fun zZ zhZ=>?_
 iterate 6 first
  |(refine Dw fun zK zhK=>?_;simp only [go_sem];(repeat' (first|apply And.intro|intro _)))
  |refine zhK _ ?_
  |refine Cq ?_
  |(refine zhZ _ _ ?_;simp only [go_sem];(all_goals (rfl)))
theorem q0t :
 Ct Try.prog 41 [.w (.one (.pl (.i 5)))] (fun v m=>v=.w (.one (.pl (.i 1)))):=by
 refine Ct.k Try.func41 rfl Try.ntmps41 (congrArg Array.toList Try.results41) (by simp) fun w0 ro=>?_
 refine Ck fun zZ zhZ=>?_
 iterate 6 first
  |(refine Dw fun zK zhK=>?_;simp only [go_sem];(repeat' (first|apply And.intro|intro _)))
  |refine zhK _ ?_
  |refine Cq ?_
  |(refine zhZ _ _ ?_;simp only [go_sem];(all_goals (rfl)))
theorem q0s :
 Ct Try.prog 41 [.w (.one (.pl (.i 6)))] (fun v m=>v=.w (.one (.pl (.i 2)))):=by
 refine Ct.k Try.func41 rfl Try.ntmps41 (congrArg Array.toList Try.results41) (by simp) fun w0 ro=>?_
 refine Ck fun zZ zhZ=>?_
 iterate 6 first
  |(refine Dw fun zK zhK=>?_;simp only [go_sem];(repeat' (first|apply And.intro|intro _)))
  |refine zhK _ ?_
  |refine Cq ?_
  |(refine zhZ _ _ ?_;simp only [go_sem];(all_goals (rfl)))
theorem q0r :
 Ct Try.prog 41 [.w (.one (.pl (.i 7)))] (fun v m=>v=.w (.one (.pl (.i 3)))):=by
 refine Ct.k Try.func41 rfl Try.ntmps41 (congrArg Array.toList Try.results41) (by simp) fun w0 ro=>?_
 refine Ck fun zZ zhZ=>?_
 iterate 6 first
  |(refine Dw fun zK zhK=>?_;simp only [go_sem];(repeat' (first|apply And.intro|intro _)))
  |refine zhK _ ?_
  |refine Cq ?_
  |(refine zhZ _ _ ?_;simp only [go_sem];(all_goals (rfl)))
end Go.Sy
namespace Go.Sy
open Go.Proofs
attribute [local irreducible] Ey HT Bq Tk onC onE onO onG goV goA goS Wv Fx
theorem o1b (k i o:Int) (l:List Aw) (h:k<1):
 Ct Try.prog 28 [Fy k i o l] (fun v m=>v=.w (.one (.pl (.i (Bz (.mk k i o l)))))):=by
 rw [h0x (.inl h)]
 refine Ct.k Try.func28 rfl Try.ntmps28 (congrArg Array.toList Try.results28) (by simp) fun w0 ro=>?_
 refine Ck fun zZ zhZ=>?_
 iterate 11 first
  |(refine Dw fun zK zhK=>?_;simp only [go_sem,h];(repeat' (first|apply And.intro|intro _)))
  |refine zhK _ ?_
  |refine Cq ?_
  |(refine zhM _ _ ?_;clear zhN zhM)
  |(refine zhZ _ _ ?_;simp only [go_sem,h];(all_goals (rfl)))
  |refine Bj fun zN zM zhN zhM=>?_
  |(refine Aj ?_ ?_;focus (first|rfl|(simp [go_sem,h];done)))
theorem o1c (k i o:Int) (l:List Aw) (h:¬k<1) (h2:7<k):
 Ct Try.prog 28 [Fy k i o l] (fun v m=>v=.w (.one (.pl (.i (Bz (.mk k i o l)))))):=by
 rw [h0x (.inr h2)]
 refine Ct.k Try.func28 rfl Try.ntmps28 (congrArg Array.toList Try.results28) (by simp) fun w0 ro=>?_
 refine Ck fun zZ zhZ=>?_
 iterate 11 first
  |(refine Dw fun zK zhK=>?_;simp only [go_sem,h,h2];(repeat' (first|apply And.intro|intro _)))
  |refine zhK _ ?_
  |refine Cq ?_
  |(refine zhM _ _ ?_;clear zhN zhM)
  |(refine zhZ _ _ ?_;simp only [go_sem,h,h2];(all_goals (rfl)))
  |refine Bj fun zN zM zhN zhM=>?_
  |(refine Aj ?_ ?_;focus (first|rfl|(simp [go_sem,h,h2];done)))
theorem i1q (i o:Int) (l:List Aw) (hn:¬((l.length:Nat):Int)=0):
 Ct Try.prog 28 [Fy 1 i o l] (fun v m=>v=.w (.one (.pl (.i (Bz (.mk 1 i o l)))))):=by
 rw [Dy (by decide) (by rw [i0z];omega)]
 refine Ct.k Try.func28 rfl Try.ntmps28 (congrArg Array.toList Try.results28) (by simp) fun w0 ro=>?_
 refine Ck fun zZ zhZ=>?_
 iterate 38 first
  |refine zhK _ ?_
  |(refine Dw fun zK zhK=>?_;simp only [go_sem,Az,hn];(repeat' (first|apply And.intro|intro _)))
  |(refine zhN _ ?_;clear zhN zhM)
  |refine Bv ?_
  |(refine a0m (id:=3) [15,16,17,18,19,20,21,22,23,24,25,26,27,28,29,30,31,3] [0,1,3,0,8,24,63,127,255,511,1023,2047,4095,8191,16383,32767,65535,131071] [] mixed (by kernel_rfl) (by simp only [go_sem]) fun zK zhK=>?_;simp only [go_sem,Az,hn];(repeat' (first|apply And.intro|intro _)))
  |refine zhK _ _ trivial ?_
  |refine Bw fun zB zbn zbx zbr zbi=>?_
  |(refine Aq fun zK zhK=>?_;simp only [go_sem,Az,hn];(repeat' (first|apply And.intro|intro _)))
  |(refine zbn _ ?_;clear zbn zbx zbr zbi)
  |refine Cq ?_
  |(refine zhM _ _ ?_;clear zhN zhM)
  |(refine zhZ _ _ ?_;simp only [go_sem,Az,hn];(all_goals (rfl)))
  |((all_goals (refine Cx (fun k=>k) (.w (.one (.pl (.i 0)))) [] (fun _ _=>rfl) ?_ ((q0x).plain fun _ _ h=>h) ?_ ?_;focus (first|rfl|(simp only [go_sem,Az,hn]<;>rfl))));(all_goals try (refine And.intro ?_ (And.intro ?_ (And.intro ?_ ?_))<;>first|rfl|simp only [go_sem]));(all_goals simp only [go_sem,Az,hn]);(all_goals repeat' (first|apply And.intro|intro _)))
  |refine Bj fun zN zM zhN zhM=>?_
  |(refine Aj ?_ ?_;focus (first|rfl|(simp [go_sem,Az,hn];done)))
  |(refine Av ?_ ?_;focus (first|rfl|(simp [go_sem,Az,hn];done)))
theorem i1r (i o:Int) (l:List Aw) (hn:((l.length:Nat):Int)=0) (hi:¬0≤i):
 Ct Try.prog 28 [Fy 1 i o l] (fun v m=>v=.w (.one (.pl (.i (Bz (.mk 1 i o l)))))):=by
 have qn:(((l.length:Nat):Int)=0)=True:=eq_true hn
 rw [Dy (by decide) (by rw [i0z];omega)]
 refine Ct.k Try.func28 rfl Try.ntmps28 (congrArg Array.toList Try.results28) (by simp) fun w0 ro=>?_
 refine Ck fun zZ zhZ=>?_
 iterate 38 first
  |refine zhK _ ?_
  |(refine Dw fun zK zhK=>?_;simp only [go_sem,Az,qn,hi];(repeat' (first|apply And.intro|intro _)))
  |(refine zhN _ ?_;clear zhN zhM)
  |refine Bv ?_
  |(refine a0m (id:=3) [15,16,17,18,19,20,21,22,23,24,25,26,27,28,29,30,31,3] [0,1,3,0,8,24,63,127,255,511,1023,2047,4095,8191,16383,32767,65535,131071] [] mixed (by kernel_rfl) (by simp only [go_sem]) fun zK zhK=>?_;simp only [go_sem,Az,qn,hi];(repeat' (first|apply And.intro|intro _)))
  |refine zhK _ _ trivial ?_
  |refine Bw fun zB zbn zbx zbr zbi=>?_
  |(refine Aq fun zK zhK=>?_;simp only [go_sem,Az,qn,hi];(repeat' (first|apply And.intro|intro _)))
  |(refine zbn _ ?_;clear zbn zbx zbr zbi)
  |refine Cq ?_
  |(refine zhM _ _ ?_;clear zhN zhM)
  |(refine zhZ _ _ ?_;simp only [go_sem,Az,qn,hi];(all_goals (rfl)))
  |((all_goals (refine Cx (fun k=>k) (.w (.one (.pl (.i 0)))) [] (fun _ _=>rfl) ?_ ((q0x).plain fun _ _ h=>h) ?_ ?_;focus (first|rfl|(simp only [go_sem,Az,qn,hi]<;>rfl))));(all_goals try (refine And.intro ?_ (And.intro ?_ (And.intro ?_ ?_))<;>first|rfl|simp only [go_sem]));(all_goals simp only [go_sem,Az,qn,hi]);(all_goals repeat' (first|apply And.intro|intro _)))
  |refine Bj fun zN zM zhN zhM=>?_
  |(refine Aj ?_ ?_;focus (first|rfl|(simp [go_sem,Az,qn,hi];done)))
  |(refine Av ?_ ?_;focus (first|rfl|(simp [go_sem,Az,qn,hi];done)))
theorem i1p (i o:Int) (l:List Aw) (hn:((l.length:Nat):Int)=0) (hi:0≤i) (ho:¬0≤o):
 Ct Try.prog 28 [Fy 1 i o l] (fun v m=>v=.w (.one (.pl (.i (Bz (.mk 1 i o l)))))):=by
 have qn:(((l.length:Nat):Int)=0)=True:=eq_true hn
 rw [Dy (by decide) (by rw [i0z];omega)]
 have F0:=And.intro qn<|And.intro hi<|ho
 refine Ct.k Try.func28 rfl Try.ntmps28 (congrArg Array.toList Try.results28) (by simp) fun w0 ro=>?_
 refine Ck fun zZ zhZ=>?_
 iterate 38 first
  |refine zhK _ ?_
  |(refine Dw fun zK zhK=>?_;simp only [go_sem,Az,F0];(repeat' (first|apply And.intro|intro _)))
  |(refine zhN _ ?_;clear zhN zhM)
  |refine Bv ?_
  |(refine a0m (id:=3) [15,16,17,18,19,20,21,22,23,24,25,26,27,28,29,30,31,3] [0,1,3,0,8,24,63,127,255,511,1023,2047,4095,8191,16383,32767,65535,131071] [] mixed (by kernel_rfl) (by simp only [go_sem]) fun zK zhK=>?_;simp only [go_sem,Az,F0];(repeat' (first|apply And.intro|intro _)))
  |refine zhK _ _ trivial ?_
  |refine Bw fun zB zbn zbx zbr zbi=>?_
  |(refine Aq fun zK zhK=>?_;simp only [go_sem,Az,F0];(repeat' (first|apply And.intro|intro _)))
  |(refine zbn _ ?_;clear zbn zbx zbr zbi)
  |refine Cq ?_
  |(refine zhM _ _ ?_;clear zhN zhM)
  |(refine zhZ _ _ ?_;simp only [go_sem,Az,F0];(all_goals (rfl)))
  |((all_goals (refine Cx (fun k=>k) (.w (.one (.pl (.i 0)))) [] (fun _ _=>rfl) ?_ ((q0x).plain fun _ _ h=>h) ?_ ?_;focus (first|rfl|(simp only [go_sem,Az,F0]<;>rfl))));(all_goals try (refine And.intro ?_ (And.intro ?_ (And.intro ?_ ?_))<;>first|rfl|simp only [go_sem]));(all_goals simp only [go_sem,Az,F0]);(all_goals repeat' (first|apply And.intro|intro _)))
  |refine Bj fun zN zM zhN zhM=>?_
  |(refine Aj ?_ ?_;focus (first|rfl|(simp [go_sem,Az,F0];done)))
  |(refine Av ?_ ?_;focus (first|rfl|(simp [go_sem,Az,F0];done)))
theorem i1s (i o:Int) (l:List Aw) (hn:((l.length:Nat):Int)=0) (hi:0≤i) (ho:0≤o) (hf:¬o=0):
 Ct Try.prog 28 [Fy 1 i o l] (fun v m=>v=.w (.one (.pl (.i (Bz (.mk 1 i o l)))))):=by
 have qn:(((l.length:Nat):Int)=0)=True:=eq_true hn
 rw [Dy (by decide) (by rw [i0z];omega)]
 have F0:=And.intro qn<|And.intro hi<|And.intro ho<|hf
 refine Ct.k Try.func28 rfl Try.ntmps28 (congrArg Array.toList Try.results28) (by simp) fun w0 ro=>?_
 refine Ck fun zZ zhZ=>?_
 iterate 38 first
  |refine zhK _ ?_
  |(refine Dw fun zK zhK=>?_;simp only [go_sem,Az,F0];(repeat' (first|apply And.intro|intro _)))
  |(refine zhN _ ?_;clear zhN zhM)
  |refine Bv ?_
  |(refine a0m (id:=3) [15,16,17,18,19,20,21,22,23,24,25,26,27,28,29,30,31,3] [0,1,3,0,8,24,63,127,255,511,1023,2047,4095,8191,16383,32767,65535,131071] [] mixed (by kernel_rfl) (by simp only [go_sem]) fun zK zhK=>?_;simp only [go_sem,Az,F0];(repeat' (first|apply And.intro|intro _)))
  |refine zhK _ _ trivial ?_
  |refine Bw fun zB zbn zbx zbr zbi=>?_
  |(refine Aq fun zK zhK=>?_;simp only [go_sem,Az,F0];(repeat' (first|apply And.intro|intro _)))
  |(refine zbn _ ?_;clear zbn zbx zbr zbi)
  |refine Cq ?_
  |(refine zhM _ _ ?_;clear zhN zhM)
  |(refine zhZ _ _ ?_;simp only [go_sem,Az,F0];(all_goals (rfl)))
  |((all_goals (refine Cx (fun k=>k) (.w (.one (.pl (.i 0)))) [] (fun _ _=>rfl) ?_ ((q0x).plain fun _ _ h=>h) ?_ ?_;focus (first|rfl|(simp only [go_sem,Az,F0]<;>rfl))));(all_goals try (refine And.intro ?_ (And.intro ?_ (And.intro ?_ ?_))<;>first|rfl|simp only [go_sem]));(all_goals simp only [go_sem,Az,F0]);(all_goals repeat' (first|apply And.intro|intro _)))
  |refine Bj fun zN zM zhN zhM=>?_
  |(refine Aj ?_ ?_;focus (first|rfl|(simp [go_sem,Az,F0];done)))
  |(refine Av ?_ ?_;focus (first|rfl|(simp [go_sem,Az,F0];done)))
theorem i1o (i:Int) (l:List Aw) (hn:((l.length:Nat):Int)=0) (hi:0≤i) (ih: ∀ a,a∈l→Ct Try.prog 28 [Pv a] (fun v m=>v=.w (.one (.pl (.i (Bz a)))))) (hl:l.length≤9223372036854775807):
 Ct Try.prog 28 [Fy 1 i 0 l] (fun v m=>v=.w (.one (.pl (.i (Bz (.mk 1 i 0 l)))))):=by
 have qn:(((l.length:Nat):Int)=0)=True:=eq_true hn
 have hr:Bz (.mk 1 i 0 l)=Cv l:=Jj (by decide) (by rw [i0z];omega)
 refine Ct.k Try.func28 rfl Try.ntmps28 (congrArg Array.toList Try.results28) (by simp) fun w0 ro=>?_
 refine Ck fun zZ zhZ=>?_
 iterate 39 first
  |refine zhK _ ?_
  |(refine Dw fun zK zhK=>?_;simp only [go_sem,Az,qn,hi,Int.le_refl];(repeat' (first|apply And.intro|intro _)))
  |(refine zhN _ ?_;clear zhN zhM)
  |refine Bv ?_
  |refine Bw fun zB zbn zbx zbr zbi=>?_
  |(refine a0m (id:=3) [15,16,17,18,19,20,21,22,23,24,25,26,27,28,29,30,31,3] [0,1,3,0,8,24,63,127,255,511,1023,2047,4095,8191,16383,32767,65535,131071] [] mixed (by kernel_rfl) (by simp only [go_sem]) fun zK zhK=>?_;simp only [go_sem,Az,qn,hi,Int.le_refl];(repeat' (first|apply And.intro|intro _)))
  |refine zhK _ _ trivial ?_
  |(refine Aq fun zK zhK=>?_;simp only [go_sem,Az,qn,hi,Int.le_refl];(repeat' (first|apply And.intro|intro _)))
  |(refine zbn _ ?_;clear zbn zbx zbr zbi)
  |((all_goals (refine Cx (fun k=>k) (.w (.one (.pl (.i 0)))) [] (fun _ _=>rfl) ?_ ((q0x).plain fun _ _ h=>h) ?_ ?_;focus (first|rfl|(simp only [go_sem,Az,qn,hi,Int.le_refl]<;>rfl))));(all_goals try (refine And.intro ?_ (And.intro ?_ (And.intro ?_ ?_))<;>first|rfl|simp only [go_sem]));(all_goals simp only [go_sem,Az,qn,hi,Int.le_refl]);(all_goals repeat' (first|apply And.intro|intro _)))
  |refine Bj fun zN zM zhN zhM=>?_
  |(refine Av ?_ ?_;focus (first|rfl|(simp [go_sem,Az,qn,hi,Int.le_refl];done)))
  |(refine Aj ?_ ?_;focus (first|rfl|(simp [go_sem,Az,qn,hi,Int.le_refl];done)))
 refine Gw [0,1,3,7,8,9,10,11,12,13,14,15,16,17,18,19,20,21,22,23,24,25,26,27,28,29,30,31,32,33,34,35,36,37,38,39,40,41,42,43,44,45,46,47,48,49,50,51,52,53,54,55,56,57,58,59,60,61,62,63,64,65] ?_
 simp only [Gq,Iq,Gv,List.contains_cons,List.contains_nil,Nat.reduceBEq,beq_self_eq_true,Bool.or_false,Bool.or_true,Bool.true_or,Bool.false_or,Bool.false_eq_true,reduceIte]
 refine Iy (fun y=>[(68,.w (.one (.pl (.i ((y.1:Nat):Int)))))]) (fun _=>[]) (fun y=>l.length-y.1) (⟨0,Nat.zero_le _,rfl⟩:{y:Nat//y≤l.length∧Cv (l.drop y)=Cv l}) ?_ ?_ ?_
 · (simp only [go_sem,leX,List.cons_append,List.nil_append];try simp)
 · (simp only [go_sem,leX,List.cons_append,List.nil_append];try simp)
 intro yy zN zM zhN zhM
 simp only [List.cons_append,List.nil_append]
 obtain ⟨j,h1,h4⟩:=yy
 rcases Nat.lt_or_ge j l.length with hlt|hge
 rcases Int.decEq (Bz (l.getD j (.mk 0 0 0 []))) 0 with hbad|hgood
 · obtain ⟨k2,i2,o2,m2,he,hm,hdr,hg⟩:=Cy hlt
   have hc:=ih _ hm
   rw [Ak] at hc
   have hcq:((j:Nat):Int)<((l.length:Nat):Int):=by omega
   have hj:(0:Int)≤((j:Nat):Int):=by omega
   have hjl:j<(Ay l).length:=by rw [Az];exact hlt
   rw [hdr,Cv] at h4
   obtain ⟨w,hw⟩: ∃ w,Bz (.mk k2 i2 o2 m2)=w:=⟨_,rfl⟩
   rw [hw] at hc h4
   rw [he,hw] at hbad
   rw [if_neg hbad] at h4
   have F17:=And.intro hcq<|And.intro hj<|And.intro hjl<|And.intro hg<|hbad
   iterate 25 first
    |(refine Dw fun zK zhK=>?_;simp only [go_sem,Az,qn,hi,Int.le_refl,F17];(repeat' (first|apply And.intro|intro _)))
    |refine zhK _ ?_
    |(refine zhM _ _ ?_;clear zhN zhM)
    |(refine zbr _ ?_;clear zbn zbx zbr zbi)
    |refine Bv ?_
    |(refine zhN _ ?_;clear zhN zhM)
    |refine Bw fun zB zbn zbx zbr zbi=>?_
    |refine Cq ?_
    |(refine zhZ _ _ ?_;simp only [go_sem,Az,qn,hi,Int.le_refl,F17];(all_goals (rw [hr,←h4])))
    |((all_goals (refine Cz (fun k=>k) (fun _ _=>rfl) ?_ (hc.plain fun _ _ h=>h) ?_;focus (first|rfl|(simp only [go_sem,Az,qn,hi,Int.le_refl,F17]<;>rfl))));(all_goals (rintro v m ⟨hR,hm⟩;subst hR;subst hm));(all_goals refine And.intro (by first|rfl|simp only [go_sem,Az,qn,hi,Int.le_refl,F17]) (And.intro (by first|rfl|simp only [go_sem,Az,qn,hi,Int.le_refl,F17]) ?_));(all_goals simp only [go_sem,Az,qn,hi,Int.le_refl,F17]);(all_goals repeat' (first|apply And.intro|intro _)))
    |refine Bj fun zN zM zhN zhM=>?_
    |(refine Aj ?_ ?_;focus (first|rfl|(simp [go_sem,Az,qn,hi,Int.le_refl,F17];done)))
 · obtain ⟨k2,i2,o2,m2,he,hm,hdr,hg⟩:=Cy hlt
   have hc:=ih _ hm
   rw [Ak] at hc
   have hcq:((j:Nat):Int)<((l.length:Nat):Int):=by omega
   have hj:(0:Int)≤((j:Nat):Int):=by omega
   have hjl:j<(Ay l).length:=by rw [Az];exact hlt
   rw [hdr,Cv] at h4
   obtain ⟨w,hw⟩: ∃ w,Bz (.mk k2 i2 o2 m2)=w:=⟨_,rfl⟩
   rw [hw] at hc h4
   rw [he,hw] at hgood
   rw [if_pos hgood] at h4
   have hs1:Go.RowKit.wrap64 (((j:Nat):Int)+1)=((j+1:Nat):Int):=k0l (by omega) (by omega)
   have F25:=And.intro hcq<|And.intro hj<|And.intro hjl<|And.intro hg<|And.intro hgood<|hs1
   iterate 21 first
    |refine zhK _ ?_
    |(refine Dw fun zK zhK=>?_;simp only [go_sem,Az,qn,hi,Int.le_refl,F25];(repeat' (first|apply And.intro|intro _)))
    |refine Bv ?_
    |(refine zhN _ ?_;clear zhN zhM)
    |refine Bw fun zB zbn zbx zbr zbi=>?_
    |(refine zbn _ ?_;clear zbn zbx zbr zbi)
    |(refine Aq fun zK zhK=>?_;simp only [go_sem,Az,qn,hi,Int.le_refl,F25];(repeat' (first|apply And.intro|intro _)))
    |((all_goals (refine Cz (fun k=>k) (fun _ _=>rfl) ?_ (hc.plain fun _ _ h=>h) ?_;focus (first|rfl|(simp only [go_sem,Az,qn,hi,Int.le_refl,F25]<;>rfl))));(all_goals (rintro v m ⟨hR,hm⟩;subst hR;subst hm));(all_goals refine And.intro (by first|rfl|simp only [go_sem,Az,qn,hi,Int.le_refl,F25]) (And.intro (by first|rfl|simp only [go_sem,Az,qn,hi,Int.le_refl,F25]) ?_));(all_goals simp only [go_sem,Az,qn,hi,Int.le_refl,F25]);(all_goals repeat' (first|apply And.intro|intro _)))
    |refine Bj fun zN zM zhN zhM=>?_
    |(refine Aj ?_ ?_;focus (first|rfl|(simp [go_sem,Az,qn,hi,Int.le_refl,F25];done)))
    |(refine Av ?_ ?_;focus (first|rfl|(simp [go_sem,Az,qn,hi,Int.le_refl,F25];done)))
   refine zhN ⟨j+1,hlt,h4⟩ _ ?_ ?_ ?_
   · (exact Nat.sub_lt_sub_left hlt (Nat.lt_succ_self j))
   · (simp only [go_sem,leX,List.cons_append,List.nil_append];try simp)
   · (simp only [go_sem,leX,List.cons_append,List.nil_append];try simp)
 · obtain rfl:j=l.length:=by omega
   rw [List.drop_length,Cv] at h4
   have hcq:¬((l.length:Nat):Int)<((l.length:Nat):Int):=by omega
   iterate 13 first
    |(refine Dw fun zK zhK=>?_;simp only [go_sem,Az,qn,hi,Int.le_refl,hcq];(repeat' (first|apply And.intro|intro _)))
    |refine zhK _ ?_
    |(refine zhM _ _ ?_;clear zhN zhM)
    |refine Iw ?_
    |(refine zbx _ ?_;clear zbn zbx zbr zbi)
    |(refine zhN _ ?_;clear zhN zhM)
    |refine Cq ?_
    |(refine zhZ _ _ ?_;simp only [go_sem,Az,qn,hi,Int.le_refl,hcq];(all_goals (rw [hr,←h4])))
    |refine Bj fun zN zM zhN zhM=>?_
    |(refine Av ?_ ?_;focus (first|rfl|(simp [go_sem,Az,qn,hi,Int.le_refl,hcq];done)))
theorem i1l (i o:Int) (l:List Aw) (hn:¬((l.length:Nat):Int)=0):
 Ct Try.prog 28 [Fy 2 i o l] (fun v m=>v=.w (.one (.pl (.i (Bz (.mk 2 i o l)))))):=by
 rw [Dy (by decide) (by rw [i0y];omega)]
 refine Ct.k Try.func28 rfl Try.ntmps28 (congrArg Array.toList Try.results28) (by simp) fun w0 ro=>?_
 refine Ck fun zZ zhZ=>?_
 iterate 41 first
  |refine zhK _ ?_
  |(refine Dw fun zK zhK=>?_;simp only [go_sem,Az,hn];(repeat' (first|apply And.intro|intro _)))
  |(refine zhN _ ?_;clear zhN zhM)
  |refine Bv ?_
  |(refine a0m (id:=3) [15,16,17,18,19,20,21,22,23,24,25,26,27,28,29,30,31,3] [0,1,3,0,8,24,63,127,255,511,1023,2047,4095,8191,16383,32767,65535,131071] [] mixed (by kernel_rfl) (by simp only [go_sem]) fun zK zhK=>?_;simp only [go_sem,Az,hn];(repeat' (first|apply And.intro|intro _)))
  |refine zhK _ _ trivial ?_
  |refine Bw fun zB zbn zbx zbr zbi=>?_
  |(refine Aq fun zK zhK=>?_;simp only [go_sem,Az,hn];(repeat' (first|apply And.intro|intro _)))
  |(refine zbn _ ?_;clear zbn zbx zbr zbi)
  |refine Cq ?_
  |(refine zhM _ _ ?_;clear zhN zhM)
  |(refine zhZ _ _ ?_;simp only [go_sem,Az,hn];(all_goals (rfl)))
  |((all_goals (refine Cx (fun k=>k) (.w (.one (.pl (.i 0)))) [] (fun _ _=>rfl) ?_ ((q0w).plain fun _ _ h=>h) ?_ ?_;focus (first|rfl|(simp only [go_sem,Az,hn]<;>rfl))));(all_goals try (refine And.intro ?_ (And.intro ?_ (And.intro ?_ ?_))<;>first|rfl|simp only [go_sem]));(all_goals simp only [go_sem,Az,hn]);(all_goals repeat' (first|apply And.intro|intro _)))
  |refine Bj fun zN zM zhN zhM=>?_
  |(refine Av ?_ ?_;focus (first|rfl|(simp [go_sem,Az,hn];done)))
  |(refine Aj ?_ ?_;focus (first|rfl|(simp [go_sem,Az,hn];done)))
theorem i1m (i o:Int) (l:List Aw) (hn:((l.length:Nat):Int)=0) (hi:¬0≤i):
 Ct Try.prog 28 [Fy 2 i o l] (fun v m=>v=.w (.one (.pl (.i (Bz (.mk 2 i o l)))))):=by
 have qn:(((l.length:Nat):Int)=0)=True:=eq_true hn
 rw [Dy (by decide) (by rw [i0y];omega)]
 refine Ct.k Try.func28 rfl Try.ntmps28 (congrArg Array.toList Try.results28) (by simp) fun w0 ro=>?_
 refine Ck fun zZ zhZ=>?_
 iterate 41 first
  |refine zhK _ ?_
  |(refine Dw fun zK zhK=>?_;simp only [go_sem,Az,qn,hi];(repeat' (first|apply And.intro|intro _)))
  |(refine zhN _ ?_;clear zhN zhM)
  |refine Bv ?_
  |(refine a0m (id:=3) [15,16,17,18,19,20,21,22,23,24,25,26,27,28,29,30,31,3] [0,1,3,0,8,24,63,127,255,511,1023,2047,4095,8191,16383,32767,65535,131071] [] mixed (by kernel_rfl) (by simp only [go_sem]) fun zK zhK=>?_;simp only [go_sem,Az,qn,hi];(repeat' (first|apply And.intro|intro _)))
  |refine zhK _ _ trivial ?_
  |refine Bw fun zB zbn zbx zbr zbi=>?_
  |(refine Aq fun zK zhK=>?_;simp only [go_sem,Az,qn,hi];(repeat' (first|apply And.intro|intro _)))
  |(refine zbn _ ?_;clear zbn zbx zbr zbi)
  |refine Cq ?_
  |(refine zhM _ _ ?_;clear zhN zhM)
  |(refine zhZ _ _ ?_;simp only [go_sem,Az,qn,hi];(all_goals (rfl)))
  |((all_goals (refine Cx (fun k=>k) (.w (.one (.pl (.i 0)))) [] (fun _ _=>rfl) ?_ ((q0w).plain fun _ _ h=>h) ?_ ?_;focus (first|rfl|(simp only [go_sem,Az,qn,hi]<;>rfl))));(all_goals try (refine And.intro ?_ (And.intro ?_ (And.intro ?_ ?_))<;>first|rfl|simp only [go_sem]));(all_goals simp only [go_sem,Az,qn,hi]);(all_goals repeat' (first|apply And.intro|intro _)))
  |refine Bj fun zN zM zhN zhM=>?_
  |(refine Av ?_ ?_;focus (first|rfl|(simp [go_sem,Az,qn,hi];done)))
  |(refine Aj ?_ ?_;focus (first|rfl|(simp [go_sem,Az,qn,hi];done)))
theorem i1k (i o:Int) (l:List Aw) (hn:((l.length:Nat):Int)=0) (hi:0≤i) (ho:¬0≤o):
 Ct Try.prog 28 [Fy 2 i o l] (fun v m=>v=.w (.one (.pl (.i (Bz (.mk 2 i o l)))))):=by
 have qn:(((l.length:Nat):Int)=0)=True:=eq_true hn
 rw [Dy (by decide) (by rw [i0y];omega)]
 have F0:=And.intro qn<|And.intro hi<|ho
 refine Ct.k Try.func28 rfl Try.ntmps28 (congrArg Array.toList Try.results28) (by simp) fun w0 ro=>?_
 refine Ck fun zZ zhZ=>?_
 iterate 41 first
  |refine zhK _ ?_
  |(refine Dw fun zK zhK=>?_;simp only [go_sem,Az,F0];(repeat' (first|apply And.intro|intro _)))
  |(refine zhN _ ?_;clear zhN zhM)
  |refine Bv ?_
  |(refine a0m (id:=3) [15,16,17,18,19,20,21,22,23,24,25,26,27,28,29,30,31,3] [0,1,3,0,8,24,63,127,255,511,1023,2047,4095,8191,16383,32767,65535,131071] [] mixed (by kernel_rfl) (by simp only [go_sem]) fun zK zhK=>?_;simp only [go_sem,Az,F0];(repeat' (first|apply And.intro|intro _)))
  |refine zhK _ _ trivial ?_
  |refine Bw fun zB zbn zbx zbr zbi=>?_
  |(refine Aq fun zK zhK=>?_;simp only [go_sem,Az,F0];(repeat' (first|apply And.intro|intro _)))
  |(refine zbn _ ?_;clear zbn zbx zbr zbi)
  |refine Cq ?_
  |(refine zhM _ _ ?_;clear zhN zhM)
  |(refine zhZ _ _ ?_;simp only [go_sem,Az,F0];(all_goals (rfl)))
  |((all_goals (refine Cx (fun k=>k) (.w (.one (.pl (.i 0)))) [] (fun _ _=>rfl) ?_ ((q0w).plain fun _ _ h=>h) ?_ ?_;focus (first|rfl|(simp only [go_sem,Az,F0]<;>rfl))));(all_goals try (refine And.intro ?_ (And.intro ?_ (And.intro ?_ ?_))<;>first|rfl|simp only [go_sem]));(all_goals simp only [go_sem,Az,F0]);(all_goals repeat' (first|apply And.intro|intro _)))
  |refine Bj fun zN zM zhN zhM=>?_
  |(refine Av ?_ ?_;focus (first|rfl|(simp [go_sem,Az,F0];done)))
  |(refine Aj ?_ ?_;focus (first|rfl|(simp [go_sem,Az,F0];done)))
theorem i1n (i o:Int) (l:List Aw) (hn:((l.length:Nat):Int)=0) (hi:0≤i) (ho:0≤o) (hf:¬o=0):
 Ct Try.prog 28 [Fy 2 i o l] (fun v m=>v=.w (.one (.pl (.i (Bz (.mk 2 i o l)))))):=by
 have qn:(((l.length:Nat):Int)=0)=True:=eq_true hn
 rw [Dy (by decide) (by rw [i0y];omega)]
 have F0:=And.intro qn<|And.intro hi<|And.intro ho<|hf
 refine Ct.k Try.func28 rfl Try.ntmps28 (congrArg Array.toList Try.results28) (by simp) fun w0 ro=>?_
 refine Ck fun zZ zhZ=>?_
 iterate 41 first
  |refine zhK _ ?_
  |(refine Dw fun zK zhK=>?_;simp only [go_sem,Az,F0];(repeat' (first|apply And.intro|intro _)))
  |(refine zhN _ ?_;clear zhN zhM)
  |refine Bv ?_
  |(refine a0m (id:=3) [15,16,17,18,19,20,21,22,23,24,25,26,27,28,29,30,31,3] [0,1,3,0,8,24,63,127,255,511,1023,2047,4095,8191,16383,32767,65535,131071] [] mixed (by kernel_rfl) (by simp only [go_sem]) fun zK zhK=>?_;simp only [go_sem,Az,F0];(repeat' (first|apply And.intro|intro _)))
  |refine zhK _ _ trivial ?_
  |refine Bw fun zB zbn zbx zbr zbi=>?_
  |(refine Aq fun zK zhK=>?_;simp only [go_sem,Az,F0];(repeat' (first|apply And.intro|intro _)))
  |(refine zbn _ ?_;clear zbn zbx zbr zbi)
  |refine Cq ?_
  |(refine zhM _ _ ?_;clear zhN zhM)
  |(refine zhZ _ _ ?_;simp only [go_sem,Az,F0];(all_goals (rfl)))
  |((all_goals (refine Cx (fun k=>k) (.w (.one (.pl (.i 0)))) [] (fun _ _=>rfl) ?_ ((q0w).plain fun _ _ h=>h) ?_ ?_;focus (first|rfl|(simp only [go_sem,Az,F0]<;>rfl))));(all_goals try (refine And.intro ?_ (And.intro ?_ (And.intro ?_ ?_))<;>first|rfl|simp only [go_sem]));(all_goals simp only [go_sem,Az,F0]);(all_goals repeat' (first|apply And.intro|intro _)))
  |refine Bj fun zN zM zhN zhM=>?_
  |(refine Av ?_ ?_;focus (first|rfl|(simp [go_sem,Az,F0];done)))
  |(refine Aj ?_ ?_;focus (first|rfl|(simp [go_sem,Az,F0];done)))
theorem i1j (i:Int) (l:List Aw) (hn:((l.length:Nat):Int)=0) (hi:0≤i) (ih: ∀ a,a∈l→Ct Try.prog 28 [Pv a] (fun v m=>v=.w (.one (.pl (.i (Bz a)))))) (hl:l.length≤9223372036854775807):
 Ct Try.prog 28 [Fy 2 i 0 l] (fun v m=>v=.w (.one (.pl (.i (Bz (.mk 2 i 0 l)))))):=by
 have qn:(((l.length:Nat):Int)=0)=True:=eq_true hn
 have hr:Bz (.mk 2 i 0 l)=Cv l:=Jj (by decide) (by rw [i0y];omega)
 refine Ct.k Try.func28 rfl Try.ntmps28 (congrArg Array.toList Try.results28) (by simp) fun w0 ro=>?_
 refine Ck fun zZ zhZ=>?_
 iterate 42 first
  |refine zhK _ ?_
  |(refine Dw fun zK zhK=>?_;simp only [go_sem,Az,qn,hi,Int.le_refl];(repeat' (first|apply And.intro|intro _)))
  |(refine zhN _ ?_;clear zhN zhM)
  |refine Bv ?_
  |refine Bw fun zB zbn zbx zbr zbi=>?_
  |(refine a0m (id:=3) [15,16,17,18,19,20,21,22,23,24,25,26,27,28,29,30,31,3] [0,1,3,0,8,24,63,127,255,511,1023,2047,4095,8191,16383,32767,65535,131071] [] mixed (by kernel_rfl) (by simp only [go_sem]) fun zK zhK=>?_;simp only [go_sem,Az,qn,hi,Int.le_refl];(repeat' (first|apply And.intro|intro _)))
  |refine zhK _ _ trivial ?_
  |(refine Aq fun zK zhK=>?_;simp only [go_sem,Az,qn,hi,Int.le_refl];(repeat' (first|apply And.intro|intro _)))
  |(refine zbn _ ?_;clear zbn zbx zbr zbi)
  |((all_goals (refine Cx (fun k=>k) (.w (.one (.pl (.i 0)))) [] (fun _ _=>rfl) ?_ ((q0w).plain fun _ _ h=>h) ?_ ?_;focus (first|rfl|(simp only [go_sem,Az,qn,hi,Int.le_refl]<;>rfl))));(all_goals try (refine And.intro ?_ (And.intro ?_ (And.intro ?_ ?_))<;>first|rfl|simp only [go_sem]));(all_goals simp only [go_sem,Az,qn,hi,Int.le_refl]);(all_goals repeat' (first|apply And.intro|intro _)))
  |refine Bj fun zN zM zhN zhM=>?_
  |(refine Av ?_ ?_;focus (first|rfl|(simp [go_sem,Az,qn,hi,Int.le_refl];done)))
  |(refine Aj ?_ ?_;focus (first|rfl|(simp [go_sem,Az,qn,hi,Int.le_refl];done)))
 refine Gw [0,1,3,7,8,9,10,11,12,13,14,15,16,17,18,19,20,21,22,23,24,25,26,27,28,29,30,31,32,33,34,35,36,37,38,39,40,41,42,43,44,45,46,47,48,49,50,51,52,53,54,55,56,57,58,59,60,61,62,63,64,65] ?_
 simp only [Gq,Iq,Gv,List.contains_cons,List.contains_nil,Nat.reduceBEq,beq_self_eq_true,Bool.or_false,Bool.or_true,Bool.true_or,Bool.false_or,Bool.false_eq_true,reduceIte]
 refine Iy (fun y=>[(68,.w (.one (.pl (.i ((y.1:Nat):Int)))))]) (fun _=>[]) (fun y=>l.length-y.1) (⟨0,Nat.zero_le _,rfl⟩:{y:Nat//y≤l.length∧Cv (l.drop y)=Cv l}) ?_ ?_ ?_
 · (simp only [go_sem,leX,List.cons_append,List.nil_append];try simp)
 · (simp only [go_sem,leX,List.cons_append,List.nil_append];try simp)
 intro yy zN zM zhN zhM
 simp only [List.cons_append,List.nil_append]
 obtain ⟨j,h1,h4⟩:=yy
 rcases Nat.lt_or_ge j l.length with hlt|hge
 rcases Int.decEq (Bz (l.getD j (.mk 0 0 0 []))) 0 with hbad|hgood
 · obtain ⟨k2,i2,o2,m2,he,hm,hdr,hg⟩:=Cy hlt
   have hc:=ih _ hm
   rw [Ak] at hc
   have hcq:((j:Nat):Int)<((l.length:Nat):Int):=by omega
   have hj:(0:Int)≤((j:Nat):Int):=by omega
   have hjl:j<(Ay l).length:=by rw [Az];exact hlt
   rw [hdr,Cv] at h4
   obtain ⟨w,hw⟩: ∃ w,Bz (.mk k2 i2 o2 m2)=w:=⟨_,rfl⟩
   rw [hw] at hc h4
   rw [he,hw] at hbad
   rw [if_neg hbad] at h4
   have F18:=And.intro hcq<|And.intro hj<|And.intro hjl<|And.intro hg<|hbad
   iterate 25 first
    |(refine Dw fun zK zhK=>?_;simp only [go_sem,Az,qn,hi,Int.le_refl,F18];(repeat' (first|apply And.intro|intro _)))
    |refine zhK _ ?_
    |(refine zhM _ _ ?_;clear zhN zhM)
    |(refine zbr _ ?_;clear zbn zbx zbr zbi)
    |refine Bv ?_
    |(refine zhN _ ?_;clear zhN zhM)
    |refine Bw fun zB zbn zbx zbr zbi=>?_
    |refine Cq ?_
    |(refine zhZ _ _ ?_;simp only [go_sem,Az,qn,hi,Int.le_refl,F18];(all_goals (rw [hr,←h4])))
    |((all_goals (refine Cz (fun k=>k) (fun _ _=>rfl) ?_ (hc.plain fun _ _ h=>h) ?_;focus (first|rfl|(simp only [go_sem,Az,qn,hi,Int.le_refl,F18]<;>rfl))));(all_goals (rintro v m ⟨hR,hm⟩;subst hR;subst hm));(all_goals refine And.intro (by first|rfl|simp only [go_sem,Az,qn,hi,Int.le_refl,F18]) (And.intro (by first|rfl|simp only [go_sem,Az,qn,hi,Int.le_refl,F18]) ?_));(all_goals simp only [go_sem,Az,qn,hi,Int.le_refl,F18]);(all_goals repeat' (first|apply And.intro|intro _)))
    |refine Bj fun zN zM zhN zhM=>?_
    |(refine Aj ?_ ?_;focus (first|rfl|(simp [go_sem,Az,qn,hi,Int.le_refl,F18];done)))
 · obtain ⟨k2,i2,o2,m2,he,hm,hdr,hg⟩:=Cy hlt
   have hc:=ih _ hm
   rw [Ak] at hc
   have hcq:((j:Nat):Int)<((l.length:Nat):Int):=by omega
   have hj:(0:Int)≤((j:Nat):Int):=by omega
   have hjl:j<(Ay l).length:=by rw [Az];exact hlt
   rw [hdr,Cv] at h4
   obtain ⟨w,hw⟩: ∃ w,Bz (.mk k2 i2 o2 m2)=w:=⟨_,rfl⟩
   rw [hw] at hc h4
   rw [he,hw] at hgood
   rw [if_pos hgood] at h4
   have hs1:Go.RowKit.wrap64 (((j:Nat):Int)+1)=((j+1:Nat):Int):=k0l (by omega) (by omega)
   have F26:=And.intro hcq<|And.intro hj<|And.intro hjl<|And.intro hg<|And.intro hgood<|hs1
   iterate 21 first
    |refine zhK _ ?_
    |(refine Dw fun zK zhK=>?_;simp only [go_sem,Az,qn,hi,Int.le_refl,F26];(repeat' (first|apply And.intro|intro _)))
    |refine Bv ?_
    |(refine zhN _ ?_;clear zhN zhM)
    |refine Bw fun zB zbn zbx zbr zbi=>?_
    |(refine zbn _ ?_;clear zbn zbx zbr zbi)
    |(refine Aq fun zK zhK=>?_;simp only [go_sem,Az,qn,hi,Int.le_refl,F26];(repeat' (first|apply And.intro|intro _)))
    |((all_goals (refine Cz (fun k=>k) (fun _ _=>rfl) ?_ (hc.plain fun _ _ h=>h) ?_;focus (first|rfl|(simp only [go_sem,Az,qn,hi,Int.le_refl,F26]<;>rfl))));(all_goals (rintro v m ⟨hR,hm⟩;subst hR;subst hm));(all_goals refine And.intro (by first|rfl|simp only [go_sem,Az,qn,hi,Int.le_refl,F26]) (And.intro (by first|rfl|simp only [go_sem,Az,qn,hi,Int.le_refl,F26]) ?_));(all_goals simp only [go_sem,Az,qn,hi,Int.le_refl,F26]);(all_goals repeat' (first|apply And.intro|intro _)))
    |refine Bj fun zN zM zhN zhM=>?_
    |(refine Aj ?_ ?_;focus (first|rfl|(simp [go_sem,Az,qn,hi,Int.le_refl,F26];done)))
    |(refine Av ?_ ?_;focus (first|rfl|(simp [go_sem,Az,qn,hi,Int.le_refl,F26];done)))
   refine zhN ⟨j+1,hlt,h4⟩ _ ?_ ?_ ?_
   · (exact Nat.sub_lt_sub_left hlt (Nat.lt_succ_self j))
   · (simp only [go_sem,leX,List.cons_append,List.nil_append];try simp)
   · (simp only [go_sem,leX,List.cons_append,List.nil_append];try simp)
 · obtain rfl:j=l.length:=by omega
   rw [List.drop_length,Cv] at h4
   have hcq:¬((l.length:Nat):Int)<((l.length:Nat):Int):=by omega
   iterate 13 first
    |(refine Dw fun zK zhK=>?_;simp only [go_sem,Az,qn,hi,Int.le_refl,hcq];(repeat' (first|apply And.intro|intro _)))
    |refine zhK _ ?_
    |(refine zhM _ _ ?_;clear zhN zhM)
    |refine Iw ?_
    |(refine zbx _ ?_;clear zbn zbx zbr zbi)
    |(refine zhN _ ?_;clear zhN zhM)
    |refine Cq ?_
    |(refine zhZ _ _ ?_;simp only [go_sem,Az,qn,hi,Int.le_refl,hcq];(all_goals (rw [hr,←h4])))
    |refine Bj fun zN zM zhN zhM=>?_
    |(refine Av ?_ ?_;focus (first|rfl|(simp [go_sem,Az,qn,hi,Int.le_refl,hcq];done)))
end Go.Sy
