/- Inverses below the prime: from the top. -/
import Derived.Test.YtlmbdhfkdhjcfaaDoorvS24
import Derived.Test.YtlmbdhfkdhjcfaaDoorvS14
import Derived.Test.YtlmbdhfkdhjcfaaDoorvS18
set_option linter.unusedVariables false
set_option linter.unusedSimpArgs false
namespace Go.Sy
namespace Lk
open Go.Proofs
attribute [local irreducible] Dv HT Cz Px onC onE onO onG goV goA goS Qx Dw
theorem e1r (n e:Nat):pw n e<115792089237316195423570985008687907853269984665640564039457584007913129639936:=by
 have:=u0x n e
 have:=f0z
 omega
theorem q1c {k:Nat} (hk:k≤255):Go.RowKit.wrap64 (((k:Nat):Int)-1)=dn k:=by
 unfold dn;exact w64 (by omega)
theorem c1w :w4C 1=[.pl (.u64 1),.pl (.u64 0),.pl (.u64 0),.pl (.u64 0)]:=by rw [w4C,show w4 1=[1,0,0,0] from by decide+kernel];rfl
set_option maxHeartbeats 3200000 in
set_option maxRecDepth 100000 in
theorem p1n (a b c d:UInt64) (h1:vQ a b c d<p25):
 CtM Tryd.prog 24 [.w (.agg [.pl (.u64 a),.pl (.u64 b),.pl (.u64 c),.pl (.u64 d)])] [(1000001,⟨false,[.pl (.u64 18446744073709551597),.pl (.u64 18446744073709551615),.pl (.u64 18446744073709551615),.pl (.u64 9223372036854775807)]⟩)] (Told (fun v m=>v=.tup [.agg (w4C (pw (vQ a b c d) eP)),.one (.pl (.i 0))]∧m=[])):=by
 have hA:=below_ a b c d
 rw [decide_eq_true h1] at hA
 obtain ⟨n,hn⟩: ∃ n,vQ a b c d=n:=⟨_,rfl⟩
 have hnp:n<p25:=by rw [←hn];exact h1
 rw [hn]
 refine CtM.k Tryd.func24 rfl Tryd.ntmps24 (congrArg Array.toList Tryd.results24) (by simp) fun w0 ro may fx=>?_
 refine Dj fun zZ zhZ=>?_
 iterate 15 first
  |(refine Cx fun zK zhK=>?_;simp only [go_sem];(repeat' (first|apply And.intro|intro _)))
  |refine zhK _ ?_
  |refine Cw ?_
  |(refine zhN _ ?_;clear zhN zhM)
  |refine Aj fun zB zbn zbx zbr zbi=>?_
  |((all_goals (refine Bq false [] (fun k=>k) (fun _ _=>rfl) ?_ (by decide) ?_ hA.told ?_;iterate 2 (focus (first|rfl|(simp only [go_sem]<;>first|done|rfl|simp)))));(all_goals (rintro v m ⟨hR,hm⟩;subst hR;subst hm));(all_goals (refine And.intro ?_ (And.intro ?_ (And.intro ?_ ?_));iterate 3 (focus (first|rfl|(simp only [go_sem];done)|(simp [go_sem,look];done)))));(all_goals (try simp only [go_sem]));(all_goals (try simp only [go_sem]));(all_goals repeat' (first|apply And.intro|intro _)))
  |refine Bz fun zN zM zhN zhM=>?_
  |(refine Cy ?_ ?_;focus (first|rfl|(simp [go_sem];done)))
 refine Gv [0,6,7,8,9,10] ?_
 simp only [Gj,Iq,Gq,List.contains_cons,List.contains_nil,Nat.reduceBEq,beq_self_eq_true,Bool.or_false,Bool.or_true,Bool.true_or,Bool.false_or,Bool.false_eq_true,reduceIte]
 refine Jz (fun y=>[(5,.w (.one (.pl (.i (dn y.1)))))]) (fun y=>[(4,⟨false,w4C (pw n (r0d y.1))⟩)]) (fun y=>y.1) (⟨255,Nat.le_refl _⟩:{y:Nat//y≤255}) ?_ ?_ ?_
 · (simp only [go_sem,leX,List.cons_append,List.nil_append];first|done|rfl|(simp [dn];done))
 · (simp only [d1f,e1q,c1w,go_sem,leX,List.cons_append,List.nil_append];first|done|rfl|(simp [leX,look];done))
 intro yy zN zM zhN zhM
 simp only [List.cons_append,List.nil_append]
 obtain ⟨y,hy⟩:=yy
 obtain ⟨q0,q1,q2,q3,hq,hvq⟩:=Dz (pw n (r0d y)) (e1r _ _)
 have huq:Aw [q0,q1,q2,q3]=[.pl (.u64 q0),.pl (.u64 q1),.pl (.u64 q2),.pl (.u64 q3)]:=rfl
 simp only [w4C,hq,huq]
 have hd:(y=0)∨(∃ k,y=k+1∧k=4)∨(∃ k,y=k+1∧k=2)∨(∃ k,y=k+1∧¬(k=4∨k=2)):=by
  cases y with
  |zero=>exact .inl rfl
  |succ k=>
   by_cases e1:k=4
   · exact .inr (.inl ⟨k,rfl,e1⟩)
   · by_cases e2:k=2
     · exact .inr (.inr (.inl ⟨k,rfl,e2⟩))
     · exact .inr (.inr (.inr ⟨k,rfl,by omega⟩))
 rcases hd with rfl|⟨k,rfl,hb⟩|⟨k,rfl,hb⟩|⟨k,rfl,hb⟩
 · have hi:dn 0= -1:=rfl
   have hfin:w4C (pw n eP)=Aw [q0,q1,q2,q3]:=by rw [w4C,←d1e,hq]
   iterate 13 first
    |(refine Cx fun zK zhK=>?_;simp only [go_sem,hi];(repeat' (first|apply And.intro|intro _)))
    |refine zhK _ ?_
    |(refine zhM _ _ ?_;clear zhN zhM)
    |refine Ey ?_
    |(refine zbx _ ?_;clear zbn zbx zbr zbi)
    |(refine zhN _ ?_;clear zhN zhM)
    |refine Dx ?_
    |(refine zhZ _ _ ?_;simp only [go_sem,hi];(all_goals (exact told_plain (by simp [Fj,Hz]) ⟨by rw [hfin];rfl,rfl⟩)))
    |refine Bz fun zN zM zhN zhM=>?_
    |(refine Cy ?_ ?_;focus (first|rfl|(simp [go_sem,hi];done)))
 · have hk:k<255:=by omega
   have hi:dn (k+1)=((k:Nat):Int):=by unfold dn;omega
   have g0:(0:Int)≤((k:Nat):Int):=by omega
   have hs1:=q1c (k:=k) (by omega)
   have hM:=z1t q0 q1 q2 q3 q0 q1 q2 q3
   rw [hvq,k1w] at hM
   obtain ⟨r0,r1,r2,r3,hr,hvr⟩:=Dz (pw n (2*r0d (k+1))) (e1r _ _)
   have hur:Aw [r0,r1,r2,r3]=[.pl (.u64 r0),.pl (.u64 r1),.pl (.u64 r2),.pl (.u64 r3)]:=rfl
   simp only [w4C,hr,hur] at hM
   have hq4:(((k:Nat):Int)=4)=True:=eq_true (by omega)
   have hT:r0d k=2*r0d (k+1):=x0x hk (.inl hb)
   have F11:=And.intro hi<|And.intro g0<|And.intro hs1<|hq4
   iterate 19 first
    |refine zhK _ ?_
    |(refine Cx fun zK zhK=>?_;simp only [go_sem,F11];(repeat' (first|apply And.intro|intro _)))
    |refine Cw ?_
    |(refine zhN _ ?_;clear zhN zhM)
    |refine Aj fun zB zbn zbx zbr zbi=>?_
    |(refine zbn _ ?_;clear zbn zbx zbr zbi)
    |(refine Av fun zK zhK=>?_;simp only [go_sem,F11];(repeat' (first|apply And.intro|intro _)))
    |((all_goals (refine Bq false [] (fun k=>k) (fun _ _=>rfl) ?_ (by decide) ?_ hM.told ?_;iterate 2 (focus (first|rfl|(simp only [go_sem,F11]<;>first|done|rfl|simp)))));(all_goals (rintro v m ⟨hR,hm⟩;subst hR;subst hm));(all_goals (refine And.intro ?_ (And.intro ?_ (And.intro ?_ ?_));iterate 3 (focus (first|rfl|(simp only [go_sem,F11];done)|(simp [go_sem,look,F11];done)))));(all_goals (try simp only [go_sem,F11]));(all_goals (try simp only [go_sem,F11]));(all_goals repeat' (first|apply And.intro|intro _)))
    |refine Bz fun zN zM zhN zhM=>?_
    |(refine Bv ?_ ?_;focus (first|rfl|(simp [go_sem,F11];done)))
    |(refine Cy ?_ ?_;focus (first|rfl|(simp [go_sem,F11];done)))
   refine zhN ⟨k,by omega⟩ _ ?_ ?_ ?_
   · (exact Nat.lt_succ_self k)
   · (simp only [go_sem,leX,List.cons_append,List.nil_append];try simp)
   · (simp only [w4C,hT,hr,hur,go_sem,leX,List.cons_append,List.nil_append];first|done|rfl|(simp [leX,look];done))
 · have hk:k<255:=by omega
   have hi:dn (k+1)=((k:Nat):Int):=by unfold dn;omega
   have g0:(0:Int)≤((k:Nat):Int):=by omega
   have hs1:=q1c (k:=k) (by omega)
   have hM:=z1t q0 q1 q2 q3 q0 q1 q2 q3
   rw [hvq,k1w] at hM
   obtain ⟨r0,r1,r2,r3,hr,hvr⟩:=Dz (pw n (2*r0d (k+1))) (e1r _ _)
   have hur:Aw [r0,r1,r2,r3]=[.pl (.u64 r0),.pl (.u64 r1),.pl (.u64 r2),.pl (.u64 r3)]:=rfl
   simp only [w4C,hr,hur] at hM
   have hq4:(((k:Nat):Int)=4)=False:=eq_false (by omega)
   have hq2:(((k:Nat):Int)=2)=True:=eq_true (by omega)
   have hT:r0d k=2*r0d (k+1):=x0x hk (.inr hb)
   have F18:=And.intro hi<|And.intro g0<|And.intro hs1<|And.intro hq4<|hq2
   iterate 19 first
    |refine zhK _ ?_
    |(refine Cx fun zK zhK=>?_;simp only [go_sem,F18];(repeat' (first|apply And.intro|intro _)))
    |refine Cw ?_
    |(refine zhN _ ?_;clear zhN zhM)
    |refine Aj fun zB zbn zbx zbr zbi=>?_
    |(refine zbn _ ?_;clear zbn zbx zbr zbi)
    |(refine Av fun zK zhK=>?_;simp only [go_sem,F18];(repeat' (first|apply And.intro|intro _)))
    |((all_goals (refine Bq false [] (fun k=>k) (fun _ _=>rfl) ?_ (by decide) ?_ hM.told ?_;iterate 2 (focus (first|rfl|(simp only [go_sem,F18]<;>first|done|rfl|simp)))));(all_goals (rintro v m ⟨hR,hm⟩;subst hR;subst hm));(all_goals (refine And.intro ?_ (And.intro ?_ (And.intro ?_ ?_));iterate 3 (focus (first|rfl|(simp only [go_sem,F18];done)|(simp [go_sem,look,F18];done)))));(all_goals (try simp only [go_sem,F18]));(all_goals (try simp only [go_sem,F18]));(all_goals repeat' (first|apply And.intro|intro _)))
    |refine Bz fun zN zM zhN zhM=>?_
    |(refine Bv ?_ ?_;focus (first|rfl|(simp [go_sem,F18];done)))
    |(refine Cy ?_ ?_;focus (first|rfl|(simp [go_sem,F18];done)))
   refine zhN ⟨k,by omega⟩ _ ?_ ?_ ?_
   · (exact Nat.lt_succ_self k)
   · (simp only [go_sem,leX,List.cons_append,List.nil_append];try simp)
   · (simp only [w4C,hT,hr,hur,go_sem,leX,List.cons_append,List.nil_append];first|done|rfl|(simp [leX,look];done))
 · have hk:k<255:=by omega
   have hi:dn (k+1)=((k:Nat):Int):=by unfold dn;omega
   have g0:(0:Int)≤((k:Nat):Int):=by omega
   have hs1:=q1c (k:=k) (by omega)
   have hM:=z1t q0 q1 q2 q3 q0 q1 q2 q3
   rw [hvq,k1w] at hM
   obtain ⟨r0,r1,r2,r3,hr,hvr⟩:=Dz (pw n (2*r0d (k+1))) (e1r _ _)
   have hur:Aw [r0,r1,r2,r3]=[.pl (.u64 r0),.pl (.u64 r1),.pl (.u64 r2),.pl (.u64 r3)]:=rfl
   simp only [w4C,hr,hur] at hM
   have hq4:(((k:Nat):Int)=4)=False:=eq_false (by omega)
   have hq2:(((k:Nat):Int)=2)=False:=eq_false (by omega)
   have hM2:=z1t r0 r1 r2 r3 a b c d
   rw [hvr,hn,a1j n _ hnp,←j1w hk hb] at hM2
   obtain ⟨s0,s1,s2,s3,hs,hvs⟩:=Dz (pw n (r0d k)) (e1r _ _)
   have hus:Aw [s0,s1,s2,s3]=[.pl (.u64 s0),.pl (.u64 s1),.pl (.u64 s2),.pl (.u64 s3)]:=rfl
   simp only [w4C,hs,hus] at hM2
   have F25:=And.intro hi<|And.intro g0<|And.intro hs1<|And.intro hq4<|hq2
   iterate 21 first
    |refine zhK _ ?_
    |(refine Cx fun zK zhK=>?_;simp only [go_sem,F25];(repeat' (first|apply And.intro|intro _)))
    |(refine zhN _ ?_;clear zhN zhM)
    |(refine Av fun zK zhK=>?_;simp only [go_sem,F25];(repeat' (first|apply And.intro|intro _)))
    |refine Cw ?_
    |refine Aj fun zB zbn zbx zbr zbi=>?_
    |(refine zbn _ ?_;clear zbn zbx zbr zbi)
    |((all_goals (refine Bq false [] (fun k=>k) (fun _ _=>rfl) ?_ (by decide) ?_ hM.told ?_;iterate 2 (focus (first|rfl|(simp only [go_sem,F25]<;>first|done|rfl|simp)))));(all_goals (rintro v m ⟨hR,hm⟩;subst hR;subst hm));(all_goals (refine And.intro ?_ (And.intro ?_ (And.intro ?_ ?_));iterate 3 (focus (first|rfl|(simp only [go_sem,F25];done)|(simp [go_sem,look,F25];done)))));(all_goals (try simp only [go_sem,F25]));(all_goals (try simp only [go_sem,F25]));(all_goals repeat' (first|apply And.intro|intro _)))
    |((all_goals (refine Bq false [] (fun k=>k) (fun _ _=>rfl) ?_ (by decide) ?_ hM2.told ?_;iterate 2 (focus (first|rfl|(simp only [go_sem,F25]<;>first|done|rfl|simp)))));(all_goals (rintro v m ⟨hR,hm⟩;subst hR;subst hm));(all_goals (refine And.intro ?_ (And.intro ?_ (And.intro ?_ ?_));iterate 3 (focus (first|rfl|(simp only [go_sem,F25];done)|(simp [go_sem,look,F25];done)))));(all_goals (try simp only [go_sem,F25]));(all_goals (try simp only [go_sem,F25]));(all_goals repeat' (first|apply And.intro|intro _)))
    |refine Bz fun zN zM zhN zhM=>?_
    |(refine Bv ?_ ?_;focus (first|rfl|(simp [go_sem,F25];done)))
   refine zhN ⟨k,by omega⟩ _ ?_ ?_ ?_
   · (exact Nat.lt_succ_self k)
   · (simp only [go_sem,leX,List.cons_append,List.nil_append];try simp)
   · (simp only [w4C,hs,hus,go_sem,leX,List.cons_append,List.nil_append];first|done|rfl|(simp [leX,look];done))
end Lk
end Go.Sy
