/- Walks and what they compute. CONDITIONS: those that each theorem names. -/
import Derived.Test.YtlmbdhfkdhjcfaaDoorvS16
import Derived.Test.YtlmbdhfkdhjcfaaDoorvS20
import Derived.Test.YtlmbdhfkdhjcfaaDoorvS23
import Derived.Test.YtlmbdhfkdhjcfaaDoorvS24
import Derived.Test.YtlmbdhfkdhjcfaaDoorvS25
import Derived.Test.YtlmbdhfkdhjcfaaDoorvS26
import Derived.Test.YtlmbdhfkdhjcfaaDoorvS5
import Derived.Test.YtlmbdhfkdhjcfaaDoorvS11
set_option linter.unusedVariables false
set_option linter.unusedSimpArgs false
set_option maxHeartbeats 6400000
set_option maxRecDepth 100000
namespace Go.Sy
namespace Lk
open Go.Proofs
attribute [local irreducible] Dv HT Cz Px onC onE onO onG goV goA goS Qx Dw
theorem j1k :Az (List.replicate 32 0)=[.pl (.u8 0),.pl (.u8 0),.pl (.u8 0),.pl (.u8 0),.pl (.u8 0),.pl (.u8 0),.pl (.u8 0),.pl (.u8 0),.pl (.u8 0),.pl (.u8 0),.pl (.u8 0),.pl (.u8 0),.pl (.u8 0),.pl (.u8 0),.pl (.u8 0),.pl (.u8 0),.pl (.u8 0),.pl (.u8 0),.pl (.u8 0),.pl (.u8 0),.pl (.u8 0),.pl (.u8 0),.pl (.u8 0),.pl (.u8 0),.pl (.u8 0),.pl (.u8 0),.pl (.u8 0),.pl (.u8 0),.pl (.u8 0),.pl (.u8 0),.pl (.u8 0),.pl (.u8 0)]:=rfl
theorem z0p (a b c d:UInt64) (h1:vQ a b c d<p25):
 CtM Tryd.prog 25 [.w (.agg [.pl (.u64 a),.pl (.u64 b),.pl (.u64 c),.pl (.u64 d)])] [(1000001,⟨false,[.pl (.u64 18446744073709551597),.pl (.u64 18446744073709551615),.pl (.u64 18446744073709551615),.pl (.u64 9223372036854775807)]⟩)] (Told (fun v m=>v=.tup [.agg (Az (by4 a b c d)),.one (.pl (.i 0))]∧m=[])):=by
 have hA:=below_ a b c d
 rw [decide_eq_true h1] at hA
 refine CtM.k Tryd.func25 rfl Tryd.ntmps25 (congrArg Array.toList Tryd.results25) (by simp) fun w0 ro may fx=>?_
 refine Dj fun zZ zhZ=>?_
 iterate 606 first
  |(refine Cv (x:=.seq (.region 5 _ _) _) [5,11,12,13,14,15,16,17,18,19,20,21,22,23,24] ?_;simp only [go_sem,St.forget,fgt];refine Fq fun zN zM zhN zhM=>?_)
  |refine Fq fun zN zM zhN zhM=>?_
  |refine zhK _ ?_
  |(refine zhN _ ?_;clear zhN zhM)
  |(refine Cx fun zK zhK=>?_;simp only [go_sem,Int.toNat_one,Int.reduceTMod,Int.reduceTDiv,Int.mul_zero,j1k];(repeat' (first|apply And.intro|intro _)))
  |(refine Av fun zK zhK=>?_;simp only [go_sem,Int.toNat_one,Int.reduceTMod,Int.reduceTDiv,Int.mul_zero,j1k];(repeat' (first|apply And.intro|intro _)))
  |refine Cw ?_
  |refine Aj fun zB zbn zbx zbr zbi=>?_
  |(refine zbn _ ?_;clear zbn zbx zbr zbi)
  |(refine zhM _ _ ?_;clear zhN zhM)
  |refine Fx (x:=.seq (.region 5 _ _) _) 33 ?_
  |refine Ey ?_
  |(refine zbx _ ?_;clear zbn zbx zbr zbi)
  |refine Dx ?_
  |(refine zhZ _ _ ?_;simp only [go_sem,Int.toNat_one,Int.reduceTMod,Int.reduceTDiv,Int.mul_zero,j1k];(all_goals (exact told_plain (by simp [Fj,Hz,Az,by4,byW]) ⟨rfl,rfl⟩)))
  |((all_goals (refine Bq false [] (fun k=>k) (fun _ _=>rfl) ?_ (by decide) ?_ hA.told ?_;iterate 2 (focus (first|rfl|(simp only [go_sem,Int.toNat_one,Int.reduceTMod,Int.reduceTDiv,Int.mul_zero,j1k]<;>first|done|rfl|simp)))));(all_goals (rintro v m ⟨hR,hm⟩;subst hR;subst hm));(all_goals (refine And.intro ?_ (And.intro ?_ (And.intro ?_ ?_));iterate 3 (focus (first|rfl|(simp only [go_sem,Int.toNat_one,Int.reduceTMod,Int.reduceTDiv,Int.mul_zero,j1k];done)|(simp [go_sem,look,Int.toNat_one,Int.reduceTMod,Int.reduceTDiv,Int.mul_zero,j1k];done)))));(all_goals (try simp only [go_sem,Int.toNat_one,Int.reduceTMod,Int.reduceTDiv,Int.mul_zero,j1k]));(all_goals (try simp only [go_sem,Int.toNat_one,Int.reduceTMod,Int.reduceTDiv,Int.mul_zero,j1k]));(all_goals repeat' (first|apply And.intro|intro _)))
  |refine Bz fun zN zM zhN zhM=>?_
  |(refine Bv ?_ ?_;focus (first|rfl|(simp [go_sem,Int.toNat_one,Int.reduceTMod,Int.reduceTDiv,Int.mul_zero,j1k];done)))
  |(refine Cy ?_ ?_;focus (first|rfl|(simp [go_sem,Int.toNat_one,Int.reduceTMod,Int.reduceTDiv,Int.mul_zero,j1k];done)))
end Lk
end Go.Sy
namespace Go.Sy
namespace Lk
open Go.Proofs
attribute [local irreducible] Dv HT Cz Px onC onE onO onG goV goA goS Qx Dw
def j0m (b:Bool):UInt64:=if b then 1 else 0
def k0p (p q:Pt):List L:=w4C p.x++(w4C q.x++(w4C p.z++w4C q.z))
def e0c (k:List UInt8) (U y:Nat):List L:=if lastB k y then k0p (oft k U (255-y)).2 (oft k U (255-y)).1 else k0p (oft k U (255-y)).1 (oft k U (255-y)).2
theorem n0r {k:List UInt8} {U y:Nat} {P Q:Pt} (h:lastB k y=false) (hP:(oft k U (255-y)).1=P) (hQ:(oft k U (255-y)).2=Q):e0c k U y=k0p P Q:=by rw [e0c,h,hP,hQ];rfl
theorem r0x {k:List UInt8} {U y:Nat} {P Q:Pt} (h:lastB k y=true) (hP:(oft k U (255-y)).1=P) (hQ:(oft k U (255-y)).2=Q):e0c k U y=k0p Q P:=by rw [e0c,h,hP,hQ];rfl
theorem last_at {k:List UInt8} {t:Nat} (ht:t<255):lastB k t=decide (b1u k t=1):=by simp [lastB,ht]
theorem z1c {k:List UInt8} {U t:Nat} {P Q:Pt} (ht:t<255) (hP:(oft k U (255-(t+1))).1=P) (hQ:(oft k U (255-(t+1))).2=Q) (hb:b1u k t=1):oft k U (255-t)=(b0f P Q U,q0u Q):=by
 rw [show 255-t=(255-(t+1))+1 from by omega,oft,hP,hQ,show 254-(255-(t+1))=t from by omega,if_pos hb]
theorem z1d {k:List UInt8} {U t:Nat} {P Q:Pt} (ht:t<255) (hP:(oft k U (255-(t+1))).1=P) (hQ:(oft k U (255-(t+1))).2=Q) (hb:¬b1u k t=1):oft k U (255-t)=(q0u P,b0f P Q U):=by
 rw [show 255-t=(255-(t+1))+1 from by omega,oft,hP,hQ,show 254-(255-(t+1))=t from by omega,if_neg hb]
theorem j1q :w4C 0=[.pl (.u64 0),.pl (.u64 0),.pl (.u64 0),.pl (.u64 0)]:=by rw [w4C,show w4 0=[0,0,0,0] from by decide+kernel];rfl
theorem d2b (k u:List UInt8) (hk:k.length=32) (hu:u.length=32):
 CtM Tryd.prog 16 [.w (.agg (Az k)),.w (.agg (Az u))] [(1000001,⟨false,[.pl (.u64 18446744073709551597),.pl (.u64 18446744073709551615),.pl (.u64 18446744073709551615),.pl (.u64 9223372036854775807)]⟩)] (Told (fun v m=>v=tell (f1v k u)∧m=[])):=by
 obtain ⟨kc,hkc⟩: ∃ q,j0g k=q:=⟨_,rfl⟩
 have hkl:kc.length=32:=by rw [←hkc];exact g0u hk
 obtain ⟨U,hU⟩: ∃ n,frN u=n:=⟨_,rfl⟩
 have hUl:U<p25:=by rw [←hU];exact p1o u
 have hC:=a2z k hk
 rw [hkc] at hC
 have hF:=from_ u hu
 rw [hU] at hF
 obtain ⟨f0,f1,f2,f3,hf,hvf⟩:=Dz U (pm4 hUl)
 have huf:w4C U=[.pl (.u64 f0),.pl (.u64 f1),.pl (.u64 f2),.pl (.u64 f3)]:=by rw [w4C,hf];rfl
 rw [huf] at hF
 have hst8:j0m (lastB kc 255)=0:=by rw [lastB];rfl
 have hst7:e0c kc U 255=[.pl (.u64 1),.pl (.u64 0),.pl (.u64 0),.pl (.u64 0),.pl (.u64 f0),.pl (.u64 f1),.pl (.u64 f2),.pl (.u64 f3),.pl (.u64 0),.pl (.u64 0),.pl (.u64 0),.pl (.u64 0),.pl (.u64 1),.pl (.u64 0),.pl (.u64 0),.pl (.u64 0)]:=by
  rw [n0r (P:=⟨1,0⟩) (Q:=⟨U,1⟩) (by rw [lastB];rfl) rfl rfl,k0p]
  simp only [c1w,j1q,huf];rfl
 have F0:=And.intro hk<|And.intro hu<|hkl
 refine CtM.k Tryd.func16 rfl Tryd.ntmps16 (congrArg Array.toList Tryd.results16) (by simp) fun w0 ro may fx=>?_
 refine Dj fun zZ zhZ=>?_
 iterate 16 first
  |(refine Cx fun zK zhK=>?_;simp only [go_sem,F0];(repeat' (first|apply And.intro|intro _)))
  |refine zhK _ ?_
  |refine Aj fun zB zbn zbx zbr zbi=>?_
  |((all_goals (refine Cq (fun k=>k) (fun _ _=>rfl) ?_ ((hC).plain fun _ _ h=>h) ?_;focus (first|rfl|(simp only [go_sem,F0]<;>rfl))));(all_goals (rintro v m ⟨hR,hm⟩;subst hR;subst hm));(all_goals refine And.intro (by first|rfl|simp only [go_sem,F0]) (And.intro (by first|rfl|simp only [go_sem,F0]) ?_));(all_goals simp only [go_sem,F0]);(all_goals repeat' (first|apply And.intro|intro _)))
  |((all_goals (refine Bq false [] (fun k=>k) (fun _ _=>rfl) ?_ (by decide) ?_ hF.told ?_;iterate 2 (focus (first|rfl|(simp only [go_sem,F0]<;>first|done|rfl|simp)))));(all_goals (rintro v m ⟨hR,hm⟩;subst hR;subst hm));(all_goals (refine And.intro ?_ (And.intro ?_ (And.intro ?_ ?_));iterate 3 (focus (first|rfl|(simp only [go_sem,F0];done)|(simp [go_sem,look,F0];done)))));(all_goals (try simp only [go_sem,F0]));(all_goals (try simp only [go_sem,F0]));(all_goals repeat' (first|apply And.intro|intro _)))
  |refine Bz fun zN zM zhN zhM=>?_
 refine Gv [0,1,3,15,16,17,18,19,20,21,22,23,24,25] ?_
 simp only [Gj,Iq,Gq,List.contains_cons,List.contains_nil,Nat.reduceBEq,beq_self_eq_true,Bool.or_false,Bool.or_true,Bool.true_or,Bool.false_or,Bool.false_eq_true,reduceIte]
 refine Jz (fun y=>[(9,.w (.one (.pl (.i (dn y.1))))),(8,.w (.one (.pl (.u64 (j0m (lastB kc y.1))))))]) (fun y=>[(7,⟨false,e0c kc U y.1⟩)]) (fun y=>y.1) (⟨255,Nat.le_refl _⟩:{y:Nat//y≤255}) ?_ ?_ ?_
 · (simp only [hst8,go_sem,leX,List.cons_append,List.nil_append];first|done|rfl|(simp [dn];done))
 · (simp only [hst7,go_sem,leX,List.cons_append,List.nil_append];first|done|rfl|(simp [leX,look];done))
 intro yy zN zM zhN zhM
 simp only [List.cons_append,List.nil_append]
 obtain ⟨j,hj9⟩:=yy
 have hok:=f1c kc hUl (255-j)
 obtain ⟨⟨P1,P2⟩,hP⟩: ∃ p,(oft kc U (255-j)).1=p:=⟨_,rfl⟩
 obtain ⟨⟨Q1,Q2⟩,hQ⟩: ∃ p,(oft kc U (255-j)).2=p:=⟨_,rfl⟩
 rw [hP,hQ] at hok
 obtain ⟨⟨l0,l1⟩,⟨l2,l3⟩⟩:=hok
 change P1<p25 at l0
 change P2<p25 at l1
 change Q1<p25 at l2
 change Q2<p25 at l3
 have hd:(j=0∧lastB kc j=false)∨(j=0∧lastB kc j=true)∨(∃ t,j=t+1∧lastB kc j=false∧¬b1u kc t=1)∨(∃ t,j=t+1∧lastB kc j=false∧b1u kc t=1)∨(∃ t,j=t+1∧lastB kc j=true∧¬b1u kc t=1)∨(∃ t,j=t+1∧lastB kc j=true∧b1u kc t=1):=by
  cases hx:lastB kc j<;>cases j with
  |zero=>simp
  |succ t=>by_cases hy:b1u kc t=1<;>simp [hy]
 rcases hd with ⟨rfl,hL⟩|⟨rfl,hL⟩|⟨t,rfl,hL,hbit⟩|⟨t,rfl,hL,hbit⟩|⟨t,rfl,hL,hbit⟩|⟨t,rfl,hL,hbit⟩
 · obtain ⟨n,hn⟩: ∃ n,fM P1 (pw P2 eP)=n:=⟨_,rfl⟩
   have hnl:n<p25:=by rw [←hn];exact Qq _ _
   have hlad:f1v k u=n:=by
    rw [f1v,hkc,hU]
    change (oft kc U 255).1=_ at hP
    rw [hP,hn]
   obtain ⟨b,hb⟩: ∃ b,wB n=b:=⟨_,rfl⟩
   have hbl:b.length=32:=by rw [←hb];exact f0o n
   have hne:=c2y hbl
   obtain ⟨s0,s1,s2,s3,hs,hvs⟩:=Dz n (pm4 hnl)
   have hus:w4C n=[.pl (.u64 s0),.pl (.u64 s1),.pl (.u64 s2),.pl (.u64 s3)]:=by rw [w4C,hs];rfl
   have hbs:by4 s0 s1 s2 s3=b:=by rw [←hb];exact q1d hs
   have hi:dn 0= -1:=rfl
   obtain ⟨fx0,fx1,fx2,fx3,hfx,hvfx⟩:=Dz (P1) (pm4 l0)
   have hufx:w4C (P1)=[.pl (.u64 fx0),.pl (.u64 fx1),.pl (.u64 fx2),.pl (.u64 fx3)]:=by rw [w4C,hfx];rfl
   obtain ⟨fz0,fz1,fz2,fz3,hfz,hvfz⟩:=Dz (P2) (pm4 l1)
   have hufz:w4C (P2)=[.pl (.u64 fz0),.pl (.u64 fz1),.pl (.u64 fz2),.pl (.u64 fz3)]:=by rw [w4C,hfz];rfl
   obtain ⟨sx0,sx1,sx2,sx3,hsx,hvsx⟩:=Dz (Q1) (pm4 l2)
   have husx:w4C (Q1)=[.pl (.u64 sx0),.pl (.u64 sx1),.pl (.u64 sx2),.pl (.u64 sx3)]:=by rw [w4C,hsx];rfl
   obtain ⟨sz0,sz1,sz2,sz3,hsz,hvsz⟩:=Dz (Q2) (pm4 l3)
   have husz:w4C (Q2)=[.pl (.u64 sz0),.pl (.u64 sz1),.pl (.u64 sz2),.pl (.u64 sz3)]:=by rw [w4C,hsz];rfl
   have hr:e0c kc U 0=[.pl (.u64 fx0),.pl (.u64 fx1),.pl (.u64 fx2),.pl (.u64 fx3),.pl (.u64 sx0),.pl (.u64 sx1),.pl (.u64 sx2),.pl (.u64 sx3),.pl (.u64 fz0),.pl (.u64 fz1),.pl (.u64 fz2),.pl (.u64 fz3),.pl (.u64 sz0),.pl (.u64 sz1),.pl (.u64 sz2),.pl (.u64 sz3)]:=by rw [n0r hL hP hQ,k0p];simp only [hufx,hufz,husx,husz];rfl
   have hl8:j0m (lastB kc 0)=0:=by rw [hL];rfl
   have hS:=q1q fx0 fx1 fx2 fx3 sx0 sx1 sx2 sx3 fz0 fz1 fz2 fz3 sz0 sz1 sz2 sz3
   have hI:=p1n fz0 fz1 fz2 fz3 (by rw [hvfz];exact l1)
   rw [hvfz] at hI
   obtain ⟨iv0,iv1,iv2,iv3,hiv,hviv⟩:=Dz (pw P2 eP) (pm4 (u0x _ _))
   have huiv:w4C (pw P2 eP)=[.pl (.u64 iv0),.pl (.u64 iv1),.pl (.u64 iv2),.pl (.u64 iv3)]:=by rw [w4C,hiv];rfl
   rw [huiv] at hI
   have hM:=m1i fx0 fx1 fx2 fx3 iv0 iv1 iv2 iv3 (by rw [hvfx];exact l0) (by rw [hviv];exact u0x _ _)
   rw [hvfx,hviv,hn,hus] at hM
   have hB:=z0p s0 s1 s2 s3 (by rw [hvs];exact hnl)
   rw [hbs] at hB
   simp only [hr,hl8]
   have F9:=And.intro hi<|And.intro hbl<|hne
   refine Bz fun zN zM zhN zhM=>?_
   refine Cx fun zK zhK=>?_
   simp only [go_sem,F0,F9]
   repeat' (first|apply And.intro|intro _)
   refine zhK _ ?_
   (refine Cy ?_ ?_;focus (first|rfl|(simp [go_sem,F0,F9];done)))
   refine Ey ?_
   refine zhM _ _ ?_;clear zhN zhM
   refine zhM _ _ ?_;clear zhN zhM
   refine zbx _ ?_;clear zbn zbx zbr zbi
   refine zhN _ ?_;clear zhN zhM
   refine Cx fun zK zhK=>?_
   simp only [go_sem,F0,F9]
   repeat' (first|apply And.intro|intro _)
   all_goals (refine Cq (fun k=>k) (fun _ _=>rfl) ?_ ((hS).plain fun _ _ h=>h) ?_;focus (first|rfl|(simp only [go_sem,F0,F9]<;>rfl)))
   all_goals (rintro v m ⟨hR,hm⟩;subst hR;subst hm)
   all_goals refine And.intro (by first|rfl|simp only [go_sem,F0,F9]) (And.intro (by first|rfl|simp only [go_sem,F0,F9]) ?_)
   all_goals simp only [go_sem,F0,F9]
   all_goals repeat' (first|apply And.intro|intro _)
   refine zhK _ ?_
   refine Cx fun zK zhK=>?_
   simp only [go_sem,F0,F9]
   repeat' (first|apply And.intro|intro _)
   all_goals (refine Bq false [] (fun k=>k) (fun _ _=>rfl) ?_ (by decide) ?_ hI.told ?_;iterate 2 (focus (first|rfl|(simp only [go_sem,F0,F9]<;>first|done|rfl|simp))))
   all_goals (rintro v m ⟨hR,hm⟩;subst hR;subst hm)
   all_goals (refine And.intro ?_ (And.intro ?_ (And.intro ?_ ?_));iterate 3 (focus (first|rfl|(simp only [go_sem,F0,F9];done)|(simp [go_sem,look,F0,F9];done))))
   all_goals (try simp only [go_sem,F0,F9])
   all_goals (try simp only [go_sem,F0,F9])
   all_goals repeat' (first|apply And.intro|intro _)
   refine zhK _ ?_
   refine Cx fun zK zhK=>?_
   simp only [go_sem,F0,F9]
   repeat' (first|apply And.intro|intro _)
   all_goals (refine Bq false [] (fun k=>k) (fun _ _=>rfl) ?_ (by decide) ?_ hM.told ?_;iterate 2 (focus (first|rfl|(simp only [go_sem,F0,F9]<;>first|done|rfl|simp))))
   all_goals (rintro v m ⟨hR,hm⟩;subst hR;subst hm)
   all_goals (refine And.intro ?_ (And.intro ?_ (And.intro ?_ ?_));iterate 3 (focus (first|rfl|(simp only [go_sem,F0,F9];done)|(simp [go_sem,look,F0,F9];done))))
   all_goals (try simp only [go_sem,F0,F9])
   all_goals (try simp only [go_sem,F0,F9])
   all_goals repeat' (first|apply And.intro|intro _)
   all_goals (refine Bq false [] (fun k=>k) (fun _ _=>rfl) ?_ (by decide) ?_ hB.told ?_;iterate 2 (focus (first|rfl|(simp only [go_sem,F0,F9]<;>first|done|rfl|simp))))
   all_goals (rintro v m ⟨hR,hm⟩;subst hR;subst hm)
   all_goals (refine And.intro ?_ (And.intro ?_ (And.intro ?_ ?_));iterate 3 (focus (first|rfl|(simp only [go_sem,F0,F9];done)|(simp [go_sem,look,F0,F9];done))))
   all_goals (try simp only [go_sem,F0,F9])
   all_goals (try simp only [go_sem,F0,F9])
   all_goals repeat' (first|apply And.intro|intro _)
   refine zhK _ ?_
   refine r0v (id:=14) [66,67,68,69,5] [0,0,0,6,1,31] [(1,4),(2,4),(3,4)] mixed (by kernel_rfl) (by simp only [go_sem]) fun zK zhK=>?_
   simp only [go_sem,F0,F9]
   repeat' (first|apply And.intro|intro _)
   refine zhK _ _ ?_ ?_
   focus (first|trivial|(simp only [go_sem];done)|(simp only [go_sem];simp;done)|(simp only [go_sem];simp;simp only [go_sem]))
   refine Dx ?_
   refine zhZ _ _ ?_
   simp only [go_sem,F0,F9]
   all_goals (exact told_plain (by simp [Fj,Hz,Az]) ⟨by rw [hlad,tell,hb],rfl⟩)
 · obtain ⟨n,hn⟩: ∃ n,fM P1 (pw P2 eP)=n:=⟨_,rfl⟩
   have hnl:n<p25:=by rw [←hn];exact Qq _ _
   have hlad:f1v k u=n:=by
    rw [f1v,hkc,hU]
    change (oft kc U 255).1=_ at hP
    rw [hP,hn]
   obtain ⟨b,hb⟩: ∃ b,wB n=b:=⟨_,rfl⟩
   have hbl:b.length=32:=by rw [←hb];exact f0o n
   have hne:=c2y hbl
   obtain ⟨s0,s1,s2,s3,hs,hvs⟩:=Dz n (pm4 hnl)
   have hus:w4C n=[.pl (.u64 s0),.pl (.u64 s1),.pl (.u64 s2),.pl (.u64 s3)]:=by rw [w4C,hs];rfl
   have hbs:by4 s0 s1 s2 s3=b:=by rw [←hb];exact q1d hs
   have hi:dn 0= -1:=rfl
   obtain ⟨fx0,fx1,fx2,fx3,hfx,hvfx⟩:=Dz (P1) (pm4 l0)
   have hufx:w4C (P1)=[.pl (.u64 fx0),.pl (.u64 fx1),.pl (.u64 fx2),.pl (.u64 fx3)]:=by rw [w4C,hfx];rfl
   obtain ⟨fz0,fz1,fz2,fz3,hfz,hvfz⟩:=Dz (P2) (pm4 l1)
   have hufz:w4C (P2)=[.pl (.u64 fz0),.pl (.u64 fz1),.pl (.u64 fz2),.pl (.u64 fz3)]:=by rw [w4C,hfz];rfl
   obtain ⟨sx0,sx1,sx2,sx3,hsx,hvsx⟩:=Dz (Q1) (pm4 l2)
   have husx:w4C (Q1)=[.pl (.u64 sx0),.pl (.u64 sx1),.pl (.u64 sx2),.pl (.u64 sx3)]:=by rw [w4C,hsx];rfl
   obtain ⟨sz0,sz1,sz2,sz3,hsz,hvsz⟩:=Dz (Q2) (pm4 l3)
   have husz:w4C (Q2)=[.pl (.u64 sz0),.pl (.u64 sz1),.pl (.u64 sz2),.pl (.u64 sz3)]:=by rw [w4C,hsz];rfl
   have hr:e0c kc U 0=[.pl (.u64 sx0),.pl (.u64 sx1),.pl (.u64 sx2),.pl (.u64 sx3),.pl (.u64 fx0),.pl (.u64 fx1),.pl (.u64 fx2),.pl (.u64 fx3),.pl (.u64 sz0),.pl (.u64 sz1),.pl (.u64 sz2),.pl (.u64 sz3),.pl (.u64 fz0),.pl (.u64 fz1),.pl (.u64 fz2),.pl (.u64 fz3)]:=by rw [r0x hL hP hQ,k0p];simp only [hufx,hufz,husx,husz];rfl
   have hl8:j0m (lastB kc 0)=1:=by rw [hL];rfl
   have hS:=q1p sx0 sx1 sx2 sx3 fx0 fx1 fx2 fx3 sz0 sz1 sz2 sz3 fz0 fz1 fz2 fz3
   have hI:=p1n fz0 fz1 fz2 fz3 (by rw [hvfz];exact l1)
   rw [hvfz] at hI
   obtain ⟨iv0,iv1,iv2,iv3,hiv,hviv⟩:=Dz (pw P2 eP) (pm4 (u0x _ _))
   have huiv:w4C (pw P2 eP)=[.pl (.u64 iv0),.pl (.u64 iv1),.pl (.u64 iv2),.pl (.u64 iv3)]:=by rw [w4C,hiv];rfl
   rw [huiv] at hI
   have hM:=m1i fx0 fx1 fx2 fx3 iv0 iv1 iv2 iv3 (by rw [hvfx];exact l0) (by rw [hviv];exact u0x _ _)
   rw [hvfx,hviv,hn,hus] at hM
   have hB:=z0p s0 s1 s2 s3 (by rw [hvs];exact hnl)
   rw [hbs] at hB
   simp only [hr,hl8]
   have F15:=And.intro hi<|And.intro hbl<|hne
   refine Bz fun zN zM zhN zhM=>?_
   refine Cx fun zK zhK=>?_
   simp only [go_sem,F0,F15]
   repeat' (first|apply And.intro|intro _)
   refine zhK _ ?_
   (refine Cy ?_ ?_;focus (first|rfl|(simp [go_sem,F0,F15];done)))
   refine Ey ?_
   refine zhM _ _ ?_;clear zhN zhM
   refine zhM _ _ ?_;clear zhN zhM
   refine zbx _ ?_;clear zbn zbx zbr zbi
   refine zhN _ ?_;clear zhN zhM
   refine Cx fun zK zhK=>?_
   simp only [go_sem,F0,F15]
   repeat' (first|apply And.intro|intro _)
   all_goals (refine Cq (fun k=>k) (fun _ _=>rfl) ?_ ((hS).plain fun _ _ h=>h) ?_;focus (first|rfl|(simp only [go_sem,F0,F15]<;>rfl)))
   all_goals (rintro v m ⟨hR,hm⟩;subst hR;subst hm)
   all_goals refine And.intro (by first|rfl|simp only [go_sem,F0,F15]) (And.intro (by first|rfl|simp only [go_sem,F0,F15]) ?_)
   all_goals simp only [go_sem,F0,F15]
   all_goals repeat' (first|apply And.intro|intro _)
   refine zhK _ ?_
   refine Cx fun zK zhK=>?_
   simp only [go_sem,F0,F15]
   repeat' (first|apply And.intro|intro _)
   all_goals (refine Bq false [] (fun k=>k) (fun _ _=>rfl) ?_ (by decide) ?_ hI.told ?_;iterate 2 (focus (first|rfl|(simp only [go_sem,F0,F15]<;>first|done|rfl|simp))))
   all_goals (rintro v m ⟨hR,hm⟩;subst hR;subst hm)
   all_goals (refine And.intro ?_ (And.intro ?_ (And.intro ?_ ?_));iterate 3 (focus (first|rfl|(simp only [go_sem,F0,F15];done)|(simp [go_sem,look,F0,F15];done))))
   all_goals (try simp only [go_sem,F0,F15])
   all_goals (try simp only [go_sem,F0,F15])
   all_goals repeat' (first|apply And.intro|intro _)
   refine zhK _ ?_
   refine Cx fun zK zhK=>?_
   simp only [go_sem,F0,F15]
   repeat' (first|apply And.intro|intro _)
   all_goals (refine Bq false [] (fun k=>k) (fun _ _=>rfl) ?_ (by decide) ?_ hM.told ?_;iterate 2 (focus (first|rfl|(simp only [go_sem,F0,F15]<;>first|done|rfl|simp))))
   all_goals (rintro v m ⟨hR,hm⟩;subst hR;subst hm)
   all_goals (refine And.intro ?_ (And.intro ?_ (And.intro ?_ ?_));iterate 3 (focus (first|rfl|(simp only [go_sem,F0,F15];done)|(simp [go_sem,look,F0,F15];done))))
   all_goals (try simp only [go_sem,F0,F15])
   all_goals (try simp only [go_sem,F0,F15])
   all_goals repeat' (first|apply And.intro|intro _)
   all_goals (refine Bq false [] (fun k=>k) (fun _ _=>rfl) ?_ (by decide) ?_ hB.told ?_;iterate 2 (focus (first|rfl|(simp only [go_sem,F0,F15]<;>first|done|rfl|simp))))
   all_goals (rintro v m ⟨hR,hm⟩;subst hR;subst hm)
   all_goals (refine And.intro ?_ (And.intro ?_ (And.intro ?_ ?_));iterate 3 (focus (first|rfl|(simp only [go_sem,F0,F15];done)|(simp [go_sem,look,F0,F15];done))))
   all_goals (try simp only [go_sem,F0,F15])
   all_goals (try simp only [go_sem,F0,F15])
   all_goals repeat' (first|apply And.intro|intro _)
   refine zhK _ ?_
   refine r0v (id:=14) [66,67,68,69,5] [0,0,0,6,1,31] [(1,4),(2,4),(3,4)] mixed (by kernel_rfl) (by simp only [go_sem]) fun zK zhK=>?_
   simp only [go_sem,F0,F15]
   repeat' (first|apply And.intro|intro _)
   refine zhK _ _ ?_ ?_
   focus (first|trivial|(simp only [go_sem];done)|(simp only [go_sem];simp;done)|(simp only [go_sem];simp;simp only [go_sem]))
   refine Dx ?_
   refine zhZ _ _ ?_
   simp only [go_sem,F0,F15]
   all_goals (exact told_plain (by simp [Fj,Hz,Az]) ⟨by rw [hlad,tell,hb],rfl⟩)
 · have ht:t<255:=by omega
   obtain ⟨fx0,fx1,fx2,fx3,hfx,hvfx⟩:=Dz (P1) (pm4 l0)
   have hufx:w4C (P1)=[.pl (.u64 fx0),.pl (.u64 fx1),.pl (.u64 fx2),.pl (.u64 fx3)]:=by rw [w4C,hfx];rfl
   obtain ⟨fz0,fz1,fz2,fz3,hfz,hvfz⟩:=Dz (P2) (pm4 l1)
   have hufz:w4C (P2)=[.pl (.u64 fz0),.pl (.u64 fz1),.pl (.u64 fz2),.pl (.u64 fz3)]:=by rw [w4C,hfz];rfl
   obtain ⟨sx0,sx1,sx2,sx3,hsx,hvsx⟩:=Dz (Q1) (pm4 l2)
   have husx:w4C (Q1)=[.pl (.u64 sx0),.pl (.u64 sx1),.pl (.u64 sx2),.pl (.u64 sx3)]:=by rw [w4C,hsx];rfl
   obtain ⟨sz0,sz1,sz2,sz3,hsz,hvsz⟩:=Dz (Q2) (pm4 l3)
   have husz:w4C (Q2)=[.pl (.u64 sz0),.pl (.u64 sz1),.pl (.u64 sz2),.pl (.u64 sz3)]:=by rw [w4C,hsz];rfl
   have hr:e0c kc U (t+1)=[.pl (.u64 fx0),.pl (.u64 fx1),.pl (.u64 fx2),.pl (.u64 fx3),.pl (.u64 sx0),.pl (.u64 sx1),.pl (.u64 sx2),.pl (.u64 sx3),.pl (.u64 fz0),.pl (.u64 fz1),.pl (.u64 fz2),.pl (.u64 fz3),.pl (.u64 sz0),.pl (.u64 sz1),.pl (.u64 sz2),.pl (.u64 sz3)]:=by rw [n0r hL hP hQ,k0p];simp only [hufx,hufz,husx,husz];rfl
   have hl8:j0m (lastB kc (t+1))=0:=by rw [hL];rfl
   have hS:=q1q fx0 fx1 fx2 fx3 sx0 sx1 sx2 sx3 fz0 fz1 fz2 fz3 sz0 sz1 sz2 sz3
   have hT:=m1b fx0 fx1 fx2 fx3 sx0 sx1 sx2 sx3 fz0 fz1 fz2 fz3 sz0 sz1 sz2 sz3 f0 f1 f2 f3 P1 Q1 P2 Q2 U hvfx l0 hvsx l2 hvfz l1 hvsz l3 hvf hUl
   rw [z0k,c1v] at hT
   obtain ⟨⟨D1,D2⟩,hD⟩: ∃ p,q0u ⟨P1,P2⟩=p:=⟨_,rfl⟩
   have hDo:=i0j ⟨P1,P2⟩
   obtain ⟨⟨E1,E2⟩,hE⟩: ∃ p,b0f ⟨P1,P2⟩ ⟨Q1,Q2⟩ U=p:=⟨_,rfl⟩
   have hEo:=d0r ⟨P1,P2⟩ ⟨Q1,Q2⟩ U
   rw [hD] at hT hDo
   rw [hE] at hT hEo
   obtain ⟨m0,m1⟩:=hDo
   obtain ⟨m2,m3⟩:=hEo
   change D1<p25 at m0
   change D2<p25 at m1
   change E1<p25 at m2
   change E2<p25 at m3
   obtain ⟨gx0,gx1,gx2,gx3,hgx,hvgx⟩:=Dz (D1) (pm4 m0)
   have hugx:w4C (D1)=[.pl (.u64 gx0),.pl (.u64 gx1),.pl (.u64 gx2),.pl (.u64 gx3)]:=by rw [w4C,hgx];rfl
   obtain ⟨gz0,gz1,gz2,gz3,hgz,hvgz⟩:=Dz (D2) (pm4 m1)
   have hugz:w4C (D2)=[.pl (.u64 gz0),.pl (.u64 gz1),.pl (.u64 gz2),.pl (.u64 gz3)]:=by rw [w4C,hgz];rfl
   obtain ⟨ex0,ex1,ex2,ex3,hex,hvex⟩:=Dz (E1) (pm4 m2)
   have huex:w4C (E1)=[.pl (.u64 ex0),.pl (.u64 ex1),.pl (.u64 ex2),.pl (.u64 ex3)]:=by rw [w4C,hex];rfl
   obtain ⟨ez0,ez1,ez2,ez3,hez,hvez⟩:=Dz (E2) (pm4 m3)
   have huez:w4C (E2)=[.pl (.u64 ez0),.pl (.u64 ez1),.pl (.u64 ez2),.pl (.u64 ez3)]:=by rw [w4C,hez];rfl
   have hres:w4C D1++(w4C E1++(w4C D2++w4C E2))=[.pl (.u64 gx0),.pl (.u64 gx1),.pl (.u64 gx2),.pl (.u64 gx3),.pl (.u64 ex0),.pl (.u64 ex1),.pl (.u64 ex2),.pl (.u64 ex3),.pl (.u64 gz0),.pl (.u64 gz1),.pl (.u64 gz2),.pl (.u64 gz3),.pl (.u64 ez0),.pl (.u64 ez1),.pl (.u64 ez2),.pl (.u64 ez3)]:=by simp only [hugx,hugz,huex,huez];rfl
   simp only [hres] at hT
   have hlt2:lastB kc t=false:=by rw [last_at ht,decide_eq_false hbit]
   have hof:=z1d ht hP hQ hbit
   rw [hD,hE] at hof
   have hnx:e0c kc U t=[.pl (.u64 gx0),.pl (.u64 gx1),.pl (.u64 gx2),.pl (.u64 gx3),.pl (.u64 ex0),.pl (.u64 ex1),.pl (.u64 ex2),.pl (.u64 ex3),.pl (.u64 gz0),.pl (.u64 gz1),.pl (.u64 gz2),.pl (.u64 gz3),.pl (.u64 ez0),.pl (.u64 ez1),.pl (.u64 ez2),.pl (.u64 ez3)]:=by
    rw [n0r hlt2 (congrArg Prod.fst hof) (congrArg Prod.snd hof)];exact hres
   have hln:j0m (lastB kc t)=0:=by rw [hlt2];rfl
   have o1:=Mj (q:=kc) (i:=t/8) (by omega)
   obtain ⟨c,hc8⟩: ∃ c,kc.getD (t/8) 0=c:=⟨_,rfl⟩
   rw [hc8] at o1
   have hbw:(j1m c (t%8)).toUInt64&&&1=0:=by rw [k0e,if_neg (by rw [←hc8];exact hbit)]
   have hj:(0:Int)≤((t/8:Nat):Int)∧((t/8:Nat):Int)<32∧t/8+1≤32∧(0:Int)≤((t%8:Nat):Int)∧(0:Int)≤((t:Nat):Int):=by omega
   have htd:((t:Nat):Int).tdiv 8=((t/8:Nat):Int):=rfl
   have htm:((t:Nat):Int).tmod 8=((t%8:Nat):Int):=rfl
   have hi:dn (t+1)=((t:Nat):Int):=by unfold dn;omega
   simp only [hr,hl8]
   obtain ⟨hs1,hwd⟩:Go.RowKit.wrap64 (((t:Nat):Int)-1)=dn t∧Go.RowKit.wrap64 ((t/8:Nat):Int)=((t/8:Nat):Int):=⟨q1c (by omega),Ny rfl (by omega)⟩
   have F21:=And.intro o1<|And.intro hbw<|And.intro hj<|And.intro htd<|And.intro htm<|And.intro hi<|And.intro hs1<|hwd
   iterate 19 first
    |refine zhK _ ?_
    |(refine zhN _ ?_;clear zhN zhM)
    |(refine Cx fun zK zhK=>?_;simp only [go_sem,F0,Ay,x00,x01,x10,x11,F21];(repeat' (first|apply And.intro|intro _)))
    |(refine Av fun zK zhK=>?_;simp only [go_sem,F0,Ay,x00,x01,x10,x11,F21];(repeat' (first|apply And.intro|intro _)))
    |refine Cw ?_
    |refine Aj fun zB zbn zbx zbr zbi=>?_
    |(refine zbn _ ?_;clear zbn zbx zbr zbi)
    |(refine b0s (id:=9) mixed fun zE zhE=>?_;refine Ck (p:=0) 6 [39,40,41,42,43,44] [0,0,0,6,15,0,63,127] [] rfl (by kernel_rfl) rfl (by simp only [go_sem]) fun zR zK zhR zhK=>?_;simp only [go_sem,F0,Ay,x00,x01,x10,x11,F21];(repeat' (first|apply And.intro|intro _));(all_goals (refine Jj (fun k=>k) (.w (.agg [.pl (.u64 fx0),.pl (.u64 fx1),.pl (.u64 fx2),.pl (.u64 fx3),.pl (.u64 sx0),.pl (.u64 sx1),.pl (.u64 sx2),.pl (.u64 sx3),.pl (.u64 fz0),.pl (.u64 fz1),.pl (.u64 fz2),.pl (.u64 fz3),.pl (.u64 sz0),.pl (.u64 sz1),.pl (.u64 sz2),.pl (.u64 sz3)])) [] (fun _ _=>rfl) ?_ ((hS).plain fun _ _ h=>h) ?_ ?_;focus (first|rfl|(simp only [go_sem,F0,Ay,x00,x01,x10,x11,F21]<;>rfl))));(all_goals try (refine And.intro ?_ (And.intro ?_ (And.intro ?_ ?_))<;>first|rfl|simp only [go_sem]));(all_goals simp only [go_sem,F0,Ay,x00,x01,x10,x11,F21]);(all_goals repeat' (first|apply And.intro|intro _));refine zhK _ _ trivial (zhR _ ?_);refine Dk 2 8 rfl (by kernel_rfl) rfl rfl fun zR zhR=>?_;simp only [go_sem,F0,Ay,x00,x01,x10,x11,F21];(repeat' (first|apply And.intro|intro _));(all_goals (refine Bq false [] (fun k=>k) (fun _ _=>rfl) ?_ (by decide) ?_ hT.told ?_;iterate 2 (focus (first|rfl|(simp only [go_sem,F0,Ay,x00,x01,x10,x11,F21]<;>first|done|rfl|simp)))));(all_goals (rintro v m ⟨hR,hm⟩;subst hR;subst hm));(all_goals (refine And.intro ?_ (And.intro ?_ (And.intro ?_ ?_));iterate 3 (focus (first|rfl|(simp only [go_sem,F0,Ay,x00,x01,x10,x11,F21];done)|(simp [go_sem,look,F0,Ay,x00,x01,x10,x11,F21];done)))));(all_goals (try simp only [go_sem,F0,Ay,x00,x01,x10,x11,F21]));(all_goals (try simp only [go_sem,F0,Ay,x00,x01,x10,x11,F21]));(all_goals repeat' (first|apply And.intro|intro _));refine zhR _ ?_;refine Jy rfl (zhE _ ?_))
    |refine Bz fun zN zM zhN zhM=>?_
    |(refine Bv ?_ ?_;focus (first|rfl|(simp [go_sem,F0,Ay,x00,x01,x10,x11,F21];done)))
   refine zhN ⟨t,by omega⟩ _ ?_ ?_ ?_
   · (exact Nat.lt_succ_self t)
   · (simp only [hln,go_sem,leX,List.cons_append,List.nil_append];first|done|rfl|(simp [leX,look];done))
   · (simp only [hnx,go_sem,leX,List.cons_append,List.nil_append];first|done|rfl|(simp [leX,look];done))
 · have ht:t<255:=by omega
   obtain ⟨fx0,fx1,fx2,fx3,hfx,hvfx⟩:=Dz (Q1) (pm4 l2)
   have hufx:w4C (Q1)=[.pl (.u64 fx0),.pl (.u64 fx1),.pl (.u64 fx2),.pl (.u64 fx3)]:=by rw [w4C,hfx];rfl
   obtain ⟨fz0,fz1,fz2,fz3,hfz,hvfz⟩:=Dz (Q2) (pm4 l3)
   have hufz:w4C (Q2)=[.pl (.u64 fz0),.pl (.u64 fz1),.pl (.u64 fz2),.pl (.u64 fz3)]:=by rw [w4C,hfz];rfl
   obtain ⟨sx0,sx1,sx2,sx3,hsx,hvsx⟩:=Dz (P1) (pm4 l0)
   have husx:w4C (P1)=[.pl (.u64 sx0),.pl (.u64 sx1),.pl (.u64 sx2),.pl (.u64 sx3)]:=by rw [w4C,hsx];rfl
   obtain ⟨sz0,sz1,sz2,sz3,hsz,hvsz⟩:=Dz (P2) (pm4 l1)
   have husz:w4C (P2)=[.pl (.u64 sz0),.pl (.u64 sz1),.pl (.u64 sz2),.pl (.u64 sz3)]:=by rw [w4C,hsz];rfl
   have hr:e0c kc U (t+1)=[.pl (.u64 sx0),.pl (.u64 sx1),.pl (.u64 sx2),.pl (.u64 sx3),.pl (.u64 fx0),.pl (.u64 fx1),.pl (.u64 fx2),.pl (.u64 fx3),.pl (.u64 sz0),.pl (.u64 sz1),.pl (.u64 sz2),.pl (.u64 sz3),.pl (.u64 fz0),.pl (.u64 fz1),.pl (.u64 fz2),.pl (.u64 fz3)]:=by rw [n0r hL hP hQ,k0p];simp only [hufx,hufz,husx,husz];rfl
   have hl8:j0m (lastB kc (t+1))=0:=by rw [hL];rfl
   have hS:=q1p sx0 sx1 sx2 sx3 fx0 fx1 fx2 fx3 sz0 sz1 sz2 sz3 fz0 fz1 fz2 fz3
   have hT:=m1b fx0 fx1 fx2 fx3 sx0 sx1 sx2 sx3 fz0 fz1 fz2 fz3 sz0 sz1 sz2 sz3 f0 f1 f2 f3 Q1 P1 Q2 P2 U hvfx l2 hvsx l0 hvfz l3 hvsz l1 hvf hUl
   rw [z0k,x0q] at hT
   obtain ⟨⟨D1,D2⟩,hD⟩: ∃ p,q0u ⟨Q1,Q2⟩=p:=⟨_,rfl⟩
   have hDo:=i0j ⟨Q1,Q2⟩
   obtain ⟨⟨E1,E2⟩,hE⟩: ∃ p,b0f ⟨P1,P2⟩ ⟨Q1,Q2⟩ U=p:=⟨_,rfl⟩
   have hEo:=d0r ⟨P1,P2⟩ ⟨Q1,Q2⟩ U
   rw [hD] at hT hDo
   rw [hE] at hT hEo
   obtain ⟨m0,m1⟩:=hDo
   obtain ⟨m2,m3⟩:=hEo
   change D1<p25 at m0
   change D2<p25 at m1
   change E1<p25 at m2
   change E2<p25 at m3
   obtain ⟨gx0,gx1,gx2,gx3,hgx,hvgx⟩:=Dz (D1) (pm4 m0)
   have hugx:w4C (D1)=[.pl (.u64 gx0),.pl (.u64 gx1),.pl (.u64 gx2),.pl (.u64 gx3)]:=by rw [w4C,hgx];rfl
   obtain ⟨gz0,gz1,gz2,gz3,hgz,hvgz⟩:=Dz (D2) (pm4 m1)
   have hugz:w4C (D2)=[.pl (.u64 gz0),.pl (.u64 gz1),.pl (.u64 gz2),.pl (.u64 gz3)]:=by rw [w4C,hgz];rfl
   obtain ⟨ex0,ex1,ex2,ex3,hex,hvex⟩:=Dz (E1) (pm4 m2)
   have huex:w4C (E1)=[.pl (.u64 ex0),.pl (.u64 ex1),.pl (.u64 ex2),.pl (.u64 ex3)]:=by rw [w4C,hex];rfl
   obtain ⟨ez0,ez1,ez2,ez3,hez,hvez⟩:=Dz (E2) (pm4 m3)
   have huez:w4C (E2)=[.pl (.u64 ez0),.pl (.u64 ez1),.pl (.u64 ez2),.pl (.u64 ez3)]:=by rw [w4C,hez];rfl
   have hres:w4C D1++(w4C E1++(w4C D2++w4C E2))=[.pl (.u64 gx0),.pl (.u64 gx1),.pl (.u64 gx2),.pl (.u64 gx3),.pl (.u64 ex0),.pl (.u64 ex1),.pl (.u64 ex2),.pl (.u64 ex3),.pl (.u64 gz0),.pl (.u64 gz1),.pl (.u64 gz2),.pl (.u64 gz3),.pl (.u64 ez0),.pl (.u64 ez1),.pl (.u64 ez2),.pl (.u64 ez3)]:=by simp only [hugx,hugz,huex,huez];rfl
   simp only [hres] at hT
   have hlt2:lastB kc t=true:=by rw [last_at ht,decide_eq_true hbit]
   have hof:=z1c ht hP hQ hbit
   rw [hD,hE] at hof
   have hnx:e0c kc U t=[.pl (.u64 gx0),.pl (.u64 gx1),.pl (.u64 gx2),.pl (.u64 gx3),.pl (.u64 ex0),.pl (.u64 ex1),.pl (.u64 ex2),.pl (.u64 ex3),.pl (.u64 gz0),.pl (.u64 gz1),.pl (.u64 gz2),.pl (.u64 gz3),.pl (.u64 ez0),.pl (.u64 ez1),.pl (.u64 ez2),.pl (.u64 ez3)]:=by
    rw [r0x hlt2 (congrArg Prod.fst hof) (congrArg Prod.snd hof)];exact hres
   have hln:j0m (lastB kc t)=1:=by rw [hlt2];rfl
   have o1:=Mj (q:=kc) (i:=t/8) (by omega)
   obtain ⟨c,hc8⟩: ∃ c,kc.getD (t/8) 0=c:=⟨_,rfl⟩
   rw [hc8] at o1
   have hbw:(j1m c (t%8)).toUInt64&&&1=1:=by rw [k0e,if_pos (by rw [←hc8];exact hbit)]
   have hj:(0:Int)≤((t/8:Nat):Int)∧((t/8:Nat):Int)<32∧t/8+1≤32∧(0:Int)≤((t%8:Nat):Int)∧(0:Int)≤((t:Nat):Int):=by omega
   have htd:((t:Nat):Int).tdiv 8=((t/8:Nat):Int):=rfl
   have htm:((t:Nat):Int).tmod 8=((t%8:Nat):Int):=rfl
   have hi:dn (t+1)=((t:Nat):Int):=by unfold dn;omega
   simp only [hr,hl8]
   obtain ⟨hs1,hwd⟩:Go.RowKit.wrap64 (((t:Nat):Int)-1)=dn t∧Go.RowKit.wrap64 ((t/8:Nat):Int)=((t/8:Nat):Int):=⟨q1c (by omega),Ny rfl (by omega)⟩
   have F32:=And.intro o1<|And.intro hbw<|And.intro hj<|And.intro htd<|And.intro htm<|And.intro hi<|And.intro hs1<|hwd
   iterate 19 first
    |refine zhK _ ?_
    |(refine zhN _ ?_;clear zhN zhM)
    |(refine Cx fun zK zhK=>?_;simp only [go_sem,F0,Ay,x00,x01,x10,x11,F32];(repeat' (first|apply And.intro|intro _)))
    |(refine Av fun zK zhK=>?_;simp only [go_sem,F0,Ay,x00,x01,x10,x11,F32];(repeat' (first|apply And.intro|intro _)))
    |refine Cw ?_
    |refine Aj fun zB zbn zbx zbr zbi=>?_
    |(refine zbn _ ?_;clear zbn zbx zbr zbi)
    |(refine b0s (id:=9) mixed fun zE zhE=>?_;refine Ck (p:=0) 6 [39,40,41,42,43,44] [0,0,0,6,15,0,63,127] [] rfl (by kernel_rfl) rfl (by simp only [go_sem]) fun zR zK zhR zhK=>?_;simp only [go_sem,F0,Ay,x00,x01,x10,x11,F32];(repeat' (first|apply And.intro|intro _));(all_goals (refine Jj (fun k=>k) (.w (.agg [.pl (.u64 fx0),.pl (.u64 fx1),.pl (.u64 fx2),.pl (.u64 fx3),.pl (.u64 sx0),.pl (.u64 sx1),.pl (.u64 sx2),.pl (.u64 sx3),.pl (.u64 fz0),.pl (.u64 fz1),.pl (.u64 fz2),.pl (.u64 fz3),.pl (.u64 sz0),.pl (.u64 sz1),.pl (.u64 sz2),.pl (.u64 sz3)])) [] (fun _ _=>rfl) ?_ ((hS).plain fun _ _ h=>h) ?_ ?_;focus (first|rfl|(simp only [go_sem,F0,Ay,x00,x01,x10,x11,F32]<;>rfl))));(all_goals try (refine And.intro ?_ (And.intro ?_ (And.intro ?_ ?_))<;>first|rfl|simp only [go_sem]));(all_goals simp only [go_sem,F0,Ay,x00,x01,x10,x11,F32]);(all_goals repeat' (first|apply And.intro|intro _));refine zhK _ _ trivial (zhR _ ?_);refine Dk 2 8 rfl (by kernel_rfl) rfl rfl fun zR zhR=>?_;simp only [go_sem,F0,Ay,x00,x01,x10,x11,F32];(repeat' (first|apply And.intro|intro _));(all_goals (refine Bq false [] (fun k=>k) (fun _ _=>rfl) ?_ (by decide) ?_ hT.told ?_;iterate 2 (focus (first|rfl|(simp only [go_sem,F0,Ay,x00,x01,x10,x11,F32]<;>first|done|rfl|simp)))));(all_goals (rintro v m ⟨hR,hm⟩;subst hR;subst hm));(all_goals (refine And.intro ?_ (And.intro ?_ (And.intro ?_ ?_));iterate 3 (focus (first|rfl|(simp only [go_sem,F0,Ay,x00,x01,x10,x11,F32];done)|(simp [go_sem,look,F0,Ay,x00,x01,x10,x11,F32];done)))));(all_goals (try simp only [go_sem,F0,Ay,x00,x01,x10,x11,F32]));(all_goals (try simp only [go_sem,F0,Ay,x00,x01,x10,x11,F32]));(all_goals repeat' (first|apply And.intro|intro _));refine zhR _ ?_;refine Jy rfl (zhE _ ?_))
    |refine Bz fun zN zM zhN zhM=>?_
    |(refine Bv ?_ ?_;focus (first|rfl|(simp [go_sem,F0,Ay,x00,x01,x10,x11,F32];done)))
   refine zhN ⟨t,by omega⟩ _ ?_ ?_ ?_
   · (exact Nat.lt_succ_self t)
   · (simp only [hln,go_sem,leX,List.cons_append,List.nil_append];first|done|rfl|(simp [leX,look];done))
   · (simp only [hnx,go_sem,leX,List.cons_append,List.nil_append];first|done|rfl|(simp [leX,look];done))
 · have ht:t<255:=by omega
   obtain ⟨fx0,fx1,fx2,fx3,hfx,hvfx⟩:=Dz (P1) (pm4 l0)
   have hufx:w4C (P1)=[.pl (.u64 fx0),.pl (.u64 fx1),.pl (.u64 fx2),.pl (.u64 fx3)]:=by rw [w4C,hfx];rfl
   obtain ⟨fz0,fz1,fz2,fz3,hfz,hvfz⟩:=Dz (P2) (pm4 l1)
   have hufz:w4C (P2)=[.pl (.u64 fz0),.pl (.u64 fz1),.pl (.u64 fz2),.pl (.u64 fz3)]:=by rw [w4C,hfz];rfl
   obtain ⟨sx0,sx1,sx2,sx3,hsx,hvsx⟩:=Dz (Q1) (pm4 l2)
   have husx:w4C (Q1)=[.pl (.u64 sx0),.pl (.u64 sx1),.pl (.u64 sx2),.pl (.u64 sx3)]:=by rw [w4C,hsx];rfl
   obtain ⟨sz0,sz1,sz2,sz3,hsz,hvsz⟩:=Dz (Q2) (pm4 l3)
   have husz:w4C (Q2)=[.pl (.u64 sz0),.pl (.u64 sz1),.pl (.u64 sz2),.pl (.u64 sz3)]:=by rw [w4C,hsz];rfl
   have hr:e0c kc U (t+1)=[.pl (.u64 sx0),.pl (.u64 sx1),.pl (.u64 sx2),.pl (.u64 sx3),.pl (.u64 fx0),.pl (.u64 fx1),.pl (.u64 fx2),.pl (.u64 fx3),.pl (.u64 sz0),.pl (.u64 sz1),.pl (.u64 sz2),.pl (.u64 sz3),.pl (.u64 fz0),.pl (.u64 fz1),.pl (.u64 fz2),.pl (.u64 fz3)]:=by rw [r0x hL hP hQ,k0p];simp only [hufx,hufz,husx,husz];rfl
   have hl8:j0m (lastB kc (t+1))=1:=by rw [hL];rfl
   have hS:=q1p sx0 sx1 sx2 sx3 fx0 fx1 fx2 fx3 sz0 sz1 sz2 sz3 fz0 fz1 fz2 fz3
   have hT:=m1b fx0 fx1 fx2 fx3 sx0 sx1 sx2 sx3 fz0 fz1 fz2 fz3 sz0 sz1 sz2 sz3 f0 f1 f2 f3 P1 Q1 P2 Q2 U hvfx l0 hvsx l2 hvfz l1 hvsz l3 hvf hUl
   rw [z0k,c1v] at hT
   obtain ⟨⟨D1,D2⟩,hD⟩: ∃ p,q0u ⟨P1,P2⟩=p:=⟨_,rfl⟩
   have hDo:=i0j ⟨P1,P2⟩
   obtain ⟨⟨E1,E2⟩,hE⟩: ∃ p,b0f ⟨P1,P2⟩ ⟨Q1,Q2⟩ U=p:=⟨_,rfl⟩
   have hEo:=d0r ⟨P1,P2⟩ ⟨Q1,Q2⟩ U
   rw [hD] at hT hDo
   rw [hE] at hT hEo
   obtain ⟨m0,m1⟩:=hDo
   obtain ⟨m2,m3⟩:=hEo
   change D1<p25 at m0
   change D2<p25 at m1
   change E1<p25 at m2
   change E2<p25 at m3
   obtain ⟨gx0,gx1,gx2,gx3,hgx,hvgx⟩:=Dz (D1) (pm4 m0)
   have hugx:w4C (D1)=[.pl (.u64 gx0),.pl (.u64 gx1),.pl (.u64 gx2),.pl (.u64 gx3)]:=by rw [w4C,hgx];rfl
   obtain ⟨gz0,gz1,gz2,gz3,hgz,hvgz⟩:=Dz (D2) (pm4 m1)
   have hugz:w4C (D2)=[.pl (.u64 gz0),.pl (.u64 gz1),.pl (.u64 gz2),.pl (.u64 gz3)]:=by rw [w4C,hgz];rfl
   obtain ⟨ex0,ex1,ex2,ex3,hex,hvex⟩:=Dz (E1) (pm4 m2)
   have huex:w4C (E1)=[.pl (.u64 ex0),.pl (.u64 ex1),.pl (.u64 ex2),.pl (.u64 ex3)]:=by rw [w4C,hex];rfl
   obtain ⟨ez0,ez1,ez2,ez3,hez,hvez⟩:=Dz (E2) (pm4 m3)
   have huez:w4C (E2)=[.pl (.u64 ez0),.pl (.u64 ez1),.pl (.u64 ez2),.pl (.u64 ez3)]:=by rw [w4C,hez];rfl
   have hres:w4C D1++(w4C E1++(w4C D2++w4C E2))=[.pl (.u64 gx0),.pl (.u64 gx1),.pl (.u64 gx2),.pl (.u64 gx3),.pl (.u64 ex0),.pl (.u64 ex1),.pl (.u64 ex2),.pl (.u64 ex3),.pl (.u64 gz0),.pl (.u64 gz1),.pl (.u64 gz2),.pl (.u64 gz3),.pl (.u64 ez0),.pl (.u64 ez1),.pl (.u64 ez2),.pl (.u64 ez3)]:=by simp only [hugx,hugz,huex,huez];rfl
   simp only [hres] at hT
   have hlt2:lastB kc t=false:=by rw [last_at ht,decide_eq_false hbit]
   have hof:=z1d ht hP hQ hbit
   rw [hD,hE] at hof
   have hnx:e0c kc U t=[.pl (.u64 gx0),.pl (.u64 gx1),.pl (.u64 gx2),.pl (.u64 gx3),.pl (.u64 ex0),.pl (.u64 ex1),.pl (.u64 ex2),.pl (.u64 ex3),.pl (.u64 gz0),.pl (.u64 gz1),.pl (.u64 gz2),.pl (.u64 gz3),.pl (.u64 ez0),.pl (.u64 ez1),.pl (.u64 ez2),.pl (.u64 ez3)]:=by
    rw [n0r hlt2 (congrArg Prod.fst hof) (congrArg Prod.snd hof)];exact hres
   have hln:j0m (lastB kc t)=0:=by rw [hlt2];rfl
   have o1:=Mj (q:=kc) (i:=t/8) (by omega)
   obtain ⟨c,hc8⟩: ∃ c,kc.getD (t/8) 0=c:=⟨_,rfl⟩
   rw [hc8] at o1
   have hbw:(j1m c (t%8)).toUInt64&&&1=0:=by rw [k0e,if_neg (by rw [←hc8];exact hbit)]
   have hj:(0:Int)≤((t/8:Nat):Int)∧((t/8:Nat):Int)<32∧t/8+1≤32∧(0:Int)≤((t%8:Nat):Int)∧(0:Int)≤((t:Nat):Int):=by omega
   have htd:((t:Nat):Int).tdiv 8=((t/8:Nat):Int):=rfl
   have htm:((t:Nat):Int).tmod 8=((t%8:Nat):Int):=rfl
   have hi:dn (t+1)=((t:Nat):Int):=by unfold dn;omega
   simp only [hr,hl8]
   obtain ⟨hs1,hwd⟩:Go.RowKit.wrap64 (((t:Nat):Int)-1)=dn t∧Go.RowKit.wrap64 ((t/8:Nat):Int)=((t/8:Nat):Int):=⟨q1c (by omega),Ny rfl (by omega)⟩
   have F43:=And.intro o1<|And.intro hbw<|And.intro hj<|And.intro htd<|And.intro htm<|And.intro hi<|And.intro hs1<|hwd
   iterate 19 first
    |refine zhK _ ?_
    |(refine zhN _ ?_;clear zhN zhM)
    |(refine Cx fun zK zhK=>?_;simp only [go_sem,F0,Ay,x00,x01,x10,x11,F43];(repeat' (first|apply And.intro|intro _)))
    |(refine Av fun zK zhK=>?_;simp only [go_sem,F0,Ay,x00,x01,x10,x11,F43];(repeat' (first|apply And.intro|intro _)))
    |refine Cw ?_
    |refine Aj fun zB zbn zbx zbr zbi=>?_
    |(refine zbn _ ?_;clear zbn zbx zbr zbi)
    |(refine b0s (id:=9) mixed fun zE zhE=>?_;refine Ck (p:=0) 6 [39,40,41,42,43,44] [0,0,0,6,15,0,63,127] [] rfl (by kernel_rfl) rfl (by simp only [go_sem]) fun zR zK zhR zhK=>?_;simp only [go_sem,F0,Ay,x00,x01,x10,x11,F43];(repeat' (first|apply And.intro|intro _));(all_goals (refine Jj (fun k=>k) (.w (.agg [.pl (.u64 fx0),.pl (.u64 fx1),.pl (.u64 fx2),.pl (.u64 fx3),.pl (.u64 sx0),.pl (.u64 sx1),.pl (.u64 sx2),.pl (.u64 sx3),.pl (.u64 fz0),.pl (.u64 fz1),.pl (.u64 fz2),.pl (.u64 fz3),.pl (.u64 sz0),.pl (.u64 sz1),.pl (.u64 sz2),.pl (.u64 sz3)])) [] (fun _ _=>rfl) ?_ ((hS).plain fun _ _ h=>h) ?_ ?_;focus (first|rfl|(simp only [go_sem,F0,Ay,x00,x01,x10,x11,F43]<;>rfl))));(all_goals try (refine And.intro ?_ (And.intro ?_ (And.intro ?_ ?_))<;>first|rfl|simp only [go_sem]));(all_goals simp only [go_sem,F0,Ay,x00,x01,x10,x11,F43]);(all_goals repeat' (first|apply And.intro|intro _));refine zhK _ _ trivial (zhR _ ?_);refine Dk 2 8 rfl (by kernel_rfl) rfl rfl fun zR zhR=>?_;simp only [go_sem,F0,Ay,x00,x01,x10,x11,F43];(repeat' (first|apply And.intro|intro _));(all_goals (refine Bq false [] (fun k=>k) (fun _ _=>rfl) ?_ (by decide) ?_ hT.told ?_;iterate 2 (focus (first|rfl|(simp only [go_sem,F0,Ay,x00,x01,x10,x11,F43]<;>first|done|rfl|simp)))));(all_goals (rintro v m ⟨hR,hm⟩;subst hR;subst hm));(all_goals (refine And.intro ?_ (And.intro ?_ (And.intro ?_ ?_));iterate 3 (focus (first|rfl|(simp only [go_sem,F0,Ay,x00,x01,x10,x11,F43];done)|(simp [go_sem,look,F0,Ay,x00,x01,x10,x11,F43];done)))));(all_goals (try simp only [go_sem,F0,Ay,x00,x01,x10,x11,F43]));(all_goals (try simp only [go_sem,F0,Ay,x00,x01,x10,x11,F43]));(all_goals repeat' (first|apply And.intro|intro _));refine zhR _ ?_;refine Jy rfl (zhE _ ?_))
    |refine Bz fun zN zM zhN zhM=>?_
    |(refine Bv ?_ ?_;focus (first|rfl|(simp [go_sem,F0,Ay,x00,x01,x10,x11,F43];done)))
   refine zhN ⟨t,by omega⟩ _ ?_ ?_ ?_
   · (exact Nat.lt_succ_self t)
   · (simp only [hln,go_sem,leX,List.cons_append,List.nil_append];first|done|rfl|(simp [leX,look];done))
   · (simp only [hnx,go_sem,leX,List.cons_append,List.nil_append];first|done|rfl|(simp [leX,look];done))
 · have ht:t<255:=by omega
   obtain ⟨fx0,fx1,fx2,fx3,hfx,hvfx⟩:=Dz (Q1) (pm4 l2)
   have hufx:w4C (Q1)=[.pl (.u64 fx0),.pl (.u64 fx1),.pl (.u64 fx2),.pl (.u64 fx3)]:=by rw [w4C,hfx];rfl
   obtain ⟨fz0,fz1,fz2,fz3,hfz,hvfz⟩:=Dz (Q2) (pm4 l3)
   have hufz:w4C (Q2)=[.pl (.u64 fz0),.pl (.u64 fz1),.pl (.u64 fz2),.pl (.u64 fz3)]:=by rw [w4C,hfz];rfl
   obtain ⟨sx0,sx1,sx2,sx3,hsx,hvsx⟩:=Dz (P1) (pm4 l0)
   have husx:w4C (P1)=[.pl (.u64 sx0),.pl (.u64 sx1),.pl (.u64 sx2),.pl (.u64 sx3)]:=by rw [w4C,hsx];rfl
   obtain ⟨sz0,sz1,sz2,sz3,hsz,hvsz⟩:=Dz (P2) (pm4 l1)
   have husz:w4C (P2)=[.pl (.u64 sz0),.pl (.u64 sz1),.pl (.u64 sz2),.pl (.u64 sz3)]:=by rw [w4C,hsz];rfl
   have hr:e0c kc U (t+1)=[.pl (.u64 fx0),.pl (.u64 fx1),.pl (.u64 fx2),.pl (.u64 fx3),.pl (.u64 sx0),.pl (.u64 sx1),.pl (.u64 sx2),.pl (.u64 sx3),.pl (.u64 fz0),.pl (.u64 fz1),.pl (.u64 fz2),.pl (.u64 fz3),.pl (.u64 sz0),.pl (.u64 sz1),.pl (.u64 sz2),.pl (.u64 sz3)]:=by rw [r0x hL hP hQ,k0p];simp only [hufx,hufz,husx,husz];rfl
   have hl8:j0m (lastB kc (t+1))=1:=by rw [hL];rfl
   have hS:=q1q fx0 fx1 fx2 fx3 sx0 sx1 sx2 sx3 fz0 fz1 fz2 fz3 sz0 sz1 sz2 sz3
   have hT:=m1b fx0 fx1 fx2 fx3 sx0 sx1 sx2 sx3 fz0 fz1 fz2 fz3 sz0 sz1 sz2 sz3 f0 f1 f2 f3 Q1 P1 Q2 P2 U hvfx l2 hvsx l0 hvfz l3 hvsz l1 hvf hUl
   rw [z0k,x0q] at hT
   obtain ⟨⟨D1,D2⟩,hD⟩: ∃ p,q0u ⟨Q1,Q2⟩=p:=⟨_,rfl⟩
   have hDo:=i0j ⟨Q1,Q2⟩
   obtain ⟨⟨E1,E2⟩,hE⟩: ∃ p,b0f ⟨P1,P2⟩ ⟨Q1,Q2⟩ U=p:=⟨_,rfl⟩
   have hEo:=d0r ⟨P1,P2⟩ ⟨Q1,Q2⟩ U
   rw [hD] at hT hDo
   rw [hE] at hT hEo
   obtain ⟨m0,m1⟩:=hDo
   obtain ⟨m2,m3⟩:=hEo
   change D1<p25 at m0
   change D2<p25 at m1
   change E1<p25 at m2
   change E2<p25 at m3
   obtain ⟨gx0,gx1,gx2,gx3,hgx,hvgx⟩:=Dz (D1) (pm4 m0)
   have hugx:w4C (D1)=[.pl (.u64 gx0),.pl (.u64 gx1),.pl (.u64 gx2),.pl (.u64 gx3)]:=by rw [w4C,hgx];rfl
   obtain ⟨gz0,gz1,gz2,gz3,hgz,hvgz⟩:=Dz (D2) (pm4 m1)
   have hugz:w4C (D2)=[.pl (.u64 gz0),.pl (.u64 gz1),.pl (.u64 gz2),.pl (.u64 gz3)]:=by rw [w4C,hgz];rfl
   obtain ⟨ex0,ex1,ex2,ex3,hex,hvex⟩:=Dz (E1) (pm4 m2)
   have huex:w4C (E1)=[.pl (.u64 ex0),.pl (.u64 ex1),.pl (.u64 ex2),.pl (.u64 ex3)]:=by rw [w4C,hex];rfl
   obtain ⟨ez0,ez1,ez2,ez3,hez,hvez⟩:=Dz (E2) (pm4 m3)
   have huez:w4C (E2)=[.pl (.u64 ez0),.pl (.u64 ez1),.pl (.u64 ez2),.pl (.u64 ez3)]:=by rw [w4C,hez];rfl
   have hres:w4C D1++(w4C E1++(w4C D2++w4C E2))=[.pl (.u64 gx0),.pl (.u64 gx1),.pl (.u64 gx2),.pl (.u64 gx3),.pl (.u64 ex0),.pl (.u64 ex1),.pl (.u64 ex2),.pl (.u64 ex3),.pl (.u64 gz0),.pl (.u64 gz1),.pl (.u64 gz2),.pl (.u64 gz3),.pl (.u64 ez0),.pl (.u64 ez1),.pl (.u64 ez2),.pl (.u64 ez3)]:=by simp only [hugx,hugz,huex,huez];rfl
   simp only [hres] at hT
   have hlt2:lastB kc t=true:=by rw [last_at ht,decide_eq_true hbit]
   have hof:=z1c ht hP hQ hbit
   rw [hD,hE] at hof
   have hnx:e0c kc U t=[.pl (.u64 gx0),.pl (.u64 gx1),.pl (.u64 gx2),.pl (.u64 gx3),.pl (.u64 ex0),.pl (.u64 ex1),.pl (.u64 ex2),.pl (.u64 ex3),.pl (.u64 gz0),.pl (.u64 gz1),.pl (.u64 gz2),.pl (.u64 gz3),.pl (.u64 ez0),.pl (.u64 ez1),.pl (.u64 ez2),.pl (.u64 ez3)]:=by
    rw [r0x hlt2 (congrArg Prod.fst hof) (congrArg Prod.snd hof)];exact hres
   have hln:j0m (lastB kc t)=1:=by rw [hlt2];rfl
   have o1:=Mj (q:=kc) (i:=t/8) (by omega)
   obtain ⟨c,hc8⟩: ∃ c,kc.getD (t/8) 0=c:=⟨_,rfl⟩
   rw [hc8] at o1
   have hbw:(j1m c (t%8)).toUInt64&&&1=1:=by rw [k0e,if_pos (by rw [←hc8];exact hbit)]
   have hj:(0:Int)≤((t/8:Nat):Int)∧((t/8:Nat):Int)<32∧t/8+1≤32∧(0:Int)≤((t%8:Nat):Int)∧(0:Int)≤((t:Nat):Int):=by omega
   have htd:((t:Nat):Int).tdiv 8=((t/8:Nat):Int):=rfl
   have htm:((t:Nat):Int).tmod 8=((t%8:Nat):Int):=rfl
   have hi:dn (t+1)=((t:Nat):Int):=by unfold dn;omega
   simp only [hr,hl8]
   obtain ⟨hs1,hwd⟩:Go.RowKit.wrap64 (((t:Nat):Int)-1)=dn t∧Go.RowKit.wrap64 ((t/8:Nat):Int)=((t/8:Nat):Int):=⟨q1c (by omega),Ny rfl (by omega)⟩
   have F54:=And.intro o1<|And.intro hbw<|And.intro hj<|And.intro htd<|And.intro htm<|And.intro hi<|And.intro hs1<|hwd
   iterate 19 first
    |refine zhK _ ?_
    |(refine zhN _ ?_;clear zhN zhM)
    |(refine Cx fun zK zhK=>?_;simp only [go_sem,F0,Ay,x00,x01,x10,x11,F54];(repeat' (first|apply And.intro|intro _)))
    |(refine Av fun zK zhK=>?_;simp only [go_sem,F0,Ay,x00,x01,x10,x11,F54];(repeat' (first|apply And.intro|intro _)))
    |refine Cw ?_
    |refine Aj fun zB zbn zbx zbr zbi=>?_
    |(refine zbn _ ?_;clear zbn zbx zbr zbi)
    |(refine b0s (id:=9) mixed fun zE zhE=>?_;refine Ck (p:=0) 6 [39,40,41,42,43,44] [0,0,0,6,15,0,63,127] [] rfl (by kernel_rfl) rfl (by simp only [go_sem]) fun zR zK zhR zhK=>?_;simp only [go_sem,F0,Ay,x00,x01,x10,x11,F54];(repeat' (first|apply And.intro|intro _));(all_goals (refine Jj (fun k=>k) (.w (.agg [.pl (.u64 fx0),.pl (.u64 fx1),.pl (.u64 fx2),.pl (.u64 fx3),.pl (.u64 sx0),.pl (.u64 sx1),.pl (.u64 sx2),.pl (.u64 sx3),.pl (.u64 fz0),.pl (.u64 fz1),.pl (.u64 fz2),.pl (.u64 fz3),.pl (.u64 sz0),.pl (.u64 sz1),.pl (.u64 sz2),.pl (.u64 sz3)])) [] (fun _ _=>rfl) ?_ ((hS).plain fun _ _ h=>h) ?_ ?_;focus (first|rfl|(simp only [go_sem,F0,Ay,x00,x01,x10,x11,F54]<;>rfl))));(all_goals try (refine And.intro ?_ (And.intro ?_ (And.intro ?_ ?_))<;>first|rfl|simp only [go_sem]));(all_goals simp only [go_sem,F0,Ay,x00,x01,x10,x11,F54]);(all_goals repeat' (first|apply And.intro|intro _));refine zhK _ _ trivial (zhR _ ?_);refine Dk 2 8 rfl (by kernel_rfl) rfl rfl fun zR zhR=>?_;simp only [go_sem,F0,Ay,x00,x01,x10,x11,F54];(repeat' (first|apply And.intro|intro _));(all_goals (refine Bq false [] (fun k=>k) (fun _ _=>rfl) ?_ (by decide) ?_ hT.told ?_;iterate 2 (focus (first|rfl|(simp only [go_sem,F0,Ay,x00,x01,x10,x11,F54]<;>first|done|rfl|simp)))));(all_goals (rintro v m ⟨hR,hm⟩;subst hR;subst hm));(all_goals (refine And.intro ?_ (And.intro ?_ (And.intro ?_ ?_));iterate 3 (focus (first|rfl|(simp only [go_sem,F0,Ay,x00,x01,x10,x11,F54];done)|(simp [go_sem,look,F0,Ay,x00,x01,x10,x11,F54];done)))));(all_goals (try simp only [go_sem,F0,Ay,x00,x01,x10,x11,F54]));(all_goals (try simp only [go_sem,F0,Ay,x00,x01,x10,x11,F54]));(all_goals repeat' (first|apply And.intro|intro _));refine zhR _ ?_;refine Jy rfl (zhE _ ?_))
    |refine Bz fun zN zM zhN zhM=>?_
    |(refine Bv ?_ ?_;focus (first|rfl|(simp [go_sem,F0,Ay,x00,x01,x10,x11,F54];done)))
   refine zhN ⟨t,by omega⟩ _ ?_ ?_ ?_
   · (exact Nat.lt_succ_self t)
   · (simp only [hln,go_sem,leX,List.cons_append,List.nil_append];first|done|rfl|(simp [leX,look];done))
   · (simp only [hnx,go_sem,leX,List.cons_append,List.nil_append];first|done|rfl|(simp [leX,look];done))
end Lk
end Go.Sy
namespace Go.Sy
open Go.Proofs
attribute [local irreducible] Dv HT Cz Px onC onE onO onG goV goA goS Qx Dw
abbrev Z32 :List UInt8:=List.replicate 32 0
def rtN (root own peer send:List UInt8) (out:Int) (recv:List UInt8) (inn last:Int) (can hear:Bool):List L:=
 Az root++(Az own++(Az peer++(Az send++(.pl (.i out)::(Az recv++(.pl (.i inn)::.pl (.i last)::.pl (.b can)::.pl (.b hear)::[.pl (.R true 1 [])]))))))
def o0d (own peer:List UInt8):List UInt8:=wB (f1v own peer)
theorem l0j (own peer:List UInt8):(o0d own peer).length=32:=f0o _
def tells (own peer:List UInt8):Bool:=!decide (o0d own peer=Z32)
def firstT (root own peer:List UInt8):(List UInt8×List UInt8×List UInt8×List UInt8×Bool)×Int:=
 if tells own peer then ((Bk.key1 root (o0d own peer),own,peer,Bk.key2 root (o0d own peer),true),0) else ((Z32,Z32,Z32,Z32,false),12)
theorem b1d {root own peer:List UInt8} (hw:own.length=32) (hp:peer.length=32):(firstT root own peer).1.1.length=32∧(firstT root own peer).1.2.1.length=32∧(firstT root own peer).1.2.2.1.length=32∧(firstT root own peer).1.2.2.2.1.length=32:=by
 unfold firstT
 split
 · exact ⟨Bk.Mq _ _,hw,hp,Bk.Mv _ _⟩
 · exact ⟨rfl,rfl,rfl,rfl⟩
def Yv (r:(List UInt8×List UInt8×List UInt8×List UInt8×Bool)×Int):V:=.tup [.agg (rtN r.1.1 r.1.2.1 r.1.2.2.1 r.1.2.2.2.1 0 Z32 0 0 r.1.2.2.2.2 false),.one (.pl (.i r.2))]
theorem d1c (root own peer:List UInt8) (hr:root.length=32) (hw:own.length=32) (hp:peer.length=32):
 CtM Tryd.prog 11 [.w (.agg (Az root)),.w (.agg (Az own)),.w (.agg (Az peer))] [(1000001,⟨false,[.pl (.u64 18446744073709551597),.pl (.u64 18446744073709551615),.pl (.u64 18446744073709551615),.pl (.u64 9223372036854775807)]⟩),(1000003,⟨false,[.pl (.u32 1779033703),.pl (.u32 3144134277),.pl (.u32 1013904242),.pl (.u32 2773480762),.pl (.u32 1359893119),.pl (.u32 2600822924),.pl (.u32 528734635),.pl (.u32 1541459225)]⟩),(1000004,⟨false,Bk.i0r⟩)] (Told (fun v m=>v=.tup [.agg (Az (Bk.key1 root (o0d own peer))),.agg (Az (Bk.key2 root (o0d own peer))),.one (.pl (.b (tells own peer)))]∧m=[])):=by
 obtain ⟨k,hk⟩: ∃ k,o0d own peer=k:=⟨_,rfl⟩
 obtain ⟨t,ht⟩: ∃ t,tells own peer=t:=⟨_,rfl⟩
 have hkl:k.length=32:=by rw [←hk];exact l0j _ _
 have hL:=Lk.d2b own peer hw hp
 rw [show Lk.tell (f1v own peer)=.tup [.agg (Az (o0d own peer)),.one (.pl (.b (tells own peer)))] from rfl,hk,ht] at hL
 rw [hk,ht]
 obtain ⟨k1,hk1⟩: ∃ q,Bk.key1 root k=q:=⟨_,rfl⟩
 obtain ⟨k2,hk2⟩: ∃ q,Bk.key2 root k=q:=⟨_,rfl⟩
 have hl1:k1.length=32:=by rw [←hk1];exact Bk.Mq _ _
 have hl2:k2.length=32:=by rw [←hk2];exact Bk.Mv _ _
 rw [hk1,hk2]
 have hT:=(Bk.two_ root k hr (by omega) false).told
 rw [hk1,hk2] at hT
 have hch:chunks 1 32 (k.map PL.u8)=Ej k:=q0j hkl
 have F0:=And.intro hr<|And.intro hw<|And.intro hp<|And.intro hkl<|And.intro hl1<|And.intro hl2<|hch
 refine CtM.k Tryd.func11 rfl Tryd.ntmps11 (congrArg Array.toList Tryd.results11) (by simp) fun w0 ro may fx=>?_
 refine Dj fun zZ zhZ=>?_
 refine Cx fun zK zhK=>?_
 simp only [go_sem,F0]
 repeat' (first|apply And.intro|intro _)
 refine zhK _ ?_
 refine Cx fun zK zhK=>?_
 simp only [go_sem,F0]
 repeat' (first|apply And.intro|intro _)
 all_goals (refine Bq false [] (fun k=>k) (fun _ _=>rfl) ?_ (by decide) ?_ hL.told ?_;iterate 2 (focus (first|rfl|(simp only [go_sem,F0]<;>first|done|rfl|simp))))
 all_goals (rintro v m ⟨hR,hm⟩;subst hR;subst hm)
 all_goals (refine And.intro ?_ (And.intro ?_ (And.intro ?_ ?_));iterate 3 (focus (first|rfl|(simp only [go_sem,F0];done)|(simp [go_sem,look,F0];done))))
 all_goals (try simp only [go_sem,F0])
 all_goals (try simp only [go_sem,F0])
 all_goals repeat' (first|apply And.intro|intro _)
 refine zhK _ ?_
 refine Bz fun zN zM zhN zhM=>?_
 refine b0s (id:=2) mixed fun zE zhE=>?_
 refine Ck (p:=0) 4 [18,19,20,11] [0,0,3,0,15] [] rfl (by kernel_rfl) rfl (by simp only [go_sem]) fun zR zK zhR zhK=>?_
 simp only [go_sem,F0]
 repeat' (first|apply And.intro|intro _)
 all_goals (refine Bw (fun k=>k) (.w (.agg (Az k1++Az k2))) [] (fun _ _=>rfl) ?_ ?_ ?_ hT ?_ ?_;(iterate 2 (focus (first|rfl|(simp only [go_sem,F0]<;>first|done|rfl|simp))));(first|kernel_rfl|rfl|simp [Qv,Qk,pls]))
 all_goals try (refine And.intro ?_ (And.intro ?_ (And.intro ?_ ?_))<;>(first|rfl|(simp only [go_sem,F0];done)|(simp [go_sem,look,F0];done)))
 all_goals (try simp only [go_sem,F0])
 all_goals (try simp only [go_sem,F0])
 all_goals repeat' (first|apply And.intro|intro _)
 refine zhK _ _ trivial (zhR _ ?_)
 refine Dk 1 5 rfl (by kernel_rfl) rfl rfl fun zR zhR=>?_
 simp only [go_sem,F0]
 repeat' (first|apply And.intro|intro _)
 refine zhR _ ?_
 refine Jy rfl (zhE _ ?_)
 refine zhN _ ?_;clear zhN zhM
 refine Bz fun zN zM zhN zhM=>?_
 refine b0s (id:=3) mixed fun zE zhE=>?_
 refine Ck (p:=0) 7 [21,22,23,24,25] [0,1,0,4,0,3,47,127] [(2,5),(3,5),(4,5),(4,6)] rfl (by kernel_rfl) rfl (by simp only [go_sem]) fun zR zK zhR zhK=>?_
 simp only [go_sem,F0]
 repeat' (first|apply And.intro|intro _)
 refine zhK _ _ ?_ (zhR _ ?_)
 focus (first|trivial|(simp only [go_sem];done)|(simp only [go_sem];simp;done)|(simp only [go_sem];simp;simp only [go_sem]))
 refine Dk 1 8 rfl (by kernel_rfl) rfl rfl fun zR zhR=>?_
 simp only [go_sem,F0]
 repeat' (first|apply And.intro|intro _)
 refine zhR _ ?_
 refine Jy rfl (zhE _ ?_)
 refine zhN _ ?_;clear zhN zhM
 refine Dx ?_
 refine zhZ _ _ ?_
 simp only [go_sem,F0]
 all_goals (exact told_plain (by simp [Fj,Hz,Az]) ⟨rfl,rfl⟩)
theorem e1g (root own peer:List UInt8) (hr:root.length=32) (hw:own.length=32) (hp:peer.length=32):
 CtM Tryd.prog 15 [.w (.agg (Az root)),.w (.agg (Az own)),.w (.agg (Az peer))] [(1000000,⟨false,Aw Mk⟩),(1000002,⟨false,[.pl (.u32 1779033703),.pl (.u32 3144134277),.pl (.u32 1013904242),.pl (.u32 2773480762),.pl (.u32 1359893119),.pl (.u32 2600822924),.pl (.u32 528734635),.pl (.u32 1541459225)]⟩)] (Told (fun v m=>v=.tup [.agg (Az (Bk.key1 root (o0d own peer))),.agg (Az (Bk.key2 root (o0d own peer))),.one (.pl (.b (tells own peer)))]∧m=[])):=by
 obtain ⟨k,hk⟩: ∃ k,o0d own peer=k:=⟨_,rfl⟩
 obtain ⟨t,ht⟩: ∃ t,tells own peer=t:=⟨_,rfl⟩
 have hkl:k.length=32:=by rw [←hk];exact l0j _ _
 have hL:=Lk.c2n own peer hw hp
 rw [show Lk.tell (f1v own peer)=.tup [.agg (Az (o0d own peer)),.one (.pl (.b (tells own peer)))] from rfl,hk,ht] at hL
 rw [hk,ht]
 obtain ⟨k1,hk1⟩: ∃ q,Bk.key1 root k=q:=⟨_,rfl⟩
 obtain ⟨k2,hk2⟩: ∃ q,Bk.key2 root k=q:=⟨_,rfl⟩
 have hl1:k1.length=32:=by rw [←hk1];exact Bk.Mq _ _
 have hl2:k2.length=32:=by rw [←hk2];exact Bk.Mv _ _
 rw [hk1,hk2]
 obtain ⟨k3,hk3⟩: ∃ q,Bk.t1q root k=q:=⟨_,rfl⟩
 have hl3:k3.length=32:=by rw [←hk3];exact Bk.b0n _ _
 have hT:=(Bk.t1o root k hr (by omega)).told
 rw [hk1,hk2,hk3] at hT
 have hX:=f1w k hkl
 have F0:=And.intro hr<|And.intro hw<|And.intro hp<|And.intro hkl<|And.intro hl1<|And.intro hl2<|hl3
 refine CtM.k Tryd.func15 rfl Tryd.ntmps15 (congrArg Array.toList Tryd.results15) (by simp) fun w0 ro may fx=>?_
 refine Dj fun zZ zhZ=>?_
 refine Cx fun zK zhK=>?_
 simp only [go_sem,F0]
 repeat' (first|apply And.intro|intro _)
 refine zhK _ ?_
 refine Cx fun zK zhK=>?_
 simp only [go_sem,F0]
 repeat' (first|apply And.intro|intro _)
 all_goals (refine Bq false [] (fun k=>k) (fun _ _=>rfl) ?_ (by decide) ?_ hL.told ?_;iterate 2 (focus (first|rfl|(simp only [go_sem,F0]<;>first|done|rfl|simp))))
 all_goals (rintro v m ⟨hR,hm⟩;subst hR;subst hm)
 all_goals (refine And.intro ?_ (And.intro ?_ (And.intro ?_ ?_));iterate 3 (focus (first|rfl|(simp only [go_sem,F0];done)|(simp [go_sem,look,F0];done))))
 all_goals (try simp only [go_sem,F0])
 all_goals (try simp only [go_sem,F0])
 all_goals repeat' (first|apply And.intro|intro _)
 refine zhK _ ?_
 refine Bz fun zN zM zhN zhM=>?_
 refine b0s (id:=2) mixed fun zE zhE=>?_
 refine Ck (p:=0) 5 [18,19,20,21,11] [0,0,2,7,0,31] [] rfl (by kernel_rfl) rfl (by simp only [go_sem]) fun zR zK zhR zhK=>?_
 simp only [go_sem,F0]
 repeat' (first|apply And.intro|intro _)
 all_goals (refine Jj (fun k=>k) (.w (.one (.pl (.str k)))) [] (fun _ _=>rfl) ?_ (hX.plain fun _ _ h=>h) ?_ ?_;focus (first|rfl|(simp only [go_sem,F0]<;>rfl)))
 all_goals try (refine And.intro ?_ (And.intro ?_ (And.intro ?_ ?_))<;>first|rfl|simp only [go_sem])
 all_goals simp only [go_sem,F0]
 all_goals repeat' (first|apply And.intro|intro _)
 all_goals (refine Bw (fun k=>k) (.w (.agg (Az k1++(Az k2++Az k3)))) [] (fun _ _=>rfl) ?_ ?_ ?_ hT ?_ ?_;(iterate 2 (focus (first|rfl|(simp only [go_sem,F0]<;>first|done|rfl|simp))));(first|kernel_rfl|rfl|simp [Qv,Qk,pls]))
 all_goals try (refine And.intro ?_ (And.intro ?_ (And.intro ?_ ?_))<;>(first|rfl|(simp only [go_sem,F0];done)|(simp [go_sem,look,F0];done)))
 all_goals (try simp only [go_sem,F0])
 all_goals (try simp only [go_sem,F0])
 all_goals repeat' (first|apply And.intro|intro _)
 refine zhK _ _ trivial (zhR _ ?_)
 refine Dk 1 6 rfl (by kernel_rfl) rfl rfl fun zR zhR=>?_
 simp only [go_sem,F0]
 repeat' (first|apply And.intro|intro _)
 refine zhR _ ?_
 refine Jy rfl (zhE _ ?_)
 refine zhN _ ?_;clear zhN zhM
 refine Bz fun zN zM zhN zhM=>?_
 refine b0s (id:=3) mixed fun zE zhE=>?_
 refine Ck (p:=0) 7 [22,23,24,25,26] [0,1,0,4,0,3,47,127] [(2,5),(3,5),(4,5),(4,6)] rfl (by kernel_rfl) rfl (by simp only [go_sem]) fun zR zK zhR zhK=>?_
 simp only [go_sem,F0]
 repeat' (first|apply And.intro|intro _)
 refine zhK _ _ ?_ (zhR _ ?_)
 focus (first|trivial|(simp only [go_sem];done)|(simp only [go_sem];simp;done)|(simp only [go_sem];simp;simp only [go_sem]))
 refine Dk 1 8 rfl (by kernel_rfl) rfl rfl fun zR zhR=>?_
 simp only [go_sem,F0]
 repeat' (first|apply And.intro|intro _)
 refine zhR _ ?_
 refine Jy rfl (zhE _ ?_)
 refine zhN _ ?_;clear zhN zhM
 refine Dx ?_
 refine zhZ _ _ ?_
 simp only [go_sem,F0]
 all_goals (exact told_plain (by simp [Fj,Hz,Az]) ⟨rfl,rfl⟩)
theorem b1c (root own peer:List UInt8) (hr:root.length=32) (hw:own.length=32) (hp:peer.length=32) (ht:tells own peer=true):
 CtM Tryd.prog 5 [.w (.agg (Az root)),.w (.agg (Az own)),.w (.agg (Az peer))] [(1000001,⟨false,[.pl (.u64 18446744073709551597),.pl (.u64 18446744073709551615),.pl (.u64 18446744073709551615),.pl (.u64 9223372036854775807)]⟩),(1000003,⟨false,[.pl (.u32 1779033703),.pl (.u32 3144134277),.pl (.u32 1013904242),.pl (.u32 2773480762),.pl (.u32 1359893119),.pl (.u32 2600822924),.pl (.u32 528734635),.pl (.u32 1541459225)]⟩),(1000004,⟨false,Bk.i0r⟩)] (Told (fun v m=>v=Yv (firstT root own peer)∧m=[])):=by
 have hT:=(d1c root own peer hr hw hp).told
 obtain ⟨k1,hk1⟩: ∃ q,Bk.key1 root (o0d own peer)=q:=⟨_,rfl⟩
 obtain ⟨k2,hk2⟩: ∃ q,Bk.key2 root (o0d own peer)=q:=⟨_,rfl⟩
 have hl1:k1.length=32:=by rw [←hk1];exact Bk.Mq _ _
 have hl2:k2.length=32:=by rw [←hk2];exact Bk.Mv _ _
 rw [hk1,hk2,ht] at hT
 have F0:=And.intro hr<|And.intro hw<|And.intro hp<|And.intro hl1<|hl2
 refine CtM.k Tryd.func5 rfl Tryd.ntmps5 (congrArg Array.toList Tryd.results5) (by simp) fun w0 ro may fx=>?_
 refine Dj fun zZ zhZ=>?_
 iterate 15 first
  |(refine Cx fun zK zhK=>?_;simp only [go_sem,F0];(repeat' (first|apply And.intro|intro _)))
  |refine zhK _ ?_
  |refine Cw ?_
  |(refine zhN _ ?_;clear zhN zhM)
  |refine Dx ?_
  |(refine zhZ _ _ ?_;simp only [go_sem,F0];(all_goals (exact told_plain (by simp [Fj,Hz,Az,rtN,Yv]) ⟨by simp [Yv,firstT,ht,rtN,Az,hk1,hk2],rfl⟩)))
  |((all_goals (refine Bq false [] (fun k=>k) (fun _ _=>rfl) ?_ (by decide) ?_ hT ?_;iterate 2 (focus (first|rfl|(simp only [go_sem,F0]<;>first|done|rfl|simp)))));(all_goals (rintro v m ⟨hR,hm⟩;subst hR;subst hm));(all_goals (refine And.intro ?_ (And.intro ?_ (And.intro ?_ ?_));iterate 3 (focus (first|rfl|(simp only [go_sem,F0];done)|(simp [go_sem,look,F0];done)))));(all_goals (try simp only [go_sem,F0]));(all_goals (try simp only [go_sem,F0]));(all_goals repeat' (first|apply And.intro|intro _)))
  |refine Bz fun zN zM zhN zhM=>?_
  |(refine Cy ?_ ?_;focus (first|rfl|(simp [go_sem,F0];done)))
theorem v0q (root own peer:List UInt8) (hr:root.length=32) (hw:own.length=32) (hp:peer.length=32) (ht:tells own peer=false):
 CtM Tryd.prog 5 [.w (.agg (Az root)),.w (.agg (Az own)),.w (.agg (Az peer))] [(1000001,⟨false,[.pl (.u64 18446744073709551597),.pl (.u64 18446744073709551615),.pl (.u64 18446744073709551615),.pl (.u64 9223372036854775807)]⟩),(1000003,⟨false,[.pl (.u32 1779033703),.pl (.u32 3144134277),.pl (.u32 1013904242),.pl (.u32 2773480762),.pl (.u32 1359893119),.pl (.u32 2600822924),.pl (.u32 528734635),.pl (.u32 1541459225)]⟩),(1000004,⟨false,Bk.i0r⟩)] (Told (fun v m=>v=Yv (firstT root own peer)∧m=[])):=by
 have hT:=(d1c root own peer hr hw hp).told
 obtain ⟨k1,hk1⟩: ∃ q,Bk.key1 root (o0d own peer)=q:=⟨_,rfl⟩
 obtain ⟨k2,hk2⟩: ∃ q,Bk.key2 root (o0d own peer)=q:=⟨_,rfl⟩
 have hl1:k1.length=32:=by rw [←hk1];exact Bk.Mq _ _
 have hl2:k2.length=32:=by rw [←hk2];exact Bk.Mv _ _
 rw [hk1,hk2,ht] at hT
 have F0:=And.intro hr<|And.intro hw<|And.intro hp<|And.intro hl1<|hl2
 refine CtM.k Tryd.func5 rfl Tryd.ntmps5 (congrArg Array.toList Tryd.results5) (by simp) fun w0 ro may fx=>?_
 refine Dj fun zZ zhZ=>?_
 iterate 14 first
  |(refine Cx fun zK zhK=>?_;simp only [go_sem,F0];(repeat' (first|apply And.intro|intro _)))
  |refine zhK _ ?_
  |refine Dx ?_
  |(refine zhM _ _ ?_;clear zhN zhM)
  |(refine zhZ _ _ ?_;simp only [go_sem,F0];(all_goals (exact told_plain (by simp [Fj,Hz,Az,rtN,Yv]) ⟨by simp [Yv,firstT,ht,rtN,Az,hk1,hk2],rfl⟩)))
  |((all_goals (refine Bq false [] (fun k=>k) (fun _ _=>rfl) ?_ (by decide) ?_ hT ?_;iterate 2 (focus (first|rfl|(simp only [go_sem,F0]<;>first|done|rfl|simp)))));(all_goals (rintro v m ⟨hR,hm⟩;subst hR;subst hm));(all_goals (refine And.intro ?_ (And.intro ?_ (And.intro ?_ ?_));iterate 3 (focus (first|rfl|(simp only [go_sem,F0];done)|(simp [go_sem,look,F0];done)))));(all_goals (try simp only [go_sem,F0]));(all_goals (try simp only [go_sem,F0]));(all_goals repeat' (first|apply And.intro|intro _)))
  |refine Bz fun zN zM zhN zhM=>?_
  |(refine Bv ?_ ?_;focus (first|rfl|(simp [go_sem,F0];done)))
theorem a2p (root own peer:List UInt8) (hr:root.length=32) (hw:own.length=32) (hp:peer.length=32):CtM Tryd.prog 5 [.w (.agg (Az root)),.w (.agg (Az own)),.w (.agg (Az peer))] [(1000001,⟨false,[.pl (.u64 18446744073709551597),.pl (.u64 18446744073709551615),.pl (.u64 18446744073709551615),.pl (.u64 9223372036854775807)]⟩),(1000003,⟨false,[.pl (.u32 1779033703),.pl (.u32 3144134277),.pl (.u32 1013904242),.pl (.u32 2773480762),.pl (.u32 1359893119),.pl (.u32 2600822924),.pl (.u32 528734635),.pl (.u32 1541459225)]⟩),(1000004,⟨false,Bk.i0r⟩)] (fun v m=>v=Yv (firstT root own peer)∧m=[]):=by
 cases ht:tells own peer with
 |true=>exact (b1c root own peer hr hw hp ht).told
 |false=>exact (v0q root own peer hr hw hp ht).told
theorem u0p (root own peer:List UInt8) (hr:root.length=32) (hw:own.length=32) (hp:peer.length=32) (ht:tells own peer=true):
 CtM Tryd.prog 8 [.w (.agg (Az root)),.w (.agg (Az own)),.w (.agg (Az peer))] [(1000000,⟨false,Aw Mk⟩),(1000002,⟨false,[.pl (.u32 1779033703),.pl (.u32 3144134277),.pl (.u32 1013904242),.pl (.u32 2773480762),.pl (.u32 1359893119),.pl (.u32 2600822924),.pl (.u32 528734635),.pl (.u32 1541459225)]⟩)] (Told (fun v m=>v=Yv (firstT root own peer)∧m=[])):=by
 have hT:=(e1g root own peer hr hw hp).told
 obtain ⟨k1,hk1⟩: ∃ q,Bk.key1 root (o0d own peer)=q:=⟨_,rfl⟩
 obtain ⟨k2,hk2⟩: ∃ q,Bk.key2 root (o0d own peer)=q:=⟨_,rfl⟩
 have hl1:k1.length=32:=by rw [←hk1];exact Bk.Mq _ _
 have hl2:k2.length=32:=by rw [←hk2];exact Bk.Mv _ _
 rw [hk1,hk2,ht] at hT
 have F0:=And.intro hr<|And.intro hw<|And.intro hp<|And.intro hl1<|hl2
 refine CtM.k Tryd.func8 rfl Tryd.ntmps8 (congrArg Array.toList Tryd.results8) (by simp) fun w0 ro may fx=>?_
 refine Dj fun zZ zhZ=>?_
 iterate 15 first
  |(refine Cx fun zK zhK=>?_;simp only [go_sem,F0];(repeat' (first|apply And.intro|intro _)))
  |refine zhK _ ?_
  |refine Cw ?_
  |(refine zhN _ ?_;clear zhN zhM)
  |refine Dx ?_
  |(refine zhZ _ _ ?_;simp only [go_sem,F0];(all_goals (exact told_plain (by simp [Fj,Hz,Az,rtN,Yv]) ⟨by simp [Yv,firstT,ht,rtN,Az,hk1,hk2],rfl⟩)))
  |((all_goals (refine Bq false [] (fun k=>k) (fun _ _=>rfl) ?_ (by decide) ?_ hT ?_;iterate 2 (focus (first|rfl|(simp only [go_sem,F0]<;>first|done|rfl|simp)))));(all_goals (rintro v m ⟨hR,hm⟩;subst hR;subst hm));(all_goals (refine And.intro ?_ (And.intro ?_ (And.intro ?_ ?_));iterate 3 (focus (first|rfl|(simp only [go_sem,F0];done)|(simp [go_sem,look,F0];done)))));(all_goals (try simp only [go_sem,F0]));(all_goals (try simp only [go_sem,F0]));(all_goals repeat' (first|apply And.intro|intro _)))
  |refine Bz fun zN zM zhN zhM=>?_
  |(refine Cy ?_ ?_;focus (first|rfl|(simp [go_sem,F0];done)))
theorem r0g (root own peer:List UInt8) (hr:root.length=32) (hw:own.length=32) (hp:peer.length=32) (ht:tells own peer=false):
 CtM Tryd.prog 8 [.w (.agg (Az root)),.w (.agg (Az own)),.w (.agg (Az peer))] [(1000000,⟨false,Aw Mk⟩),(1000002,⟨false,[.pl (.u32 1779033703),.pl (.u32 3144134277),.pl (.u32 1013904242),.pl (.u32 2773480762),.pl (.u32 1359893119),.pl (.u32 2600822924),.pl (.u32 528734635),.pl (.u32 1541459225)]⟩)] (Told (fun v m=>v=Yv (firstT root own peer)∧m=[])):=by
 have hT:=(e1g root own peer hr hw hp).told
 obtain ⟨k1,hk1⟩: ∃ q,Bk.key1 root (o0d own peer)=q:=⟨_,rfl⟩
 obtain ⟨k2,hk2⟩: ∃ q,Bk.key2 root (o0d own peer)=q:=⟨_,rfl⟩
 have hl1:k1.length=32:=by rw [←hk1];exact Bk.Mq _ _
 have hl2:k2.length=32:=by rw [←hk2];exact Bk.Mv _ _
 rw [hk1,hk2,ht] at hT
 have F0:=And.intro hr<|And.intro hw<|And.intro hp<|And.intro hl1<|hl2
 refine CtM.k Tryd.func8 rfl Tryd.ntmps8 (congrArg Array.toList Tryd.results8) (by simp) fun w0 ro may fx=>?_
 refine Dj fun zZ zhZ=>?_
 iterate 14 first
  |(refine Cx fun zK zhK=>?_;simp only [go_sem,F0];(repeat' (first|apply And.intro|intro _)))
  |refine zhK _ ?_
  |refine Dx ?_
  |(refine zhM _ _ ?_;clear zhN zhM)
  |(refine zhZ _ _ ?_;simp only [go_sem,F0];(all_goals (exact told_plain (by simp [Fj,Hz,Az,rtN,Yv]) ⟨by simp [Yv,firstT,ht,rtN,Az,hk1,hk2],rfl⟩)))
  |((all_goals (refine Bq false [] (fun k=>k) (fun _ _=>rfl) ?_ (by decide) ?_ hT ?_;iterate 2 (focus (first|rfl|(simp only [go_sem,F0]<;>first|done|rfl|simp)))));(all_goals (rintro v m ⟨hR,hm⟩;subst hR;subst hm));(all_goals (refine And.intro ?_ (And.intro ?_ (And.intro ?_ ?_));iterate 3 (focus (first|rfl|(simp only [go_sem,F0];done)|(simp [go_sem,look,F0];done)))));(all_goals (try simp only [go_sem,F0]));(all_goals (try simp only [go_sem,F0]));(all_goals repeat' (first|apply And.intro|intro _)))
  |refine Bz fun zN zM zhN zhM=>?_
  |(refine Bv ?_ ?_;focus (first|rfl|(simp [go_sem,F0];done)))
theorem q1k (root own peer:List UInt8) (hr:root.length=32) (hw:own.length=32) (hp:peer.length=32):CtM Tryd.prog 8 [.w (.agg (Az root)),.w (.agg (Az own)),.w (.agg (Az peer))] [(1000000,⟨false,Aw Mk⟩),(1000002,⟨false,[.pl (.u32 1779033703),.pl (.u32 3144134277),.pl (.u32 1013904242),.pl (.u32 2773480762),.pl (.u32 1359893119),.pl (.u32 2600822924),.pl (.u32 528734635),.pl (.u32 1541459225)]⟩)] (fun v m=>v=Yv (firstT root own peer)∧m=[]):=by
 cases ht:tells own peer with
 |true=>exact (u0p root own peer hr hw hp ht).told
 |false=>exact (r0g root own peer hr hw hp ht).told
theorem r1b (root own:List UInt8) (hr:root.length=32) (hw:own.length=32):
 Ct Tryd.prog 6 [.w (.agg (Az root)),.w (.agg (Az own))] (Told (fun v m=>v=.w (.agg (rtN root own Z32 Z32 0 Z32 0 0 false false))∧m=[])):=by
 refine Ct.k Tryd.func6 rfl Tryd.ntmps6 (congrArg Array.toList Tryd.results6) (by simp) fun w0 ro=>?_
 refine Dj fun zZ zhZ=>?_
 iterate 6 first
  |(refine Cx fun zK zhK=>?_;simp only [go_sem,hr,hw];(repeat' (first|apply And.intro|intro _)))
  |refine zhK _ ?_
  |refine Dx ?_
  |(refine zhZ _ _ ?_;simp only [go_sem,hr,hw];(all_goals (exact told_plain (by simp [Fj,Hz,Az]) ⟨by simp [rtN,Az],rfl⟩)))
end Go.Sy
