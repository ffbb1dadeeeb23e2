/- Walks and what they compute. CONDITIONS: those that each theorem names. -/
import Derived.Test.YtlmbdhfkdhjcfaaDoorvS16
import Derived.Test.YtlmbdhfkdhjcfaaDoorvS20
import Derived.Test.YtlmbdhfkdhjcfaaDoorvS22
set_option linter.unusedVariables false
set_option linter.unusedSimpArgs false
set_option maxHeartbeats 3200000
set_option maxRecDepth 100000
namespace Go.Sy
namespace Lk
open Go.Proofs
attribute [local irreducible] Dv HT Cz Px onC onE onO onG goV goA goS Qx Dw
theorem x0n :Az (List.replicate 32 0)=[.pl (.u8 0),.pl (.u8 0),.pl (.u8 0),.pl (.u8 0),.pl (.u8 0),.pl (.u8 0),.pl (.u8 0),.pl (.u8 0),.pl (.u8 0),.pl (.u8 0),.pl (.u8 0),.pl (.u8 0),.pl (.u8 0),.pl (.u8 0),.pl (.u8 0),.pl (.u8 0),.pl (.u8 0),.pl (.u8 0),.pl (.u8 0),.pl (.u8 0),.pl (.u8 0),.pl (.u8 0),.pl (.u8 0),.pl (.u8 0),.pl (.u8 0),.pl (.u8 0),.pl (.u8 0),.pl (.u8 0),.pl (.u8 0),.pl (.u8 0),.pl (.u8 0),.pl (.u8 0)]:=rfl
theorem e1o (a b c d:UInt64) (h1:vQ a b c d<p25):
 CtM Tryd.prog 32 [.w (.agg [.pl (.u64 a),.pl (.u64 b),.pl (.u64 c),.pl (.u64 d)])] [(1000000,⟨false,Aw Mk⟩)] (Told (fun v m=>v=.tup [.agg (Az (by4 a b c d)),.one (.pl (.i 0))]∧m=[])):=by
 have hA:=in_ a b c d
 rw [decide_eq_true h1] at hA
 have hO:=of_ a b c d
 rw [←h1s] at hO
 refine CtM.k Tryd.func32 rfl Tryd.ntmps32 (congrArg Array.toList Tryd.results32) (by simp) fun w0 ro may fx=>?_
 refine Dj fun zZ zhZ=>?_
 iterate 319 first
  |(refine Cv (x:=.seq (.region 5 _ _) _) [5,6,14,15,16,17,18,19,20,21,22,23,24,25,26,27,28,29] ?_;simp only [go_sem,St.forget,fgt];refine Fq fun zN zM zhN zhM=>?_)
  |refine Fq fun zN zM zhN zhM=>?_
  |refine zhK _ ?_
  |(refine zhN _ ?_;clear zhN zhM)
  |(refine Cx fun zK zhK=>?_;simp only [go_sem,Int.toNat_one,Int.reduceTMod,Int.reduceTDiv,Int.mul_zero,x0n,q0t,Aw];(repeat' (first|apply And.intro|intro _)))
  |(refine Av fun zK zhK=>?_;simp only [go_sem,Int.toNat_one,Int.reduceTMod,Int.reduceTDiv,Int.mul_zero,x0n,q0t,Aw];(repeat' (first|apply And.intro|intro _)))
  |refine Cw ?_
  |refine Aj fun zB zbn zbx zbr zbi=>?_
  |(refine zbn _ ?_;clear zbn zbx zbr zbi)
  |(refine zhM _ _ ?_;clear zhN zhM)
  |refine Fx (x:=.seq (.region 5 _ _) _) 17 ?_
  |refine Ey ?_
  |(refine zbx _ ?_;clear zbn zbx zbr zbi)
  |refine Dx ?_
  |(refine zhZ _ _ ?_;simp only [go_sem,Int.toNat_one,Int.reduceTMod,Int.reduceTDiv,Int.mul_zero,x0n,q0t,Aw];(all_goals (exact told_plain (by simp [Fj,Hz,Az,by4,byW]) ⟨by simp only [q_lo,q_hi];rfl,rfl⟩)))
  |((all_goals (refine Bq false [] (fun k=>k) (fun _ _=>rfl) ?_ (by decide) ?_ hA.told ?_;iterate 2 (focus (first|rfl|(simp only [go_sem,Int.toNat_one,Int.reduceTMod,Int.reduceTDiv,Int.mul_zero,x0n,q0t,Aw]<;>first|done|rfl|simp)))));(all_goals (rintro v m ⟨hR,hm⟩;subst hR;subst hm));(all_goals (refine And.intro ?_ (And.intro ?_ (And.intro ?_ ?_));iterate 3 (focus (first|rfl|(simp only [go_sem,Int.toNat_one,Int.reduceTMod,Int.reduceTDiv,Int.mul_zero,x0n,q0t,Aw];done)|(simp [go_sem,look,Int.toNat_one,Int.reduceTMod,Int.reduceTDiv,Int.mul_zero,x0n,q0t,Aw];done)))));(all_goals (try simp only [go_sem,Int.toNat_one,Int.reduceTMod,Int.reduceTDiv,Int.mul_zero,x0n,q0t,Aw]));(all_goals (try simp only [go_sem,Int.toNat_one,Int.reduceTMod,Int.reduceTDiv,Int.mul_zero,x0n,q0t,Aw]));(all_goals repeat' (first|apply And.intro|intro _)))
  |((all_goals (refine Cq (fun k=>k) (fun _ _=>rfl) ?_ ((hO).plain fun _ _ h=>h) ?_;focus (first|rfl|(simp only [go_sem,Int.toNat_one,Int.reduceTMod,Int.reduceTDiv,Int.mul_zero,x0n,q0t,Aw]<;>rfl))));(all_goals (rintro v m ⟨hR,hm⟩;subst hR;subst hm));(all_goals refine And.intro (by first|rfl|simp only [go_sem,Int.toNat_one,Int.reduceTMod,Int.reduceTDiv,Int.mul_zero,x0n,q0t,Aw]) (And.intro (by first|rfl|simp only [go_sem,Int.toNat_one,Int.reduceTMod,Int.reduceTDiv,Int.mul_zero,x0n,q0t,Aw]) ?_));(all_goals simp only [go_sem,Int.toNat_one,Int.reduceTMod,Int.reduceTDiv,Int.mul_zero,x0n,q0t,Aw]);(all_goals repeat' (first|apply And.intro|intro _)))
  |refine Bz fun zN zM zhN zhM=>?_
  |(refine Bv ?_ ?_;focus (first|rfl|(simp [go_sem,Int.toNat_one,Int.reduceTMod,Int.reduceTDiv,Int.mul_zero,x0n,q0t,Aw];done)))
  |(refine Cy ?_ ?_;focus (first|rfl|(simp [go_sem,Int.toNat_one,Int.reduceTMod,Int.reduceTDiv,Int.mul_zero,x0n,q0t,Aw];done)))
end Lk
end Go.Sy
namespace Go.Sy
namespace Lk
open Go.Proofs
attribute [local irreducible] Dv HT Cz Px onC onE onO onG goV goA goS Qx Dw
theorem pm4 {n:Nat} (h:n<p25):n<115792089237316195423570985008687907853269984665640564039457584007913129639936:=by
 have:=f0z
 omega
theorem c2y {l:List UInt8} (h:l.length=32):f0j Tryd.prog 22 (Az l) (Az (List.replicate 32 0))=some (decide (l=List.replicate 32 0)):=by
 rw [ae22 (Xj h) (Xj (rfl:(List.replicate 32 (0:UInt8)).length=32)),l0v (h.trans rfl)]
def tell (n:Nat):V:=.tup [.agg (Az (wB n)),.one (.pl (.b (!decide (wB n=List.replicate 32 0))))]
theorem c2n (k u:List UInt8) (hk:k.length=32) (hu:u.length=32):
 CtM Tryd.prog 18 [.w (.agg (Az k)),.w (.agg (Az u))] [(1000000,⟨false,Aw Mk⟩)] (Told (fun v m=>v=tell (f1v k u)∧m=[])):=by
 obtain ⟨kc,hkc⟩: ∃ q,j0g k=q:=⟨_,rfl⟩
 have hkl:kc.length=32:=by rw [←hkc];exact g0u hk
 obtain ⟨U,hU⟩: ∃ n,frN u=n:=⟨_,rfl⟩
 have hUl:U<p25:=by rw [←hU];exact p1o u
 have hok:=f1c kc hUl 255
 obtain ⟨⟨P1,P2⟩,hP⟩: ∃ p,(oft kc U 255).1=p:=⟨_,rfl⟩
 obtain ⟨⟨Q1,Q2⟩,hQ⟩: ∃ p,(oft kc U 255).2=p:=⟨_,rfl⟩
 rw [hP,hQ] at hok
 obtain ⟨⟨l0,l1⟩,⟨l2,l3⟩⟩:=hok
 change P1<p25 at l0
 change P2<p25 at l1
 change Q1<p25 at l2
 change Q2<p25 at l3
 obtain ⟨n,hn⟩: ∃ n,fM P1 (pw P2 eP)=n:=⟨_,rfl⟩
 have hnl:n<p25:=by rw [←hn];exact Qq _ _
 have hlad:f1v k u=n:=by rw [f1v,hkc,hU,hP,hn]
 rw [hlad,tell]
 obtain ⟨b,hb⟩: ∃ b,wB n=b:=⟨_,rfl⟩
 have hbl:b.length=32:=by rw [←hb];exact f0o n
 have hne:=c2y hbl
 rw [hb]
 obtain ⟨s0,s1,s2,s3,hs,hvs⟩:=Dz n (pm4 hnl)
 have hus:w4C n=[.pl (.u64 s0),.pl (.u64 s1),.pl (.u64 s2),.pl (.u64 s3)]:=by rw [w4C,hs];rfl
 have hbs:by4 s0 s1 s2 s3=b:=by rw [←hb];exact q1d hs
 have hC:=r1s k hk
 rw [hkc] at hC
 have hF:=y1a u hu
 rw [hU] at hF
 obtain ⟨f0,f1,f2,f3,hf,hvf⟩:=Dz U (pm4 hUl)
 rw [show w4C U=[.pl (.u64 f0),.pl (.u64 f1),.pl (.u64 f2),.pl (.u64 f3)] from by rw [w4C,hf];rfl] at hF
 have hO:=of_ f0 f1 f2 f3
 rw [hvf] at hO
 obtain ⟨uu,huu⟩: ∃ q,D16 U=q:=⟨_,rfl⟩
 have huul:uu.length=16:=by rw [←huu];rfl
 have hT:CtM Tryd.prog 28 [.w (.agg (Az kc)),.w (.one (.pl (.i 0))),.w (.agg (Aw (D16 U)))] [(1000000,⟨false,Aw Mk⟩)] _:=p1e kc hkl U hUl 255 0 rfl
 rw [hP,hQ] at hT
 obtain ⟨xx,hxx⟩: ∃ q,D16 P1=q:=⟨_,rfl⟩
 have hxxl:xx.length=16:=by rw [←hxx];rfl
 have hxxd: ∀ i,i<16→(fL xx i).toNat<65536:=by rw [←hxx];exact Gz _
 have hxxv:Hq 65536 xx=P1:=by rw [←hxx];exact Ew (Kj l0)
 obtain ⟨zz,hzz⟩: ∃ q,D16 P2=q:=⟨_,rfl⟩
 have hzzl:zz.length=16:=by rw [←hzz];rfl
 have hzzd: ∀ i,i<16→(fL zz i).toNat<65536:=by rw [←hzz];exact Gz _
 have hzzv:Hq 65536 zz=P2:=by rw [←hzz];exact Ew (Kj l1)
 obtain ⟨yy,hyy⟩: ∃ q,D16 Q1=q:=⟨_,rfl⟩
 have hyyl:yy.length=16:=by rw [←hyy];rfl
 have hyyd: ∀ i,i<16→(fL yy i).toNat<65536:=by rw [←hyy];exact Gz _
 have hyyv:Hq 65536 yy=Q1:=by rw [←hyy];exact Ew (Kj l2)
 obtain ⟨vv,hvv⟩: ∃ q,D16 Q2=q:=⟨_,rfl⟩
 have hvvl:vv.length=16:=by rw [←hvv];rfl
 have hvvd: ∀ i,i<16→(fL vv i).toNat<65536:=by rw [←hvv];exact Gz _
 have hvvv:Hq 65536 vv=Q2:=by rw [←hvv];exact Ew (Kj l3)
 rw [huu] at hO hT
 simp only [ptC,hxx,hzz,hyy,hvv] at hT
 have hI:=e1j P2 l1
 rw [hzz] at hI
 obtain ⟨ii,hii⟩: ∃ q,D16 (pw P2 eP)=q:=⟨_,rfl⟩
 have hiil:ii.length=16:=by rw [←hii];rfl
 have hiid: ∀ i,i<16→(fL ii i).toNat<65536:=by rw [←hii];exact Gz _
 have hiiv:Hq 65536 ii=pw P2 eP:=by rw [←hii];exact Ew (Kj (u0x _ _))
 rw [hii] at hI
 have hM:=Pj xx ii hxxl hiil hxxd hiid
 rw [hxxv,hiiv,show (P1*pw P2 eP)%p25=fM P1 (pw P2 eP) from rfl,hn] at hM
 obtain ⟨nn,hnn⟩: ∃ q,D16 n=q:=⟨_,rfl⟩
 have hnnl:nn.length=16:=by rw [←hnn];rfl
 have hK:=b2e n (Kj hnl)
 rw [hnn] at hM hK
 rw [hus] at hK
 have hB:=e1o s0 s1 s2 s3 (by rw [hvs];exact hnl)
 rw [hbs] at hB
 have F0:=And.intro hk<|And.intro hu<|And.intro hkl<|And.intro hbl<|And.intro hxxl<|And.intro hzzl<|And.intro hyyl<|And.intro hvvl<|And.intro huul<|And.intro hiil<|And.intro hnnl<|hne
 refine CtM.k Tryd.func18 rfl Tryd.ntmps18 (congrArg Array.toList Tryd.results18) (by simp) fun w0 ro may fx=>?_
 refine Dj fun zZ zhZ=>?_
 refine Cx fun zK zhK=>?_
 simp only [go_sem,F0]
 repeat' (first|apply And.intro|intro _)
 refine zhK _ ?_
 refine Bz fun zN zM zhN zhM=>?_
 refine b0s (id:=1) mixed fun zE zhE=>?_
 refine Ck (p:=0) 12 [11,12,13,14,15,16,10,17,18,6,7] [0,1,0,7,15,31,63,127,127,0,0,1791,4095] [(8,11)] rfl (by kernel_rfl) rfl (by simp only [go_sem]) fun zR zK zhR zhK=>?_
 simp only [go_sem,F0]
 repeat' (first|apply And.intro|intro _)
 all_goals (refine Jj (fun k=>k) (.w (.agg (Az kc))) [] (fun _ _=>rfl) ?_ ((hC).plain fun _ _ h=>h) ?_ ?_;focus (first|rfl|(simp only [go_sem,F0]<;>rfl)))
 all_goals try (refine And.intro ?_ (And.intro ?_ (And.intro ?_ ?_))<;>first|rfl|simp only [go_sem])
 all_goals simp only [go_sem,F0]
 all_goals repeat' (first|apply And.intro|intro _)
 all_goals (refine Bw (fun k=>k) (.w (.agg [.pl (.u64 f0),.pl (.u64 f1),.pl (.u64 f2),.pl (.u64 f3)])) [] (fun _ _=>rfl) ?_ ?_ ?_ hF.told ?_ ?_;(iterate 2 (focus (first|rfl|(simp only [go_sem,F0]<;>first|done|rfl|simp))));(first|kernel_rfl|rfl|simp [Qv,Qk,pls]))
 all_goals try (refine And.intro ?_ (And.intro ?_ (And.intro ?_ ?_))<;>(first|rfl|(simp only [go_sem,F0];done)|(simp [go_sem,look,F0];done)))
 all_goals (try simp only [go_sem,F0])
 all_goals (try simp only [go_sem,F0])
 all_goals repeat' (first|apply And.intro|intro _)
 all_goals (refine Jj (fun k=>k) (.w (.agg (Aw uu))) [] (fun _ _=>rfl) ?_ ((hO).plain fun _ _ h=>h) ?_ ?_;focus (first|rfl|(simp only [go_sem,F0]<;>rfl)))
 all_goals try (refine And.intro ?_ (And.intro ?_ (And.intro ?_ ?_))<;>first|rfl|simp only [go_sem])
 all_goals simp only [go_sem,F0]
 all_goals repeat' (first|apply And.intro|intro _)
 all_goals (refine Bw (fun k=>k) (.tup [.agg (Aw xx++Aw zz),.agg (Aw yy++Aw vv)]) [] (fun _ _=>rfl) ?_ ?_ ?_ hT.told ?_ ?_;(iterate 2 (focus (first|rfl|(simp only [go_sem,F0]<;>first|done|rfl|simp))));(first|kernel_rfl|rfl|simp [Qv,Qk,pls]))
 all_goals try (refine And.intro ?_ (And.intro ?_ (And.intro ?_ ?_))<;>(first|rfl|(simp only [go_sem,F0];done)|(simp [go_sem,look,F0];done)))
 all_goals (try simp only [go_sem,F0])
 all_goals (try simp only [go_sem,F0])
 all_goals repeat' (first|apply And.intro|intro _)
 refine zhK _ _ ?_ (zhR _ ?_)
 focus (first|trivial|(simp only [go_sem];done)|(simp only [go_sem];simp;done)|(simp only [go_sem];simp;simp only [go_sem]))
 refine Dk 1 13 rfl (by kernel_rfl) rfl rfl fun zR zhR=>?_
 simp only [go_sem,F0]
 repeat' (first|apply And.intro|intro _)
 refine zhR _ ?_
 refine Jy rfl (zhE _ ?_)
 refine zhN _ ?_;clear zhN zhM
 refine Bz fun zN zM zhN zhM=>?_
 refine b0s (id:=2) mixed fun zE zhE=>?_
 refine Ck (p:=0) 13 [20,21,22,23,24,25,26,27,19,28,29,8] [0,1,0,4,12,31,63,127,255,511,511,0,3071,8191] [(10,12)] rfl (by kernel_rfl) rfl (by simp only [go_sem]) fun zR zK zhR zhK=>?_
 simp only [go_sem,F0]
 repeat' (first|apply And.intro|intro _)
 all_goals (refine Bw (fun k=>k) (.w (.agg (Aw ii))) [] (fun _ _=>rfl) ?_ ?_ ?_ hI.told ?_ ?_;(iterate 2 (focus (first|rfl|(simp only [go_sem,F0]<;>first|done|rfl|simp))));(first|kernel_rfl|rfl|simp [Qv,Qk,pls]))
 all_goals try (refine And.intro ?_ (And.intro ?_ (And.intro ?_ ?_))<;>(first|rfl|(simp only [go_sem,F0];done)|(simp [go_sem,look,F0];done)))
 all_goals (try simp only [go_sem,F0])
 all_goals (try simp only [go_sem,F0])
 all_goals repeat' (first|apply And.intro|intro _)
 all_goals (refine Bw (fun k=>k) (.w (.agg (Aw nn))) [] (fun _ _=>rfl) ?_ ?_ ?_ hM.told ?_ ?_;(iterate 2 (focus (first|rfl|(simp only [go_sem,F0]<;>first|done|rfl|simp))));(first|kernel_rfl|rfl|simp [Qv,Qk,pls]))
 all_goals try (refine And.intro ?_ (And.intro ?_ (And.intro ?_ ?_))<;>(first|rfl|(simp only [go_sem,F0];done)|(simp [go_sem,look,F0];done)))
 all_goals (try simp only [go_sem,F0])
 all_goals (try simp only [go_sem,F0])
 all_goals repeat' (first|apply And.intro|intro _)
 all_goals (refine Jj (fun k=>k) (.w (.agg [.pl (.u64 s0),.pl (.u64 s1),.pl (.u64 s2),.pl (.u64 s3)])) [] (fun _ _=>rfl) ?_ ((hK).plain fun _ _ h=>h) ?_ ?_;focus (first|rfl|(simp only [go_sem,F0]<;>rfl)))
 all_goals try (refine And.intro ?_ (And.intro ?_ (And.intro ?_ ?_))<;>first|rfl|simp only [go_sem])
 all_goals simp only [go_sem,F0]
 all_goals repeat' (first|apply And.intro|intro _)
 all_goals (refine Bw (fun k=>k) (.tup [.agg (Az b),.one (.pl (.i 0))]) [] (fun _ _=>rfl) ?_ ?_ ?_ hB.told ?_ ?_;(iterate 2 (focus (first|rfl|(simp only [go_sem,F0]<;>first|done|rfl|simp))));(first|kernel_rfl|rfl|simp [Qv,Qk,pls]))
 all_goals try (refine And.intro ?_ (And.intro ?_ (And.intro ?_ ?_))<;>(first|rfl|(simp only [go_sem,F0];done)|(simp [go_sem,look,F0];done)))
 all_goals (try simp only [go_sem,F0])
 all_goals (try simp only [go_sem,F0])
 all_goals repeat' (first|apply And.intro|intro _)
 refine zhK _ _ ?_ (zhR _ ?_)
 focus (first|trivial|(simp only [go_sem];done)|(simp only [go_sem];simp;done)|(simp only [go_sem];simp;simp only [go_sem]))
 refine Dk 1 14 rfl (by kernel_rfl) rfl rfl fun zR zhR=>?_
 simp only [go_sem,F0]
 repeat' (first|apply And.intro|intro _)
 refine zhR _ ?_
 refine Jy rfl (zhE _ ?_)
 refine zhN _ ?_;clear zhN zhM
 refine r0v (id:=3) [30,31,32,33,5] [0,0,0,6,1,31] [(1,4),(2,4),(3,4)] mixed (by kernel_rfl) (by simp only [go_sem]) fun zK zhK=>?_
 simp only [go_sem,F0]
 repeat' (first|apply And.intro|intro _)
 refine zhK _ _ ?_ ?_
 focus (first|trivial|(simp only [go_sem];done)|(simp only [go_sem];simp;done)|(simp only [go_sem];simp;simp only [go_sem]))
 refine Dx ?_
 refine zhZ _ _ ?_
 simp only [go_sem,F0]
 all_goals (exact told_plain (by simp [Fj,Hz,Az]) ⟨by first|rfl|simp,rfl⟩)
end Lk
end Go.Sy
