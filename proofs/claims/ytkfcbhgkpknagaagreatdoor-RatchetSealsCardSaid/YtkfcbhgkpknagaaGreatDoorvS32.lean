/- Walks and what they compute. CONDITIONS: those that each theorem names. -/
import Derived.Test.YtkfcbhgkpknagaaGreatDoorvE3
import Derived.Test.YtkfcbhgkpknagaaGreatDoorvS25
import Derived.Test.YtkfcbhgkpknagaaGreatDoorvS29
import Derived.Test.YtkfcbhgkpknagaaGreatDoorvS31
set_option linter.unusedVariables false
set_option linter.unusedSimpArgs false
set_option maxHeartbeats 3200000
set_option maxRecDepth 100000
namespace Go.Sy
namespace Lk
open Go.Proofs
attribute [local irreducible] Bw HT Aj Jk onC onE onO onG goV goA goS Lx Bz
theorem z32d :Az (List.replicate 32 0)=[.pl (.u8 0),.pl (.u8 0),.pl (.u8 0),.pl (.u8 0),.pl (.u8 0),.pl (.u8 0),.pl (.u8 0),.pl (.u8 0),.pl (.u8 0),.pl (.u8 0),.pl (.u8 0),.pl (.u8 0),.pl (.u8 0),.pl (.u8 0),.pl (.u8 0),.pl (.u8 0),.pl (.u8 0),.pl (.u8 0),.pl (.u8 0),.pl (.u8 0),.pl (.u8 0),.pl (.u8 0),.pl (.u8 0),.pl (.u8 0),.pl (.u8 0),.pl (.u8 0),.pl (.u8 0),.pl (.u8 0),.pl (.u8 0),.pl (.u8 0),.pl (.u8 0),.pl (.u8 0)]:=rfl
theorem n1y (a b c d:UInt64) (h1:vQ a b c d<p25):
 CtM Tryz.prog 64 [.w (.agg [.pl (.u64 a),.pl (.u64 b),.pl (.u64 c),.pl (.u64 d)])] [(1000000,⟨false,Dz Nw⟩)] (Told (fun v m=>v=.tup [.agg (Az (by4 a b c d)),.one (.pl (.i 0))]∧m=[])):=by
 have hA:=in_ a b c d
 rw [decide_eq_true h1] at hA
 have hO:=of_ a b c d
 rw [←r1p] at hO
 have F0:=yA @xB<|yA @z32d<|yA o2m.eq_1<|Dz.eq_1
 have zF:FG [7,8,9,10,11,14,15,16,17,18,19,20,21,22,23,24,25,26,27,28,29,30]:=trivial
 refine CtM.go Tryz.func64 rfl Tryz.ntmps64 Tryz.results64 fun w0 ro may fx zZ zhY=>?_
 have cq:=yA (CtM.ch [] (hA.told))<|yA (Ct.cv (hO))<|trivial
 have zU:=yA ur<|trivial
 refine (fun zX=>goW) ?_
 refine zhY _ _ ?_
 simp only [go_sem,F0,Int.reduceTMod,Int.reduceTDiv]
 all_goals (exact told_plain (by simp [Dv,Ew,Az,by4,byW]) ⟨by simp only [q_lo,q_hi];rfl,rfl⟩)
end Lk
end Go.Sy
namespace Go.Sy
namespace Lk
open Go.Proofs
attribute [local irreducible] Bw HT Aj Jk onC onE onO onG goV goA goS Lx Bz
theorem pm4 {n:Nat} (h:n<p25):n<115792089237316195423570985008687907853269984665640564039457584007913129639936:=by
 have:=j0g
 omega
theorem q2r {l:List UInt8} (h:l.length=32):c0d Tryz.prog 22 (Az l) (Az (List.replicate 32 0))=some (decide (l=List.replicate 32 0)):=by
 rw [ae22 (Sj h) (Sj (rfl:(List.replicate 32 (0:UInt8)).length=32)),k0a (h.trans rfl)]
def tell (n:Nat):V:=.tup [.agg (Az (wB n)),.one (.pl (.b (!decide (wB n=List.replicate 32 0))))]
theorem q2b (k u:List UInt8) (hk:k.length=32) (hu:u.length=32):
 CtM Tryz.prog 38 [.w (.agg (Az k)),.w (.agg (Az u))] [(1000000,⟨false,Dz Nw⟩)] (Told (fun v m=>v=tell (t0c k u)∧m=[])):=by
 obtain ⟨kc,hkc⟩: ∃ q,n0a k=q:=⟨_,rfl⟩
 have hkl:kc.length=32:=by rw [←hkc];exact k0g hk
 obtain ⟨U,hU⟩: ∃ n,frN u=n:=⟨_,rfl⟩
 have hUl:U<p25:=by rw [←hU];exact b2e u
 have hok:=o1u kc hUl 255
 obtain ⟨⟨P1,P2⟩,hP⟩: ∃ p,(oft kc U 255).1=p:=⟨_,rfl⟩
 obtain ⟨⟨Q1,Q2⟩,hQ⟩: ∃ p,(oft kc U 255).2=p:=⟨_,rfl⟩
 rw [hP,hQ] at hok
 obtain ⟨⟨l0,l1⟩,⟨l2,l3⟩⟩:=hok
 change P1<p25 at l0
 change P2<p25 at l1
 change Q1<p25 at l2
 change Q2<p25 at l3
 obtain ⟨n,hn⟩: ∃ n,fM P1 (pw P2 eP)=n:=⟨_,rfl⟩
 have hnl:n<p25:=by rw [←hn];exact Tx _ _
 have hlad:t0c k u=n:=by rw [t0c,hkc,hU,hP,hn]
 rw [hlad,tell]
 obtain ⟨b,hb⟩: ∃ b,wB n=b:=⟨_,rfl⟩
 have hbl:b.length=32:=by rw [←hb];exact Zy n
 have hne:=q2r hbl
 rw [hb]
 obtain ⟨s0,s1,s2,s3,hs,hvs⟩:=Cz n (pm4 hnl)
 have hus:w4C n=[.pl (.u64 s0),.pl (.u64 s1),.pl (.u64 s2),.pl (.u64 s3)]:=by rw [w4C,hs];rfl
 have hbs:by4 s0 s1 s2 s3=b:=by rw [←hb];exact b2v hs
 have hC:=d2r k hk
 rw [hkc] at hC
 have hF:=l2d u hu
 rw [hU] at hF
 obtain ⟨f0,f1,f2,f3,hf,hvf⟩:=Cz U (pm4 hUl)
 rw [show w4C U=[.pl (.u64 f0),.pl (.u64 f1),.pl (.u64 f2),.pl (.u64 f3)] from by rw [w4C,hf];rfl] at hF
 have hO:=of_ f0 f1 f2 f3
 rw [hvf] at hO
 obtain ⟨uu,huu⟩: ∃ q,D16 U=q:=⟨_,rfl⟩
 have huul:uu.length=16:=by rw [←huu];rfl
 have hT:CtM Tryz.prog 60 [.w (.agg (Az kc)),.w (.one (.pl (.i 0))),.w (.agg (Dz (D16 U)))] [(1000000,⟨false,Dz Nw⟩)] _:=a2s kc hkl U hUl 255 0 rfl
 rw [hP,hQ] at hT
 obtain ⟨xx,hxx⟩: ∃ q,D16 P1=q:=⟨_,rfl⟩
 have hxxl:xx.length=16:=by rw [←hxx];rfl
 have hxxd: ∀ i,i<16→(fL xx i).toNat<65536:=by rw [←hxx];exact Ej _
 have hxxv:Gw 65536 xx=P1:=by rw [←hxx];exact Cq (Mv l0)
 obtain ⟨zz,hzz⟩: ∃ q,D16 P2=q:=⟨_,rfl⟩
 have hzzl:zz.length=16:=by rw [←hzz];rfl
 have hzzd: ∀ i,i<16→(fL zz i).toNat<65536:=by rw [←hzz];exact Ej _
 have hzzv:Gw 65536 zz=P2:=by rw [←hzz];exact Cq (Mv l1)
 obtain ⟨yy,hyy⟩: ∃ q,D16 Q1=q:=⟨_,rfl⟩
 have hyyl:yy.length=16:=by rw [←hyy];rfl
 have hyyd: ∀ i,i<16→(fL yy i).toNat<65536:=by rw [←hyy];exact Ej _
 have hyyv:Gw 65536 yy=Q1:=by rw [←hyy];exact Cq (Mv l2)
 obtain ⟨vv,hvv⟩: ∃ q,D16 Q2=q:=⟨_,rfl⟩
 have hvvl:vv.length=16:=by rw [←hvv];rfl
 have hvvd: ∀ i,i<16→(fL vv i).toNat<65536:=by rw [←hvv];exact Ej _
 have hvvv:Gw 65536 vv=Q2:=by rw [←hvv];exact Cq (Mv l3)
 rw [huu] at hO hT
 simp only [ptC,hxx,hzz,hyy,hvv] at hT
 have hI:=n1r P2 l1
 rw [hzz] at hI
 obtain ⟨ii,hii⟩: ∃ q,D16 (pw P2 eP)=q:=⟨_,rfl⟩
 have hiil:ii.length=16:=by rw [←hii];rfl
 have hiid: ∀ i,i<16→(fL ii i).toNat<65536:=by rw [←hii];exact Ej _
 have hiiv:Gw 65536 ii=pw P2 eP:=by rw [←hii];exact Cq (Mv (b1w _ _))
 rw [hii] at hI
 have hM:=Rv xx ii hxxl hiil hxxd hiid
 rw [hxxv,hiiv,show (P1*pw P2 eP)%p25=fM P1 (pw P2 eP) from rfl,hn] at hM
 obtain ⟨nn,hnn⟩: ∃ q,D16 n=q:=⟨_,rfl⟩
 have hnnl:nn.length=16:=by rw [←hnn];rfl
 have hK:=o2t n (Mv hnl)
 rw [hnn] at hM hK
 rw [hus] at hK
 have hB:=n1y s0 s1 s2 s3 (by rw [hvs];exact hnl)
 rw [hbs] at hB
 have F0:=yA hk<|yA hu<|yA hkl<|yA hbl<|yA hxxl<|yA hzzl<|yA hyyl<|yA hvvl<|yA huul<|yA hiil<|yA hnnl<|hne
 refine CtM.go Tryz.func38 rfl Tryz.ntmps38 Tryz.results38 fun w0 ro may fx zZ zhY=>?_
 have cq:=yA (Ct.cv (hC))<|yA hF.told<|yA (Ct.cv (hO))<|yA hT.told<|yA hI.told<|yA hM.told<|yA (Ct.cv (hK))<|yA hB.told<|trivial
 have zd0:DQ 3 [30,31,32,33,5] [0,0,0,6,1,31] [(1,4),(2,4),(3,4)]:=⟨⟩
 have zr0:DS 1:=⟨⟩
 have zr1:DS 2:=⟨⟩
 have zq:DP 0 12 [11,12,13,14,15,16,10,17,18,6,7] [0,1,0,7,15,31,63,127,127,0,0,1791,4095] [(8,11)]∧DN 1 13∧DP 0 13 [20,21,22,23,24,25,26,27,19,28,29,8] [0,1,0,4,12,31,63,127,255,511,511,0,3071,8191] [(10,12)]∧DN 1 14∧True:=⟨⟨⟩,⟨⟩,⟨⟩,⟨⟩,trivial⟩
 refine (fun zX=>goW) ?_
 refine zhY _ _ ?_
 simp only [go_sem,F0]
 all_goals (exact told_plain (by simp [Dv,Ew,Az]) ⟨by first|rfl|simp,rfl⟩)
end Lk
end Go.Sy
