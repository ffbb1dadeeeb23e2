/- Walks and what they compute. CONDITIONS: those that each theorem names. -/
import Derived.Test.YtkfcbhgkpknagaaGreatDoorvS26
import Derived.Test.YtkfcbhgkpknagaaGreatDoorvE3
set_option linter.unusedVariables false
set_option linter.unusedSimpArgs false
namespace Go.Sy
def eP :Nat:=p25-2
def pw (n e:Nat):Nat:=n ^ e%p25
theorem b0u :0<p25:=by decide
theorem b1w (n e:Nat):pw n e<p25:=wP _ b0u
theorem a2p (n d e:Nat):pw n d*pw n e%p25=pw n (d+e):=by
 rw [pw,pw,pw,Nat.pow_add,←Nat.mul_mod]
theorem i1z (n d:Nat) (hn:n<p25):pw n d*n%p25=pw n (d+1):=by
 rw [pw,pw,vK,Nat.mod_mul_mod]
theorem o1a (n:Nat):pw n 0=1:=by
 rw [pw,Nat.pow_zero];decide
theorem l2p (n:Nat) (hn:n<p25):pw n 1=n:=by
 rw [pw,Nat.pow_one];exact yN hn
theorem v1k (n e:Nat):pw n e*pw n e%p25=pw n (2*e):=by rw [a2p,Nat.two_mul]
theorem r1n (k:Nat) (hk:k<255):eP/2 ^ k=2*(eP/2 ^ (k+1))+(if k=4∨k=2 then 0 else 1):=by
 have: ∀ k<255,eP/2 ^ k=2*(eP/2 ^ (k+1))+(if k=4∨k=2 then 0 else 1):=by decide+kernel
 exact this k hk
theorem o2l :eP/2 ^ 255=0:=by decide+kernel
def x0e (k:Nat):Nat:=eP/2 ^ k
theorem l1z :x0e 255=0:=o2l
theorem l1y :x0e 0=eP:=by simp [x0e]
theorem f1l {k:Nat} (hk:k<255) (h:k=4∨k=2):x0e k=2*x0e (k+1):=by
 have:=r1n k hk;rw [if_pos h] at this;exact this
theorem u1d {k:Nat} (hk:k<255) (h:¬(k=4∨k=2)):x0e k=2*x0e (k+1)+1:=by
 have:=r1n k hk;rw [if_neg h] at this;exact this
def exL :List UInt64:=[65515,65535,65535,65535,65535,65535,65535,65535,65535,65535,65535,65535,65535,65535,65535,32767]
theorem c0u :exL.length=16:=rfl
def s1e (i:Nat):UInt64:=Iw (exL.getD (i/16) 0) (i%16)%2
def b1e (i:Nat):Nat:=eP%2 ^ i
theorem g1l {i:Nat} (hi:i<255):b1e (i+1)=b1e i+(if s1e i=1 then 2 ^ i else 0):=by
 have: ∀ i<255,b1e (i+1)=b1e i+(if s1e i=1 then 2 ^ i else 0):=by decide+kernel
 exact this i hi
theorem x1j :b1e 0=0:=by decide+kernel
theorem x1m :b1e 255=eP:=by decide+kernel
theorem x1k {i:Nat} (hi:i<255) (h:s1e i=1):b1e (i+1)=b1e i+2 ^ i:=by rw [g1l hi,if_pos h]
theorem x1l {i:Nat} (hi:i<255) (h:¬s1e i=1):b1e (i+1)=b1e i:=by rw [g1l hi,if_neg h,vB]
theorem a2o (n i:Nat):pw n (2 ^ i)*pw n (2 ^ i)%p25=pw n (2 ^ (i+1)):=by rw [v1k,vK,vF]
end Go.Sy
namespace Go.Sy
namespace Lk
open Go.Proofs
attribute [local irreducible] Bw HT Aj Jk onC onE onO onG goV goA goS Lx Bz
theorem r1t :Dz (D16 1)=[.pl (.u64 1),.pl (.u64 0),.pl (.u64 0),.pl (.u64 0),.pl (.u64 0),.pl (.u64 0),.pl (.u64 0),.pl (.u64 0),.pl (.u64 0),.pl (.u64 0),.pl (.u64 0),.pl (.u64 0),.pl (.u64 0),.pl (.u64 0),.pl (.u64 0),.pl (.u64 0)]:=by rw [show D16 1=[1,0,0,0,0,0,0,0,0,0,0,0,0,0,0,0] from by decide+kernel];rfl
theorem s2a (n e:Nat):pw n e<m4:=by
 have:=b1w n e
 have:=j0g
 have:=f0c
 omega
theorem q2h :Nw.getD 0 0=65517:=rfl
theorem l2q :Nw.set 0 (65517-2)=exL:=by decide+kernel
set_option maxHeartbeats 3200000 in
set_option maxRecDepth 100000 in
theorem n1r (n:Nat) (hnp:n<p25):
 CtM Tryz.prog 67 [.w (.agg (Dz (D16 n)))] [(1000000,⟨false,Dz Nw⟩)] (Told (fun v m=>v=.w (.agg (Dz (D16 (pw n eP))))∧m=[])):=by
 have h0:=Kk (l:=Nw) (i:=0) (by decide)
 rw [q2h] at h0
 simp only [vR] at h0
 have p0:=Sw (q:=Nw) (j:=0) (65517-2) (by decide)
 rw [l2q] at p0
 simp only [wH,yC,xV] at p0
 have F0:=yA h0<|yA p0<|yA @Nz<|yA @t0t<|yA @c0u<|@xV
 refine CtM.go Tryz.func67 rfl Tryz.ntmps67 Tryz.results67 fun w0 ro may fx zZ zhY=>?_
 refine (fun zX=>goW) ?_
 refine Bv [0,6,7,8,9,10,11] ?_
 simp only [Bj,Cx,Bq,yI,yK,Nat.reduceBEq,beq_self_eq_true,yS,yV,yY,yT,yE,reduceIte]
 refine Gx (fun y=>[(12,.w (.one (.pl (.i ((y.1:Nat):Int)))))]) (fun y=>[(1,⟨false,Dz (D16 (pw n (2 ^ y.1)))⟩),(3,⟨false,Dz (D16 (pw n (b1e y.1)))⟩)]) (fun y=>255-y.1) (⟨0,xA _⟩:{y:Nat//y≤255}) ?_ (by (simp only [go_sem,leX,yB,yC];first|done|rfl|(simp;done))) (by (simp only [Nat.pow_zero,x1j,l2p n hnp,o1a,r1t,go_sem,leX,yB,yC];first|done|rfl|(simp [leX,look];done)))
 intro yy xN0 xM0 xhN0 xhM0
 simp only [yB,yC]
 obtain ⟨k,hk9⟩:=yy
 obtain ⟨x,hx⟩: ∃ q,D16 (pw n (2 ^ k))=q:=⟨_,rfl⟩
 have hxl:x.length=16:=by rw [←hx];rfl
 have hxd: ∀ i,i<16→(fL x i).toNat<65536:=by rw [←hx];exact Ej _
 have hxv:Gw 65536 x=pw n (2 ^ k):=by rw [←hx];exact Cq (s2a _ _)
 obtain ⟨z,hz⟩: ∃ q,D16 (pw n (b1e k))=q:=⟨_,rfl⟩
 have hzl:z.length=16:=by rw [←hz];rfl
 have hzd: ∀ i,i<16→(fL z i).toNat<65536:=by rw [←hz];exact Ej _
 have hzv:Gw 65536 z=pw n (b1e k):=by rw [←hz];exact Cq (s2a _ _)
 simp only [hx,hz]
 have hd:(k<255∧s1e k=1)∨(k<255∧¬s1e k=1)∨k=255:=by
  by_cases e1:k=255
  ·exact .inr (.inr e1)
  by_cases e2:s1e k=1
  ·exact .inl ⟨by omega,e2⟩
  exact .inr (.inl ⟨by omega,e2⟩)
 rcases hd with ⟨hlt,hb⟩|⟨hlt,hb⟩|rfl
 ·have hcq:((k:Nat):Int)<255:=by omega
  have hj0:(0:Int)≤((k/16:Nat):Int)∧((k/16:Nat):Int)<16∧k/16+1≤16∧(0:Int)≤((k%16:Nat):Int):=by omega
  have oe:=Kk (l:=exL) (i:=k/16) (by rw [c0u];omega)
  obtain ⟨v,hv⟩: ∃ v,exL.getD (k/16) 0=v:=⟨_,rfl⟩
  rw [hv] at oe
  have hbe:s1e k=Iw v (k%16)%2:=by rw [s1e,hv]
  have htd:((k:Nat):Int).tdiv 16=((k/16:Nat):Int):=rfl
  have htm:((k:Nat):Int).tmod 16=((k%16:Nat):Int):=rfl
  have hSq:=Rv x x hxl hxl hxd hxd
  rw [hxv,a2o] at hSq
  obtain ⟨y,hy⟩: ∃ q,D16 (pw n (2 ^ (k+1)))=q:=⟨_,rfl⟩
  have hyl:y.length=16:=by rw [←hy];rfl
  have hyd: ∀ i,i<16→(fL y i).toNat<65536:=by rw [←hy];exact Ej _
  rw [hy] at hSq
  rw [hbe] at hb
  have hMu:=Rv z x hzl hxl hzd hxd
  rw [hzv,hxv,a2p,←x1k hlt (hbe▸hb)] at hMu
  obtain ⟨w,hw⟩: ∃ q,D16 (pw n (b1e (k+1)))=q:=⟨_,rfl⟩
  have hwl:w.length=16:=by rw [←hw];rfl
  have hwd: ∀ i,i<16→(fL w i).toNat<65536:=by rw [←hw];exact Ej _
  rw [hw] at hMu
  obtain ⟨hs1,hwd⟩:Go.RowKit.wrap64 (((k:Nat):Int)+1)=((k+1:Nat):Int)∧Go.RowKit.wrap64 ((k/16:Nat):Int)=((k/16:Nat):Int):=⟨Gy (by omega) (by omega),Gy rfl (by omega)⟩
  have F0:=yA hcq<|yA hj0<|yA oe<|yA htd<|yA htm<|yA hb<|yA hs1<|yA hwd<|yA hxl<|yA hzl<|yA hyl<|yA @c0u<|yA hwl<|F0
  have cq:=yA (CtM.ch [] (hMu.told))<|yA (CtM.ch [] (hSq.told))<|trivial
  refine (fun zX=>goW) ?_
  refine xhN0 ⟨k+1,hlt⟩ _ ?_ ?_ ?_
  ·(exact yP hlt (yQ k))
  ·(simp only [go_sem,leX,yB,yC,F0];try simp)
  (simp only [hy,hw,go_sem,leX,yB,yC];first|done|rfl|(simp [leX,look];done))
 ·have hcq:((k:Nat):Int)<255:=by omega
  have hj0:(0:Int)≤((k/16:Nat):Int)∧((k/16:Nat):Int)<16∧k/16+1≤16∧(0:Int)≤((k%16:Nat):Int):=by omega
  have oe:=Kk (l:=exL) (i:=k/16) (by rw [c0u];omega)
  obtain ⟨v,hv⟩: ∃ v,exL.getD (k/16) 0=v:=⟨_,rfl⟩
  rw [hv] at oe
  have hbe:s1e k=Iw v (k%16)%2:=by rw [s1e,hv]
  have htd:((k:Nat):Int).tdiv 16=((k/16:Nat):Int):=rfl
  have htm:((k:Nat):Int).tmod 16=((k%16:Nat):Int):=rfl
  have hSq:=Rv x x hxl hxl hxd hxd
  rw [hxv,a2o] at hSq
  obtain ⟨y,hy⟩: ∃ q,D16 (pw n (2 ^ (k+1)))=q:=⟨_,rfl⟩
  have hyl:y.length=16:=by rw [←hy];rfl
  have hyd: ∀ i,i<16→(fL y i).toNat<65536:=by rw [←hy];exact Ej _
  rw [hy] at hSq
  have hsk:b1e (k+1)=b1e k:=x1l hlt hb
  rw [hbe] at hb
  obtain ⟨hs1,hwd⟩:Go.RowKit.wrap64 (((k:Nat):Int)+1)=((k+1:Nat):Int)∧Go.RowKit.wrap64 ((k/16:Nat):Int)=((k/16:Nat):Int):=⟨Gy (by omega) (by omega),Gy rfl (by omega)⟩
  have F0:=yA hcq<|yA hj0<|yA oe<|yA htd<|yA htm<|yA hb<|yA hs1<|yA hwd<|yA hxl<|yA hzl<|yA hyl<|yA @c0u<|F0
  have cq:=yA (CtM.ch [] (hSq.told))<|trivial
  refine (fun zX=>goW) ?_
  refine xhN0 ⟨k+1,hlt⟩ _ ?_ ?_ ?_
  ·(exact yP hlt (yQ k))
  ·(simp only [go_sem,leX,yB,yC,F0];try simp)
  (simp only [hy,hsk,hz,go_sem,leX,yB,yC];first|done|rfl|(simp [leX,look];done))
 have hcq:¬((255:Nat):Int)<255:=by omega
 rw [x1m] at hz
 have hfin:Dz (D16 (pw n eP))=Dz z:=by rw [hz]
 have F0:=yA hcq<|yA hzl<|F0
 refine (fun zX=>goW) ?_
 refine zhY _ _ ?_
 simp only [go_sem,F0]
 all_goals (exact told_plain (e0t _) ⟨by rw [hfin],rfl⟩)
end Lk
end Go.Sy
