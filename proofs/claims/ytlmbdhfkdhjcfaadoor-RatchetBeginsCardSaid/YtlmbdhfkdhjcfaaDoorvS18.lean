/- Walks and what they compute. CONDITIONS: those that each theorem names. -/
import Derived.Test.YtlmbdhfkdhjcfaaDoorvS17
set_option linter.unusedVariables false
set_option linter.unusedSimpArgs false
namespace Go.Sy
def eP :Nat:=p25-2
def pw (n e:Nat):Nat:=n ^ e%p25
theorem a0e :0<p25:=by decide
theorem u0x (n e:Nat):pw n e<p25:=Nat.mod_lt _ a0e
theorem p1b (n d e:Nat):pw n d*pw n e%p25=pw n (d+e):=by
 rw [pw,pw,pw,Nat.pow_add,←Nat.mul_mod]
theorem a1j (n d:Nat) (hn:n<p25):pw n d*n%p25=pw n (d+1):=by
 rw [pw,pw,Nat.pow_succ,Nat.mod_mul_mod]
theorem e1q (n:Nat):pw n 0=1:=by
 rw [pw,Nat.pow_zero];decide
theorem y1m (n:Nat) (hn:n<p25):pw n 1=n:=by
 rw [pw,Nat.pow_one];exact Nat.mod_eq_of_lt hn
theorem k1w (n e:Nat):pw n e*pw n e%p25=pw n (2*e):=by rw [p1b,Nat.two_mul]
theorem h1r (k:Nat) (hk:k<255):eP/2 ^ k=2*(eP/2 ^ (k+1))+(if k=4∨k=2 then 0 else 1):=by
 have: ∀ k<255,eP/2 ^ k=2*(eP/2 ^ (k+1))+(if k=4∨k=2 then 0 else 1):=by decide+kernel
 exact this k hk
theorem a2x :eP/2 ^ 255=0:=by decide+kernel
def r0d (k:Nat):Nat:=eP/2 ^ k
theorem d1f :r0d 255=0:=a2x
theorem d1e :r0d 0=eP:=by simp [r0d]
theorem x0x {k:Nat} (hk:k<255) (h:k=4∨k=2):r0d k=2*r0d (k+1):=by
 have:=h1r k hk;rw [if_pos h] at this;exact this
theorem j1w {k:Nat} (hk:k<255) (h:¬(k=4∨k=2)):r0d k=2*r0d (k+1)+1:=by
 have:=h1r k hk;rw [if_neg h] at this;exact this
def exL :List UInt64:=[65515,65535,65535,65535,65535,65535,65535,65535,65535,65535,65535,65535,65535,65535,65535,32767]
theorem Fz :exL.length=16:=rfl
def i1i (i:Nat):UInt64:=Ux (exL.getD (i/16) 0) (i%16)%2
def u0m (i:Nat):Nat:=eP%2 ^ i
theorem y0u {i:Nat} (hi:i<255):u0m (i+1)=u0m i+(if i1i i=1 then 2 ^ i else 0):=by
 have: ∀ i<255,u0m (i+1)=u0m i+(if i1i i=1 then 2 ^ i else 0):=by decide+kernel
 exact this i hi
theorem m1c :u0m 0=0:=by decide+kernel
theorem m1f :u0m 255=eP:=by decide+kernel
theorem m1d {i:Nat} (hi:i<255) (h:i1i i=1):u0m (i+1)=u0m i+2 ^ i:=by rw [y0u hi,if_pos h]
theorem m1e {i:Nat} (hi:i<255) (h:¬i1i i=1):u0m (i+1)=u0m i:=by rw [y0u hi,if_neg h,Nat.add_zero]
theorem p1a (n i:Nat):pw n (2 ^ i)*pw n (2 ^ i)%p25=pw n (2 ^ (i+1)):=by rw [k1w,Nat.pow_succ,Nat.mul_comm]
end Go.Sy
namespace Go.Sy
namespace Lk
open Go.Proofs
attribute [local irreducible] Dv HT Cz Px onC onE onO onG goV goA goS Qx Dw
theorem i1a :Aw (D16 1)=[.pl (.u64 1),.pl (.u64 0),.pl (.u64 0),.pl (.u64 0),.pl (.u64 0),.pl (.u64 0),.pl (.u64 0),.pl (.u64 0),.pl (.u64 0),.pl (.u64 0),.pl (.u64 0),.pl (.u64 0),.pl (.u64 0),.pl (.u64 0),.pl (.u64 0),.pl (.u64 0)]:=by rw [show D16 1=[1,0,0,0,0,0,0,0,0,0,0,0,0,0,0,0] from by decide+kernel];rfl
theorem d2x (n e:Nat):pw n e<m4:=by
 have:=u0x n e
 have:=f0z
 have:=c0u
 omega
theorem c2r :Mk.getD 0 0=65517:=rfl
theorem y1n :Mk.set 0 (65517-2)=exL:=by decide+kernel
set_option maxHeartbeats 3200000 in
set_option maxRecDepth 100000 in
theorem e1j (n:Nat) (hnp:n<p25):
 CtM Tryd.prog 35 [.w (.agg (Aw (D16 n)))] [(1000000,⟨false,Aw Mk⟩)] (Told (fun v m=>v=.w (.agg (Aw (D16 (pw n eP))))∧m=[])):=by
 have h0:=Nw (l:=Mk) (i:=0) (by decide)
 rw [c2r] at h0
 simp only [List.drop_zero] at h0
 have p0:=Vy (q:=Mk) (j:=0) (65517-2) (by decide)
 rw [y1n] at p0
 simp only [List.take_zero,List.nil_append,Nat.zero_add] at p0
 refine CtM.k Tryd.func35 rfl Tryd.ntmps35 (congrArg Array.toList Tryd.results35) (by simp) fun w0 ro may fx=>?_
 refine Dj fun zZ zhZ=>?_
 iterate 12 first
  |(refine Cx fun zK zhK=>?_;simp only [go_sem,h0,p0,Cj,Fy,Fz,Nat.zero_add];(repeat' (first|apply And.intro|intro _)))
  |refine zhK _ ?_
  |refine Aj fun zB zbn zbx zbr zbi=>?_
  |refine Bz fun zN zM zhN zhM=>?_
 refine Gv [0,6,7,8,9,10,11] ?_
 simp only [Gj,Iq,Gq,List.contains_cons,List.contains_nil,Nat.reduceBEq,beq_self_eq_true,Bool.or_false,Bool.or_true,Bool.true_or,Bool.false_or,Bool.false_eq_true,reduceIte]
 refine Jz (fun y=>[(12,.w (.one (.pl (.i ((y.1:Nat):Int)))))]) (fun y=>[(1,⟨false,Aw (D16 (pw n (2 ^ y.1)))⟩),(3,⟨false,Aw (D16 (pw n (u0m y.1)))⟩)]) (fun y=>255-y.1) (⟨0,Nat.zero_le _⟩:{y:Nat//y≤255}) ?_ ?_ ?_
 · (simp only [go_sem,leX,List.cons_append,List.nil_append];first|done|rfl|(simp;done))
 · (simp only [Nat.pow_zero,m1c,y1m n hnp,e1q,i1a,go_sem,leX,List.cons_append,List.nil_append];first|done|rfl|(simp [leX,look];done))
 intro yy zN zM zhN zhM
 simp only [List.cons_append,List.nil_append]
 obtain ⟨k,hk9⟩:=yy
 obtain ⟨x,hx⟩: ∃ q,D16 (pw n (2 ^ k))=q:=⟨_,rfl⟩
 have hxl:x.length=16:=by rw [←hx];rfl
 have hxd: ∀ i,i<16→(fL x i).toNat<65536:=by rw [←hx];exact Gz _
 have hxv:Hq 65536 x=pw n (2 ^ k):=by rw [←hx];exact Ew (d2x _ _)
 obtain ⟨z,hz⟩: ∃ q,D16 (pw n (u0m k))=q:=⟨_,rfl⟩
 have hzl:z.length=16:=by rw [←hz];rfl
 have hzd: ∀ i,i<16→(fL z i).toNat<65536:=by rw [←hz];exact Gz _
 have hzv:Hq 65536 z=pw n (u0m k):=by rw [←hz];exact Ew (d2x _ _)
 simp only [hx,hz]
 have hd:(k<255∧i1i k=1)∨(k<255∧¬i1i k=1)∨k=255:=by
  by_cases e1:k=255
  · exact .inr (.inr e1)
  · by_cases e2:i1i k=1
    · exact .inl ⟨by omega,e2⟩
    · exact .inr (.inl ⟨by omega,e2⟩)
 rcases hd with ⟨hlt,hb⟩|⟨hlt,hb⟩|rfl
 · have hcq:((k:Nat):Int)<255:=by omega
   have hj0:(0:Int)≤((k/16:Nat):Int)∧((k/16:Nat):Int)<16∧k/16+1≤16∧(0:Int)≤((k%16:Nat):Int):=by omega
   have oe:=Nw (l:=exL) (i:=k/16) (by rw [Fz];omega)
   obtain ⟨v,hv⟩: ∃ v,exL.getD (k/16) 0=v:=⟨_,rfl⟩
   rw [hv] at oe
   have hbe:i1i k=Ux v (k%16)%2:=by rw [i1i,hv]
   have htd:((k:Nat):Int).tdiv 16=((k/16:Nat):Int):=rfl
   have htm:((k:Nat):Int).tmod 16=((k%16:Nat):Int):=rfl
   have hSq:=Pj x x hxl hxl hxd hxd
   rw [hxv,p1a] at hSq
   obtain ⟨y,hy⟩: ∃ q,D16 (pw n (2 ^ (k+1)))=q:=⟨_,rfl⟩
   have hyl:y.length=16:=by rw [←hy];rfl
   have hyd: ∀ i,i<16→(fL y i).toNat<65536:=by rw [←hy];exact Gz _
   rw [hy] at hSq
   rw [hbe] at hb
   have hMu:=Pj z x hzl hxl hzd hxd
   rw [hzv,hxv,p1b,←m1d hlt (hbe▸hb)] at hMu
   obtain ⟨w,hw⟩: ∃ q,D16 (pw n (u0m (k+1)))=q:=⟨_,rfl⟩
   have hwl:w.length=16:=by rw [←hw];rfl
   have hwd: ∀ i,i<16→(fL w i).toNat<65536:=by rw [←hw];exact Gz _
   rw [hw] at hMu
   obtain ⟨hs1,hwd⟩:Go.RowKit.wrap64 (((k:Nat):Int)+1)=((k+1:Nat):Int)∧Go.RowKit.wrap64 ((k/16:Nat):Int)=((k/16:Nat):Int):=⟨Ny (by omega) (by omega),Ny rfl (by omega)⟩
   have F8:=And.intro hcq<|And.intro hj0<|And.intro oe<|And.intro htd<|And.intro htm<|And.intro hb<|And.intro hs1<|And.intro hwd<|And.intro hxl<|And.intro hzl<|And.intro hyl<|hwl
   iterate 25 first
    |refine zhK _ ?_
    |(refine Cx fun zK zhK=>?_;simp only [go_sem,h0,p0,Cj,Fy,Fz,Nat.zero_add,F8];(repeat' (first|apply And.intro|intro _)))
    |(refine zhN _ ?_;clear zhN zhM)
    |(refine Av fun zK zhK=>?_;simp only [go_sem,h0,p0,Cj,Fy,Fz,Nat.zero_add,F8];(repeat' (first|apply And.intro|intro _)))
    |refine Cw ?_
    |refine Aj fun zB zbn zbx zbr zbi=>?_
    |(refine zbn _ ?_;clear zbn zbx zbr zbi)
    |((all_goals (refine Bq false [] (fun k=>k) (fun _ _=>rfl) ?_ (by decide) ?_ hMu.told ?_;iterate 2 (focus (first|rfl|(simp only [go_sem,h0,p0,Cj,Fy,Fz,Nat.zero_add,F8]<;>first|done|rfl|simp)))));(all_goals (rintro v m ⟨hR,hm⟩;subst hR;subst hm));(all_goals (refine And.intro ?_ (And.intro ?_ (And.intro ?_ ?_));iterate 3 (focus (first|rfl|(simp only [go_sem,h0,p0,Cj,Fy,Fz,Nat.zero_add,F8];done)|(simp [go_sem,look,h0,p0,Cj,Fy,Fz,Nat.zero_add,F8];done)))));(all_goals (try simp only [go_sem,h0,p0,Cj,Fy,Fz,Nat.zero_add,F8]));(all_goals (try simp only [go_sem,h0,p0,Cj,Fy,Fz,Nat.zero_add,F8]));(all_goals repeat' (first|apply And.intro|intro _)))
    |((all_goals (refine Bq false [] (fun k=>k) (fun _ _=>rfl) ?_ (by decide) ?_ hSq.told ?_;iterate 2 (focus (first|rfl|(simp only [go_sem,h0,p0,Cj,Fy,Fz,Nat.zero_add,F8]<;>first|done|rfl|simp)))));(all_goals (rintro v m ⟨hR,hm⟩;subst hR;subst hm));(all_goals (refine And.intro ?_ (And.intro ?_ (And.intro ?_ ?_));iterate 3 (focus (first|rfl|(simp only [go_sem,h0,p0,Cj,Fy,Fz,Nat.zero_add,F8];done)|(simp [go_sem,look,h0,p0,Cj,Fy,Fz,Nat.zero_add,F8];done)))));(all_goals (try simp only [go_sem,h0,p0,Cj,Fy,Fz,Nat.zero_add,F8]));(all_goals (try simp only [go_sem,h0,p0,Cj,Fy,Fz,Nat.zero_add,F8]));(all_goals repeat' (first|apply And.intro|intro _)))
    |refine Bz fun zN zM zhN zhM=>?_
    |(refine Bv ?_ ?_;focus (first|rfl|(simp [go_sem,h0,p0,Cj,Fy,Fz,Nat.zero_add,F8];done)))
   refine zhN ⟨k+1,hlt⟩ _ ?_ ?_ ?_
   · (exact Nat.sub_lt_sub_left hlt (Nat.lt_succ_self k))
   · (simp only [go_sem,leX,List.cons_append,List.nil_append];try simp)
   · (simp only [hy,hw,go_sem,leX,List.cons_append,List.nil_append];first|done|rfl|(simp [leX,look];done))
 · have hcq:((k:Nat):Int)<255:=by omega
   have hj0:(0:Int)≤((k/16:Nat):Int)∧((k/16:Nat):Int)<16∧k/16+1≤16∧(0:Int)≤((k%16:Nat):Int):=by omega
   have oe:=Nw (l:=exL) (i:=k/16) (by rw [Fz];omega)
   obtain ⟨v,hv⟩: ∃ v,exL.getD (k/16) 0=v:=⟨_,rfl⟩
   rw [hv] at oe
   have hbe:i1i k=Ux v (k%16)%2:=by rw [i1i,hv]
   have htd:((k:Nat):Int).tdiv 16=((k/16:Nat):Int):=rfl
   have htm:((k:Nat):Int).tmod 16=((k%16:Nat):Int):=rfl
   have hSq:=Pj x x hxl hxl hxd hxd
   rw [hxv,p1a] at hSq
   obtain ⟨y,hy⟩: ∃ q,D16 (pw n (2 ^ (k+1)))=q:=⟨_,rfl⟩
   have hyl:y.length=16:=by rw [←hy];rfl
   have hyd: ∀ i,i<16→(fL y i).toNat<65536:=by rw [←hy];exact Gz _
   rw [hy] at hSq
   have hsk:u0m (k+1)=u0m k:=m1e hlt hb
   rw [hbe] at hb
   obtain ⟨hs1,hwd⟩:Go.RowKit.wrap64 (((k:Nat):Int)+1)=((k+1:Nat):Int)∧Go.RowKit.wrap64 ((k/16:Nat):Int)=((k/16:Nat):Int):=⟨Ny (by omega) (by omega),Ny rfl (by omega)⟩
   have F18:=And.intro hcq<|And.intro hj0<|And.intro oe<|And.intro htd<|And.intro htm<|And.intro hb<|And.intro hs1<|And.intro hwd<|And.intro hxl<|And.intro hzl<|hyl
   iterate 23 first
    |refine zhK _ ?_
    |(refine Cx fun zK zhK=>?_;simp only [go_sem,h0,p0,Cj,Fy,Fz,Nat.zero_add,F18];(repeat' (first|apply And.intro|intro _)))
    |(refine zhN _ ?_;clear zhN zhM)
    |refine Cw ?_
    |(refine Av fun zK zhK=>?_;simp only [go_sem,h0,p0,Cj,Fy,Fz,Nat.zero_add,F18];(repeat' (first|apply And.intro|intro _)))
    |refine Aj fun zB zbn zbx zbr zbi=>?_
    |(refine zbn _ ?_;clear zbn zbx zbr zbi)
    |((all_goals (refine Bq false [] (fun k=>k) (fun _ _=>rfl) ?_ (by decide) ?_ hSq.told ?_;iterate 2 (focus (first|rfl|(simp only [go_sem,h0,p0,Cj,Fy,Fz,Nat.zero_add,F18]<;>first|done|rfl|simp)))));(all_goals (rintro v m ⟨hR,hm⟩;subst hR;subst hm));(all_goals (refine And.intro ?_ (And.intro ?_ (And.intro ?_ ?_));iterate 3 (focus (first|rfl|(simp only [go_sem,h0,p0,Cj,Fy,Fz,Nat.zero_add,F18];done)|(simp [go_sem,look,h0,p0,Cj,Fy,Fz,Nat.zero_add,F18];done)))));(all_goals (try simp only [go_sem,h0,p0,Cj,Fy,Fz,Nat.zero_add,F18]));(all_goals (try simp only [go_sem,h0,p0,Cj,Fy,Fz,Nat.zero_add,F18]));(all_goals repeat' (first|apply And.intro|intro _)))
    |refine Bz fun zN zM zhN zhM=>?_
    |(refine Bv ?_ ?_;focus (first|rfl|(simp [go_sem,h0,p0,Cj,Fy,Fz,Nat.zero_add,F18];done)))
    |(refine Cy ?_ ?_;focus (first|rfl|(simp [go_sem,h0,p0,Cj,Fy,Fz,Nat.zero_add,F18];done)))
   refine zhN ⟨k+1,hlt⟩ _ ?_ ?_ ?_
   · (exact Nat.sub_lt_sub_left hlt (Nat.lt_succ_self k))
   · (simp only [go_sem,leX,List.cons_append,List.nil_append];try simp)
   · (simp only [hy,hsk,hz,go_sem,leX,List.cons_append,List.nil_append];first|done|rfl|(simp [leX,look];done))
 · have hcq:¬((255:Nat):Int)<255:=by omega
   rw [m1f] at hz
   have hfin:Aw (D16 (pw n eP))=Aw z:=by rw [hz]
   iterate 13 first
    |(refine Cx fun zK zhK=>?_;simp only [go_sem,h0,p0,Cj,Fy,Fz,Nat.zero_add,hcq,hzl];(repeat' (first|apply And.intro|intro _)))
    |refine zhK _ ?_
    |(refine zhM _ _ ?_;clear zhN zhM)
    |refine Ey ?_
    |(refine zbx _ ?_;clear zbn zbx zbr zbi)
    |(refine zhN _ ?_;clear zhN zhM)
    |refine Dx ?_
    |(refine zhZ _ _ ?_;simp only [go_sem,h0,p0,Cj,Fy,Fz,Nat.zero_add,hcq,hzl];(all_goals (exact told_plain (c0p _) ⟨by rw [hfin],rfl⟩)))
    |refine Bz fun zN zM zhN zhM=>?_
    |(refine Cy ?_ ?_;focus (first|rfl|(simp [go_sem,h0,p0,Cj,Fy,Fz,Nat.zero_add,hcq,hzl];done)))
end Lk
end Go.Sy
