/- Walks and what they compute. CONDITIONS: those that each theorem names. -/
import Derived.Test.YtlmbdhfkdhjcfaaDoorvS18
import Derived.Test.YtlmbdhfkdhjcfaaDoorvE5
set_option linter.unusedVariables false
set_option linter.unusedSimpArgs false
set_option maxHeartbeats 3200000
set_option maxRecDepth 100000
namespace Go.Sy
def fA (a b:Nat):Nat:=(a+b)%p25
def fS (a b:Nat):Nat:=(a+p25-b)%p25
def fM (a b:Nat):Nat:=a*b%p25
instance : NeZero p25:=⟨by decide⟩
def ph (a:Nat):Fin p25:=Fin.ofNat p25 a
theorem j0n (a b:Nat):fA a b<p25:=Nat.mod_lt _ a0e
theorem n0c (a b:Nat):fS a b<p25:=Nat.mod_lt _ a0e
theorem Qq (a b:Nat):fM a b<p25:=Nat.mod_lt _ a0e
theorem e0k (a:Nat):(ph a).val=a%p25:=rfl
theorem p1c {a b:Nat} (ha:a<p25) (hb:b<p25) (h:ph a=ph b):a=b:=by
 have:=congrArg Fin.val h
 rwa [e0k,e0k,Nat.mod_eq_of_lt ha,Nat.mod_eq_of_lt hb] at this
theorem d2y (a b:Nat):ph (fA a b)=ph a+ph b:=by
 apply Fin.ext
 rw [Fin.val_add,e0k,e0k,e0k,fA,Nat.mod_mod,←Nat.add_mod]
theorem b2m (a b:Nat):ph (fM a b)=ph a*ph b:=by
 apply Fin.ext
 rw [Fin.val_mul,e0k,e0k,e0k,fM,Nat.mod_mod,←Nat.mul_mod]
theorem c2s {a b:Nat} (hb:b<p25):ph (fS a b)=ph a-ph b:=by
 apply Fin.ext
 rw [Fin.sub_def]
 simp only [e0k,fS,Nat.mod_mod,Nat.mod_eq_of_lt hb]
 rw [show a+p25-b=(p25-b)+a from by omega,Nat.add_mod_mod]
theorem r1w (a:Nat):ph (a+1)=ph a+1:=by
 apply Fin.ext
 rw [Fin.val_add]
 simp only [e0k]
 rw [show ((1:Fin p25)).val=1%p25 from rfl,←Nat.add_mod]
structure Pt where
 x:Nat
 z:Nat
def Pt.ok (p:Pt):Prop:=p.x<p25∧p.z<p25
def v1m (p:Pt):Pt:=
 let a:=fA p.x p.z
 let b:=fS p.x p.z
 let e:=fS (fM a a) (fM b b)
 ⟨fM (fM a a) (fM b b),fM e (fA (fM a a) (fM 121665 e))⟩
def q0u (p:Pt):Pt:=
 let a:=fA p.x p.z
 let b:=fS p.x p.z
 let e:=fS (fM a a) (fM b b)
 ⟨fM (fM a a) (fM b b),fM e (fA (fM b b) (fM 121666 e))⟩
def q0w (p q:Pt) (u:Nat):Pt:=
 let da:=fM (fS q.x q.z) (fA p.x p.z)
 let cb:=fM (fA q.x q.z) (fS p.x p.z)
 ⟨fM (fA da cb) (fA da cb),fM u (fM (fS da cb) (fS da cb))⟩
def b0f (p q:Pt) (u:Nat):Pt:=
 let a:=fM (fS p.x p.z) (fA q.x q.z)
 let b:=fM (fA p.x p.z) (fS q.x q.z)
 ⟨fM (fA a b) (fA a b),fM u (fM (fS a b) (fS a b))⟩
theorem z0k (p:Pt):v1m p=q0u p:=by
 simp only [v1m,q0u,Pt.mk.injEq,true_and]
 refine congrArg _ (p1c (j0n _ _) (j0n _ _) ?_)
 have hb:=Qq (fS p.x p.z) (fS p.x p.z)
 generalize fM (fA p.x p.z) (fA p.x p.z)=aa
 generalize fM (fS p.x p.z) (fS p.x p.z)=bb at*
 rw [d2y,d2y,b2m,b2m,c2s hb,show ph 121666=ph 121665+1 from r1w 121665]
 generalize ph aa=a
 generalize ph bb=b
 generalize ph 121665=k
 grind
theorem h1h (a b:Nat):fM a b=fM b a:=by rw [fM,fM,Nat.mul_comm]
theorem u1k (a b:Nat):fA a b=fA b a:=by rw [fA,fA,Nat.add_comm]
theorem x1t {a b:Nat} (ha:a<p25) (hb:b<p25):fM (fS a b) (fS a b)=fM (fS b a) (fS b a):=by
 refine p1c (Qq _ _) (Qq _ _) ?_
 rw [b2m,b2m,c2s hb,c2s ha]
 generalize ph a=x
 generalize ph b=y
 grind
theorem c1v (p q:Pt) (u:Nat):q0w p q u=b0f p q u:=by
 simp only [q0w,b0f,Pt.mk.injEq]
 rw [h1h (fS q.x q.z) (fA p.x p.z),h1h (fA q.x q.z) (fS p.x p.z),u1k (fM (fA p.x p.z) (fS q.x q.z)),x1t (Qq _ _) (Qq _ _)]
 exact ⟨rfl,rfl⟩
theorem x0q (p q:Pt) (u:Nat):q0w q p u=b0f p q u:=rfl
end Go.Sy
namespace Go.Sy
namespace Lk
open Go.Proofs
attribute [local irreducible] Dv HT Cz Px onC onE onO onG goV goA goS Qx Dw
theorem g0c (vw:Bool) (S:St) (hd:Hand) (r:List L): ∀ l:List UInt64,Fw vw S hd (Aw l++r)=(Fw vw S hd r).map (Aw l++ ·)
 | []=>by simp [Aw]
 |x::l=>by
  have ih:=g0c vw S hd r l
  simp only [Aw] at ih
  simp only [Aw,List.map_cons,List.cons_append,Fw,Rv,ih]
  cases Fw vw S hd r<;>rfl
attribute [go_sem] g0c
theorem h1g {n m:Nat} (hn:n<p25) (hm:m<p25):(n+(p25-m)%p25)%p25=fS n m:=v1l hn hm
theorem Kj {n:Nat} (h:n<p25):n<m4:=by
 have:=f0z
 have:=c0u
 omega
def ptC (p:Pt):List L:=Aw (D16 p.x)++Aw (D16 p.z)
theorem d2e :Aw (D16 121666)=[.pl (.u64 56130),.pl (.u64 1),.pl (.u64 0),.pl (.u64 0),.pl (.u64 0),.pl (.u64 0),.pl (.u64 0),.pl (.u64 0),.pl (.u64 0),.pl (.u64 0),.pl (.u64 0),.pl (.u64 0),.pl (.u64 0),.pl (.u64 0),.pl (.u64 0),.pl (.u64 0)]:=by rw [show D16 121666=[56130,1,0,0,0,0,0,0,0,0,0,0,0,0,0,0] from by decide+kernel];rfl
theorem e1m (X0 Z0:Nat) (l0:X0<p25) (l1:Z0<p25):
 CtM Tryd.prog 47 [.w (.agg (ptC ⟨X0,Z0⟩))] [(1000000,⟨false,Aw Mk⟩)] (Told (fun v m=>v=.w (.agg (ptC (q0u ⟨X0,Z0⟩)))∧m=[])):=by
 have lkk:(121666:Nat)<p25:=by decide
 obtain ⟨lxx,lzz⟩:X0<p25∧Z0<p25:=⟨l0,l1⟩
 obtain ⟨xx,hxx⟩: ∃ q,D16 X0=q:=⟨_,rfl⟩
 have hxxl:xx.length=16:=by rw [←hxx];rfl
 have hxxd: ∀ i,i<16→(fL xx i).toNat<65536:=by rw [←hxx];exact Gz _
 have hxxv:Hq 65536 xx=X0:=by rw [←hxx];exact Ew (Kj lxx)
 obtain ⟨zz,hzz⟩: ∃ q,D16 Z0=q:=⟨_,rfl⟩
 have hzzl:zz.length=16:=by rw [←hzz];rfl
 have hzzd: ∀ i,i<16→(fL zz i).toNat<65536:=by rw [←hzz];exact Gz _
 have hzzv:Hq 65536 zz=Z0:=by rw [←hzz];exact Ew (Kj lzz)
 obtain ⟨kk,hkk⟩: ∃ q,D16 121666=q:=⟨_,rfl⟩
 have hkkl:kk.length=16:=by rw [←hkk];rfl
 have hkkd: ∀ i,i<16→(fL kk i).toNat<65536:=by rw [←hkk];exact Gz _
 have hkkv:Hq 65536 kk=121666:=by rw [←hkk];exact Ew (Kj lkk)
 obtain ⟨nra,hnra⟩: ∃ n,fA X0 Z0=n:=⟨_,rfl⟩
 have lra:nra<p25:=by rw [←hnra];exact j0n _ _
 have k0:=y0b xx zz hxxl hzzl hxxd hzzd
 rw [hxxv,hzzv] at k0
 rw [show (X0+Z0)%p25=fA X0 Z0 from rfl] at k0
 rw [hnra] at k0
 obtain ⟨ra,hra⟩: ∃ q,D16 nra=q:=⟨_,rfl⟩
 have hral:ra.length=16:=by rw [←hra];rfl
 have hrad: ∀ i,i<16→(fL ra i).toNat<65536:=by rw [←hra];exact Gz _
 have hrav:Hq 65536 ra=nra:=by rw [←hra];exact Ew (Kj lra)
 rw [hra] at k0
 obtain ⟨noz,hnoz⟩: ∃ n,(p25-Z0)%p25=n:=⟨_,rfl⟩
 have loz:noz<p25:=by rw [←hnoz];exact Nat.mod_lt _ a0e
 have k1:=c0s zz hzzl hzzd (by rw [hzzv];exact Nat.le_of_lt lzz)
 rw [hzzv,hnoz] at k1
 obtain ⟨oz,hoz⟩: ∃ q,D16 noz=q:=⟨_,rfl⟩
 have hozl:oz.length=16:=by rw [←hoz];rfl
 have hozd: ∀ i,i<16→(fL oz i).toNat<65536:=by rw [←hoz];exact Gz _
 have hozv:Hq 65536 oz=noz:=by rw [←hoz];exact Ew (Kj loz)
 rw [hoz] at k1
 obtain ⟨nrb,hnrb⟩: ∃ n,fS X0 Z0=n:=⟨_,rfl⟩
 have lrb:nrb<p25:=by rw [←hnrb];exact n0c _ _
 have k2:=y0b xx oz hxxl hozl hxxd hozd
 rw [hxxv,hozv,←hnoz,h1g lxx lzz] at k2
 rw [hnrb] at k2
 obtain ⟨rb,hrb⟩: ∃ q,D16 nrb=q:=⟨_,rfl⟩
 have hrbl:rb.length=16:=by rw [←hrb];rfl
 have hrbd: ∀ i,i<16→(fL rb i).toNat<65536:=by rw [←hrb];exact Gz _
 have hrbv:Hq 65536 rb=nrb:=by rw [←hrb];exact Ew (Kj lrb)
 rw [hrb] at k2
 obtain ⟨nrs,hnrs⟩: ∃ n,fM nra nra=n:=⟨_,rfl⟩
 have lrs:nrs<p25:=by rw [←hnrs];exact Qq _ _
 have k3:=Pj ra ra hral hral hrad hrad
 rw [hrav] at k3
 rw [show (nra*nra)%p25=fM nra nra from rfl] at k3
 rw [hnrs] at k3
 obtain ⟨rs,hrs⟩: ∃ q,D16 nrs=q:=⟨_,rfl⟩
 have hrsl:rs.length=16:=by rw [←hrs];rfl
 have hrsd: ∀ i,i<16→(fL rs i).toNat<65536:=by rw [←hrs];exact Gz _
 have hrsv:Hq 65536 rs=nrs:=by rw [←hrs];exact Ew (Kj lrs)
 rw [hrs] at k3
 obtain ⟨nrd,hnrd⟩: ∃ n,fM nrb nrb=n:=⟨_,rfl⟩
 have lrd:nrd<p25:=by rw [←hnrd];exact Qq _ _
 have k4:=Pj rb rb hrbl hrbl hrbd hrbd
 rw [hrbv] at k4
 rw [show (nrb*nrb)%p25=fM nrb nrb from rfl] at k4
 rw [hnrd] at k4
 obtain ⟨rd,hrd⟩: ∃ q,D16 nrd=q:=⟨_,rfl⟩
 have hrdl:rd.length=16:=by rw [←hrd];rfl
 have hrdd: ∀ i,i<16→(fL rd i).toNat<65536:=by rw [←hrd];exact Gz _
 have hrdv:Hq 65536 rd=nrd:=by rw [←hrd];exact Ew (Kj lrd)
 rw [hrd] at k4
 obtain ⟨nod,hnod⟩: ∃ n,(p25-nrd)%p25=n:=⟨_,rfl⟩
 have lod:nod<p25:=by rw [←hnod];exact Nat.mod_lt _ a0e
 have k5:=c0s rd hrdl hrdd (by rw [hrdv];exact Nat.le_of_lt lrd)
 rw [hrdv,hnod] at k5
 obtain ⟨od,hod⟩: ∃ q,D16 nod=q:=⟨_,rfl⟩
 have hodl:od.length=16:=by rw [←hod];rfl
 have hodd: ∀ i,i<16→(fL od i).toNat<65536:=by rw [←hod];exact Gz _
 have hodv:Hq 65536 od=nod:=by rw [←hod];exact Ew (Kj lod)
 rw [hod] at k5
 obtain ⟨nre,hnre⟩: ∃ n,fS nrs nrd=n:=⟨_,rfl⟩
 have lre:nre<p25:=by rw [←hnre];exact n0c _ _
 have k6:=y0b rs od hrsl hodl hrsd hodd
 rw [hrsv,hodv,←hnod,h1g lrs lrd] at k6
 rw [hnre] at k6
 obtain ⟨re,hre⟩: ∃ q,D16 nre=q:=⟨_,rfl⟩
 have hrel:re.length=16:=by rw [←hre];rfl
 have hred: ∀ i,i<16→(fL re i).toNat<65536:=by rw [←hre];exact Gz _
 have hrev:Hq 65536 re=nre:=by rw [←hre];exact Ew (Kj lre)
 rw [hre] at k6
 obtain ⟨nrX,hnrX⟩: ∃ n,fM nrs nrd=n:=⟨_,rfl⟩
 have lrX:nrX<p25:=by rw [←hnrX];exact Qq _ _
 have k7:=Pj rs rd hrsl hrdl hrsd hrdd
 rw [hrsv,hrdv] at k7
 rw [show (nrs*nrd)%p25=fM nrs nrd from rfl] at k7
 rw [hnrX] at k7
 obtain ⟨rX,hrX⟩: ∃ q,D16 nrX=q:=⟨_,rfl⟩
 have hrXl:rX.length=16:=by rw [←hrX];rfl
 have hrXd: ∀ i,i<16→(fL rX i).toNat<65536:=by rw [←hrX];exact Gz _
 have hrXv:Hq 65536 rX=nrX:=by rw [←hrX];exact Ew (Kj lrX)
 rw [hrX] at k7
 obtain ⟨nrk,hnrk⟩: ∃ n,fM 121666 nre=n:=⟨_,rfl⟩
 have lrk:nrk<p25:=by rw [←hnrk];exact Qq _ _
 have k8:=Pj kk re hkkl hrel hkkd hred
 rw [hkkv,hrev] at k8
 rw [show (121666*nre)%p25=fM 121666 nre from rfl] at k8
 rw [hnrk] at k8
 obtain ⟨rk,hrk⟩: ∃ q,D16 nrk=q:=⟨_,rfl⟩
 have hrkl:rk.length=16:=by rw [←hrk];rfl
 have hrkd: ∀ i,i<16→(fL rk i).toNat<65536:=by rw [←hrk];exact Gz _
 have hrkv:Hq 65536 rk=nrk:=by rw [←hrk];exact Ew (Kj lrk)
 rw [hrk] at k8
 obtain ⟨nrt,hnrt⟩: ∃ n,fA nrd nrk=n:=⟨_,rfl⟩
 have lrt:nrt<p25:=by rw [←hnrt];exact j0n _ _
 have k9:=y0b rd rk hrdl hrkl hrdd hrkd
 rw [hrdv,hrkv] at k9
 rw [show (nrd+nrk)%p25=fA nrd nrk from rfl] at k9
 rw [hnrt] at k9
 obtain ⟨rt,hrt⟩: ∃ q,D16 nrt=q:=⟨_,rfl⟩
 have hrtl:rt.length=16:=by rw [←hrt];rfl
 have hrtd: ∀ i,i<16→(fL rt i).toNat<65536:=by rw [←hrt];exact Gz _
 have hrtv:Hq 65536 rt=nrt:=by rw [←hrt];exact Ew (Kj lrt)
 rw [hrt] at k9
 obtain ⟨nrZ,hnrZ⟩: ∃ n,fM nre nrt=n:=⟨_,rfl⟩
 have lrZ:nrZ<p25:=by rw [←hnrZ];exact Qq _ _
 have k10:=Pj re rt hrel hrtl hred hrtd
 rw [hrev,hrtv] at k10
 rw [show (nre*nrt)%p25=fM nre nrt from rfl] at k10
 rw [hnrZ] at k10
 obtain ⟨rZ,hrZ⟩: ∃ q,D16 nrZ=q:=⟨_,rfl⟩
 have hrZl:rZ.length=16:=by rw [←hrZ];rfl
 have hrZd: ∀ i,i<16→(fL rZ i).toNat<65536:=by rw [←hrZ];exact Gz _
 have hrZv:Hq 65536 rZ=nrZ:=by rw [←hrZ];exact Ew (Kj lrZ)
 rw [hrZ] at k10
 have hkc:=d2e
 rw [hkk] at hkc
 rw [hkc] at k8
 have hfin:ptC (q0u ⟨X0,Z0⟩)=Aw rX++Aw rZ:=by simp only [ptC,q0u,hnra,hnrb,hnrs,hnrd,hnre,hnrX,hnrk,hnrt,hnrZ,hrX,hrZ]
 rw [hfin]
 simp only [ptC,hxx,hzz]
 have F0:=And.intro hxxl<|And.intro hzzl<|And.intro hkkl<|And.intro hral<|And.intro hozl<|And.intro hrbl<|And.intro hrsl<|And.intro hrdl<|And.intro hodl<|And.intro hrel<|And.intro hrXl<|And.intro hrkl<|And.intro hrtl<|hrZl
 refine CtM.k Tryd.func47 rfl Tryd.ntmps47 (congrArg Array.toList Tryd.results47) (by simp) fun w0 ro may fx=>?_
 refine Dj fun zZ zhZ=>?_
 refine Cx fun zK zhK=>?_
 simp only [go_sem,F0]
 repeat' (first|apply And.intro|intro _)
 refine zhK _ ?_
 refine Bz fun zN zM zhN zhM=>?_
 refine b0s (id:=1) mixed fun zE zhE=>?_
 refine Ck (p:=0) 13 [8,9,10,11,12,13,14,15,16,17,18,3,4] [0,1,0,4,15,0,32,0,128,415,1023,0,0,8191,16383] [] rfl (by kernel_rfl) rfl (by simp only [go_sem]) fun zR zK zhR zhK=>?_
 simp only [go_sem,F0]
 repeat' (first|apply And.intro|intro _)
 all_goals (refine Bw (fun k=>k) (.w (.agg (Aw ra))) [] (fun _ _=>rfl) ?_ ?_ ?_ k0.told ?_ ?_;(iterate 2 (focus (first|rfl|(simp only [go_sem,F0]<;>first|done|rfl|simp))));(first|kernel_rfl|rfl|simp [Qv,Qk,pls]))
 all_goals try (refine And.intro ?_ (And.intro ?_ (And.intro ?_ ?_))<;>(first|rfl|(simp only [go_sem,F0];done)|(simp [go_sem,look,F0];done)))
 all_goals (try simp only [go_sem,F0])
 all_goals (try simp only [go_sem,F0])
 all_goals repeat' (first|apply And.intro|intro _)
 all_goals (refine Bw (fun k=>k) (.w (.agg (Aw oz))) [] (fun _ _=>rfl) ?_ ?_ ?_ k1.told ?_ ?_;(iterate 2 (focus (first|rfl|(simp only [go_sem,F0]<;>first|done|rfl|simp))));(first|kernel_rfl|rfl|simp [Qv,Qk,pls]))
 all_goals try (refine And.intro ?_ (And.intro ?_ (And.intro ?_ ?_))<;>(first|rfl|(simp only [go_sem,F0];done)|(simp [go_sem,look,F0];done)))
 all_goals (try simp only [go_sem,F0])
 all_goals (try simp only [go_sem,F0])
 all_goals repeat' (first|apply And.intro|intro _)
 all_goals (refine Bw (fun k=>k) (.w (.agg (Aw rb))) [] (fun _ _=>rfl) ?_ ?_ ?_ k2.told ?_ ?_;(iterate 2 (focus (first|rfl|(simp only [go_sem,F0]<;>first|done|rfl|simp))));(first|kernel_rfl|rfl|simp [Qv,Qk,pls]))
 all_goals try (refine And.intro ?_ (And.intro ?_ (And.intro ?_ ?_))<;>(first|rfl|(simp only [go_sem,F0];done)|(simp [go_sem,look,F0];done)))
 all_goals (try simp only [go_sem,F0])
 all_goals (try simp only [go_sem,F0])
 all_goals repeat' (first|apply And.intro|intro _)
 refine zhK _ _ trivial (zhR _ ?_)
 refine Dk 2 15 rfl (by kernel_rfl) rfl rfl fun zR zhR=>?_
 simp only [go_sem,F0]
 repeat' (first|apply And.intro|intro _)
 refine zhR _ ?_
 refine Jy rfl (zhE _ ?_)
 refine zhN _ ?_;clear zhN zhM
 refine Bz fun zN zM zhN zhM=>?_
 refine b0s (id:=2) mixed fun zE zhE=>?_
 refine Ck (p:=0) 8 [19,20,21,22,23,24,5,6] [0,0,3,0,0,31,0,0,255,511] [] rfl (by kernel_rfl) rfl (by simp only [go_sem]) fun zR zK zhR zhK=>?_
 simp only [go_sem,F0]
 repeat' (first|apply And.intro|intro _)
 all_goals (refine Bw (fun k=>k) (.w (.agg (Aw rs))) [] (fun _ _=>rfl) ?_ ?_ ?_ k3.told ?_ ?_;(iterate 2 (focus (first|rfl|(simp only [go_sem,F0]<;>first|done|rfl|simp))));(first|kernel_rfl|rfl|simp [Qv,Qk,pls]))
 all_goals try (refine And.intro ?_ (And.intro ?_ (And.intro ?_ ?_))<;>(first|rfl|(simp only [go_sem,F0];done)|(simp [go_sem,look,F0];done)))
 all_goals (try simp only [go_sem,F0])
 all_goals (try simp only [go_sem,F0])
 all_goals repeat' (first|apply And.intro|intro _)
 all_goals (refine Bw (fun k=>k) (.w (.agg (Aw rd))) [] (fun _ _=>rfl) ?_ ?_ ?_ k4.told ?_ ?_;(iterate 2 (focus (first|rfl|(simp only [go_sem,F0]<;>first|done|rfl|simp))));(first|kernel_rfl|rfl|simp [Qv,Qk,pls]))
 all_goals try (refine And.intro ?_ (And.intro ?_ (And.intro ?_ ?_))<;>(first|rfl|(simp only [go_sem,F0];done)|(simp [go_sem,look,F0];done)))
 all_goals (try simp only [go_sem,F0])
 all_goals (try simp only [go_sem,F0])
 all_goals repeat' (first|apply And.intro|intro _)
 refine zhK _ _ trivial (zhR _ ?_)
 refine Dk 2 10 rfl (by kernel_rfl) rfl rfl fun zR zhR=>?_
 simp only [go_sem,F0]
 repeat' (first|apply And.intro|intro _)
 refine zhR _ ?_
 refine Jy rfl (zhE _ ?_)
 refine zhN _ ?_;clear zhN zhM
 refine Bz fun zN zM zhN zhM=>?_
 refine b0s (id:=3) mixed fun zE zhE=>?_
 refine Ck (p:=0) 5 [25,26,27,28,7] [0,0,2,7,0,31] [] rfl (by kernel_rfl) rfl (by simp only [go_sem]) fun zR zK zhR zhK=>?_
 simp only [go_sem,F0]
 repeat' (first|apply And.intro|intro _)
 all_goals (refine Bw (fun k=>k) (.w (.agg (Aw od))) [] (fun _ _=>rfl) ?_ ?_ ?_ k5.told ?_ ?_;(iterate 2 (focus (first|rfl|(simp only [go_sem,F0]<;>first|done|rfl|simp))));(first|kernel_rfl|rfl|simp [Qv,Qk,pls]))
 all_goals try (refine And.intro ?_ (And.intro ?_ (And.intro ?_ ?_))<;>(first|rfl|(simp only [go_sem,F0];done)|(simp [go_sem,look,F0];done)))
 all_goals (try simp only [go_sem,F0])
 all_goals (try simp only [go_sem,F0])
 all_goals repeat' (first|apply And.intro|intro _)
 all_goals (refine Bw (fun k=>k) (.w (.agg (Aw re))) [] (fun _ _=>rfl) ?_ ?_ ?_ k6.told ?_ ?_;(iterate 2 (focus (first|rfl|(simp only [go_sem,F0]<;>first|done|rfl|simp))));(first|kernel_rfl|rfl|simp [Qv,Qk,pls]))
 all_goals try (refine And.intro ?_ (And.intro ?_ (And.intro ?_ ?_))<;>(first|rfl|(simp only [go_sem,F0];done)|(simp [go_sem,look,F0];done)))
 all_goals (try simp only [go_sem,F0])
 all_goals (try simp only [go_sem,F0])
 all_goals repeat' (first|apply And.intro|intro _)
 refine zhK _ _ trivial (zhR _ ?_)
 refine Dk 1 6 rfl (by kernel_rfl) rfl rfl fun zR zhR=>?_
 simp only [go_sem,F0]
 repeat' (first|apply And.intro|intro _)
 refine zhR _ ?_
 refine Jy rfl (zhE _ ?_)
 refine zhN _ ?_;clear zhN zhM
 refine Bz fun zN zM zhN zhM=>?_
 refine b0s (id:=4) mixed fun zE zhE=>?_
 refine Ck (p:=0) 9 [29,30,31,32,33,34,35,36,37] [0,0,3,0,0,0,0,103,247,511,1023,2047] [] rfl (by kernel_rfl) rfl (by simp only [go_sem]) fun zR zK zhR zhK=>?_
 simp only [go_sem,F0]
 repeat' (first|apply And.intro|intro _)
 all_goals (refine Bw (fun k=>k) (.w (.agg (Aw rX))) [] (fun _ _=>rfl) ?_ ?_ ?_ k7.told ?_ ?_;(iterate 2 (focus (first|rfl|(simp only [go_sem,F0]<;>first|done|rfl|simp))));(first|kernel_rfl|rfl|simp [Qv,Qk,pls]))
 all_goals try (refine And.intro ?_ (And.intro ?_ (And.intro ?_ ?_))<;>(first|rfl|(simp only [go_sem,F0];done)|(simp [go_sem,look,F0];done)))
 all_goals (try simp only [go_sem,F0])
 all_goals (try simp only [go_sem,F0])
 all_goals repeat' (first|apply And.intro|intro _)
 all_goals (refine Bw (fun k=>k) (.w (.agg (Aw rk))) [] (fun _ _=>rfl) ?_ ?_ ?_ k8.told ?_ ?_;(iterate 2 (focus (first|rfl|(simp only [go_sem,F0]<;>first|done|rfl|simp))));(first|kernel_rfl|rfl|simp [Qv,Qk,pls]))
 all_goals try (refine And.intro ?_ (And.intro ?_ (And.intro ?_ ?_))<;>(first|rfl|(simp only [go_sem,F0];done)|(simp [go_sem,look,F0];done)))
 all_goals (try simp only [go_sem,F0])
 all_goals (try simp only [go_sem,F0])
 all_goals repeat' (first|apply And.intro|intro _)
 all_goals (refine Bw (fun k=>k) (.w (.agg (Aw rt))) [] (fun _ _=>rfl) ?_ ?_ ?_ k9.told ?_ ?_;(iterate 2 (focus (first|rfl|(simp only [go_sem,F0]<;>first|done|rfl|simp))));(first|kernel_rfl|rfl|simp [Qv,Qk,pls]))
 all_goals try (refine And.intro ?_ (And.intro ?_ (And.intro ?_ ?_))<;>(first|rfl|(simp only [go_sem,F0];done)|(simp [go_sem,look,F0];done)))
 all_goals (try simp only [go_sem,F0])
 all_goals (try simp only [go_sem,F0])
 all_goals repeat' (first|apply And.intro|intro _)
 refine zhK _ _ trivial (zhR _ ?_)
 refine Dk 3 12 rfl (by kernel_rfl) rfl rfl fun zR zhR=>?_
 simp only [go_sem,F0]
 repeat' (first|apply And.intro|intro _)
 all_goals (refine Bq false [] (fun k=>k) (fun _ _=>rfl) ?_ (by decide) ?_ k10.told ?_;iterate 2 (focus (first|rfl|(simp only [go_sem,F0]<;>first|done|rfl|simp))))
 all_goals (rintro v m ⟨hR,hm⟩;subst hR;subst hm)
 all_goals (refine And.intro ?_ (And.intro ?_ (And.intro ?_ ?_));iterate 3 (focus (first|rfl|(simp only [go_sem,F0];done)|(simp [go_sem,look,F0];done))))
 all_goals (try simp only [go_sem,F0])
 all_goals (try simp only [go_sem,F0])
 all_goals repeat' (first|apply And.intro|intro _)
 refine zhR _ ?_
 refine Jy rfl (zhE _ ?_)
 refine zhN _ ?_;clear zhN zhM
 refine Dx ?_
 refine zhZ _ _ ?_
 simp only [go_sem,F0]
 all_goals (exact told_plain (by simp [Fj,Hz,Aw]) ⟨by first|rfl|simp,rfl⟩)
theorem x1y (X0 Z0 X1 Z1 U:Nat) (l0:X0<p25) (l1:Z0<p25) (l2:X1<p25) (l3:Z1<p25) (l4:U<p25):
 CtM Tryd.prog 46 [.w (.agg (ptC ⟨X0,Z0⟩)),.w (.agg (ptC ⟨X1,Z1⟩)),.w (.agg (Aw (D16 U)))] [(1000000,⟨false,Aw Mk⟩)] (Told (fun v m=>v=.w (.agg (ptC (b0f ⟨X0,Z0⟩ ⟨X1,Z1⟩ U)))∧m=[])):=by
 obtain ⟨lxx,lzz,lyy,lvv,luu⟩:X0<p25∧Z0<p25∧X1<p25∧Z1<p25∧U<p25:=⟨l0,l1,l2,l3,l4⟩
 obtain ⟨xx,hxx⟩: ∃ q,D16 X0=q:=⟨_,rfl⟩
 have hxxl:xx.length=16:=by rw [←hxx];rfl
 have hxxd: ∀ i,i<16→(fL xx i).toNat<65536:=by rw [←hxx];exact Gz _
 have hxxv:Hq 65536 xx=X0:=by rw [←hxx];exact Ew (Kj lxx)
 obtain ⟨zz,hzz⟩: ∃ q,D16 Z0=q:=⟨_,rfl⟩
 have hzzl:zz.length=16:=by rw [←hzz];rfl
 have hzzd: ∀ i,i<16→(fL zz i).toNat<65536:=by rw [←hzz];exact Gz _
 have hzzv:Hq 65536 zz=Z0:=by rw [←hzz];exact Ew (Kj lzz)
 obtain ⟨yy,hyy⟩: ∃ q,D16 X1=q:=⟨_,rfl⟩
 have hyyl:yy.length=16:=by rw [←hyy];rfl
 have hyyd: ∀ i,i<16→(fL yy i).toNat<65536:=by rw [←hyy];exact Gz _
 have hyyv:Hq 65536 yy=X1:=by rw [←hyy];exact Ew (Kj lyy)
 obtain ⟨vv,hvv⟩: ∃ q,D16 Z1=q:=⟨_,rfl⟩
 have hvvl:vv.length=16:=by rw [←hvv];rfl
 have hvvd: ∀ i,i<16→(fL vv i).toNat<65536:=by rw [←hvv];exact Gz _
 have hvvv:Hq 65536 vv=Z1:=by rw [←hvv];exact Ew (Kj lvv)
 obtain ⟨uu,huu⟩: ∃ q,D16 U=q:=⟨_,rfl⟩
 have huul:uu.length=16:=by rw [←huu];rfl
 have huud: ∀ i,i<16→(fL uu i).toNat<65536:=by rw [←huu];exact Gz _
 have huuv:Hq 65536 uu=U:=by rw [←huu];exact Ew (Kj luu)
 obtain ⟨nopz,hnopz⟩: ∃ n,(p25-Z0)%p25=n:=⟨_,rfl⟩
 have lopz:nopz<p25:=by rw [←hnopz];exact Nat.mod_lt _ a0e
 have k0:=c0s zz hzzl hzzd (by rw [hzzv];exact Nat.le_of_lt lzz)
 rw [hzzv,hnopz] at k0
 obtain ⟨opz,hopz⟩: ∃ q,D16 nopz=q:=⟨_,rfl⟩
 have hopzl:opz.length=16:=by rw [←hopz];rfl
 have hopzd: ∀ i,i<16→(fL opz i).toNat<65536:=by rw [←hopz];exact Gz _
 have hopzv:Hq 65536 opz=nopz:=by rw [←hopz];exact Ew (Kj lopz)
 rw [hopz] at k0
 obtain ⟨nrb,hnrb⟩: ∃ n,fS X0 Z0=n:=⟨_,rfl⟩
 have lrb:nrb<p25:=by rw [←hnrb];exact n0c _ _
 have k1:=y0b xx opz hxxl hopzl hxxd hopzd
 rw [hxxv,hopzv,←hnopz,h1g lxx lzz] at k1
 rw [hnrb] at k1
 obtain ⟨rb,hrb⟩: ∃ q,D16 nrb=q:=⟨_,rfl⟩
 have hrbl:rb.length=16:=by rw [←hrb];rfl
 have hrbd: ∀ i,i<16→(fL rb i).toNat<65536:=by rw [←hrb];exact Gz _
 have hrbv:Hq 65536 rb=nrb:=by rw [←hrb];exact Ew (Kj lrb)
 rw [hrb] at k1
 obtain ⟨nrc,hnrc⟩: ∃ n,fA X1 Z1=n:=⟨_,rfl⟩
 have lrc:nrc<p25:=by rw [←hnrc];exact j0n _ _
 have k2:=y0b yy vv hyyl hvvl hyyd hvvd
 rw [hyyv,hvvv] at k2
 rw [show (X1+Z1)%p25=fA X1 Z1 from rfl] at k2
 rw [hnrc] at k2
 obtain ⟨rc,hrc⟩: ∃ q,D16 nrc=q:=⟨_,rfl⟩
 have hrcl:rc.length=16:=by rw [←hrc];rfl
 have hrcd: ∀ i,i<16→(fL rc i).toNat<65536:=by rw [←hrc];exact Gz _
 have hrcv:Hq 65536 rc=nrc:=by rw [←hrc];exact Ew (Kj lrc)
 rw [hrc] at k2
 obtain ⟨nrA,hnrA⟩: ∃ n,fM nrb nrc=n:=⟨_,rfl⟩
 have lrA:nrA<p25:=by rw [←hnrA];exact Qq _ _
 have k3:=Pj rb rc hrbl hrcl hrbd hrcd
 rw [hrbv,hrcv] at k3
 rw [show (nrb*nrc)%p25=fM nrb nrc from rfl] at k3
 rw [hnrA] at k3
 obtain ⟨rA,hrA⟩: ∃ q,D16 nrA=q:=⟨_,rfl⟩
 have hrAl:rA.length=16:=by rw [←hrA];rfl
 have hrAd: ∀ i,i<16→(fL rA i).toNat<65536:=by rw [←hrA];exact Gz _
 have hrAv:Hq 65536 rA=nrA:=by rw [←hrA];exact Ew (Kj lrA)
 rw [hrA] at k3
 obtain ⟨nra,hnra⟩: ∃ n,fA X0 Z0=n:=⟨_,rfl⟩
 have lra:nra<p25:=by rw [←hnra];exact j0n _ _
 have k4:=y0b xx zz hxxl hzzl hxxd hzzd
 rw [hxxv,hzzv] at k4
 rw [show (X0+Z0)%p25=fA X0 Z0 from rfl] at k4
 rw [hnra] at k4
 obtain ⟨ra,hra⟩: ∃ q,D16 nra=q:=⟨_,rfl⟩
 have hral:ra.length=16:=by rw [←hra];rfl
 have hrad: ∀ i,i<16→(fL ra i).toNat<65536:=by rw [←hra];exact Gz _
 have hrav:Hq 65536 ra=nra:=by rw [←hra];exact Ew (Kj lra)
 rw [hra] at k4
 obtain ⟨noqz,hnoqz⟩: ∃ n,(p25-Z1)%p25=n:=⟨_,rfl⟩
 have loqz:noqz<p25:=by rw [←hnoqz];exact Nat.mod_lt _ a0e
 have k5:=c0s vv hvvl hvvd (by rw [hvvv];exact Nat.le_of_lt lvv)
 rw [hvvv,hnoqz] at k5
 obtain ⟨oqz,hoqz⟩: ∃ q,D16 noqz=q:=⟨_,rfl⟩
 have hoqzl:oqz.length=16:=by rw [←hoqz];rfl
 have hoqzd: ∀ i,i<16→(fL oqz i).toNat<65536:=by rw [←hoqz];exact Gz _
 have hoqzv:Hq 65536 oqz=noqz:=by rw [←hoqz];exact Ew (Kj loqz)
 rw [hoqz] at k5
 obtain ⟨nrd,hnrd⟩: ∃ n,fS X1 Z1=n:=⟨_,rfl⟩
 have lrd:nrd<p25:=by rw [←hnrd];exact n0c _ _
 have k6:=y0b yy oqz hyyl hoqzl hyyd hoqzd
 rw [hyyv,hoqzv,←hnoqz,h1g lyy lvv] at k6
 rw [hnrd] at k6
 obtain ⟨rd,hrd⟩: ∃ q,D16 nrd=q:=⟨_,rfl⟩
 have hrdl:rd.length=16:=by rw [←hrd];rfl
 have hrdd: ∀ i,i<16→(fL rd i).toNat<65536:=by rw [←hrd];exact Gz _
 have hrdv:Hq 65536 rd=nrd:=by rw [←hrd];exact Ew (Kj lrd)
 rw [hrd] at k6
 obtain ⟨nrB,hnrB⟩: ∃ n,fM nra nrd=n:=⟨_,rfl⟩
 have lrB:nrB<p25:=by rw [←hnrB];exact Qq _ _
 have k7:=Pj ra rd hral hrdl hrad hrdd
 rw [hrav,hrdv] at k7
 rw [show (nra*nrd)%p25=fM nra nrd from rfl] at k7
 rw [hnrB] at k7
 obtain ⟨rB,hrB⟩: ∃ q,D16 nrB=q:=⟨_,rfl⟩
 have hrBl:rB.length=16:=by rw [←hrB];rfl
 have hrBd: ∀ i,i<16→(fL rB i).toNat<65536:=by rw [←hrB];exact Gz _
 have hrBv:Hq 65536 rB=nrB:=by rw [←hrB];exact Ew (Kj lrB)
 rw [hrB] at k7
 obtain ⟨nrs,hnrs⟩: ∃ n,fA nrA nrB=n:=⟨_,rfl⟩
 have lrs:nrs<p25:=by rw [←hnrs];exact j0n _ _
 have k8:=y0b rA rB hrAl hrBl hrAd hrBd
 rw [hrAv,hrBv] at k8
 rw [show (nrA+nrB)%p25=fA nrA nrB from rfl] at k8
 rw [hnrs] at k8
 obtain ⟨rs,hrs⟩: ∃ q,D16 nrs=q:=⟨_,rfl⟩
 have hrsl:rs.length=16:=by rw [←hrs];rfl
 have hrsd: ∀ i,i<16→(fL rs i).toNat<65536:=by rw [←hrs];exact Gz _
 have hrsv:Hq 65536 rs=nrs:=by rw [←hrs];exact Ew (Kj lrs)
 rw [hrs] at k8
 obtain ⟨noB,hnoB⟩: ∃ n,(p25-nrB)%p25=n:=⟨_,rfl⟩
 have loB:noB<p25:=by rw [←hnoB];exact Nat.mod_lt _ a0e
 have k9:=c0s rB hrBl hrBd (by rw [hrBv];exact Nat.le_of_lt lrB)
 rw [hrBv,hnoB] at k9
 obtain ⟨oB,hoB⟩: ∃ q,D16 noB=q:=⟨_,rfl⟩
 have hoBl:oB.length=16:=by rw [←hoB];rfl
 have hoBd: ∀ i,i<16→(fL oB i).toNat<65536:=by rw [←hoB];exact Gz _
 have hoBv:Hq 65536 oB=noB:=by rw [←hoB];exact Ew (Kj loB)
 rw [hoB] at k9
 obtain ⟨nre,hnre⟩: ∃ n,fS nrA nrB=n:=⟨_,rfl⟩
 have lre:nre<p25:=by rw [←hnre];exact n0c _ _
 have k10:=y0b rA oB hrAl hoBl hrAd hoBd
 rw [hrAv,hoBv,←hnoB,h1g lrA lrB] at k10
 rw [hnre] at k10
 obtain ⟨re,hre⟩: ∃ q,D16 nre=q:=⟨_,rfl⟩
 have hrel:re.length=16:=by rw [←hre];rfl
 have hred: ∀ i,i<16→(fL re i).toNat<65536:=by rw [←hre];exact Gz _
 have hrev:Hq 65536 re=nre:=by rw [←hre];exact Ew (Kj lre)
 rw [hre] at k10
 obtain ⟨nrX,hnrX⟩: ∃ n,fM nrs nrs=n:=⟨_,rfl⟩
 have lrX:nrX<p25:=by rw [←hnrX];exact Qq _ _
 have k11:=Pj rs rs hrsl hrsl hrsd hrsd
 rw [hrsv] at k11
 rw [show (nrs*nrs)%p25=fM nrs nrs from rfl] at k11
 rw [hnrX] at k11
 obtain ⟨rX,hrX⟩: ∃ q,D16 nrX=q:=⟨_,rfl⟩
 have hrXl:rX.length=16:=by rw [←hrX];rfl
 have hrXd: ∀ i,i<16→(fL rX i).toNat<65536:=by rw [←hrX];exact Gz _
 have hrXv:Hq 65536 rX=nrX:=by rw [←hrX];exact Ew (Kj lrX)
 rw [hrX] at k11
 obtain ⟨nrf,hnrf⟩: ∃ n,fM nre nre=n:=⟨_,rfl⟩
 have lrf:nrf<p25:=by rw [←hnrf];exact Qq _ _
 have k12:=Pj re re hrel hrel hred hred
 rw [hrev] at k12
 rw [show (nre*nre)%p25=fM nre nre from rfl] at k12
 rw [hnrf] at k12
 obtain ⟨rf,hrf⟩: ∃ q,D16 nrf=q:=⟨_,rfl⟩
 have hrfl:rf.length=16:=by rw [←hrf];rfl
 have hrfd: ∀ i,i<16→(fL rf i).toNat<65536:=by rw [←hrf];exact Gz _
 have hrfv:Hq 65536 rf=nrf:=by rw [←hrf];exact Ew (Kj lrf)
 rw [hrf] at k12
 obtain ⟨nrZ,hnrZ⟩: ∃ n,fM U nrf=n:=⟨_,rfl⟩
 have lrZ:nrZ<p25:=by rw [←hnrZ];exact Qq _ _
 have k13:=Pj uu rf huul hrfl huud hrfd
 rw [huuv,hrfv] at k13
 rw [show (U*nrf)%p25=fM U nrf from rfl] at k13
 rw [hnrZ] at k13
 obtain ⟨rZ,hrZ⟩: ∃ q,D16 nrZ=q:=⟨_,rfl⟩
 have hrZl:rZ.length=16:=by rw [←hrZ];rfl
 have hrZd: ∀ i,i<16→(fL rZ i).toNat<65536:=by rw [←hrZ];exact Gz _
 have hrZv:Hq 65536 rZ=nrZ:=by rw [←hrZ];exact Ew (Kj lrZ)
 rw [hrZ] at k13
 have hfin:ptC (b0f ⟨X0,Z0⟩ ⟨X1,Z1⟩ U)=Aw rX++Aw rZ:=by simp only [ptC,b0f,hnra,hnrb,hnrc,hnrA,hnrd,hnrB,hnrs,hnre,hnrX,hnrf,hnrZ,hrX,hrZ]
 rw [hfin]
 simp only [ptC,hxx,hzz,hyy,hvv,huu]
 have F0:=And.intro hxxl<|And.intro hzzl<|And.intro hyyl<|And.intro hvvl<|And.intro huul<|And.intro hopzl<|And.intro hrbl<|And.intro hrcl<|And.intro hrAl<|And.intro hral<|And.intro hoqzl<|And.intro hrdl<|And.intro hrBl<|And.intro hrsl<|And.intro hoBl<|And.intro hrel<|And.intro hrXl<|And.intro hrfl<|hrZl
 refine CtM.k Tryd.func46 rfl Tryd.ntmps46 (congrArg Array.toList Tryd.results46) (by simp) fun w0 ro may fx=>?_
 refine Dj fun zZ zhZ=>?_
 refine Cx fun zK zhK=>?_
 simp only [go_sem,F0]
 repeat' (first|apply And.intro|intro _)
 refine zhK _ ?_
 refine Bz fun zN zM zhN zhM=>?_
 refine b0s (id:=1) mixed fun zE zhE=>?_
 refine Ck (p:=0) 13 [11,12,13,14,15,16,17,18,19,20,21,22,7] [0,1,0,4,12,31,0,64,0,256,1023,2047,0,8191] [] rfl (by kernel_rfl) rfl (by simp only [go_sem]) fun zR zK zhR zhK=>?_
 simp only [go_sem,F0]
 repeat' (first|apply And.intro|intro _)
 all_goals (refine Bw (fun k=>k) (.w (.agg (Aw opz))) [] (fun _ _=>rfl) ?_ ?_ ?_ k0.told ?_ ?_;(iterate 2 (focus (first|rfl|(simp only [go_sem,F0]<;>first|done|rfl|simp))));(first|kernel_rfl|rfl|simp [Qv,Qk,pls]))
 all_goals try (refine And.intro ?_ (And.intro ?_ (And.intro ?_ ?_))<;>(first|rfl|(simp only [go_sem,F0];done)|(simp [go_sem,look,F0];done)))
 all_goals (try simp only [go_sem,F0])
 all_goals (try simp only [go_sem,F0])
 all_goals repeat' (first|apply And.intro|intro _)
 all_goals (refine Bw (fun k=>k) (.w (.agg (Aw rb))) [] (fun _ _=>rfl) ?_ ?_ ?_ k1.told ?_ ?_;(iterate 2 (focus (first|rfl|(simp only [go_sem,F0]<;>first|done|rfl|simp))));(first|kernel_rfl|rfl|simp [Qv,Qk,pls]))
 all_goals try (refine And.intro ?_ (And.intro ?_ (And.intro ?_ ?_))<;>(first|rfl|(simp only [go_sem,F0];done)|(simp [go_sem,look,F0];done)))
 all_goals (try simp only [go_sem,F0])
 all_goals (try simp only [go_sem,F0])
 all_goals repeat' (first|apply And.intro|intro _)
 all_goals (refine Bw (fun k=>k) (.w (.agg (Aw rc))) [] (fun _ _=>rfl) ?_ ?_ ?_ k2.told ?_ ?_;(iterate 2 (focus (first|rfl|(simp only [go_sem,F0]<;>first|done|rfl|simp))));(first|kernel_rfl|rfl|simp [Qv,Qk,pls]))
 all_goals try (refine And.intro ?_ (And.intro ?_ (And.intro ?_ ?_))<;>(first|rfl|(simp only [go_sem,F0];done)|(simp [go_sem,look,F0];done)))
 all_goals (try simp only [go_sem,F0])
 all_goals (try simp only [go_sem,F0])
 all_goals repeat' (first|apply And.intro|intro _)
 all_goals (refine Bw (fun k=>k) (.w (.agg (Aw rA))) [] (fun _ _=>rfl) ?_ ?_ ?_ k3.told ?_ ?_;(iterate 2 (focus (first|rfl|(simp only [go_sem,F0]<;>first|done|rfl|simp))));(first|kernel_rfl|rfl|simp [Qv,Qk,pls]))
 all_goals try (refine And.intro ?_ (And.intro ?_ (And.intro ?_ ?_))<;>(first|rfl|(simp only [go_sem,F0];done)|(simp [go_sem,look,F0];done)))
 all_goals (try simp only [go_sem,F0])
 all_goals (try simp only [go_sem,F0])
 all_goals repeat' (first|apply And.intro|intro _)
 refine zhK _ _ trivial (zhR _ ?_)
 refine Dk 1 14 rfl (by kernel_rfl) rfl rfl fun zR zhR=>?_
 simp only [go_sem,F0]
 repeat' (first|apply And.intro|intro _)
 refine zhR _ ?_
 refine Jy rfl (zhE _ ?_)
 refine zhN _ ?_;clear zhN zhM
 refine Bz fun zN zM zhN zhM=>?_
 refine b0s (id:=2) mixed fun zE zhE=>?_
 refine Ck (p:=0) 13 [23,24,25,26,27,28,29,30,31,32,33,34,8] [0,1,0,4,15,0,32,0,128,415,1023,2047,0,8191] [] rfl (by kernel_rfl) rfl (by simp only [go_sem]) fun zR zK zhR zhK=>?_
 simp only [go_sem,F0]
 repeat' (first|apply And.intro|intro _)
 all_goals (refine Bw (fun k=>k) (.w (.agg (Aw ra))) [] (fun _ _=>rfl) ?_ ?_ ?_ k4.told ?_ ?_;(iterate 2 (focus (first|rfl|(simp only [go_sem,F0]<;>first|done|rfl|simp))));(first|kernel_rfl|rfl|simp [Qv,Qk,pls]))
 all_goals try (refine And.intro ?_ (And.intro ?_ (And.intro ?_ ?_))<;>(first|rfl|(simp only [go_sem,F0];done)|(simp [go_sem,look,F0];done)))
 all_goals (try simp only [go_sem,F0])
 all_goals (try simp only [go_sem,F0])
 all_goals repeat' (first|apply And.intro|intro _)
 all_goals (refine Bw (fun k=>k) (.w (.agg (Aw oqz))) [] (fun _ _=>rfl) ?_ ?_ ?_ k5.told ?_ ?_;(iterate 2 (focus (first|rfl|(simp only [go_sem,F0]<;>first|done|rfl|simp))));(first|kernel_rfl|rfl|simp [Qv,Qk,pls]))
 all_goals try (refine And.intro ?_ (And.intro ?_ (And.intro ?_ ?_))<;>(first|rfl|(simp only [go_sem,F0];done)|(simp [go_sem,look,F0];done)))
 all_goals (try simp only [go_sem,F0])
 all_goals (try simp only [go_sem,F0])
 all_goals repeat' (first|apply And.intro|intro _)
 all_goals (refine Bw (fun k=>k) (.w (.agg (Aw rd))) [] (fun _ _=>rfl) ?_ ?_ ?_ k6.told ?_ ?_;(iterate 2 (focus (first|rfl|(simp only [go_sem,F0]<;>first|done|rfl|simp))));(first|kernel_rfl|rfl|simp [Qv,Qk,pls]))
 all_goals try (refine And.intro ?_ (And.intro ?_ (And.intro ?_ ?_))<;>(first|rfl|(simp only [go_sem,F0];done)|(simp [go_sem,look,F0];done)))
 all_goals (try simp only [go_sem,F0])
 all_goals (try simp only [go_sem,F0])
 all_goals repeat' (first|apply And.intro|intro _)
 all_goals (refine Bw (fun k=>k) (.w (.agg (Aw rB))) [] (fun _ _=>rfl) ?_ ?_ ?_ k7.told ?_ ?_;(iterate 2 (focus (first|rfl|(simp only [go_sem,F0]<;>first|done|rfl|simp))));(first|kernel_rfl|rfl|simp [Qv,Qk,pls]))
 all_goals try (refine And.intro ?_ (And.intro ?_ (And.intro ?_ ?_))<;>(first|rfl|(simp only [go_sem,F0];done)|(simp [go_sem,look,F0];done)))
 all_goals (try simp only [go_sem,F0])
 all_goals (try simp only [go_sem,F0])
 all_goals repeat' (first|apply And.intro|intro _)
 refine zhK _ _ trivial (zhR _ ?_)
 refine Dk 1 14 rfl (by kernel_rfl) rfl rfl fun zR zhR=>?_
 simp only [go_sem,F0]
 repeat' (first|apply And.intro|intro _)
 refine zhR _ ?_
 refine Jy rfl (zhE _ ?_)
 refine zhN _ ?_;clear zhN zhM
 refine Bz fun zN zM zhN zhM=>?_
 refine b0s (id:=3) mixed fun zE zhE=>?_
 refine Ck (p:=0) 9 [35,36,37,38,39,40,41,9,10] [0,0,3,0,0,23,63,0,0,511,1023] [] rfl (by kernel_rfl) rfl (by simp only [go_sem]) fun zR zK zhR zhK=>?_
 simp only [go_sem,F0]
 repeat' (first|apply And.intro|intro _)
 all_goals (refine Bw (fun k=>k) (.w (.agg (Aw rs))) [] (fun _ _=>rfl) ?_ ?_ ?_ k8.told ?_ ?_;(iterate 2 (focus (first|rfl|(simp only [go_sem,F0]<;>first|done|rfl|simp))));(first|kernel_rfl|rfl|simp [Qv,Qk,pls]))
 all_goals try (refine And.intro ?_ (And.intro ?_ (And.intro ?_ ?_))<;>(first|rfl|(simp only [go_sem,F0];done)|(simp [go_sem,look,F0];done)))
 all_goals (try simp only [go_sem,F0])
 all_goals (try simp only [go_sem,F0])
 all_goals repeat' (first|apply And.intro|intro _)
 all_goals (refine Bw (fun k=>k) (.w (.agg (Aw oB))) [] (fun _ _=>rfl) ?_ ?_ ?_ k9.told ?_ ?_;(iterate 2 (focus (first|rfl|(simp only [go_sem,F0]<;>first|done|rfl|simp))));(first|kernel_rfl|rfl|simp [Qv,Qk,pls]))
 all_goals try (refine And.intro ?_ (And.intro ?_ (And.intro ?_ ?_))<;>(first|rfl|(simp only [go_sem,F0];done)|(simp [go_sem,look,F0];done)))
 all_goals (try simp only [go_sem,F0])
 all_goals (try simp only [go_sem,F0])
 all_goals repeat' (first|apply And.intro|intro _)
 all_goals (refine Bw (fun k=>k) (.w (.agg (Aw re))) [] (fun _ _=>rfl) ?_ ?_ ?_ k10.told ?_ ?_;(iterate 2 (focus (first|rfl|(simp only [go_sem,F0]<;>first|done|rfl|simp))));(first|kernel_rfl|rfl|simp [Qv,Qk,pls]))
 all_goals try (refine And.intro ?_ (And.intro ?_ (And.intro ?_ ?_))<;>(first|rfl|(simp only [go_sem,F0];done)|(simp [go_sem,look,F0];done)))
 all_goals (try simp only [go_sem,F0])
 all_goals (try simp only [go_sem,F0])
 all_goals repeat' (first|apply And.intro|intro _)
 refine zhK _ _ trivial (zhR _ ?_)
 refine Dk 2 11 rfl (by kernel_rfl) rfl rfl fun zR zhR=>?_
 simp only [go_sem,F0]
 repeat' (first|apply And.intro|intro _)
 refine zhR _ ?_
 refine Jy rfl (zhE _ ?_)
 refine zhN _ ?_;clear zhN zhM
 refine Bz fun zN zM zhN zhM=>?_
 refine b0s (id:=4) mixed fun zE zhE=>?_
 refine Ck (p:=0) 7 [42,43,44,45,46,47,48] [0,0,3,0,0,0,55,127,255,511] [] rfl (by kernel_rfl) rfl (by simp only [go_sem]) fun zR zK zhR zhK=>?_
 simp only [go_sem,F0]
 repeat' (first|apply And.intro|intro _)
 all_goals (refine Bw (fun k=>k) (.w (.agg (Aw rX))) [] (fun _ _=>rfl) ?_ ?_ ?_ k11.told ?_ ?_;(iterate 2 (focus (first|rfl|(simp only [go_sem,F0]<;>first|done|rfl|simp))));(first|kernel_rfl|rfl|simp [Qv,Qk,pls]))
 all_goals try (refine And.intro ?_ (And.intro ?_ (And.intro ?_ ?_))<;>(first|rfl|(simp only [go_sem,F0];done)|(simp [go_sem,look,F0];done)))
 all_goals (try simp only [go_sem,F0])
 all_goals (try simp only [go_sem,F0])
 all_goals repeat' (first|apply And.intro|intro _)
 all_goals (refine Bw (fun k=>k) (.w (.agg (Aw rf))) [] (fun _ _=>rfl) ?_ ?_ ?_ k12.told ?_ ?_;(iterate 2 (focus (first|rfl|(simp only [go_sem,F0]<;>first|done|rfl|simp))));(first|kernel_rfl|rfl|simp [Qv,Qk,pls]))
 all_goals try (refine And.intro ?_ (And.intro ?_ (And.intro ?_ ?_))<;>(first|rfl|(simp only [go_sem,F0];done)|(simp [go_sem,look,F0];done)))
 all_goals (try simp only [go_sem,F0])
 all_goals (try simp only [go_sem,F0])
 all_goals repeat' (first|apply And.intro|intro _)
 refine zhK _ _ trivial (zhR _ ?_)
 refine Dk 3 10 rfl (by kernel_rfl) rfl rfl fun zR zhR=>?_
 simp only [go_sem,F0]
 repeat' (first|apply And.intro|intro _)
 all_goals (refine Bq false [] (fun k=>k) (fun _ _=>rfl) ?_ (by decide) ?_ k13.told ?_;iterate 2 (focus (first|rfl|(simp only [go_sem,F0]<;>first|done|rfl|simp))))
 all_goals (rintro v m ⟨hR,hm⟩;subst hR;subst hm)
 all_goals (refine And.intro ?_ (And.intro ?_ (And.intro ?_ ?_));iterate 3 (focus (first|rfl|(simp only [go_sem,F0];done)|(simp [go_sem,look,F0];done))))
 all_goals (try simp only [go_sem,F0])
 all_goals (try simp only [go_sem,F0])
 all_goals repeat' (first|apply And.intro|intro _)
 refine zhR _ ?_
 refine Jy rfl (zhE _ ?_)
 refine zhN _ ?_;clear zhN zhM
 refine Dx ?_
 refine zhZ _ _ ?_
 simp only [go_sem,F0]
 all_goals (exact told_plain (by simp [Fj,Hz,Aw]) ⟨by first|rfl|simp,rfl⟩)
end Lk
end Go.Sy
