/- Walks and what they compute. CONDITIONS: those that each theorem names. -/
import Derived.Test.YtkfcbhgkpknagaaGreatDoorvS27
import Derived.Test.YtkfcbhgkpknagaaGreatDoorvE3
set_option linter.unusedVariables false
set_option linter.unusedSimpArgs false
set_option maxHeartbeats 3200000
set_option maxRecDepth 100000
namespace Go.Sy
def fA (a b:Nat):Nat:=(a+b)%p25
def fS (a b:Nat):Nat:=(a+p25-b)%p25
def fM (a b:Nat):Nat:=a*b%p25
instance : NeZero p25:=⟨by decide⟩
def ph (a:Nat):Fin p25:=Fin.ofNat p25 a
theorem n0i (a b:Nat):fA a b<p25:=wP _ b0u
theorem r0y (a b:Nat):fS a b<p25:=wP _ b0u
theorem Tx (a b:Nat):fM a b<p25:=wP _ b0u
theorem h0d (a:Nat):(ph a).val=a%p25:=rfl
theorem a2q {a b:Nat} (ha:a<p25) (hb:b<p25) (h:ph a=ph b):a=b:=by
 have:=congrArg Fin.val h
 rwa [h0d,h0d,yN ha,yN hb] at this
theorem s2b (a b:Nat):ph (fA a b)=ph a+ph b:=by
 apply Fin.ext
 rw [Fin.val_add,h0d,h0d,h0d,fA,Nat.mod_mod,←Nat.add_mod]
theorem p2g (a b:Nat):ph (fM a b)=ph a*ph b:=by
 apply Fin.ext
 rw [Fin.val_mul,h0d,h0d,h0d,fM,Nat.mod_mod,←Nat.mul_mod]
theorem q2i {a b:Nat} (hb:b<p25):ph (fS a b)=ph a-ph b:=by
 apply Fin.ext
 rw [Fin.sub_def]
 simp only [h0d,fS,Nat.mod_mod,yN hb]
 rw [show a+p25-b=(p25-b)+a from by omega,Nat.add_mod_mod]
theorem d2w (a:Nat):ph (a+1)=ph a+1:=by
 apply Fin.ext
 rw [Fin.val_add]
 simp only [h0d]
 rw [show ((1:Fin p25)).val=1%p25 from rfl,←Nat.add_mod]
structure Pt where
 x:Nat
 z:Nat
def Pt.ok (p:Pt):Prop:=p.x<p25∧p.z<p25
def h2u (p:Pt):Pt:=
 let a:=fA p.x p.z
 let b:=fS p.x p.z
 let e:=fS (fM a a) (fM b b)
 ⟨fM (fM a a) (fM b b),fM e (fA (fM a a) (fM 121665 e))⟩
def w0k (p:Pt):Pt:=
 let a:=fA p.x p.z
 let b:=fS p.x p.z
 let e:=fS (fM a a) (fM b b)
 ⟨fM (fM a a) (fM b b),fM e (fA (fM b b) (fM 121666 e))⟩
def w0p (p q:Pt) (u:Nat):Pt:=
 let da:=fM (fS q.x q.z) (fA p.x p.z)
 let cb:=fM (fA q.x q.z) (fS p.x p.z)
 ⟨fM (fA da cb) (fA da cb),fM u (fM (fS da cb) (fS da cb))⟩
def d0d (p q:Pt) (u:Nat):Pt:=
 let a:=fM (fS p.x p.z) (fA q.x q.z)
 let b:=fM (fA p.x p.z) (fS q.x q.z)
 ⟨fM (fA a b) (fA a b),fM u (fM (fS a b) (fS a b))⟩
theorem h1g (p:Pt):h2u p=w0k p:=by
 simp only [h2u,w0k,Pt.mk.injEq,true_and]
 refine congrArg _ (a2q (n0i _ _) (n0i _ _) ?_)
 have hb:=Tx (fS p.x p.z) (fS p.x p.z)
 generalize fM (fA p.x p.z) (fA p.x p.z)=aa
 generalize fM (fS p.x p.z) (fS p.x p.z)=bb at*
 rw [s2b,s2b,p2g,p2g,q2i hb,show ph 121666=ph 121665+1 from d2w 121665]
 generalize ph aa=a
 generalize ph bb=b
 generalize ph 121665=k
 grind
theorem r1b (a b:Nat):fM a b=fM b a:=by rw [fM,fM,vF]
theorem g2o (a b:Nat):fA a b=fA b a:=by rw [fA,fA,vL]
theorem k2p {a b:Nat} (ha:a<p25) (hb:b<p25):fM (fS a b) (fS a b)=fM (fS b a) (fS b a):=by
 refine a2q (Tx _ _) (Tx _ _) ?_
 rw [p2g,p2g,q2i hb,q2i ha]
 generalize ph a=x
 generalize ph b=y
 grind
theorem l1p (p q:Pt) (u:Nat):w0p p q u=d0d p q u:=by
 simp only [w0p,d0d,Pt.mk.injEq]
 rw [r1b (fS q.x q.z) (fA p.x p.z),r1b (fA q.x q.z) (fS p.x p.z),g2o (fM (fA p.x p.z) (fS q.x q.z)),k2p (Tx _ _) (Tx _ _)]
 exact ⟨rfl,rfl⟩
theorem f1b (p q:Pt) (u:Nat):w0p q p u=d0d p q u:=rfl
end Go.Sy
namespace Go.Sy
namespace Lk
open Go.Proofs
attribute [local irreducible] Bw HT Aj Jk onC onE onO onG goV goA goS Lx Bz
theorem j0k (vw:Bool) (S:St) (hd:Hand) (r:List L): ∀ l:List UInt64,Dq vw S hd (Dz l++r)=(Dq vw S hd r).map (Dz l++ ·)
 | []=>by simp [Dz]
 |x::l=>by
  have ih:=j0k vw S hd r l
  simp only [Dz] at ih
  simp only [Dz,yL,yB,Dq,Uv,ih]
  cases Dq vw S hd r<;>rfl
attribute [go_sem] j0k
theorem r1a {n m:Nat} (hn:n<p25) (hm:m<p25):(n+(p25-m)%p25)%p25=fS n m:=h2t hn hm
theorem Mv {n:Nat} (h:n<p25):n<m4:=by
 have:=j0g
 have:=f0c
 omega
def ptC (p:Pt):List L:=Dz (D16 p.x)++Dz (D16 p.z)
theorem r2d :Dz (D16 121666)=[.pl (.u64 56130),.pl (.u64 1),.pl (.u64 0),.pl (.u64 0),.pl (.u64 0),.pl (.u64 0),.pl (.u64 0),.pl (.u64 0),.pl (.u64 0),.pl (.u64 0),.pl (.u64 0),.pl (.u64 0),.pl (.u64 0),.pl (.u64 0),.pl (.u64 0),.pl (.u64 0)]:=by rw [show D16 121666=[56130,1,0,0,0,0,0,0,0,0,0,0,0,0,0,0] from by decide+kernel];rfl
theorem n1v (X0 Z0:Nat) (l0:X0<p25) (l1:Z0<p25):
 CtM Tryz.prog 92 [.w (.agg (ptC ⟨X0,Z0⟩))] [(1000000,⟨false,Dz Nw⟩)] (Told (fun v m=>v=.w (.agg (ptC (w0k ⟨X0,Z0⟩)))∧m=[])):=by
 have lkk:(121666:Nat)<p25:=by decide
 obtain ⟨lxx,lzz⟩:X0<p25∧Z0<p25:=⟨l0,l1⟩
 obtain ⟨xx,hxx⟩: ∃ q,D16 X0=q:=⟨_,rfl⟩
 have hxxl:xx.length=16:=by rw [←hxx];rfl
 have hxxd: ∀ i,i<16→(fL xx i).toNat<65536:=by rw [←hxx];exact Ej _
 have hxxv:Gw 65536 xx=X0:=by rw [←hxx];exact Cq (Mv lxx)
 obtain ⟨zz,hzz⟩: ∃ q,D16 Z0=q:=⟨_,rfl⟩
 have hzzl:zz.length=16:=by rw [←hzz];rfl
 have hzzd: ∀ i,i<16→(fL zz i).toNat<65536:=by rw [←hzz];exact Ej _
 have hzzv:Gw 65536 zz=Z0:=by rw [←hzz];exact Cq (Mv lzz)
 obtain ⟨kk,hkk⟩: ∃ q,D16 121666=q:=⟨_,rfl⟩
 have hkkl:kk.length=16:=by rw [←hkk];rfl
 have hkkd: ∀ i,i<16→(fL kk i).toNat<65536:=by rw [←hkk];exact Ej _
 have hkkv:Gw 65536 kk=121666:=by rw [←hkk];exact Cq (Mv lkk)
 obtain ⟨nra,hnra⟩: ∃ n,fA X0 Z0=n:=⟨_,rfl⟩
 have lra:nra<p25:=by rw [←hnra];exact n0i _ _
 have k0:=f1o xx zz hxxl hzzl hxxd hzzd
 rw [hxxv,hzzv] at k0
 rw [show (X0+Z0)%p25=fA X0 Z0 from rfl] at k0
 rw [hnra] at k0
 obtain ⟨ra,hra⟩: ∃ q,D16 nra=q:=⟨_,rfl⟩
 have hral:ra.length=16:=by rw [←hra];rfl
 have hrad: ∀ i,i<16→(fL ra i).toNat<65536:=by rw [←hra];exact Ej _
 have hrav:Gw 65536 ra=nra:=by rw [←hra];exact Cq (Mv lra)
 rw [hra] at k0
 obtain ⟨noz,hnoz⟩: ∃ n,(p25-Z0)%p25=n:=⟨_,rfl⟩
 have loz:noz<p25:=by rw [←hnoz];exact wP _ b0u
 have k1:=e0y zz hzzl hzzd (by rw [hzzv];exact wQ lzz)
 rw [hzzv,hnoz] at k1
 obtain ⟨oz,hoz⟩: ∃ q,D16 noz=q:=⟨_,rfl⟩
 have hozl:oz.length=16:=by rw [←hoz];rfl
 have hozd: ∀ i,i<16→(fL oz i).toNat<65536:=by rw [←hoz];exact Ej _
 have hozv:Gw 65536 oz=noz:=by rw [←hoz];exact Cq (Mv loz)
 rw [hoz] at k1
 obtain ⟨nrb,hnrb⟩: ∃ n,fS X0 Z0=n:=⟨_,rfl⟩
 have lrb:nrb<p25:=by rw [←hnrb];exact r0y _ _
 have k2:=f1o xx oz hxxl hozl hxxd hozd
 rw [hxxv,hozv,←hnoz,r1a lxx lzz] at k2
 rw [hnrb] at k2
 obtain ⟨rb,hrb⟩: ∃ q,D16 nrb=q:=⟨_,rfl⟩
 have hrbl:rb.length=16:=by rw [←hrb];rfl
 have hrbd: ∀ i,i<16→(fL rb i).toNat<65536:=by rw [←hrb];exact Ej _
 have hrbv:Gw 65536 rb=nrb:=by rw [←hrb];exact Cq (Mv lrb)
 rw [hrb] at k2
 obtain ⟨nrs,hnrs⟩: ∃ n,fM nra nra=n:=⟨_,rfl⟩
 have lrs:nrs<p25:=by rw [←hnrs];exact Tx _ _
 have k3:=Rv ra ra hral hral hrad hrad
 rw [hrav] at k3
 rw [show (nra*nra)%p25=fM nra nra from rfl] at k3
 rw [hnrs] at k3
 obtain ⟨rs,hrs⟩: ∃ q,D16 nrs=q:=⟨_,rfl⟩
 have hrsl:rs.length=16:=by rw [←hrs];rfl
 have hrsd: ∀ i,i<16→(fL rs i).toNat<65536:=by rw [←hrs];exact Ej _
 have hrsv:Gw 65536 rs=nrs:=by rw [←hrs];exact Cq (Mv lrs)
 rw [hrs] at k3
 obtain ⟨nrd,hnrd⟩: ∃ n,fM nrb nrb=n:=⟨_,rfl⟩
 have lrd:nrd<p25:=by rw [←hnrd];exact Tx _ _
 have k4:=Rv rb rb hrbl hrbl hrbd hrbd
 rw [hrbv] at k4
 rw [show (nrb*nrb)%p25=fM nrb nrb from rfl] at k4
 rw [hnrd] at k4
 obtain ⟨rd,hrd⟩: ∃ q,D16 nrd=q:=⟨_,rfl⟩
 have hrdl:rd.length=16:=by rw [←hrd];rfl
 have hrdd: ∀ i,i<16→(fL rd i).toNat<65536:=by rw [←hrd];exact Ej _
 have hrdv:Gw 65536 rd=nrd:=by rw [←hrd];exact Cq (Mv lrd)
 rw [hrd] at k4
 obtain ⟨nod,hnod⟩: ∃ n,(p25-nrd)%p25=n:=⟨_,rfl⟩
 have lod:nod<p25:=by rw [←hnod];exact wP _ b0u
 have k5:=e0y rd hrdl hrdd (by rw [hrdv];exact wQ lrd)
 rw [hrdv,hnod] at k5
 obtain ⟨od,hod⟩: ∃ q,D16 nod=q:=⟨_,rfl⟩
 have hodl:od.length=16:=by rw [←hod];rfl
 have hodd: ∀ i,i<16→(fL od i).toNat<65536:=by rw [←hod];exact Ej _
 have hodv:Gw 65536 od=nod:=by rw [←hod];exact Cq (Mv lod)
 rw [hod] at k5
 obtain ⟨nre,hnre⟩: ∃ n,fS nrs nrd=n:=⟨_,rfl⟩
 have lre:nre<p25:=by rw [←hnre];exact r0y _ _
 have k6:=f1o rs od hrsl hodl hrsd hodd
 rw [hrsv,hodv,←hnod,r1a lrs lrd] at k6
 rw [hnre] at k6
 obtain ⟨re,hre⟩: ∃ q,D16 nre=q:=⟨_,rfl⟩
 have hrel:re.length=16:=by rw [←hre];rfl
 have hred: ∀ i,i<16→(fL re i).toNat<65536:=by rw [←hre];exact Ej _
 have hrev:Gw 65536 re=nre:=by rw [←hre];exact Cq (Mv lre)
 rw [hre] at k6
 obtain ⟨nrX,hnrX⟩: ∃ n,fM nrs nrd=n:=⟨_,rfl⟩
 have lrX:nrX<p25:=by rw [←hnrX];exact Tx _ _
 have k7:=Rv rs rd hrsl hrdl hrsd hrdd
 rw [hrsv,hrdv] at k7
 rw [show (nrs*nrd)%p25=fM nrs nrd from rfl] at k7
 rw [hnrX] at k7
 obtain ⟨rX,hrX⟩: ∃ q,D16 nrX=q:=⟨_,rfl⟩
 have hrXl:rX.length=16:=by rw [←hrX];rfl
 have hrXd: ∀ i,i<16→(fL rX i).toNat<65536:=by rw [←hrX];exact Ej _
 have hrXv:Gw 65536 rX=nrX:=by rw [←hrX];exact Cq (Mv lrX)
 rw [hrX] at k7
 obtain ⟨nrk,hnrk⟩: ∃ n,fM 121666 nre=n:=⟨_,rfl⟩
 have lrk:nrk<p25:=by rw [←hnrk];exact Tx _ _
 have k8:=Rv kk re hkkl hrel hkkd hred
 rw [hkkv,hrev] at k8
 rw [show (121666*nre)%p25=fM 121666 nre from rfl] at k8
 rw [hnrk] at k8
 obtain ⟨rk,hrk⟩: ∃ q,D16 nrk=q:=⟨_,rfl⟩
 have hrkl:rk.length=16:=by rw [←hrk];rfl
 have hrkd: ∀ i,i<16→(fL rk i).toNat<65536:=by rw [←hrk];exact Ej _
 have hrkv:Gw 65536 rk=nrk:=by rw [←hrk];exact Cq (Mv lrk)
 rw [hrk] at k8
 obtain ⟨nrt,hnrt⟩: ∃ n,fA nrd nrk=n:=⟨_,rfl⟩
 have lrt:nrt<p25:=by rw [←hnrt];exact n0i _ _
 have k9:=f1o rd rk hrdl hrkl hrdd hrkd
 rw [hrdv,hrkv] at k9
 rw [show (nrd+nrk)%p25=fA nrd nrk from rfl] at k9
 rw [hnrt] at k9
 obtain ⟨rt,hrt⟩: ∃ q,D16 nrt=q:=⟨_,rfl⟩
 have hrtl:rt.length=16:=by rw [←hrt];rfl
 have hrtd: ∀ i,i<16→(fL rt i).toNat<65536:=by rw [←hrt];exact Ej _
 have hrtv:Gw 65536 rt=nrt:=by rw [←hrt];exact Cq (Mv lrt)
 rw [hrt] at k9
 obtain ⟨nrZ,hnrZ⟩: ∃ n,fM nre nrt=n:=⟨_,rfl⟩
 have lrZ:nrZ<p25:=by rw [←hnrZ];exact Tx _ _
 have k10:=Rv re rt hrel hrtl hred hrtd
 rw [hrev,hrtv] at k10
 rw [show (nre*nrt)%p25=fM nre nrt from rfl] at k10
 rw [hnrZ] at k10
 obtain ⟨rZ,hrZ⟩: ∃ q,D16 nrZ=q:=⟨_,rfl⟩
 have hrZl:rZ.length=16:=by rw [←hrZ];rfl
 have hrZd: ∀ i,i<16→(fL rZ i).toNat<65536:=by rw [←hrZ];exact Ej _
 have hrZv:Gw 65536 rZ=nrZ:=by rw [←hrZ];exact Cq (Mv lrZ)
 rw [hrZ] at k10
 have hkc:=r2d
 rw [hkk] at hkc
 rw [hkc] at k8
 have hfin:ptC (w0k ⟨X0,Z0⟩)=Dz rX++Dz rZ:=by simp only [ptC,w0k,hnra,hnrb,hnrs,hnrd,hnre,hnrX,hnrk,hnrt,hnrZ,hrX,hrZ]
 rw [hfin]
 simp only [ptC,hxx,hzz]
 have F0:=yA hxxl<|yA hzzl<|yA hkkl<|yA hral<|yA hozl<|yA hrbl<|yA hrsl<|yA hrdl<|yA hodl<|yA hrel<|yA hrXl<|yA hrkl<|yA hrtl<|hrZl
 refine CtM.go Tryz.func92 rfl Tryz.ntmps92 Tryz.results92 fun w0 ro may fx zZ zhY=>?_
 have cq:=yA k0.told<|yA k1.told<|yA k2.told<|yA k3.told<|yA k4.told<|yA k5.told<|yA k6.told<|yA k7.told<|yA k8.told<|yA k9.told<|yA (CtM.ch [] (k10.told))<|trivial
 have zr0:DS 1:=⟨⟩
 have zr1:DS 2:=⟨⟩
 have zr2:DS 3:=⟨⟩
 have zr3:DS 4:=⟨⟩
 have zq:DP 0 13 [8,9,10,11,12,13,14,15,16,17,18,3,4] [0,1,0,4,15,0,32,0,128,415,1023,0,0,8191,16383] []∧DN 2 15∧DP 0 8 [19,20,21,22,23,24,5,6] [0,0,3,0,0,31,0,0,255,511] []∧DN 2 10∧DP 0 5 [25,26,27,28,7] [0,0,2,7,0,31] []∧DN 1 6∧DP 0 9 [29,30,31,32,33,34,35,36,37] [0,0,3,0,0,0,0,103,247,511,1023,2047] []∧DN 3 12∧True:=⟨⟨⟩,⟨⟩,⟨⟩,⟨⟩,⟨⟩,⟨⟩,⟨⟩,⟨⟩,trivial⟩
 refine (fun zX=>goW) ?_
 refine zhY _ _ ?_
 simp only [go_sem,F0]
 all_goals (exact told_plain (by simp [Dv,Ew,Dz]) ⟨by first|rfl|simp,rfl⟩)
theorem k2w (X0 Z0 X1 Z1 U:Nat) (l0:X0<p25) (l1:Z0<p25) (l2:X1<p25) (l3:Z1<p25) (l4:U<p25):
 CtM Tryz.prog 91 [.w (.agg (ptC ⟨X0,Z0⟩)),.w (.agg (ptC ⟨X1,Z1⟩)),.w (.agg (Dz (D16 U)))] [(1000000,⟨false,Dz Nw⟩)] (Told (fun v m=>v=.w (.agg (ptC (d0d ⟨X0,Z0⟩ ⟨X1,Z1⟩ U)))∧m=[])):=by
 obtain ⟨lxx,lzz,lyy,lvv,luu⟩:X0<p25∧Z0<p25∧X1<p25∧Z1<p25∧U<p25:=⟨l0,l1,l2,l3,l4⟩
 obtain ⟨xx,hxx⟩: ∃ q,D16 X0=q:=⟨_,rfl⟩
 have hxxl:xx.length=16:=by rw [←hxx];rfl
 have hxxd: ∀ i,i<16→(fL xx i).toNat<65536:=by rw [←hxx];exact Ej _
 have hxxv:Gw 65536 xx=X0:=by rw [←hxx];exact Cq (Mv lxx)
 obtain ⟨zz,hzz⟩: ∃ q,D16 Z0=q:=⟨_,rfl⟩
 have hzzl:zz.length=16:=by rw [←hzz];rfl
 have hzzd: ∀ i,i<16→(fL zz i).toNat<65536:=by rw [←hzz];exact Ej _
 have hzzv:Gw 65536 zz=Z0:=by rw [←hzz];exact Cq (Mv lzz)
 obtain ⟨yy,hyy⟩: ∃ q,D16 X1=q:=⟨_,rfl⟩
 have hyyl:yy.length=16:=by rw [←hyy];rfl
 have hyyd: ∀ i,i<16→(fL yy i).toNat<65536:=by rw [←hyy];exact Ej _
 have hyyv:Gw 65536 yy=X1:=by rw [←hyy];exact Cq (Mv lyy)
 obtain ⟨vv,hvv⟩: ∃ q,D16 Z1=q:=⟨_,rfl⟩
 have hvvl:vv.length=16:=by rw [←hvv];rfl
 have hvvd: ∀ i,i<16→(fL vv i).toNat<65536:=by rw [←hvv];exact Ej _
 have hvvv:Gw 65536 vv=Z1:=by rw [←hvv];exact Cq (Mv lvv)
 obtain ⟨uu,huu⟩: ∃ q,D16 U=q:=⟨_,rfl⟩
 have huul:uu.length=16:=by rw [←huu];rfl
 have huud: ∀ i,i<16→(fL uu i).toNat<65536:=by rw [←huu];exact Ej _
 have huuv:Gw 65536 uu=U:=by rw [←huu];exact Cq (Mv luu)
 obtain ⟨nopz,hnopz⟩: ∃ n,(p25-Z0)%p25=n:=⟨_,rfl⟩
 have lopz:nopz<p25:=by rw [←hnopz];exact wP _ b0u
 have k0:=e0y zz hzzl hzzd (by rw [hzzv];exact wQ lzz)
 rw [hzzv,hnopz] at k0
 obtain ⟨opz,hopz⟩: ∃ q,D16 nopz=q:=⟨_,rfl⟩
 have hopzl:opz.length=16:=by rw [←hopz];rfl
 have hopzd: ∀ i,i<16→(fL opz i).toNat<65536:=by rw [←hopz];exact Ej _
 have hopzv:Gw 65536 opz=nopz:=by rw [←hopz];exact Cq (Mv lopz)
 rw [hopz] at k0
 obtain ⟨nrb,hnrb⟩: ∃ n,fS X0 Z0=n:=⟨_,rfl⟩
 have lrb:nrb<p25:=by rw [←hnrb];exact r0y _ _
 have k1:=f1o xx opz hxxl hopzl hxxd hopzd
 rw [hxxv,hopzv,←hnopz,r1a lxx lzz] at k1
 rw [hnrb] at k1
 obtain ⟨rb,hrb⟩: ∃ q,D16 nrb=q:=⟨_,rfl⟩
 have hrbl:rb.length=16:=by rw [←hrb];rfl
 have hrbd: ∀ i,i<16→(fL rb i).toNat<65536:=by rw [←hrb];exact Ej _
 have hrbv:Gw 65536 rb=nrb:=by rw [←hrb];exact Cq (Mv lrb)
 rw [hrb] at k1
 obtain ⟨nrc,hnrc⟩: ∃ n,fA X1 Z1=n:=⟨_,rfl⟩
 have lrc:nrc<p25:=by rw [←hnrc];exact n0i _ _
 have k2:=f1o yy vv hyyl hvvl hyyd hvvd
 rw [hyyv,hvvv] at k2
 rw [show (X1+Z1)%p25=fA X1 Z1 from rfl] at k2
 rw [hnrc] at k2
 obtain ⟨rc,hrc⟩: ∃ q,D16 nrc=q:=⟨_,rfl⟩
 have hrcl:rc.length=16:=by rw [←hrc];rfl
 have hrcd: ∀ i,i<16→(fL rc i).toNat<65536:=by rw [←hrc];exact Ej _
 have hrcv:Gw 65536 rc=nrc:=by rw [←hrc];exact Cq (Mv lrc)
 rw [hrc] at k2
 obtain ⟨nrA,hnrA⟩: ∃ n,fM nrb nrc=n:=⟨_,rfl⟩
 have lrA:nrA<p25:=by rw [←hnrA];exact Tx _ _
 have k3:=Rv rb rc hrbl hrcl hrbd hrcd
 rw [hrbv,hrcv] at k3
 rw [show (nrb*nrc)%p25=fM nrb nrc from rfl] at k3
 rw [hnrA] at k3
 obtain ⟨rA,hrA⟩: ∃ q,D16 nrA=q:=⟨_,rfl⟩
 have hrAl:rA.length=16:=by rw [←hrA];rfl
 have hrAd: ∀ i,i<16→(fL rA i).toNat<65536:=by rw [←hrA];exact Ej _
 have hrAv:Gw 65536 rA=nrA:=by rw [←hrA];exact Cq (Mv lrA)
 rw [hrA] at k3
 obtain ⟨nra,hnra⟩: ∃ n,fA X0 Z0=n:=⟨_,rfl⟩
 have lra:nra<p25:=by rw [←hnra];exact n0i _ _
 have k4:=f1o xx zz hxxl hzzl hxxd hzzd
 rw [hxxv,hzzv] at k4
 rw [show (X0+Z0)%p25=fA X0 Z0 from rfl] at k4
 rw [hnra] at k4
 obtain ⟨ra,hra⟩: ∃ q,D16 nra=q:=⟨_,rfl⟩
 have hral:ra.length=16:=by rw [←hra];rfl
 have hrad: ∀ i,i<16→(fL ra i).toNat<65536:=by rw [←hra];exact Ej _
 have hrav:Gw 65536 ra=nra:=by rw [←hra];exact Cq (Mv lra)
 rw [hra] at k4
 obtain ⟨noqz,hnoqz⟩: ∃ n,(p25-Z1)%p25=n:=⟨_,rfl⟩
 have loqz:noqz<p25:=by rw [←hnoqz];exact wP _ b0u
 have k5:=e0y vv hvvl hvvd (by rw [hvvv];exact wQ lvv)
 rw [hvvv,hnoqz] at k5
 obtain ⟨oqz,hoqz⟩: ∃ q,D16 noqz=q:=⟨_,rfl⟩
 have hoqzl:oqz.length=16:=by rw [←hoqz];rfl
 have hoqzd: ∀ i,i<16→(fL oqz i).toNat<65536:=by rw [←hoqz];exact Ej _
 have hoqzv:Gw 65536 oqz=noqz:=by rw [←hoqz];exact Cq (Mv loqz)
 rw [hoqz] at k5
 obtain ⟨nrd,hnrd⟩: ∃ n,fS X1 Z1=n:=⟨_,rfl⟩
 have lrd:nrd<p25:=by rw [←hnrd];exact r0y _ _
 have k6:=f1o yy oqz hyyl hoqzl hyyd hoqzd
 rw [hyyv,hoqzv,←hnoqz,r1a lyy lvv] at k6
 rw [hnrd] at k6
 obtain ⟨rd,hrd⟩: ∃ q,D16 nrd=q:=⟨_,rfl⟩
 have hrdl:rd.length=16:=by rw [←hrd];rfl
 have hrdd: ∀ i,i<16→(fL rd i).toNat<65536:=by rw [←hrd];exact Ej _
 have hrdv:Gw 65536 rd=nrd:=by rw [←hrd];exact Cq (Mv lrd)
 rw [hrd] at k6
 obtain ⟨nrB,hnrB⟩: ∃ n,fM nra nrd=n:=⟨_,rfl⟩
 have lrB:nrB<p25:=by rw [←hnrB];exact Tx _ _
 have k7:=Rv ra rd hral hrdl hrad hrdd
 rw [hrav,hrdv] at k7
 rw [show (nra*nrd)%p25=fM nra nrd from rfl] at k7
 rw [hnrB] at k7
 obtain ⟨rB,hrB⟩: ∃ q,D16 nrB=q:=⟨_,rfl⟩
 have hrBl:rB.length=16:=by rw [←hrB];rfl
 have hrBd: ∀ i,i<16→(fL rB i).toNat<65536:=by rw [←hrB];exact Ej _
 have hrBv:Gw 65536 rB=nrB:=by rw [←hrB];exact Cq (Mv lrB)
 rw [hrB] at k7
 obtain ⟨nrs,hnrs⟩: ∃ n,fA nrA nrB=n:=⟨_,rfl⟩
 have lrs:nrs<p25:=by rw [←hnrs];exact n0i _ _
 have k8:=f1o rA rB hrAl hrBl hrAd hrBd
 rw [hrAv,hrBv] at k8
 rw [show (nrA+nrB)%p25=fA nrA nrB from rfl] at k8
 rw [hnrs] at k8
 obtain ⟨rs,hrs⟩: ∃ q,D16 nrs=q:=⟨_,rfl⟩
 have hrsl:rs.length=16:=by rw [←hrs];rfl
 have hrsd: ∀ i,i<16→(fL rs i).toNat<65536:=by rw [←hrs];exact Ej _
 have hrsv:Gw 65536 rs=nrs:=by rw [←hrs];exact Cq (Mv lrs)
 rw [hrs] at k8
 obtain ⟨noB,hnoB⟩: ∃ n,(p25-nrB)%p25=n:=⟨_,rfl⟩
 have loB:noB<p25:=by rw [←hnoB];exact wP _ b0u
 have k9:=e0y rB hrBl hrBd (by rw [hrBv];exact wQ lrB)
 rw [hrBv,hnoB] at k9
 obtain ⟨oB,hoB⟩: ∃ q,D16 noB=q:=⟨_,rfl⟩
 have hoBl:oB.length=16:=by rw [←hoB];rfl
 have hoBd: ∀ i,i<16→(fL oB i).toNat<65536:=by rw [←hoB];exact Ej _
 have hoBv:Gw 65536 oB=noB:=by rw [←hoB];exact Cq (Mv loB)
 rw [hoB] at k9
 obtain ⟨nre,hnre⟩: ∃ n,fS nrA nrB=n:=⟨_,rfl⟩
 have lre:nre<p25:=by rw [←hnre];exact r0y _ _
 have k10:=f1o rA oB hrAl hoBl hrAd hoBd
 rw [hrAv,hoBv,←hnoB,r1a lrA lrB] at k10
 rw [hnre] at k10
 obtain ⟨re,hre⟩: ∃ q,D16 nre=q:=⟨_,rfl⟩
 have hrel:re.length=16:=by rw [←hre];rfl
 have hred: ∀ i,i<16→(fL re i).toNat<65536:=by rw [←hre];exact Ej _
 have hrev:Gw 65536 re=nre:=by rw [←hre];exact Cq (Mv lre)
 rw [hre] at k10
 obtain ⟨nrX,hnrX⟩: ∃ n,fM nrs nrs=n:=⟨_,rfl⟩
 have lrX:nrX<p25:=by rw [←hnrX];exact Tx _ _
 have k11:=Rv rs rs hrsl hrsl hrsd hrsd
 rw [hrsv] at k11
 rw [show (nrs*nrs)%p25=fM nrs nrs from rfl] at k11
 rw [hnrX] at k11
 obtain ⟨rX,hrX⟩: ∃ q,D16 nrX=q:=⟨_,rfl⟩
 have hrXl:rX.length=16:=by rw [←hrX];rfl
 have hrXd: ∀ i,i<16→(fL rX i).toNat<65536:=by rw [←hrX];exact Ej _
 have hrXv:Gw 65536 rX=nrX:=by rw [←hrX];exact Cq (Mv lrX)
 rw [hrX] at k11
 obtain ⟨nrf,hnrf⟩: ∃ n,fM nre nre=n:=⟨_,rfl⟩
 have lrf:nrf<p25:=by rw [←hnrf];exact Tx _ _
 have k12:=Rv re re hrel hrel hred hred
 rw [hrev] at k12
 rw [show (nre*nre)%p25=fM nre nre from rfl] at k12
 rw [hnrf] at k12
 obtain ⟨rf,hrf⟩: ∃ q,D16 nrf=q:=⟨_,rfl⟩
 have hrfl:rf.length=16:=by rw [←hrf];rfl
 have hrfd: ∀ i,i<16→(fL rf i).toNat<65536:=by rw [←hrf];exact Ej _
 have hrfv:Gw 65536 rf=nrf:=by rw [←hrf];exact Cq (Mv lrf)
 rw [hrf] at k12
 obtain ⟨nrZ,hnrZ⟩: ∃ n,fM U nrf=n:=⟨_,rfl⟩
 have lrZ:nrZ<p25:=by rw [←hnrZ];exact Tx _ _
 have k13:=Rv uu rf huul hrfl huud hrfd
 rw [huuv,hrfv] at k13
 rw [show (U*nrf)%p25=fM U nrf from rfl] at k13
 rw [hnrZ] at k13
 obtain ⟨rZ,hrZ⟩: ∃ q,D16 nrZ=q:=⟨_,rfl⟩
 have hrZl:rZ.length=16:=by rw [←hrZ];rfl
 have hrZd: ∀ i,i<16→(fL rZ i).toNat<65536:=by rw [←hrZ];exact Ej _
 have hrZv:Gw 65536 rZ=nrZ:=by rw [←hrZ];exact Cq (Mv lrZ)
 rw [hrZ] at k13
 have hfin:ptC (d0d ⟨X0,Z0⟩ ⟨X1,Z1⟩ U)=Dz rX++Dz rZ:=by simp only [ptC,d0d,hnra,hnrb,hnrc,hnrA,hnrd,hnrB,hnrs,hnre,hnrX,hnrf,hnrZ,hrX,hrZ]
 rw [hfin]
 simp only [ptC,hxx,hzz,hyy,hvv,huu]
 have F0:=yA hxxl<|yA hzzl<|yA hyyl<|yA hvvl<|yA huul<|yA hopzl<|yA hrbl<|yA hrcl<|yA hrAl<|yA hral<|yA hoqzl<|yA hrdl<|yA hrBl<|yA hrsl<|yA hoBl<|yA hrel<|yA hrXl<|yA hrfl<|hrZl
 refine CtM.go Tryz.func91 rfl Tryz.ntmps91 Tryz.results91 fun w0 ro may fx zZ zhY=>?_
 have cq:=yA k0.told<|yA k1.told<|yA k2.told<|yA k3.told<|yA k4.told<|yA k5.told<|yA k6.told<|yA k7.told<|yA k8.told<|yA k9.told<|yA k10.told<|yA k11.told<|yA k12.told<|yA (CtM.ch [] (k13.told))<|trivial
 have zr0:DS 1:=⟨⟩
 have zr1:DS 2:=⟨⟩
 have zr2:DS 3:=⟨⟩
 have zr3:DS 4:=⟨⟩
 have zq:DP 0 13 [11,12,13,14,15,16,17,18,19,20,21,22,7] [0,1,0,4,12,31,0,64,0,256,1023,2047,0,8191] []∧DN 1 14∧DP 0 13 [23,24,25,26,27,28,29,30,31,32,33,34,8] [0,1,0,4,15,0,32,0,128,415,1023,2047,0,8191] []∧DN 1 14∧DP 0 9 [35,36,37,38,39,40,41,9,10] [0,0,3,0,0,23,63,0,0,511,1023] []∧DN 2 11∧DP 0 7 [42,43,44,45,46,47,48] [0,0,3,0,0,0,55,127,255,511] []∧DN 3 10∧True:=⟨⟨⟩,⟨⟩,⟨⟩,⟨⟩,⟨⟩,⟨⟩,⟨⟩,⟨⟩,trivial⟩
 refine (fun zX=>goW) ?_
 refine zhY _ _ ?_
 simp only [go_sem,F0]
 all_goals (exact told_plain (by simp [Dv,Ew,Dz]) ⟨by first|rfl|simp,rfl⟩)
end Lk
end Go.Sy
