/- Walks and what they compute. CONDITIONS: those that each theorem names. -/
import Derived.Test.YtkfcbhgkpknagaaGreatDoorvS23
import Derived.Test.YtkfcbhgkpknagaaGreatDoorvE3
import Derived.Test.YtkfcbhgkpknagaaGreatDoorvS24
set_option linter.unusedVariables false
set_option linter.unusedSimpArgs false
set_option maxHeartbeats 1600000
set_option maxRecDepth 100000
namespace Go.Sy
theorem not_ge (n:Nat):(!decide (p25≤n))=decide (n<p25):=by
 rw [←decide_not];exact decide_eq_decide.mpr Nat.not_le
theorem f2i (n:Nat):n%p25<m4:=by
 have:=wP n (show 0<p25 by decide)
 have:=j0g
 have:=f0c
 omega
theorem f1f {f g:Nat→UInt64} {K:Nat} (hK:K≤4611686018427387904): ∀ {n:Nat},(∀ i,i<n→(f i).toNat≤K)→(∀ i,i<n→(g i).toNat≤K)→Ny 65536 (fun i=>f i+g i) n=Ny 65536 f n+Ny 65536 g n
 |0,_,_=>rfl
 |n+1,hf,hg=>by
   have h1:=hf n (by omega)
   have h2:=hg n (by omega)
   have e:(f n+g n).toNat=(f n).toNat+(g n).toNat:=Gv (by omega)
   simp only [Ny]
   rw [f1f hK (fun i hi=>hf i (by omega)) (fun i hi=>hg i (by omega)),e,vZ]
   omega
def i2q (x y:List UInt64):List UInt64:=(List.range 16).map fun i=>fL x i+fL y i
theorem e1t (x y:List UInt64):(i2q x y).length=16:=by simp [i2q]
theorem a2a {x y:List UInt64} (hx:x.length=16) (hy:y.length=16) (h1: ∀ i,i<16→(fL x i).toNat<65536) (h2: ∀ i,i<16→(fL y i).toNat<65536):Gw 65536 (i2q x y)=Gw 65536 x+Gw 65536 y∧∀ i,i<16→(fL (i2q x y) i).toNat≤70368744177664:=by
 refine ⟨?_,fun i hi=>?_⟩
 ·rw [i2q,g0b,f1f (K:=65536) (by decide) (fun i hi=>wQ (h1 i hi)) (fun i hi=>wQ (h2 i hi)),←Rz hx,←Rz hy]
 rw [i2q,n0q hi]
 have:=h1 i hi
 have:=h2 i hi
 rw [Gv (by omega)];omega
theorem h2t {n m:Nat} (hn:n<p25) (hm:m<p25):(n+(p25-m)%p25)%p25=(n+p25-m)%p25:=by
 rw [Nat.add_mod_mod,Nat.add_sub_assoc (wQ hm)]
end Go.Sy
namespace Go.Sy
namespace Lk
open Go.Proofs
attribute [local irreducible] Bw HT Aj Jk onC onE onO onG goV goA goS Lx Bz
theorem in_ (a b c d:UInt64):
 CtM Tryz.prog 94 [.w (.agg [.pl (.u64 a),.pl (.u64 b),.pl (.u64 c),.pl (.u64 d)])] [(1000000,⟨false,Dz Nw⟩)] (Told (fun v m=>v=.w (.one (.pl (.b (decide (vQ a b c d<p25)))))∧m=[])):=by
 have hO:=of_ a b c d
 obtain ⟨q,hq⟩: ∃ q,D16 (vQ a b c d)=q:=⟨_,rfl⟩
 have hql:q.length=16:=by rw [←hq];rfl
 have hqd: ∀ i,i<16→(fL q i).toNat<65536:=by rw [←hq];exact Ej _
 have hqv:Gw 65536 q=vQ a b c d:=by rw [←hq];exact Cq (b0p a b c d)
 have hN:=nb_ q hql hqd
 rw [hqv] at hN
 rw [hq] at hO
 rw [←not_ge]
 have F0:=hql
 refine CtM.go Tryz.func94 rfl Tryz.ntmps94 Tryz.results94 fun w0 ro may fx zZ zhY=>?_
 have cq:=yA (Ct.cv (hO))<|yA (CtM.ch [] (hN.told))<|trivial
 refine (fun zX=>goW) ?_
 refine zhY _ _ ?_
 simp only [go_sem,F0]
 all_goals (exact told_plain rfl ⟨rfl,rfl⟩)
theorem v1h (a b c d:UInt64):
 CtM Tryz.prog 93 [.w (.agg [.pl (.u64 a),.pl (.u64 b),.pl (.u64 c),.pl (.u64 d)])] [(1000000,⟨false,Dz Nw⟩)] (Told (fun v m=>v=.w (.agg (w4C (vQ a b c d%p25)))∧m=[])):=by
 have hO:=of_ a b c d
 obtain ⟨q,hq⟩: ∃ q,D16 (vQ a b c d)=q:=⟨_,rfl⟩
 have hql:q.length=16:=by rw [←hq];rfl
 have hqd: ∀ i,i<16→(fL q i).toNat<65536:=by rw [←hq];exact Ej _
 have hqv:Gw 65536 q=vQ a b c d:=by rw [←hq];exact Cq (b0p a b c d)
 have hC:=g0o q hql (fun i hi=>xR (wQ (hqd i hi)) (by decide))
 rw [hqv] at hC
 rw [hq] at hO
 have hB:=o2t (vQ a b c d%p25) (f2i _)
 obtain ⟨r,hr⟩: ∃ q,D16 (vQ a b c d%p25)=q:=⟨_,rfl⟩
 have hrl:r.length=16:=by rw [←hr];rfl
 have hrd: ∀ i,i<16→(fL r i).toNat<65536:=by rw [←hr];exact Ej _
 rw [hr] at hC hB
 obtain ⟨s0,s1,s2,s3,hs,hvs⟩:=Cz (vQ a b c d%p25) (j0j _)
 have hus:Dz [s0,s1,s2,s3]=[.pl (.u64 s0),.pl (.u64 s1),.pl (.u64 s2),.pl (.u64 s3)]:=rfl
 simp only [w4C,hs,hus] at hB ⊢
 have F0:=yA hql<|hrl
 refine CtM.go Tryz.func93 rfl Tryz.ntmps93 Tryz.results93 fun w0 ro may fx zZ zhY=>?_
 have cq:=yA (Ct.cv (hO))<|yA (CtM.ch [] (hC.told))<|yA (Ct.cv (hB))<|trivial
 refine (fun zX=>goW) ?_
 refine zhY _ _ ?_
 simp only [go_sem,F0]
 all_goals (exact told_plain (by simp [Dv,Ew]) ⟨rfl,rfl⟩)
theorem f1o (x y:List UInt64) (hx:x.length=16) (hy:y.length=16) (h1: ∀ i,i<16→(fL x i).toNat<65536) (h2: ∀ i,i<16→(fL y i).toNat<65536):
 CtM Tryz.prog 120 [.w (.agg (Dz x)),.w (.agg (Dz y))] [(1000000,⟨false,Dz Nw⟩)] (Told (fun v m=>v=.w (.agg (Dz (D16 ((Gw 65536 x+Gw 65536 y)%p25))))∧m=[])):=by
 have F0:=yA hx<|hy
 refine CtM.go Tryz.func120 rfl Tryz.ntmps120 Tryz.results120 fun w0 ro may fx zZ zhY=>?_
 refine (fun zX=>goW) ?_
 refine Bv [0,1] ?_
 simp only [Bj,Cx,Bq,yI,yK,Nat.reduceBEq,beq_self_eq_true,yS,yV,yY,yT,yE,reduceIte]
 refine Gx (fun y=>[(6,.w (.one (.pl (.i ((y.1:Nat):Int)))))]) (fun k=>[(2,⟨false,Dz (i0a (fun i=>fL x i+fL y i) k.1 x)⟩)]) (fun y=>16-y.1) (⟨0,xA _⟩:{y:Nat//y≤16}) ?_ (by (simp only [go_sem,leX,yB,yC];first|done|rfl|(simp;done))) (by (simp only [e0r,go_sem,leX,yB,yC];first|done|rfl|(simp [leX,look];done)))
 intro yy xN0 xM0 xhN0 xhM0
 simp only [yB,yC]
 obtain ⟨k,hk9⟩:=yy
 rcases yZ k 16 with hlt|hge
 ·have hcq:((k:Nat):Int)<16:=by omega
  have hc0:(0:Int)≤((k:Nat):Int):=by omega
  have hk1:k+1≤16:=by omega
  obtain ⟨z,hz⟩: ∃ z,i0a (fun i=>fL x i+fL y i) k x=z:=⟨_,rfl⟩
  have hzl:z.length=16:=by rw [←hz,a0v (by omega),hx]
  have hzk:z.getD k 0=fL x k:=by rw [←hz,n0r (xL _)];rfl
  have hset:z.set k (fL x k+fL y k)=i0a (fun i=>fL x i+fL y i) (k+1) x:=by rw [←hz];exact j0b (by omega)
  have o1:=Kk (l:=z) (i:=k) (by omega)
  have o2:=Kk (l:=y) (i:=k) (by omega)
  rw [hzk] at o1
  change _=[L.pl (PL.u64 (fL y k))] at o2
  have p0:=Sw (q:=z) (j:=k) (fL x k+fL y k) (by omega)
  rw [hset] at p0
  simp only [hz]
  have hs1:Go.RowKit.wrap64 (((k:Nat):Int)+1)=((k+1:Nat):Int):=Gy (by omega) (by omega)
  have F0:=yA hcq<|yA hc0<|yA hk1<|yA hzl<|yA o1<|yA o2<|yA p0<|yA hs1<|F0
  have zd0:DQ 4 [9,10,11,12,13,14,15,16] [0,1,3,0,8,24,63,127,255] []:=⟨⟩
  have zL:=fun S2=>xhN0 ⟨k+1,hlt⟩ S2 (by (exact yP hlt (yQ k)))
  exact goW
 obtain rfl:k=16:=by omega
 have hcq:¬((16:Nat):Int)<16:=by omega
 obtain ⟨z,hz⟩: ∃ z,i2q x y=z:=⟨_,rfl⟩
 have hzl:z.length=16:=by rw [←hz];exact e1t x y
 obtain ⟨hzv,hzd⟩:=a2a hx hy h1 h2
 rw [hz] at hzv hzd
 have hpz:i0a (fun i=>fL x i+fL y i) 16 x=z:=by rw [←hz];exact e0s hx
 simp only [hpz]
 have hC:=g0o z hzl hzd
 rw [hzv] at hC
 obtain ⟨r,hr⟩: ∃ q9,D16 ((Gw 65536 x+Gw 65536 y)%p25)=q9:=⟨_,rfl⟩
 have hrl:r.length=16:=by rw [←hr];rfl
 rw [hr] at hC
 have hfin:Dz (D16 ((Gw 65536 x+Gw 65536 y)%p25))=Dz r:=by rw [hr]
 have F0:=yA hcq<|yA hzl<|yA hrl<|F0
 have cq:=yA (CtM.ch [] (hC.told))<|trivial
 refine (fun zX=>goW) ?_
 refine zhY _ _ ?_
 simp only [go_sem,F0]
 all_goals (exact told_plain (e0t _) ⟨by rw [hfin],rfl⟩)
theorem e0y (q:List UInt64) (hql:q.length=16) (hqd: ∀ i,i<16→(fL q i).toNat<65536) (hqp:Gw 65536 q≤p25):
 CtM Tryz.prog 121 [.w (.agg (Dz q))] [(1000000,⟨false,Dz Nw⟩)] (Told (fun v m=>v=.w (.agg (Dz (D16 ((p25-Gw 65536 q)%p25))))∧m=[])):=by
 have F0:=hql
 refine CtM.go Tryz.func121 rfl Tryz.ntmps121 Tryz.results121 fun w0 ro may fx zZ zhY=>?_
 refine (fun zX=>goW) ?_
 refine Bv [0] ?_
 simp only [Bj,Cx,Bq,yI,yK,Nat.reduceBEq,beq_self_eq_true,yS,yV,yY,yT,yE,reduceIte]
 refine Gx (fun y=>[(6,.w (.one (.pl (.i ((y.1:Nat):Int))))),(3,.w (.one (.pl (.u64 (bwN (fL Nw) (fL q) y.1)))))]) (fun y=>[(1,⟨false,Dz (i0a (bwV (fL Nw) (fL q)) y.1 q)⟩)]) (fun y=>16-y.1) (⟨0,xA _⟩:{y:Nat//y≤16}) ?_ (by (simp only [go_sem,leX,yB,yC];first|done|rfl|(simp;done))) (by (simp only [e0r,go_sem,leX,yB,yC];first|done|rfl|(simp [leX,look];done)))
 intro yy xN0 xM0 xhN0 xhM0
 simp only [yB,yC]
 obtain ⟨k,hk9⟩:=yy
 rcases yZ k 16 with hlt|hge
 ·have hcq:((k:Nat):Int)<16:=by omega
  have hc0:(0:Int)≤((k:Nat):Int):=by omega
  have hk1:k+1≤16:=by omega
  obtain ⟨z,hz⟩: ∃ z,i0a (bwV (fL Nw) (fL q)) k q=z:=⟨_,rfl⟩
  have hzl:z.length=16:=by rw [←hz,a0v (by omega),hql]
  have hzk:z.getD k 0=q.getD k 0:=by rw [←hz,n0r (xL _)]
  have hset:z.set k (bwV (fL Nw) (fL q) k)=i0a (bwV (fL Nw) (fL q)) (k+1) q:=by rw [←hz];exact j0b (by omega)
  obtain ⟨v,hv⟩: ∃ v,q.getD k 0=v:=⟨_,rfl⟩
  obtain ⟨c,hc⟩: ∃ c,bwN (fL Nw) (fL q) k=c:=⟨_,rfl⟩
  have o1:=Kk (l:=z) (i:=k) (by omega)
  rw [hzk,hv] at o1
  obtain ⟨w,hw⟩: ∃ w,Nw.getD k 0=w:=⟨_,rfl⟩
  have o2:=Kk (l:=Nw) (i:=k) (by rw [Nz];omega)
  rw [hw] at o2
  have hfv:bwV (fL Nw) (fL q) k=(w+65536-v-c)%65536:=by simp only [bwV,hc,fL,hv,hw]
  have hfn:bwN (fL Nw) (fL q) (k+1)=1-(w+65536-v-c)/65536:=by simp only [bwN,hc,fL,hv,hw]
  have p0:=Sw (q:=z) (j:=k) ((w+65536-v-c)%65536) (by omega)
  rw [hfv] at hset
  rw [hset] at p0
  have hcn:1-(w+65536-v-c)/65536=bwN (fL Nw) (fL q) (k+1):=hfn.symm
  simp only [hc,hz]
  have hs1:Go.RowKit.wrap64 (((k:Nat):Int)+1)=((k+1:Nat):Int):=Gy (by omega) (by omega)
  have F0:=yA hcq<|yA hc0<|yA hk1<|yA hzl<|yA o1<|yA p0<|yA hs1<|yA o2<|yA @Nz<|F0
  have zd0:DQ 5 [9,10,11,12,13,14,15,16,17,18,5] [0,1,3,7,0,16,48,127,0,511,1023] []:=⟨⟩
  refine (fun zX=>goW) ?_
  refine xhN0 ⟨k+1,hlt⟩ _ ?_ ?_ ?_
  ·(exact yP hlt (yQ k))
  ·(simp only [hfn,go_sem,leX,yB,yC];first|done|rfl|(simp [leX,look];done))
  (simp only [go_sem,leX,yB,yC,F0];try simp)
 obtain rfl:k=16:=by omega
 have hcq:¬((16:Nat):Int)<16:=by omega
 obtain ⟨z,hz⟩: ∃ z,(List.range 16).map (bwV (fL Nw) (fL q))=z:=⟨_,rfl⟩
 have hpz:i0a (bwV (fL Nw) (fL q)) 16 q=z:=by rw [e0s hql,hz]
 have hzl:z.length=16:=by rw [←hz];simp
 have hzv:=e2j hql hqd hqp
 rw [hz] at hzv
 have hzd: ∀ i,i<16→(fL z i).toNat≤70368744177664:=fun i hi=>by
  rw [←hz,n0q hi];exact xR (wQ (h1n _ _ i)) (by decide)
 simp only [hpz]
 have hC:=g0o z hzl hzd
 rw [hzv] at hC
 obtain ⟨r,hr⟩: ∃ q9,D16 ((p25-Gw 65536 q)%p25)=q9:=⟨_,rfl⟩
 have hrl:r.length=16:=by rw [←hr];rfl
 rw [hr] at hC
 have hfin:Dz (D16 ((p25-Gw 65536 q)%p25))=Dz r:=by rw [hr]
 have F0:=yA hcq<|yA hzl<|yA hrl<|F0
 have cq:=yA (CtM.ch [] (hC.told))<|trivial
 refine (fun zX=>goW) ?_
 refine zhY _ _ ?_
 simp only [go_sem,F0]
 all_goals (exact told_plain (e0t _) ⟨by rw [hfin],rfl⟩)
end Lk
end Go.Sy
