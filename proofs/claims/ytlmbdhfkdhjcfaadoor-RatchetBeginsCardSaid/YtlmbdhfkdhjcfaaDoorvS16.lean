/- Walks and what they compute. CONDITIONS: those that each theorem names. -/
import Derived.Test.YtlmbdhfkdhjcfaaDoorvS14
import Derived.Test.YtlmbdhfkdhjcfaaDoorvS15
set_option linter.unusedVariables false
set_option linter.unusedSimpArgs false
set_option maxHeartbeats 1600000
set_option maxRecDepth 100000
namespace Go.Sy
theorem not_ge (n:Nat):(!decide (p25≤n))=decide (n<p25):=by
 rw [←decide_not];exact decide_eq_decide.mpr Nat.not_le
theorem t1b (n:Nat):n%p25<m4:=by
 have:=Nat.mod_lt n (show 0<p25 by decide)
 have:=f0z
 have:=c0u
 omega
theorem x0u {f g:Nat→UInt64} {K:Nat} (hK:K≤4611686018427387904): ∀ {n:Nat},(∀ i,i<n→(f i).toNat≤K)→(∀ i,i<n→(g i).toNat≤K)→Qy 65536 (fun i=>f i+g i) n=Qy 65536 f n+Qy 65536 g n
 |0,_,_=>rfl
 |n+1,hf,hg=>by
  have h1:=hf n (by omega)
  have h2:=hg n (by omega)
  have e:(f n+g n).toNat=(f n).toNat+(g n).toNat:=Wy (by omega)
  simp only [Qy]
  rw [x0u hK (fun i hi=>hf i (by omega)) (fun i hi=>hg i (by omega)),e,Nat.mul_add]
  omega
def v1y (x y:List UInt64):List UInt64:=(List.range 16).map fun i=>fL x i+fL y i
theorem x0m (x y:List UInt64):(v1y x y).length=16:=by simp [v1y]
theorem o1r {x y:List UInt64} (hx:x.length=16) (hy:y.length=16) (h1: ∀ i,i<16→(fL x i).toNat<65536) (h2: ∀ i,i<16→(fL y i).toNat<65536):Hq 65536 (v1y x y)=Hq 65536 x+Hq 65536 y∧∀ i,i<16→(fL (v1y x y) i).toNat≤70368744177664:=by
 refine ⟨?_,fun i hi=>?_⟩
 ·rw [v1y,d0s,x0u (K:=65536) (by decide) (fun i hi=>Nat.le_of_lt (h1 i hi)) (fun i hi=>Nat.le_of_lt (h2 i hi)),←Pv hx,←Pv hy]
 ·rw [v1y,j0t hi]
  have:=h1 i hi
  have:=h2 i hi
  rw [Wy (by omega)];omega
theorem v1l {n m:Nat} (hn:n<p25) (hm:m<p25):(n+(p25-m)%p25)%p25=(n+p25-m)%p25:=by
 rw [Nat.add_mod_mod,Nat.add_sub_assoc (Nat.le_of_lt hm)]
end Go.Sy
namespace Go.Sy
namespace Lk
open Go.Proofs
attribute [local irreducible] Dv HT Cz Px onC onE onO onG goV goA goS Qx Dw
theorem in_ (a b c d:UInt64):
 CtM Tryd.prog 49 [.w (.agg [.pl (.u64 a),.pl (.u64 b),.pl (.u64 c),.pl (.u64 d)])] [(1000000,⟨false,Aw Mk⟩)] (Told (fun v m=>v=.w (.one (.pl (.b (decide (vQ a b c d<p25)))))∧m=[])):=by
 have hO:=of_ a b c d
 obtain ⟨q,hq⟩: ∃ q,D16 (vQ a b c d)=q:=⟨_,rfl⟩
 have hql:q.length=16:=by rw [←hq];rfl
 have hqd: ∀ i,i<16→(fL q i).toNat<65536:=by rw [←hq];exact Gz _
 have hqv:Hq 65536 q=vQ a b c d:=by rw [←hq];exact Ew (a0c a b c d)
 have hN:=nb_ q hql hqd
 rw [hqv] at hN
 rw [hq] at hO
 rw [←not_ge]
 refine CtM.k Tryd.func49 rfl Tryd.ntmps49 (congrArg Array.toList Tryd.results49) (by simp) fun w0 ro may fx=>?_
 refine Dj fun zZ zhZ=>?_
 refine Cx fun zK zhK=>?_
 simp only [go_sem,hql]
 repeat' (first|apply And.intro|intro _)
 refine zhK _ ?_
 refine Cx fun zK zhK=>?_
 simp only [go_sem,hql]
 repeat' (first|apply And.intro|intro _)
 all_goals (refine Cq (fun k=>k) (fun _ _=>rfl) ?_ ((hO).plain fun _ _ h=>h) ?_;focus (first|rfl|(simp only [go_sem,hql]<;>rfl)))
 all_goals (rintro v m ⟨hR,hm⟩;subst hR;subst hm)
 all_goals refine And.intro (by first|rfl|simp only [go_sem,hql]) (And.intro (by first|rfl|simp only [go_sem,hql]) ?_)
 all_goals simp only [go_sem,hql]
 all_goals repeat' (first|apply And.intro|intro _)
 all_goals (refine Bq false [] (fun k=>k) (fun _ _=>rfl) ?_ (by decide) ?_ hN.told ?_;iterate 2 (focus (first|rfl|(simp only [go_sem,hql]<;>first|done|rfl|simp))))
 all_goals (rintro v m ⟨hR,hm⟩;subst hR;subst hm)
 all_goals (refine And.intro ?_ (And.intro ?_ (And.intro ?_ ?_));iterate 3 (focus (first|rfl|(simp only [go_sem,hql];done)|(simp [go_sem,look,hql];done))))
 all_goals (try simp only [go_sem,hql])
 all_goals (try simp only [go_sem,hql])
 all_goals repeat' (first|apply And.intro|intro _)
 refine zhK _ ?_
 refine Dx ?_
 refine zhZ _ _ ?_
 simp only [go_sem,hql]
 all_goals (exact told_plain rfl ⟨rfl,rfl⟩)
theorem k1t (a b c d:UInt64):
 CtM Tryd.prog 48 [.w (.agg [.pl (.u64 a),.pl (.u64 b),.pl (.u64 c),.pl (.u64 d)])] [(1000000,⟨false,Aw Mk⟩)] (Told (fun v m=>v=.w (.agg (w4C (vQ a b c d%p25)))∧m=[])):=by
 have hO:=of_ a b c d
 obtain ⟨q,hq⟩: ∃ q,D16 (vQ a b c d)=q:=⟨_,rfl⟩
 have hql:q.length=16:=by rw [←hq];rfl
 have hqd: ∀ i,i<16→(fL q i).toNat<65536:=by rw [←hq];exact Gz _
 have hqv:Hq 65536 q=vQ a b c d:=by rw [←hq];exact Ew (a0c a b c d)
 have hC:=k0d q hql (fun i hi=>Nat.le_trans (Nat.le_of_lt (hqd i hi)) (by decide))
 rw [hqv] at hC
 rw [hq] at hO
 have hB:=b2e (vQ a b c d%p25) (t1b _)
 obtain ⟨r,hr⟩: ∃ q,D16 (vQ a b c d%p25)=q:=⟨_,rfl⟩
 have hrl:r.length=16:=by rw [←hr];rfl
 have hrd: ∀ i,i<16→(fL r i).toNat<65536:=by rw [←hr];exact Gz _
 rw [hr] at hC hB
 obtain ⟨s0,s1,s2,s3,hs,hvs⟩:=Dz (vQ a b c d%p25) (g0b _)
 have hus:Aw [s0,s1,s2,s3]=[.pl (.u64 s0),.pl (.u64 s1),.pl (.u64 s2),.pl (.u64 s3)]:=rfl
 simp only [w4C,hs,hus] at hB ⊢
 refine CtM.k Tryd.func48 rfl Tryd.ntmps48 (congrArg Array.toList Tryd.results48) (by simp) fun w0 ro may fx=>?_
 refine Dj fun zZ zhZ=>?_
 refine Cx fun zK zhK=>?_
 simp only [go_sem,hql,hrl]
 repeat' (first|apply And.intro|intro _)
 refine zhK _ ?_
 refine Cx fun zK zhK=>?_
 simp only [go_sem,hql,hrl]
 repeat' (first|apply And.intro|intro _)
 all_goals (refine Cq (fun k=>k) (fun _ _=>rfl) ?_ ((hO).plain fun _ _ h=>h) ?_;focus (first|rfl|(simp only [go_sem,hql,hrl]<;>rfl)))
 all_goals (rintro v m ⟨hR,hm⟩;subst hR;subst hm)
 all_goals refine And.intro (by first|rfl|simp only [go_sem,hql,hrl]) (And.intro (by first|rfl|simp only [go_sem,hql,hrl]) ?_)
 all_goals simp only [go_sem,hql,hrl]
 all_goals repeat' (first|apply And.intro|intro _)
 all_goals (refine Bq false [] (fun k=>k) (fun _ _=>rfl) ?_ (by decide) ?_ hC.told ?_;iterate 2 (focus (first|rfl|(simp only [go_sem,hql,hrl]<;>first|done|rfl|simp))))
 all_goals (rintro v m ⟨hR,hm⟩;subst hR;subst hm)
 all_goals (refine And.intro ?_ (And.intro ?_ (And.intro ?_ ?_));iterate 3 (focus (first|rfl|(simp only [go_sem,hql,hrl];done)|(simp [go_sem,look,hql,hrl];done))))
 all_goals (try simp only [go_sem,hql,hrl])
 all_goals (try simp only [go_sem,hql,hrl])
 all_goals repeat' (first|apply And.intro|intro _)
 all_goals (refine Cq (fun k=>k) (fun _ _=>rfl) ?_ ((hB).plain fun _ _ h=>h) ?_;focus (first|rfl|(simp only [go_sem,hql,hrl]<;>rfl)))
 all_goals (rintro v m ⟨hR,hm⟩;subst hR;subst hm)
 all_goals refine And.intro (by first|rfl|simp only [go_sem,hql,hrl]) (And.intro (by first|rfl|simp only [go_sem,hql,hrl]) ?_)
 all_goals simp only [go_sem,hql,hrl]
 all_goals repeat' (first|apply And.intro|intro _)
 refine zhK _ ?_
 refine Dx ?_
 refine zhZ _ _ ?_
 simp only [go_sem,hql,hrl]
 all_goals (exact told_plain (by simp [Fj,Hz]) ⟨rfl,rfl⟩)
theorem y0b (x y:List UInt64) (hx:x.length=16) (hy:y.length=16) (h1: ∀ i,i<16→(fL x i).toNat<65536) (h2: ∀ i,i<16→(fL y i).toNat<65536):
 CtM Tryd.prog 62 [.w (.agg (Aw x)),.w (.agg (Aw y))] [(1000000,⟨false,Aw Mk⟩)] (Told (fun v m=>v=.w (.agg (Aw (D16 ((Hq 65536 x+Hq 65536 y)%p25))))∧m=[])):=by
 refine CtM.k Tryd.func62 rfl Tryd.ntmps62 (congrArg Array.toList Tryd.results62) (by simp) fun w0 ro may fx=>?_
 refine Dj fun zZ zhZ=>?_
 iterate 6 first
  |(refine Cx fun zK zhK=>?_;simp only [go_sem,hx,hy];(repeat' (first|apply And.intro|intro _)))
  |refine zhK _ ?_
  |refine Aj fun zB zbn zbx zbr zbi=>?_
  |refine Bz fun zN zM zhN zhM=>?_
 refine Gv [0,1] ?_
 simp only [Gj,Iq,Gq,List.contains_cons,List.contains_nil,Nat.reduceBEq,beq_self_eq_true,Bool.or_false,Bool.or_true,Bool.true_or,Bool.false_or,Bool.false_eq_true,reduceIte]
 refine Jz (fun y=>[(6,.w (.one (.pl (.i ((y.1:Nat):Int)))))]) (fun k=>[(2,⟨false,Aw (e0u (fun i=>fL x i+fL y i) k.1 x)⟩)]) (fun y=>16-y.1) (⟨0,Nat.zero_le _⟩:{y:Nat//y≤16}) ?_ ?_ ?_
 · (simp only [go_sem,leX,List.cons_append,List.nil_append];first|done|rfl|(simp;done))
 · (simp only [c0n,go_sem,leX,List.cons_append,List.nil_append];first|done|rfl|(simp [leX,look];done))
 intro yy zN zM zhN zhM
 simp only [List.cons_append,List.nil_append]
 obtain ⟨k,hk9⟩:=yy
 rcases Nat.lt_or_ge k 16 with hlt|hge
 · have hcq:((k:Nat):Int)<16:=by omega
   have hc0:(0:Int)≤((k:Nat):Int):=by omega
   have hk1:k+1≤16:=by omega
   obtain ⟨z,hz⟩: ∃ z,e0u (fun i=>fL x i+fL y i) k x=z:=⟨_,rfl⟩
   have hzl:z.length=16:=by rw [←hz,Xx (by omega),hx]
   have hzk:z.getD k 0=fL x k:=by rw [←hz,j0u (Nat.le_refl _)];rfl
   have hset:z.set k (fL x k+fL y k)=e0u (fun i=>fL x i+fL y i) (k+1) x:=by rw [←hz];exact f0u (by omega)
   have o1:=Nw (l:=z) (i:=k) (by omega)
   have o2:=Nw (l:=y) (i:=k) (by omega)
   rw [hzk] at o1
   change _=[L.pl (PL.u64 (fL y k))] at o2
   have p0:=Vy (q:=z) (j:=k) (fL x k+fL y k) (by omega)
   rw [hset] at p0
   simp only [hz]
   have hs1:Go.RowKit.wrap64 (((k:Nat):Int)+1)=((k+1:Nat):Int):=Ny (by omega) (by omega)
   have F5:=And.intro hcq<|And.intro hc0<|And.intro hk1<|And.intro hzl<|And.intro o1<|And.intro o2<|And.intro p0<|hs1
   iterate 16 first
    |refine zhK _ ?_
    |(refine Cx fun zK zhK=>?_;simp only [go_sem,hx,hy,F5];(repeat' (first|apply And.intro|intro _)))
    |(refine zhN _ ?_;clear zhN zhM)
    |refine Cw ?_
    |refine Aj fun zB zbn zbx zbr zbi=>?_
    |(refine Vw (id:=4) [9,10,11,12,13,14,15,16] [0,1,3,0,8,24,63,127,255] [] mixed (by kernel_rfl) (by simp only [go_sem]) fun zK zhK=>?_;simp only [go_sem,hx,hy,F5];(repeat' (first|apply And.intro|intro _)))
    |refine zhK _ _ trivial ?_
    |(refine zbn _ ?_;clear zbn zbx zbr zbi)
    |(refine Av fun zK zhK=>?_;simp only [go_sem,hx,hy,F5];(repeat' (first|apply And.intro|intro _)))
    |refine Bz fun zN zM zhN zhM=>?_
    |(refine Bv ?_ ?_;focus (first|rfl|(simp [go_sem,hx,hy,F5];done)))
   refine zhN ⟨k+1,hlt⟩ _ ?_ ?_ ?_
   · (exact Nat.sub_lt_sub_left hlt (Nat.lt_succ_self k))
   · (simp only [go_sem,leX,List.cons_append,List.nil_append];try simp)
   · (simp only [go_sem,leX,List.cons_append,List.nil_append];try simp)
 · obtain rfl:k=16:=by omega
   have hcq:¬((16:Nat):Int)<16:=by omega
   obtain ⟨z,hz⟩: ∃ z,v1y x y=z:=⟨_,rfl⟩
   have hzl:z.length=16:=by rw [←hz];exact x0m x y
   obtain ⟨hzv,hzd⟩:=o1r hx hy h1 h2
   rw [hz] at hzv hzd
   have hpz:e0u (fun i=>fL x i+fL y i) 16 x=z:=by rw [←hz];exact c0o hx
   simp only [hpz]
   have hC:=k0d z hzl hzd
   rw [hzv] at hC
   obtain ⟨r,hr⟩: ∃ q9,D16 ((Hq 65536 x+Hq 65536 y)%p25)=q9:=⟨_,rfl⟩
   have hrl:r.length=16:=by rw [←hr];rfl
   rw [hr] at hC
   have hfin:Aw (D16 ((Hq 65536 x+Hq 65536 y)%p25))=Aw r:=by rw [hr]
   have F12:=And.intro hcq<|And.intro hzl<|hrl
   refine Cx fun zK zhK=>?_
   simp only [go_sem,hx,hy,F12]
   repeat' (first|apply And.intro|intro _)
   refine zhK _ ?_
   refine Bz fun zN zM zhN zhM=>?_
   (refine Cy ?_ ?_;focus (first|rfl|(simp [go_sem,hx,hy,F12];done)))
   refine Ey ?_
   refine zhM _ _ ?_;clear zhN zhM
   refine zhM _ _ ?_;clear zhN zhM
   refine zbx _ ?_;clear zbn zbx zbr zbi
   refine zhN _ ?_;clear zhN zhM
   refine Cx fun zK zhK=>?_
   simp only [go_sem,hx,hy,F12]
   repeat' (first|apply And.intro|intro _)
   all_goals (refine Bq false [] (fun k=>k) (fun _ _=>rfl) ?_ (by decide) ?_ hC.told ?_;iterate 2 (focus (first|rfl|(simp only [go_sem,hx,hy,F12]<;>first|done|rfl|simp))))
   all_goals (rintro v m ⟨hR,hm⟩;subst hR;subst hm)
   all_goals (refine And.intro ?_ (And.intro ?_ (And.intro ?_ ?_));iterate 3 (focus (first|rfl|(simp only [go_sem,hx,hy,F12];done)|(simp [go_sem,look,hx,hy,F12];done))))
   all_goals (try simp only [go_sem,hx,hy,F12])
   all_goals (try simp only [go_sem,hx,hy,F12])
   all_goals repeat' (first|apply And.intro|intro _)
   refine zhK _ ?_
   refine Dx ?_
   refine zhZ _ _ ?_
   simp only [go_sem,hx,hy,F12]
   all_goals (exact told_plain (c0p _) ⟨by rw [hfin],rfl⟩)
theorem c0s (q:List UInt64) (hql:q.length=16) (hqd: ∀ i,i<16→(fL q i).toNat<65536) (hqp:Hq 65536 q≤p25):
 CtM Tryd.prog 63 [.w (.agg (Aw q))] [(1000000,⟨false,Aw Mk⟩)] (Told (fun v m=>v=.w (.agg (Aw (D16 ((p25-Hq 65536 q)%p25))))∧m=[])):=by
 refine CtM.k Tryd.func63 rfl Tryd.ntmps63 (congrArg Array.toList Tryd.results63) (by simp) fun w0 ro may fx=>?_
 refine Dj fun zZ zhZ=>?_
 iterate 8 first
  |(refine Cx fun zK zhK=>?_;simp only [go_sem,hql];(repeat' (first|apply And.intro|intro _)))
  |refine zhK _ ?_
  |refine Aj fun zB zbn zbx zbr zbi=>?_
  |refine Bz fun zN zM zhN zhM=>?_
 refine Gv [0] ?_
 simp only [Gj,Iq,Gq,List.contains_cons,List.contains_nil,Nat.reduceBEq,beq_self_eq_true,Bool.or_false,Bool.or_true,Bool.true_or,Bool.false_or,Bool.false_eq_true,reduceIte]
 refine Jz (fun y=>[(6,.w (.one (.pl (.i ((y.1:Nat):Int))))),(3,.w (.one (.pl (.u64 (bwN (fL Mk) (fL q) y.1)))))]) (fun y=>[(1,⟨false,Aw (e0u (bwV (fL Mk) (fL q)) y.1 q)⟩)]) (fun y=>16-y.1) (⟨0,Nat.zero_le _⟩:{y:Nat//y≤16}) ?_ ?_ ?_
 · (simp only [go_sem,leX,List.cons_append,List.nil_append];first|done|rfl|(simp;done))
 · (simp only [c0n,go_sem,leX,List.cons_append,List.nil_append];first|done|rfl|(simp [leX,look];done))
 intro yy zN zM zhN zhM
 simp only [List.cons_append,List.nil_append]
 obtain ⟨k,hk9⟩:=yy
 rcases Nat.lt_or_ge k 16 with hlt|hge
 · have hcq:((k:Nat):Int)<16:=by omega
   have hc0:(0:Int)≤((k:Nat):Int):=by omega
   have hk1:k+1≤16:=by omega
   obtain ⟨z,hz⟩: ∃ z,e0u (bwV (fL Mk) (fL q)) k q=z:=⟨_,rfl⟩
   have hzl:z.length=16:=by rw [←hz,Xx (by omega),hql]
   have hzk:z.getD k 0=q.getD k 0:=by rw [←hz,j0u (Nat.le_refl _)]
   have hset:z.set k (bwV (fL Mk) (fL q) k)=e0u (bwV (fL Mk) (fL q)) (k+1) q:=by rw [←hz];exact f0u (by omega)
   obtain ⟨v,hv⟩: ∃ v,q.getD k 0=v:=⟨_,rfl⟩
   obtain ⟨c,hc⟩: ∃ c,bwN (fL Mk) (fL q) k=c:=⟨_,rfl⟩
   have o1:=Nw (l:=z) (i:=k) (by omega)
   rw [hzk,hv] at o1
   obtain ⟨w,hw⟩: ∃ w,Mk.getD k 0=w:=⟨_,rfl⟩
   have o2:=Nw (l:=Mk) (i:=k) (by rw [Cj];omega)
   rw [hw] at o2
   have hfv:bwV (fL Mk) (fL q) k=(w+65536-v-c)%65536:=by simp only [bwV,hc,fL,hv,hw]
   have hfn:bwN (fL Mk) (fL q) (k+1)=1-(w+65536-v-c)/65536:=by simp only [bwN,hc,fL,hv,hw]
   have p0:=Vy (q:=z) (j:=k) ((w+65536-v-c)%65536) (by omega)
   rw [hfv] at hset
   rw [hset] at p0
   have hcn:1-(w+65536-v-c)/65536=bwN (fL Mk) (fL q) (k+1):=hfn.symm
   simp only [hc,hz]
   have hs1:Go.RowKit.wrap64 (((k:Nat):Int)+1)=((k+1:Nat):Int):=Ny (by omega) (by omega)
   have F6:=And.intro hcq<|And.intro hc0<|And.intro hk1<|And.intro hzl<|And.intro o1<|And.intro p0<|And.intro hs1<|o2
   iterate 18 first
    |refine zhK _ ?_
    |(refine Cx fun zK zhK=>?_;simp only [go_sem,hql,Cj,F6];(repeat' (first|apply And.intro|intro _)))
    |(refine zhN _ ?_;clear zhN zhM)
    |(refine Av fun zK zhK=>?_;simp only [go_sem,hql,Cj,F6];(repeat' (first|apply And.intro|intro _)))
    |refine Cw ?_
    |refine Aj fun zB zbn zbx zbr zbi=>?_
    |(refine r0v (id:=5) [9,10,11,12,13,14,15,16,17,18,5] [0,1,3,7,0,16,48,127,0,511,1023] [] mixed (by kernel_rfl) (by simp only [go_sem]) fun zK zhK=>?_;simp only [go_sem,hql,Cj,F6];(repeat' (first|apply And.intro|intro _)))
    |refine zhK _ _ trivial ?_
    |(refine zbn _ ?_;clear zbn zbx zbr zbi)
    |refine Bz fun zN zM zhN zhM=>?_
    |(refine Bv ?_ ?_;focus (first|rfl|(simp [go_sem,hql,Cj,F6];done)))
   refine zhN ⟨k+1,hlt⟩ _ ?_ ?_ ?_
   · (exact Nat.sub_lt_sub_left hlt (Nat.lt_succ_self k))
   · (simp only [hfn,go_sem,leX,List.cons_append,List.nil_append];first|done|rfl|(simp [leX,look];done))
   · (simp only [go_sem,leX,List.cons_append,List.nil_append];try simp)
 · obtain rfl:k=16:=by omega
   have hcq:¬((16:Nat):Int)<16:=by omega
   obtain ⟨z,hz⟩: ∃ z,(List.range 16).map (bwV (fL Mk) (fL q))=z:=⟨_,rfl⟩
   have hpz:e0u (bwV (fL Mk) (fL q)) 16 q=z:=by rw [c0o hql,hz]
   have hzl:z.length=16:=by rw [←hz];simp
   have hzv:=s1b hql hqd hqp
   rw [hz] at hzv
   have hzd: ∀ i,i<16→(fL z i).toNat≤70368744177664:=fun i hi=>by
    rw [←hz,j0t hi];exact Nat.le_trans (Nat.le_of_lt (z0r _ _ i)) (by decide)
   simp only [hpz]
   have hC:=k0d z hzl hzd
   rw [hzv] at hC
   obtain ⟨r,hr⟩: ∃ q9,D16 ((p25-Hq 65536 q)%p25)=q9:=⟨_,rfl⟩
   have hrl:r.length=16:=by rw [←hr];rfl
   rw [hr] at hC
   have hfin:Aw (D16 ((p25-Hq 65536 q)%p25))=Aw r:=by rw [hr]
   have F14:=And.intro hcq<|And.intro hzl<|hrl
   refine Cx fun zK zhK=>?_
   simp only [go_sem,hql,F14]
   repeat' (first|apply And.intro|intro _)
   refine zhK _ ?_
   refine Bz fun zN zM zhN zhM=>?_
   (refine Cy ?_ ?_;focus (first|rfl|(simp [go_sem,hql,F14];done)))
   refine Ey ?_
   refine zhM _ _ ?_;clear zhN zhM
   refine zhM _ _ ?_;clear zhN zhM
   refine zbx _ ?_;clear zbn zbx zbr zbi
   refine zhN _ ?_;clear zhN zhM
   refine Cx fun zK zhK=>?_
   simp only [go_sem,hql,F14]
   repeat' (first|apply And.intro|intro _)
   all_goals (refine Bq false [] (fun k=>k) (fun _ _=>rfl) ?_ (by decide) ?_ hC.told ?_;iterate 2 (focus (first|rfl|(simp only [go_sem,hql,F14]<;>first|done|rfl|simp))))
   all_goals (rintro v m ⟨hR,hm⟩;subst hR;subst hm)
   all_goals (refine And.intro ?_ (And.intro ?_ (And.intro ?_ ?_));iterate 3 (focus (first|rfl|(simp only [go_sem,hql,F14];done)|(simp [go_sem,look,hql,F14];done))))
   all_goals (try simp only [go_sem,hql,F14])
   all_goals (try simp only [go_sem,hql,F14])
   all_goals repeat' (first|apply And.intro|intro _)
   refine zhK _ ?_
   refine Dx ?_
   refine zhZ _ _ ?_
   simp only [go_sem,hql,F14]
   all_goals (exact told_plain (c0p _) ⟨by rw [hfin],rfl⟩)
end Lk
end Go.Sy
