/- Walks and what they compute. CONDITIONS: those that each theorem names. -/
import Derived.Test.YtijngjidkdkmeaavS22
import Derived.Test.YtijngjidkdkmeaavE4
import Derived.Test.YtijngjidkdkmeaavE3
import Derived.Test.YtijngjidkdkmeaavS24
set_option linter.unusedVariables false
set_option linter.unusedSimpArgs false
namespace Go.Sy
open Go.Proofs
attribute [local irreducible] Cj HT Bv Rj onC onE onO onG goV goA goS Tj Ck
theorem z0a {α:Type} {l:List α} (h:l.length=2): ∃ a b,l=[a,b]:=by
 match l,h with
 | [a,b],_=>exact ⟨a,b,rfl⟩
theorem v0o {m:Nat}: ∀ {rows:List (List PL)},(∀ r∈rows,Sh Try.prog m 3 r)→∃ l:List Int,rows=Kq l
 | [],_=>⟨[],rfl⟩
 |a::rs,h=>by
  obtain ⟨k,hk,_,_⟩:=m1d (h a (by simp)) Try.underlying3
  obtain ⟨l,hl⟩:=v0o (rows:=rs) fun r hr=>h r (wT _ hr)
  exact ⟨k::l,by rw [hk,hl];rfl⟩
theorem w0u {m:Nat}: ∀ {rows:List (List PL)},(∀ r∈rows,Sh Try.prog m 29 r)→∃ ts:List (List Int),rows=a0u ts
 | [],_=>⟨[],rfl⟩
 |a::rs,h=>by
  obtain ⟨rw',m',hk,hr,_⟩:=g0y (h a (by simp)) Try.underlying29
  obtain ⟨l,rfl⟩:=v0o hr
  obtain ⟨ts,hl⟩:=w0u (rows:=rs) fun r hr=>h r (wT _ hr)
  exact ⟨l::ts,by rw [hk,hl,sz3];rfl⟩
end Go.Sy
namespace Go.Sy
open Go.Proofs
attribute [local irreducible] Cj HT Bv Rj onC onE onO onG goV goA goS Tj Ck
theorem t0z {lt:Bool} {p0 p1:List Int} {ts:List (List Int)} (h0:Uj lt p0 p1 ts=0):1≤ts.length∧ts.length≤5:=by
 by_cases h1:ts.length<1∨5<ts.length
 ·rw [Uj,if_pos h1] at h0;exact absurd h0 (by decide)
 omega
theorem c1s {lt:Bool} {p0 p1:List Int} {ts:List (List Int)} (h0:Uj lt p0 p1 ts=0):scan (p0::p1::ts)=0:=by
 have h1:=t0z h0
 by_cases hz:scan (p0::p1::ts)=0
 ·exact hz
 rw [Uj,if_neg (by omega),if_pos hz] at h0;exact absurd h0 hz
theorem g2z {k n:Int} (hk:c0v k) (hn:c0v n):(Aw.mk k n 0 []).ok:=by
 rw [Aw.ok,Dq];exact ⟨hk,hn,⟨by decide,by decide⟩,by decide,trivial⟩
theorem h2h {p0 p1 ss:List Int} (hb: ∀ n∈ss,c0v n): ∀ x∈a1q p0 p1 ss,x.ok:=by
 intro x hx
 simp only [a1q,yU,yT,List.not_mem_nil,or_false,yY] at hx
 rcases hx with ((((rfl|rfl|rfl)|hx)|hx))|⟨n,hn,rfl⟩
 ·exact (i0l (by decide)).1
 ·exact (m0n (by decide)).1
 ·exact (m0n (by decide)).1
 ·exact (p0y (by decide) x hx).1
 ·exact (p0y (by decide) x hx).1
 exact g2z ⟨by decide,by decide⟩ (hb n hn)
abbrev hidR (b:Bool) (e:Int) (v:V) (m:List (Nat×Ob)):Prop:=v=.tup [.one (.pl (.b b)),.one (.pl (.i e))]
theorem y1g (bs:List UInt8) (lt:Bool) (ps:List (List PL)) (p0 p1:List Int) (ts:List (List Int)) (ss:List Int) (turn:Int) (hb: ∀ n∈ss,c0v n): ∃ b e,Ct Try.prog 7 [.w (.agg (Ow bs lt ps p0 p1 ts)),.w (.one (.pl (.R false 1 (Kq ss)))),.w (.one (.pl (.i turn)))] (hidR b e)∧Ct Try.prog 8 [.w (.agg (Ow bs lt ps p0 p1 ts)),.w (.one (.pl (.R false 1 (Kq ss)))),.w (.one (.pl (.i turn)))] (hidR b e):=by
 have hc:=f2h bs lt ps p0 p1 ts
 have hf:=f2g bs lt ps p0 p1 ts
 rw [←b2h] at hf
 by_cases h0:Uj lt p0 p1 ts=0
 ·rw [h0] at hc hf
  by_cases hps:(4:Int)<((ps.length:Nat):Int)
  ·exact ⟨false,1,p1e bs lt ps p0 p1 ts ss turn 1 (by decide) (k1k bs lt ps p0 p1 ts hps hc).told,f1c bs lt ps p0 p1 ts ss turn 1 (by decide) (i1e bs lt ps p0 p1 ts hps hf).told⟩
  have ht5:=t0z h0
  have hrng:=i0r (c1s h0)
  obtain ⟨L,hL⟩: ∃ L,(p0k lt (decide ((0:Int)<((ps.length:Nat):Int))) p0 p1 ts).out=L:=⟨_,rfl⟩
  have hw:=v1n lt (decide ((0:Int)<((ps.length:Nat):Int))) p0 p1 ts (fun l hl=>(hrng l (by simp [hl])).2) ht5.2
  have hT:=(d2d bs lt ps p0 p1 ts _ rfl hps ht5 hrng hc).told.hands
  have hR:=(w1d bs lt ps p0 p1 ts _ rfl hps ht5 hrng hf).told.hands
  rw [hL] at hw hT hR
  have hL9:L.length≤900000:=yJ hw.2 (by decide)
  by_cases h1:turn<0
  ·exact ⟨false,6,m2s bs lt ps p0 p1 ts ss turn L hL9 hT h1,e2w bs lt ps p0 p1 ts ss turn L hL9 hR h1⟩
  by_cases h2:turn≥((ts.length:Nat):Int)
  ·exact ⟨false,6,m2r bs lt ps p0 p1 ts ss turn L hL9 hT h1 h2,e2v bs lt ps p0 p1 ts ss turn L hL9 hR h1 h2⟩
  by_cases h3:((ss.length:Nat):Int)>6
  ·exact ⟨false,6,m2q bs lt ps p0 p1 ts ss turn L hL9 hT h1 h2 h3,e2u bs lt ps p0 p1 ts ss turn L hL9 hR h1 h2 h3⟩
  obtain ⟨tn,rfl⟩: ∃ n:Nat,turn=(n:Int):=⟨turn.toNat,by omega⟩
  have htn:tn<ts.length:=by omega
  have h6:ss.length≤6:=by omega
  have hp0:=(hrng p0 (by simp)).2
  have hp1:=(hrng p1 (by simp)).2
  have hk1:=h2h (p0:=p0) (p1:=p1) hb
  have hl1:=y1h p0 p1 ss hp0 hp1 h6
  have hkl:(a1q p0 p1 ss++L).length≤9223372036854775807:=by rw [yL];omega
  have hlk:(L++a1q p0 p1 ss).length≤9223372036854775807:=by rw [yL];omega
  have t1:Dq (a1q p0 p1 ss++L):=a0b fun x hx=>(yU.mp hx).elim (hk1 x) fun h=>(hw.1 x h).1
  have t2:Dq (L++a1q p0 p1 ss):=a0b fun x hx=>(yU.mp hx).elim (fun h=>(hw.1 x h).1) (hk1 x)
  have ht:(Fv (20+(tn:Int))).ok:=(i0l ⟨by omega,by omega⟩).1
  have c1:=m2l _ hkl t1 _ ht
  have c2:=m2m _ hlk t2 _ ht
  by_cases hs: ∀ n∈ss,0≤n
  ·have hpm:=o1s (t:=Fv (20+(tn:Int))) (h2g (p0:=p0) (p1:=p1) hs fun n hn=>(hb n hn).2) hw.1 ht
   rw [hpm.1,hpm.2] at c2
   exact ⟨_,_,c2e bs lt ps p0 p1 ts ss tn L hL9 hT htn ht5.2 h6 hp0 hp1 _ rfl _ _ c1 _ ⟨fun _=>rfl,fun h=>absurd hs h⟩,m1w bs lt ps p0 p1 ts ss tn L hL9 hR htn ht5.2 h6 hp0 hp1 _ rfl _ _ c2 _ ⟨fun _=>rfl,fun h=>absurd hs h⟩⟩
  exact ⟨false,6,c2e bs lt ps p0 p1 ts ss tn L hL9 hT htn ht5.2 h6 hp0 hp1 _ rfl _ _ c1 _ ⟨fun h=>absurd h hs,fun _=>rfl⟩,m1w bs lt ps p0 p1 ts ss tn L hL9 hR htn ht5.2 h6 hp0 hp1 _ rfl _ _ c2 _ ⟨fun h=>absurd h hs,fun _=>rfl⟩⟩
 exact ⟨false,_,p1e bs lt ps p0 p1 ts ss turn _ h0 (s1r bs lt ps p0 p1 ts _ h0 hc).told,f1c bs lt ps p0 p1 ts ss turn _ h0 (m1p bs lt ps p0 p1 ts _ h0 hf).told⟩
set_option maxHeartbeats 400000 in
set_option maxRecDepth 100000 in
theorem w0w (bs:List UInt8) (lt:Bool) (ps:List (List PL)) (p0 p1:List Int) (ts:List (List Int)) (ss:List Int) (turn:Int) (b:Bool) (e:Int) (hc:Ct Try.prog 7 [.w (.agg (Ow bs lt ps p0 p1 ts)),.w (.one (.pl (.R false 1 (Kq ss)))),.w (.one (.pl (.i turn)))] (hidR b e)) (hd:Ct Try.prog 8 [.w (.agg (Ow bs lt ps p0 p1 ts)),.w (.one (.pl (.R false 1 (Kq ss)))),.w (.one (.pl (.i turn)))] (hidR b e)):
 Ct Try.prog 4 [.w (.agg (Ow bs lt ps p0 p1 ts)),.w (.one (.pl (.R false 1 (Kq ss)))),.w (.one (.pl (.i turn)))] (fun v m=>v=.w (.one (.pl (.b true)))):=by
 skip
 have F0:=yA Ow.eq_1<|decide_true
 have cv0:=Ct.cv (hc)
 have cv1:=Ct.cv (hd)
 exact Ct.go Try.func4 rfl Try.ntmps4 Try.results4
theorem h1j (bs:List UInt8) (lt:Bool) (ps:List (List PL)) (p0 p1:List Int) (ts:List (List Int)) (ss:List Int) (turn:Int) (hb: ∀ n∈ss,c0v n):Ct Try.prog 4 [.w (.agg (Ow bs lt ps p0 p1 ts)),.w (.one (.pl (.R false 1 (Kq ss)))),.w (.one (.pl (.i turn)))] (fun v m=>v=.w (.one (.pl (.b true)))):=by
 obtain ⟨b,e,h1,h2⟩:=y1g bs lt ps p0 p1 ts ss turn hb
 exact w0w bs lt ps p0 p1 ts ss turn b e h1 h2
theorem g1d {m:Nat}: ∀ {rows:List (List PL)},(∀ r∈rows,Sh Try.prog m 3 r)→∃ l:List Int,rows=Kq l∧∀ n∈l,c0v n
 | [],_=>⟨[],rfl,fun _ h=>by cases h⟩
 |a::rs,h=>by
  obtain ⟨k,hk,hb⟩:=m1d (h a (by simp)) Try.underlying3
  obtain ⟨l,hl,hl2⟩:=g1d (rows:=rs) fun r hr=>h r (wT _ hr)
  refine ⟨k::l,by rw [hk,hl];rfl,fun n hn=>?_⟩
  rcases yT.mp hn with rfl|hn
  ·exact hb
  exact hl2 n hn
end Go.Sy
