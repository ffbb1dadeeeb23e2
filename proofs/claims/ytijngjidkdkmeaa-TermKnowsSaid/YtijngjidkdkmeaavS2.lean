/- Walks and what they compute. CONDITIONS: those that each theorem names. -/
import Derived.Test.YtijngjidkdkmeaavE4
import Derived.Test.YtijngjidkdkmeaavS1
set_option linter.unusedVariables false
set_option linter.unusedSimpArgs false
set_option maxHeartbeats 1600000
set_option maxRecDepth 100000
namespace Go.Sy
inductive Aw where
 |mk (kind id other:Int) (args:List Aw)
def Aw.kind :Aw→Int| .mk k _ _ _=>k
def Aw.id :Aw→Int| .mk _ i _ _=>i
def Aw.other :Aw→Int| .mk _ _ o _=>o
def Aw.args :Aw→List Aw| .mk _ _ _ l=>l
mutual
def Aw.cells :Aw→List PL
 | .mk k i o l=>[.i k,.i i,.i o,.R false 4 (Ay l)]
def Ay :List Aw→List (List PL)
 | []=>[]
 |a::l=>a.cells::Ay l
end
theorem Rq : ∀ l:List Aw,Ay l=l.map Aw.cells
 | []=>by rw [Ay];rfl
 |a::l=>by rw [Ay,Rq l];rfl
theorem Az (l:List Aw):(Ay l).length=l.length:=by rw [Rq,List.length_map]
def a0p (k:Int):Prop:= -9223372036854775808≤k∧k≤9223372036854775807
mutual
def Aw.ok :Aw→Prop
 | .mk k i o l=>a0p k∧a0p i∧a0p o∧l.length≤9223372036854775807∧Dv l
def Dv :List Aw→Prop
 | []=>True
 |a::l=>a.ok∧Dv l
end
theorem Dz : ∀ {l:List Aw},Dv l→∀ a∈l,a.ok
 | [],_,a,h=>by cases h
 |b::l,hk,a,h=>by
  rw [Dv] at hk
  rcases List.mem_cons.mp h with rfl|h
  ·exact hk.1
  ·exact Dz hk.2 a h
theorem f0x {p:List PL→Prop} (hp: ∀ r,p r→∃ d:Aw,r=d.cells∧d.ok): ∀ rows:List (List PL),(∀ r∈rows,p r)→∃ l:List Aw,rows=Ay l∧Dv l
 | [],_=>⟨[],by rw [Ay],by rw [Dv];trivial⟩
 |r::rows,h=>by
  obtain ⟨d,rfl,hd⟩:=hp r (h r (by simp))
  obtain ⟨l,rfl,hl⟩:=f0x hp rows fun r hr=>h r (by simp [hr])
  exact ⟨d::l,by rw [Ay],by rw [Dv];exact ⟨hd,hl⟩⟩
theorem z0w {P:Program} {t:TypeId} {f0 f1 f2 f3:Field} (ht:P.underlying t=some (.struct #[f0,f1,f2,f3])) (h0:P.underlying f0.type=some (.int .i64)) (h1:P.underlying f1.type=some (.int .i64)) (h2:P.underlying f2.type=some (.int .i64)) (h3:P.underlying f3.type=some (.slice t)) (hc:P.cellsOf t=4):
  ∀ (n m:Nat),m≤n→∀ cs,Sh P m t cs→∃ d:Aw,cs=d.cells∧d.ok:=by
 intro n
 induction n with
 |zero=>
  intro m hm cs h
  obtain rfl:m=0:=by omega
  exact h.elim
 |succ n ih=>
  intro m hm cs h
  cases m with
  |zero=>exact h.elim
  |succ m=>
   unfold Sh at h
   rw [ht] at h
   obtain ⟨ps,rfl,hp⟩:=h
   cases hp with
   |cons g0 hp=>cases hp with
    |cons g1 hp=>cases hp with
     |cons g2 hp=>cases hp with
      |cons g3 hp=>
       cases hp
       obtain ⟨k,rfl,hk⟩:=z0x g0.1 h0
       obtain ⟨i,rfl,hi⟩:=z0x g1.1 h1
       obtain ⟨o,rfl,ho⟩:=z0x g2.1 h2
       have g:=g3.1
       cases m with
       |zero=>exact g.elim
       |succ m=>
        unfold Sh at g
        rw [h3] at g
        obtain ⟨rows,rfl,hr,hl⟩:=g
        obtain ⟨l,rfl,hlk⟩:=f0x (p:=fun r=>Sh P m t r) (fun r hr=>ih m (by omega) r hr) rows fun r hr'=>(hr r hr').1
        refine ⟨.mk k i o l,?_,?_⟩
        ·rw [Aw.cells,hc];rfl
        ·rw [Aw.ok]
         rw [Az] at hl
         exact ⟨hk,hi,ho,hl,hlk⟩
mutual
def Gx :Aw→Int→Int
 | .mk _ _ _ l,deep=>if 40<deep then 301 else Wz l deep 1
def Wz :List Aw→Int→Int→Int
 | [],_,n=>n
 |a::l,deep,n=>if 300<n then n else Wz l deep (n+Gx a (deep+1))
end
mutual
def Dq :Aw→Int→Int
 | .mk _ _ _ l,deep=>if 40<deep then 1048576 else Rv l deep 1
def Rv :List Aw→Int→Int→Int
 | [],_,n=>n
 |a::l,deep,n=>if 1048576<n+Dq a (deep+1) then n+Dq a (deep+1) else Rv l deep (n+Dq a (deep+1))
end
mutual
theorem Rj : ∀ (t:Aw) (d:Int),1≤Gx t d
 | .mk _ _ _ l,d=>by
  rw [Gx];split
  ·omega
  ·exact e0d l d 1
theorem e0d : ∀ (l:List Aw) (d n:Int),n≤Wz l d n
 | [],d,n=>by rw [Wz];omega
 |a::l,d,n=>by
  rw [Wz];split
  ·omega
  ·have:=Rj a (d+1)
   have:=e0d l d (n+Gx a (d+1))
   omega
end
mutual
theorem Wq : ∀ (t:Aw) (d:Int),1≤Dq t d
 | .mk _ _ _ l,d=>by
  rw [Dq];split
  ·omega
  ·exact i0d l d 1
theorem i0d : ∀ (l:List Aw) (d n:Int),n≤Rv l d n
 | [],d,n=>by rw [Rv];omega
 |a::l,d,n=>by
  have:=Wq a (d+1)
  rw [Rv];split
  ·omega
  ·have:=i0d l d (n+Dq a (d+1))
   omega
end
def upS (x y:Int):Prop:=(x≤300∧y=x)∨(300<x∧300<y)
mutual
theorem f0u : ∀ (t:Aw) (d:Int),upS (Gx t d) (Dq t d)
 | .mk _ _ _ l,d=>by
  rw [Gx,Dq];split
  ·exact .inr ⟨by omega,by omega⟩
  ·exact i0m l d 1 1 (by omega) (by omega) (.inl ⟨by omega,rfl⟩)
theorem i0m : ∀ (l:List Aw) (d n m:Int),1≤n→1≤m→upS n m→upS (Wz l d n) (Rv l d m)
 | [],d,n,m,_,_,h=>by rw [Wz,Rv];exact h
 |a::l,d,n,m,hn1,hm1,h=>by
  have h1:=f0u a (d+1)
  have h2:=Wq a (d+1)
  have h3:=Rj a (d+1)
  rw [Wz,Rv]
  rcases h with ⟨hn,rfl⟩|⟨hn,hm⟩
  ·rw [if_neg (by omega)]
   split
   ·rename_i hb
    refine .inr ⟨?_,by omega⟩
    have:=e0d l d (m+Gx a (d+1))
    rcases h1 with ⟨g1,g2⟩|⟨g1,g2⟩<;>omega
   ·refine i0m l d _ _ (by omega) (by omega) ?_
    rcases h1 with ⟨g1,g2⟩|⟨g1,g2⟩
    ·rw [g2]
     by_cases hx:m+Gx a (d+1)≤300
     ·exact .inl ⟨hx,rfl⟩
     ·exact .inr ⟨by omega,by omega⟩
    ·exact .inr ⟨by omega,by omega⟩
  ·rw [if_pos hn]
   refine .inr ⟨hn,?_⟩
   split
   ·omega
   ·have:=i0d l d (m+Dq a (d+1));omega
end
def sbd :Nat→Int
 |0=>301
 |k+1=>300+sbd k
theorem a1c : ∀ k,301≤sbd k
 |0=>by rw [sbd];omega
 |k+1=>by have:=a1c k;rw [sbd];omega
theorem m0y (k:Nat):sbd (k+1)=300+sbd k:=by rw [sbd]
mutual
theorem h0n : ∀ (t:Aw) (d:Int) (k:Nat),41≤d+k→Gx t d≤sbd k
 | .mk _ _ _ l,d,k,h=>by
  have hg:=a1c k
  have hl:=u0g l d 1
  rw [Gx]
  by_cases h40:40<d
  ·rw [if_pos h40];exact hg
  ·rw [if_neg h40]
   obtain ⟨j,rfl⟩: ∃ j,k=j+1:=⟨k-1,by omega⟩
   have:=a1c j
   exact hl j (by omega) (by omega)
theorem u0g : ∀ (l:List Aw) (d n:Int) (k:Nat),41≤d+1+k→n≤sbd (k+1)→Wz l d n≤sbd (k+1)
 | [],d,n,k,h,hn=>by simp only [Wz];exact hn
 |a::l,d,n,k,h,hn=>by
  have h1:=h0n a (d+1) k (by omega)
  have h2:=m0y k
  have hl:=fun n hn=>u0g l d n k h hn
  rw [Wz]
  by_cases hx:300<n
  ·rw [if_pos hx];exact hn
  ·rw [if_neg hx];exact hl _ (by omega)
end
def bnd :Nat→Int
 |0=>1048576
 |k+1=>1048576+bnd k
theorem d1o : ∀ k,1048576≤bnd k
 |0=>by rw [bnd];omega
 |k+1=>by have:=d1o k;rw [bnd];omega
theorem j1u (k:Nat):bnd (k+1)=1048576+bnd k:=by rw [bnd]
mutual
theorem d0w : ∀ (t:Aw) (d:Int) (k:Nat),41≤d+k→Dq t d≤bnd k
 | .mk _ _ _ l,d,k,h=>by
  have hg:=d1o k
  have hl:=o0b l d 1
  rw [Dq]
  by_cases h40:40<d
  ·rw [if_pos h40];exact hg
  ·rw [if_neg h40]
   obtain ⟨j,rfl⟩: ∃ j,k=j+1:=⟨k-1,by omega⟩
   exact hl j (by omega) (by omega)
theorem o0b : ∀ (l:List Aw) (d n:Int) (k:Nat),41≤d+1+k→n≤1048576→Rv l d n≤bnd (k+1)
 | [],d,n,k,h,hn=>by
  have:=d1o (k+1)
  rw [Rv];omega
 |a::l,d,n,k,h,hn=>by
  have h1:=d0w a (d+1) k (by omega)
  have h2:=j1u k
  have hl:=fun n hn=>o0b l d n k h hn
  rw [Rv]
  by_cases hx:1048576<n+Dq a (d+1)
  ·rw [if_pos hx];omega
  ·rw [if_neg hx];exact hl _ (by omega)
end
def g0m (k:Int):Int:=if k=4 then 2 else if k=5 then 1 else if k=6 then 2 else if k=7 then 3 else 0
def okT (k i o n:Int):Bool:=decide (n=g0m k)&&decide (0≤i)&&decide (0≤o)&&(if k=3 then decide (i≤o) else if k=1∨k=2∨k=6 then decide (o=0) else decide (i=0∧o=0))
mutual
def Bz :Aw→Int
 | .mk k i o l=>if k<1∨7<k then 2 else if okT k i o l.length=true then Cv l else 3
def Cv :List Aw→Int
 | []=>0
 |a::l=>if Bz a=0 then Cv l else Bz a
end
mutual
def Tw :Aw→Aw→Bool
 | .mk k i o l,.mk k2 i2 o2 l2=>decide (k=k2)&&decide (i=i2)&&decide (o=o2)&&decide (l.length=l2.length)&&c0t l l2
def c0t :List Aw→List Aw→Bool
 | [],_=>true
 |_::_,[]=>true
 |a::l,b::l2=>Tw a b&&c0t l l2
end
end Go.Sy
namespace Go.Sy
open Go.Proofs
attribute [local irreducible] Ey HT Bq Tk onC onE onO onG goV goA goS Wv Fx
theorem k0l {a:Int} {n:Nat} (h:a=(n:Int)) (hn:n≤9223372036854775807):Go.RowKit.wrap64 a=(n:Int):=by subst h;exact w64 (by omega)
abbrev Pv (t:Aw):V:=.w (.agg (pls t.cells))
abbrev Fy (k i o:Int) (l:List Aw):V:=.w (.agg [.pl (.i k),.pl (.i i),.pl (.i o),.pl (.R false 4 (Ay l))])
theorem Ak (k i o:Int) (l:List Aw):Pv (.mk k i o l)=Fy k i o l:=by rw [Pv,Aw.cells];rfl
theorem Cy {l:List Aw} {n:Nat} (h:n<l.length): ∃ k i o m,l.getD n (.mk 0 0 0 [])=.mk k i o m∧.mk k i o m∈l∧l.drop n=.mk k i o m::l.drop (n+1)∧(Ay l).getD n []=[.i k,.i i,.i o,.R false 4 (Ay m)]:=by
 obtain ⟨k,i,o,m,he⟩: ∃ k i o m,l[n]=Aw.mk k i o m:=⟨_,_,_,_,(by cases l[n] with|mk k i o m=>rfl:l[n]=.mk l[n].kind l[n].id l[n].other l[n].args)⟩
 refine ⟨k,i,o,m,?_,?_,?_,?_⟩
 · rw [←he];simp [List.getD,List.getElem?_eq_getElem h]
 · rw [←he];exact List.getElem_mem h
 · rw [←he];exact List.drop_eq_getElem_cons h
 · rw [Rq,List.getD,List.getElem?_map,List.getElem?_eq_getElem h,he];simp [Aw.cells]
theorem y0q (k i o:Int) (l:List Aw) (hl:l.length≤9223372036854775807) (d:Int) (hd:1≤d∧d≤41) (h:40<d):
 Ct Try.prog 27 [Fy k i o l,.w (.one (.pl (.i d)))] (fun v m=>v=.w (.one (.pl (.i (Gx (.mk k i o l) d))))):=by
 have hr:Gx (.mk k i o l) d=301:=by rw [Gx,if_pos h]
 rw [hr]
 refine Ct.k Try.func27 rfl Try.ntmps27 (congrArg Array.toList Try.results27) (by simp) fun w0 ro=>?_
 refine Ck fun zZ zhZ=>?_
 iterate 11 first
  |(refine Dw fun zK zhK=>?_;simp only [go_sem,h];(repeat' (first|apply And.intro|intro _)))
  |refine zhK _ ?_
  |refine Cq ?_
  |(refine zhM _ _ ?_;clear zhN zhM)
  |(refine zhZ _ _ ?_;simp only [go_sem,h];(all_goals (rfl)))
  |refine Bj fun zN zM zhN zhM=>?_
  |(refine Aj ?_ ?_;focus (first|rfl|(simp [go_sem,h];done)))
theorem y0p (k i o:Int) (l:List Aw) (hl:l.length≤9223372036854775807) (d:Int) (hd:1≤d∧d≤41) (h:¬40<d) (ih: ∀ a,a∈l→∀ e,1≤e→e≤41→Ct Try.prog 27 [Pv a,.w (.one (.pl (.i e)))] (fun v m=>v=.w (.one (.pl (.i (Gx a e)))))):
 Ct Try.prog 27 [Fy k i o l,.w (.one (.pl (.i d)))] (fun v m=>v=.w (.one (.pl (.i (Gx (.mk k i o l) d))))):=by
 have hr:Gx (.mk k i o l) d=Wz l d 1:=by rw [Gx,if_neg h]
 refine Ct.k Try.func27 rfl Try.ntmps27 (congrArg Array.toList Try.results27) (by simp) fun w0 ro=>?_
 refine Ck fun zZ zhZ=>?_
 iterate 14 first
  |(refine Dw fun zK zhK=>?_;simp only [go_sem,h,Az];(repeat' (first|apply And.intro|intro _)))
  |refine zhK _ ?_
  |refine Bv ?_
  |(refine zhN _ ?_;clear zhN zhM)
  |refine Bw fun zB zbn zbx zbr zbi=>?_
  |refine Bj fun zN zM zhN zhM=>?_
  |(refine Av ?_ ?_;focus (first|rfl|(simp [go_sem,h,Az];done)))
 refine Gw [0,2,8,9,10] ?_
 simp only [Gq,Iq,Gv,List.contains_cons,List.contains_nil,Nat.reduceBEq,beq_self_eq_true,Bool.or_false,Bool.or_true,Bool.true_or,Bool.false_or,Bool.false_eq_true,reduceIte]
 refine Iy (fun y=>[(5,.w (.one (.pl (.i y.1.2)))),(13,.w (.one (.pl (.i ((y.1.1:Nat):Int)))))]) (fun _=>[]) (fun y=>l.length-y.1.1) (⟨(0,1),Nat.zero_le _,by decide,by decide,rfl⟩:{y:Nat×Int//y.1≤l.length∧1≤y.2∧y.2≤sbd 41∧Wz (l.drop y.1) d y.2=Wz l d 1}) ?_ ?_ ?_
 · (simp only [go_sem,leX,List.cons_append,List.nil_append];try simp)
 · (simp only [go_sem,leX,List.cons_append,List.nil_append];try simp)
 intro yy zN zM zhN zhM
 simp only [List.cons_append,List.nil_append]
 obtain ⟨⟨j,n⟩,h1,h2,h3,h4⟩:=yy
 rcases Nat.lt_or_ge j l.length with hlt|hge
 rcases Int.lt_or_le 300 n with hbig|hbig
 · simp only at h1 h2 h3 h4
   obtain ⟨k2,i2,o2,m2,he,hm,hdr,hg⟩:=Cy hlt
   have hc:=ih _ hm (d+1) (by omega) (by omega)
   rw [Ak] at hc
   have hcq:((j:Nat):Int)<((l.length:Nat):Int):=by omega
   have hj:(0:Int)≤((j:Nat):Int):=by omega
   have hjl:j<(Ay l).length:=by rw [Az];exact hlt
   have hb:=h0n (.mk k2 i2 o2 m2) (d+1) 40 (by omega)
   have hb1:sbd 41=300+sbd 40:=m0y 40
   have hb2:sbd 41=12601:=by decide
   have hp:=Rj (.mk k2 i2 o2 m2) (d+1)
   obtain ⟨w,hw⟩: ∃ w,Gx (.mk k2 i2 o2 m2) (d+1)=w:=⟨_,rfl⟩
   rw [hw] at hc hb hp
   rw [hdr,Wz,hw] at h4
   rw [if_pos hbig] at h4
   have F8:=And.intro hcq<|And.intro hj<|And.intro hjl<|And.intro hg<|hbig
   iterate 25 first
    |(refine Dw fun zK zhK=>?_;simp only [go_sem,h,Az,F8];(repeat' (first|apply And.intro|intro _)))
    |refine zhK _ ?_
    |(refine zhM _ _ ?_;clear zhN zhM)
    |(refine zhN _ ?_;clear zhN zhM)
    |refine Bv ?_
    |refine Bw fun zB zbn zbx zbr zbi=>?_
    |refine Iw ?_
    |(refine zbi _ _ (by decide) ?_;clear zbn zbx zbr zbi)
    |(refine zbx _ ?_;clear zbn zbx zbr zbi)
    |refine Cq ?_
    |(refine zhZ _ _ ?_;simp only [go_sem,h,Az,F8];(all_goals (rw [hr,←h4])))
    |refine Bj fun zN zM zhN zhM=>?_
    |(refine Aj ?_ ?_;focus (first|rfl|(simp [go_sem,h,Az,F8];done)))
 · simp only at h1 h2 h3 h4
   obtain ⟨k2,i2,o2,m2,he,hm,hdr,hg⟩:=Cy hlt
   have hc:=ih _ hm (d+1) (by omega) (by omega)
   rw [Ak] at hc
   have hcq:((j:Nat):Int)<((l.length:Nat):Int):=by omega
   have hj:(0:Int)≤((j:Nat):Int):=by omega
   have hjl:j<(Ay l).length:=by rw [Az];exact hlt
   have hb:=h0n (.mk k2 i2 o2 m2) (d+1) 40 (by omega)
   have hb1:sbd 41=300+sbd 40:=m0y 40
   have hb2:sbd 41=12601:=by decide
   have hp:=Rj (.mk k2 i2 o2 m2) (d+1)
   obtain ⟨w,hw⟩: ∃ w,Gx (.mk k2 i2 o2 m2) (d+1)=w:=⟨_,rfl⟩
   rw [hw] at hc hb hp
   rw [hdr,Wz,hw] at h4
   rw [if_neg (by omega)] at h4
   have hnb:¬300<n:=by omega
   obtain ⟨hs1,hs2,hs3⟩:Go.RowKit.wrap64 (((j:Nat):Int)+1)=((j+1:Nat):Int)∧Go.RowKit.wrap64 (d+1)=d+1∧Go.RowKit.wrap64 (n+w)=n+w:=⟨k0l (by omega) (by omega),w64 (by omega),w64 (by omega)⟩
   have FZ:=And.intro hcq<|And.intro hj<|And.intro hjl<|And.intro hg<|And.intro hnb<|And.intro hs1<|And.intro hs2<|hs3
   iterate 23 first
    |refine zhK _ ?_
    |(refine Dw fun zK zhK=>?_;simp only [go_sem,h,Az,FZ];(repeat' (first|apply And.intro|intro _)))
    |(refine zhN _ ?_;clear zhN zhM)
    |refine Bv ?_
    |(refine Aq fun zK zhK=>?_;simp only [go_sem,h,Az,FZ];(repeat' (first|apply And.intro|intro _)))
    |refine Bw fun zB zbn zbx zbr zbi=>?_
    |(refine zbn _ ?_;clear zbn zbx zbr zbi)
    |((all_goals (refine Cz (fun k=>k) (fun _ _=>rfl) ?_ (hc.plain fun _ _ h=>h) ?_;focus (first|rfl|(simp only [go_sem,h,Az,FZ]<;>rfl))));(all_goals (rintro v m ⟨hR,hm⟩;subst hR;subst hm));(all_goals refine And.intro (by first|rfl|simp only [go_sem,h,Az,FZ]) (And.intro (by first|rfl|simp only [go_sem,h,Az,FZ]) ?_));(all_goals simp only [go_sem,h,Az,FZ]);(all_goals repeat' (first|apply And.intro|intro _)))
    |refine Bj fun zN zM zhN zhM=>?_
    |(refine Aj ?_ ?_;focus (first|rfl|(simp [go_sem,h,Az,FZ];done)))
    |(refine Av ?_ ?_;focus (first|rfl|(simp [go_sem,h,Az,FZ];done)))
   refine zhN ⟨(j+1,n+w),hlt,by clear hs1 hs2 hs3 FZ;simp only;omega,by clear hs1 hs2 hs3 FZ;simp only;omega,h4⟩ _ ?_ ?_ ?_
   · (exact Nat.sub_lt_sub_left hlt (Nat.lt_succ_self j))
   · (simp only [go_sem,leX,List.cons_append,List.nil_append];try simp)
   · (simp only [go_sem,leX,List.cons_append,List.nil_append];try simp)
 · simp only at h1 h2 h3 h4
   obtain rfl:j=l.length:=by omega
   rw [List.drop_length,Wz] at h4
   have hcq:¬((l.length:Nat):Int)<((l.length:Nat):Int):=by omega
   iterate 13 first
    |(refine Dw fun zK zhK=>?_;simp only [go_sem,h,Az,hcq];(repeat' (first|apply And.intro|intro _)))
    |refine zhK _ ?_
    |(refine zhM _ _ ?_;clear zhN zhM)
    |refine Iw ?_
    |(refine zbx _ ?_;clear zbn zbx zbr zbi)
    |(refine zhN _ ?_;clear zhN zhM)
    |refine Cq ?_
    |(refine zhZ _ _ ?_;simp only [go_sem,h,Az,hcq];(all_goals (rw [hr,←h4])))
    |refine Bj fun zN zM zhN zhM=>?_
    |(refine Av ?_ ?_;focus (first|rfl|(simp [go_sem,h,Az,hcq];done)))
theorem v0s (k i o:Int) (l:List Aw) (hl:l.length≤9223372036854775807) (d:Int) (hd:1≤d∧d≤41) (h:40<d):
 Ct Try.prog 13 [Fy k i o l,.w (.one (.pl (.i d)))] (fun v m=>v=.w (.one (.pl (.i (Dq (.mk k i o l) d))))):=by
 have hr:Dq (.mk k i o l) d=1048576:=by rw [Dq,if_pos h]
 rw [hr]
 refine Ct.k Try.func13 rfl Try.ntmps13 (congrArg Array.toList Try.results13) (by simp) fun w0 ro=>?_
 refine Ck fun zZ zhZ=>?_
 iterate 11 first
  |(refine Dw fun zK zhK=>?_;simp only [go_sem,h];(repeat' (first|apply And.intro|intro _)))
  |refine zhK _ ?_
  |refine Cq ?_
  |(refine zhM _ _ ?_;clear zhN zhM)
  |(refine zhZ _ _ ?_;simp only [go_sem,h];(all_goals (rfl)))
  |refine Bj fun zN zM zhN zhM=>?_
  |(refine Aj ?_ ?_;focus (first|rfl|(simp [go_sem,h];done)))
theorem v0r (k i o:Int) (l:List Aw) (hl:l.length≤9223372036854775807) (d:Int) (hd:1≤d∧d≤41) (h:¬40<d) (ih: ∀ a,a∈l→∀ e,1≤e→e≤41→Ct Try.prog 13 [Pv a,.w (.one (.pl (.i e)))] (fun v m=>v=.w (.one (.pl (.i (Dq a e)))))):
 Ct Try.prog 13 [Fy k i o l,.w (.one (.pl (.i d)))] (fun v m=>v=.w (.one (.pl (.i (Dq (.mk k i o l) d))))):=by
 have hr:Dq (.mk k i o l) d=Rv l d 1:=by rw [Dq,if_neg h]
 refine Ct.k Try.func13 rfl Try.ntmps13 (congrArg Array.toList Try.results13) (by simp) fun w0 ro=>?_
 refine Ck fun zZ zhZ=>?_
 iterate 14 first
  |(refine Dw fun zK zhK=>?_;simp only [go_sem,h,Az];(repeat' (first|apply And.intro|intro _)))
  |refine zhK _ ?_
  |refine Bv ?_
  |(refine zhN _ ?_;clear zhN zhM)
  |refine Bw fun zB zbn zbx zbr zbi=>?_
  |refine Bj fun zN zM zhN zhM=>?_
  |(refine Av ?_ ?_;focus (first|rfl|(simp [go_sem,h,Az];done)))
 refine Gw [0,2,8,9,10] ?_
 simp only [Gq,Iq,Gv,List.contains_cons,List.contains_nil,Nat.reduceBEq,beq_self_eq_true,Bool.or_false,Bool.or_true,Bool.true_or,Bool.false_or,Bool.false_eq_true,reduceIte]
 refine Iy (fun y=>[(5,.w (.one (.pl (.i y.1.2)))),(13,.w (.one (.pl (.i ((y.1.1:Nat):Int)))))]) (fun _=>[]) (fun y=>l.length-y.1.1) (⟨(0,1),Nat.zero_le _,by decide,by decide,rfl⟩:{y:Nat×Int//y.1≤l.length∧1≤y.2∧y.2≤1048576∧Rv (l.drop y.1) d y.2=Rv l d 1}) ?_ ?_ ?_
 · (simp only [go_sem,leX,List.cons_append,List.nil_append];try simp)
 · (simp only [go_sem,leX,List.cons_append,List.nil_append];try simp)
 intro yy zN zM zhN zhM
 simp only [List.cons_append,List.nil_append]
 obtain ⟨⟨j,n⟩,h1,h2,h3,h4⟩:=yy
 rcases Nat.lt_or_ge j l.length with hlt|hge
 rcases Int.lt_or_le 1048576 (n+Dq (l.getD j (.mk 0 0 0 [])) (d+1)) with hbig|hbig
 · simp only at h1 h2 h3 h4
   obtain ⟨k2,i2,o2,m2,he,hm,hdr,hg⟩:=Cy hlt
   have hc:=ih _ hm (d+1) (by omega) (by omega)
   rw [Ak] at hc
   have hcq:((j:Nat):Int)<((l.length:Nat):Int):=by omega
   have hj:(0:Int)≤((j:Nat):Int):=by omega
   have hjl:j<(Ay l).length:=by rw [Az];exact hlt
   have hb:=d0w (.mk k2 i2 o2 m2) (d+1) 40 (by omega)
   have hb2:bnd 40=42991616:=by decide
   have hp:=Wq (.mk k2 i2 o2 m2) (d+1)
   obtain ⟨w,hw⟩: ∃ w,Dq (.mk k2 i2 o2 m2) (d+1)=w:=⟨_,rfl⟩
   rw [hw] at hc hb hp
   rw [hdr,Rv,hw] at h4
   rw [he,hw] at hbig
   rw [if_pos hbig] at h4
   obtain ⟨hs1,hs2,hs3⟩:Go.RowKit.wrap64 (((j:Nat):Int)+1)=((j+1:Nat):Int)∧Go.RowKit.wrap64 (d+1)=d+1∧Go.RowKit.wrap64 (n+w)=n+w:=⟨k0l (by omega) (by omega),w64 (by omega),w64 (by omega)⟩
   have FZ:=And.intro hcq<|And.intro hj<|And.intro hjl<|And.intro hg<|And.intro hbig<|And.intro hs1<|And.intro hs2<|hs3
   iterate 25 first
    |(refine Dw fun zK zhK=>?_;simp only [go_sem,h,Az,FZ];(repeat' (first|apply And.intro|intro _)))
    |refine zhK _ ?_
    |(refine zhM _ _ ?_;clear zhN zhM)
    |(refine zbr _ ?_;clear zbn zbx zbr zbi)
    |refine Bv ?_
    |(refine zhN _ ?_;clear zhN zhM)
    |refine Bw fun zB zbn zbx zbr zbi=>?_
    |refine Cq ?_
    |(refine zhZ _ _ ?_;simp only [go_sem,h,Az,FZ];(all_goals (rw [hr,←h4])))
    |((all_goals (refine Cz (fun k=>k) (fun _ _=>rfl) ?_ (hc.plain fun _ _ h=>h) ?_;focus (first|rfl|(simp only [go_sem,h,Az,FZ]<;>rfl))));(all_goals (rintro v m ⟨hR,hm⟩;subst hR;subst hm));(all_goals refine And.intro (by first|rfl|simp only [go_sem,h,Az,FZ]) (And.intro (by first|rfl|simp only [go_sem,h,Az,FZ]) ?_));(all_goals simp only [go_sem,h,Az,FZ]);(all_goals repeat' (first|apply And.intro|intro _)))
    |refine Bj fun zN zM zhN zhM=>?_
    |(refine Aj ?_ ?_;focus (first|rfl|(simp [go_sem,h,Az,FZ];done)))
 · simp only at h1 h2 h3 h4
   obtain ⟨k2,i2,o2,m2,he,hm,hdr,hg⟩:=Cy hlt
   have hc:=ih _ hm (d+1) (by omega) (by omega)
   rw [Ak] at hc
   have hcq:((j:Nat):Int)<((l.length:Nat):Int):=by omega
   have hj:(0:Int)≤((j:Nat):Int):=by omega
   have hjl:j<(Ay l).length:=by rw [Az];exact hlt
   have hb:=d0w (.mk k2 i2 o2 m2) (d+1) 40 (by omega)
   have hb2:bnd 40=42991616:=by decide
   have hp:=Wq (.mk k2 i2 o2 m2) (d+1)
   obtain ⟨w,hw⟩: ∃ w,Dq (.mk k2 i2 o2 m2) (d+1)=w:=⟨_,rfl⟩
   rw [hw] at hc hb hp
   rw [hdr,Rv,hw] at h4
   rw [he,hw] at hbig
   rw [if_neg (by omega)] at h4
   have hnb:¬1048576<n+w:=by omega
   obtain ⟨hs1,hs2,hs3⟩:Go.RowKit.wrap64 (((j:Nat):Int)+1)=((j+1:Nat):Int)∧Go.RowKit.wrap64 (d+1)=d+1∧Go.RowKit.wrap64 (n+w)=n+w:=⟨k0l (by omega) (by omega),w64 (by omega),w64 (by omega)⟩
   have FZ:=And.intro hcq<|And.intro hj<|And.intro hjl<|And.intro hg<|And.intro hnb<|And.intro hs1<|And.intro hs2<|hs3
   iterate 21 first
    |refine zhK _ ?_
    |(refine Dw fun zK zhK=>?_;simp only [go_sem,h,Az,FZ];(repeat' (first|apply And.intro|intro _)))
    |refine Bv ?_
    |(refine zhN _ ?_;clear zhN zhM)
    |refine Bw fun zB zbn zbx zbr zbi=>?_
    |(refine zbn _ ?_;clear zbn zbx zbr zbi)
    |(refine Aq fun zK zhK=>?_;simp only [go_sem,h,Az,FZ];(repeat' (first|apply And.intro|intro _)))
    |((all_goals (refine Cz (fun k=>k) (fun _ _=>rfl) ?_ (hc.plain fun _ _ h=>h) ?_;focus (first|rfl|(simp only [go_sem,h,Az,FZ]<;>rfl))));(all_goals (rintro v m ⟨hR,hm⟩;subst hR;subst hm));(all_goals refine And.intro (by first|rfl|simp only [go_sem,h,Az,FZ]) (And.intro (by first|rfl|simp only [go_sem,h,Az,FZ]) ?_));(all_goals simp only [go_sem,h,Az,FZ]);(all_goals repeat' (first|apply And.intro|intro _)))
    |refine Bj fun zN zM zhN zhM=>?_
    |(refine Aj ?_ ?_;focus (first|rfl|(simp [go_sem,h,Az,FZ];done)))
    |(refine Av ?_ ?_;focus (first|rfl|(simp [go_sem,h,Az,FZ];done)))
   refine zhN ⟨(j+1,n+w),hlt,by clear hs1 hs2 hs3 FZ;simp only;omega,by clear hs1 hs2 hs3 FZ;simp only;omega,h4⟩ _ ?_ ?_ ?_
   · (exact Nat.sub_lt_sub_left hlt (Nat.lt_succ_self j))
   · (simp only [go_sem,leX,List.cons_append,List.nil_append];try simp)
   · (simp only [go_sem,leX,List.cons_append,List.nil_append];try simp)
 · simp only at h1 h2 h3 h4
   obtain rfl:j=l.length:=by omega
   rw [List.drop_length,Rv] at h4
   have hcq:¬((l.length:Nat):Int)<((l.length:Nat):Int):=by omega
   iterate 13 first
    |(refine Dw fun zK zhK=>?_;simp only [go_sem,h,Az,hcq];(repeat' (first|apply And.intro|intro _)))
    |refine zhK _ ?_
    |(refine zhM _ _ ?_;clear zhN zhM)
    |refine Iw ?_
    |(refine zbx _ ?_;clear zbn zbx zbr zbi)
    |(refine zhN _ ?_;clear zhN zhM)
    |refine Cq ?_
    |(refine zhZ _ _ ?_;simp only [go_sem,h,Az,hcq];(all_goals (rw [hr,←h4])))
    |refine Bj fun zN zM zhN zhM=>?_
    |(refine Av ?_ ?_;focus (first|rfl|(simp [go_sem,h,Az,hcq];done)))
end Go.Sy
namespace Go.Sy
open Go.Proofs
attribute [local irreducible] Ey HT Bq Tk onC onE onO onG goV goA goS Wv Fx
theorem same_eq (k i o:Int) (l:List Aw) (k2 i2 o2:Int) (l2:List Aw):Tw (.mk k i o l) (.mk k2 i2 o2 l2)=(decide (k=k2)&&decide (i=i2)&&decide (o=o2)&&decide (l.length=l2.length)&&c0t l l2):=by rw [Tw]
theorem l0h (a b:Aw) (l l2:List Aw):c0t (a::l) (b::l2)=(Tw a b&&c0t l l2):=by rw [c0t]
theorem a1f (l:List Aw):c0t [] l=true:=by cases l<;>rw [c0t]
theorem q1q (k i o:Int) (l:List Aw) (k2 i2 o2:Int) (l2:List Aw) (hno:¬k=k2):
 Ct Try.prog 42 [Fy k i o l,Fy k2 i2 o2 l2] (fun v m=>v=.w (.one (.pl (.b (Tw (.mk k i o l) (.mk k2 i2 o2 l2)))))):=by
 have hr:Tw (.mk k i o l) (.mk k2 i2 o2 l2)=false:=by rw [same_eq];simp only [decide_eq_false hno,Bool.false_and,Bool.and_false]
 rw [hr]
 refine Ct.k Try.func42 rfl Try.ntmps42 (congrArg Array.toList Try.results42) (by simp) fun w0 ro=>?_
 refine Ck fun zZ zhZ=>?_
 iterate 11 first
  |(refine Dw fun zK zhK=>?_;simp only [go_sem,hno,Az];(repeat' (first|apply And.intro|intro _)))
  |refine zhK _ ?_
  |refine Cq ?_
  |(refine zhM _ _ ?_;clear zhN zhM)
  |(refine zhZ _ _ ?_;simp only [go_sem,hno,Az];(all_goals (rfl)))
  |refine Bj fun zN zM zhN zhM=>?_
  |(refine Aj ?_ ?_;focus (first|rfl|(simp [go_sem,hno,Az];done)))
theorem q1r (k i o:Int) (l:List Aw) (i2 o2:Int) (l2:List Aw) (hno:¬i=i2):
 Ct Try.prog 42 [Fy k i o l,Fy k i2 o2 l2] (fun v m=>v=.w (.one (.pl (.b (Tw (.mk k i o l) (.mk k i2 o2 l2)))))):=by
 have hr:Tw (.mk k i o l) (.mk k i2 o2 l2)=false:=by rw [same_eq];simp only [decide_eq_false hno,Bool.false_and,Bool.and_false]
 rw [hr]
 refine Ct.k Try.func42 rfl Try.ntmps42 (congrArg Array.toList Try.results42) (by simp) fun w0 ro=>?_
 refine Ck fun zZ zhZ=>?_
 iterate 11 first
  |(refine Dw fun zK zhK=>?_;simp only [go_sem,hno,Az];(repeat' (first|apply And.intro|intro _)))
  |refine zhK _ ?_
  |refine Cq ?_
  |(refine zhM _ _ ?_;clear zhN zhM)
  |(refine zhZ _ _ ?_;simp only [go_sem,hno,Az];(all_goals (rfl)))
  |refine Bj fun zN zM zhN zhM=>?_
  |(refine Aj ?_ ?_;focus (first|rfl|(simp [go_sem,hno,Az];done)))
theorem q1o (k i o:Int) (l:List Aw) (o2:Int) (l2:List Aw) (hno:¬o=o2):
 Ct Try.prog 42 [Fy k i o l,Fy k i o2 l2] (fun v m=>v=.w (.one (.pl (.b (Tw (.mk k i o l) (.mk k i o2 l2)))))):=by
 have hr:Tw (.mk k i o l) (.mk k i o2 l2)=false:=by rw [same_eq];simp only [decide_eq_false hno,Bool.false_and,Bool.and_false]
 rw [hr]
 refine Ct.k Try.func42 rfl Try.ntmps42 (congrArg Array.toList Try.results42) (by simp) fun w0 ro=>?_
 refine Ck fun zZ zhZ=>?_
 iterate 11 first
  |(refine Dw fun zK zhK=>?_;simp only [go_sem,hno,Az];(repeat' (first|apply And.intro|intro _)))
  |refine zhK _ ?_
  |refine Cq ?_
  |(refine zhM _ _ ?_;clear zhN zhM)
  |(refine zhZ _ _ ?_;simp only [go_sem,hno,Az];(all_goals (rfl)))
  |refine Bj fun zN zM zhN zhM=>?_
  |(refine Aj ?_ ?_;focus (first|rfl|(simp [go_sem,hno,Az];done)))
theorem q1p (k i o:Int) (l:List Aw) (l2:List Aw) (hno:¬((l.length:Nat):Int)=((l2.length:Nat):Int)):
 Ct Try.prog 42 [Fy k i o l,Fy k i o l2] (fun v m=>v=.w (.one (.pl (.b (Tw (.mk k i o l) (.mk k i o l2)))))):=by
 have hno2:¬l.length=l2.length:=fun e=>hno (by rw [e])
 have hr:Tw (.mk k i o l) (.mk k i o l2)=false:=by rw [same_eq];simp only [decide_eq_false hno2,Bool.false_and,Bool.and_false]
 rw [hr]
 refine Ct.k Try.func42 rfl Try.ntmps42 (congrArg Array.toList Try.results42) (by simp) fun w0 ro=>?_
 refine Ck fun zZ zhZ=>?_
 iterate 11 first
  |(refine Dw fun zK zhK=>?_;simp only [go_sem,hno,Az];(repeat' (first|apply And.intro|intro _)))
  |refine zhK _ ?_
  |refine Cq ?_
  |(refine zhM _ _ ?_;clear zhN zhM)
  |(refine zhZ _ _ ?_;simp only [go_sem,hno,Az];(all_goals (rfl)))
  |refine Bj fun zN zM zhN zhM=>?_
  |(refine Aj ?_ ?_;focus (first|rfl|(simp [go_sem,hno,Az];done)))
theorem l1v (k i o:Int) (l:List Aw) (l2:List Aw) (hl:l.length≤9223372036854775807) (he2:l2.length=l.length) (ih: ∀ a,a∈l→∀ b,b∈l2→Ct Try.prog 42 [Pv a,Pv b] (fun v m=>v=.w (.one (.pl (.b (Tw a b)))))):
 Ct Try.prog 42 [Fy k i o l,Fy k i o l2] (fun v m=>v=.w (.one (.pl (.b (Tw (.mk k i o l) (.mk k i o l2)))))):=by
 have hr:Tw (.mk k i o l) (.mk k i o l2)=c0t l l2:=by rw [same_eq];simp [he2]
 refine Ct.k Try.func42 rfl Try.ntmps42 (congrArg Array.toList Try.results42) (by simp) fun w0 ro=>?_
 refine Ck fun zZ zhZ=>?_
 iterate 12 first
  |(refine Dw fun zK zhK=>?_;simp only [go_sem,he2,Az];(repeat' (first|apply And.intro|intro _)))
  |refine zhK _ ?_
  |refine Bv ?_
  |(refine zhN _ ?_;clear zhN zhM)
  |refine Bw fun zB zbn zbx zbr zbi=>?_
  |refine Bj fun zN zM zhN zhM=>?_
  |(refine Av ?_ ?_;focus (first|rfl|(simp [go_sem,he2,Az];done)))
 refine Gw [0,1,6,7,8,9,10,11,12,13,14,15,16,17,18,19,20,21,22,23,24,25,26,27,28,29,30,31,32,33,34,35] ?_
 simp only [Gq,Iq,Gv,List.contains_cons,List.contains_nil,Nat.reduceBEq,beq_self_eq_true,Bool.or_false,Bool.or_true,Bool.true_or,Bool.false_or,Bool.false_eq_true,reduceIte]
 refine Iy (fun y=>[(37,.w (.one (.pl (.i ((y.1:Nat):Int)))))]) (fun _=>[]) (fun y=>l.length-y.1) (⟨0,Nat.zero_le _,rfl⟩:{y:Nat//y≤l.length∧c0t (l.drop y) (l2.drop y)=c0t l l2}) ?_ ?_ ?_
 · (simp only [go_sem,leX,List.cons_append,List.nil_append];try simp)
 · (simp only [go_sem,leX,List.cons_append,List.nil_append];try simp)
 intro yy zN zM zhN zhM
 simp only [List.cons_append,List.nil_append]
 obtain ⟨j,h1,h4⟩:=yy
 rcases Nat.lt_or_ge j l.length with hlt|hge
 rcases hsb:Tw (l.getD j (.mk 0 0 0 [])) (l2.getD j (.mk 0 0 0 [])) with _|_
 · obtain ⟨k2,i2,o2,m2,he,hm,hdr,hg⟩:=Cy hlt
   obtain ⟨k3,i3,o3,m3,he3,hm3,hdr3,hg3⟩:=Cy (l:=l2) (n:=j) (by omega)
   have hc:=ih _ hm _ hm3
   rw [Ak,Ak] at hc
   have hcq:((j:Nat):Int)<((l.length:Nat):Int):=by omega
   have hj:(0:Int)≤((j:Nat):Int):=by omega
   rw [hdr,hdr3,l0h] at h4
   rw [he,he3] at hsb
   rw [hsb] at hc h4
   rw [Bool.false_and] at h4
   have F7:=And.intro hcq<|And.intro hj<|And.intro hlt<|And.intro hg<|hg3
   iterate 23 first
    |(refine Dw fun zK zhK=>?_;simp only [go_sem,he2,Az,F7];(repeat' (first|apply And.intro|intro _)))
    |refine zhK _ ?_
    |(refine zhM _ _ ?_;clear zhN zhM)
    |(refine zbr _ ?_;clear zbn zbx zbr zbi)
    |refine Bv ?_
    |(refine zhN _ ?_;clear zhN zhM)
    |refine Bw fun zB zbn zbx zbr zbi=>?_
    |(refine a0m (id:=6) [40,41,42,43,44,45,46,47,48,49,50,51] [0,1,0,7,15,0,32,0,224,480,1023,2047] [] mixed (by kernel_rfl) (by simp only [go_sem]) fun zK zhK=>?_;simp only [go_sem,he2,Az,F7];(repeat' (first|apply And.intro|intro _)))
    |refine zhK _ _ trivial ?_
    |refine Cq ?_
    |(refine zhZ _ _ ?_;simp only [go_sem,he2,Az,F7];(all_goals (rw [hr,←h4])))
    |((all_goals (refine Cx (fun k=>k) _ [] (fun _ _=>rfl) ?_ (hc.plain fun _ _ h=>h) ?_ ?_;focus (first|rfl|(simp only [go_sem,he2,Az,F7]<;>rfl))));(all_goals try (refine And.intro ?_ (And.intro ?_ (And.intro ?_ ?_))<;>first|rfl|simp only [go_sem]));(all_goals simp only [go_sem,he2,Az,F7]);(all_goals repeat' (first|apply And.intro|intro _)))
    |refine Bj fun zN zM zhN zhM=>?_
    |(refine Aj ?_ ?_;focus (first|rfl|(simp [go_sem,he2,Az,F7];done)))
 · obtain ⟨k2,i2,o2,m2,he,hm,hdr,hg⟩:=Cy hlt
   obtain ⟨k3,i3,o3,m3,he3,hm3,hdr3,hg3⟩:=Cy (l:=l2) (n:=j) (by omega)
   have hc:=ih _ hm _ hm3
   rw [Ak,Ak] at hc
   have hcq:((j:Nat):Int)<((l.length:Nat):Int):=by omega
   have hj:(0:Int)≤((j:Nat):Int):=by omega
   rw [hdr,hdr3,l0h] at h4
   rw [he,he3] at hsb
   rw [hsb] at hc h4
   rw [Bool.true_and] at h4
   have hs1:Go.RowKit.wrap64 (((j:Nat):Int)+1)=((j+1:Nat):Int):=k0l (by omega) (by omega)
   have F14:=And.intro hcq<|And.intro hj<|And.intro hlt<|And.intro hg<|And.intro hg3<|hs1
   refine Dw fun zK zhK=>?_
   simp only [go_sem,he2,Az,F14]
   repeat' (first|apply And.intro|intro _)
   refine zhK _ ?_
   refine Bj fun zN zM zhN zhM=>?_
   (refine Aj ?_ ?_;focus (first|rfl|(simp [go_sem,he2,Az,F14];done)))
   refine Bv ?_
   refine zhN _ ?_;clear zhN zhM
   refine Bj fun zN zM zhN zhM=>?_
   refine Bw fun zB zbn zbx zbr zbi=>?_
   refine Dw fun zK zhK=>?_
   simp only [go_sem,he2,Az,F14]
   repeat' (first|apply And.intro|intro _)
   refine zhK _ ?_
   refine a0m (id:=6) [40,41,42,43,44,45,46,47,48,49,50,51] [0,1,0,7,15,0,32,0,224,480,1023,2047] [] mixed (by kernel_rfl) (by simp only [go_sem]) fun zK zhK=>?_
   simp only [go_sem,he2,Az,F14]
   repeat' (first|apply And.intro|intro _)
   all_goals (refine Cx (fun k=>k) _ [] (fun _ _=>rfl) ?_ (hc.plain fun _ _ h=>h) ?_ ?_;focus (first|rfl|(simp only [go_sem,he2,Az,F14]<;>rfl)))
   all_goals try (refine And.intro ?_ (And.intro ?_ (And.intro ?_ ?_))<;>first|rfl|simp only [go_sem])
   all_goals simp only [go_sem,he2,Az,F14]
   all_goals repeat' (first|apply And.intro|intro _)
   refine zhK _ _ trivial ?_
   (refine Av ?_ ?_;focus (first|rfl|(simp [go_sem,he2,Az,F14];done)))
   refine Bv ?_
   refine zbn _ ?_;clear zbn zbx zbr zbi
   refine zhN _ ?_;clear zhN zhM
   refine Aq fun zK zhK=>?_
   simp only [go_sem,he2,Az,F14]
   repeat' (first|apply And.intro|intro _)
   refine zhK _ ?_
   refine zhN ⟨j+1,hlt,h4⟩ _ ?_ ?_ ?_
   · (exact Nat.sub_lt_sub_left hlt (Nat.lt_succ_self j))
   · (simp only [go_sem,leX,List.cons_append,List.nil_append];try simp)
   · (simp only [go_sem,leX,List.cons_append,List.nil_append];try simp)
 · obtain rfl:j=l.length:=by omega
   rw [List.drop_length,a1f] at h4
   have hcq:¬((l.length:Nat):Int)<((l.length:Nat):Int):=by omega
   iterate 13 first
    |(refine Dw fun zK zhK=>?_;simp only [go_sem,he2,Az,hcq];(repeat' (first|apply And.intro|intro _)))
    |refine zhK _ ?_
    |(refine zhM _ _ ?_;clear zhN zhM)
    |refine Iw ?_
    |(refine zbx _ ?_;clear zbn zbx zbr zbi)
    |(refine zhN _ ?_;clear zhN zhM)
    |refine Cq ?_
    |(refine zhZ _ _ ?_;simp only [go_sem,he2,Az,hcq];(all_goals (rw [hr,←h4])))
    |refine Bj fun zN zM zhN zhM=>?_
    |(refine Av ?_ ?_;focus (first|rfl|(simp [go_sem,he2,Az,hcq];done)))
theorem l1w : ∀ (t u:Aw),t.ok→u.ok→Ct Try.prog 42 [Pv t,Pv u] (fun v m=>v=.w (.one (.pl (.b (Tw t u)))))
 | .mk k i o l,.mk k2 i2 o2 l2,ht,hu=>by
  rw [Aw.ok] at ht hu
  rw [Ak,Ak]
  by_cases hk:k=k2
  · subst hk
    by_cases hi:i=i2
    · subst hi
      by_cases ho:o=o2
      · subst ho
        by_cases hl:((l.length:Nat):Int)=((l2.length:Nat):Int)
        · exact l1v k i o l l2 ht.2.2.2.1 (by omega) fun a ha b hb=>l1w a b (Dz ht.2.2.2.2 a ha) (Dz hu.2.2.2.2 b hb)
        · exact q1p k i o l l2 hl
      · exact q1o k i o l o2 l2 ho
    · exact q1r k i o l i2 o2 l2 hi
  · exact q1q k i o l k2 i2 o2 l2 hk
termination_by t=>SizeOf.sizeOf t
decreasing_by
 have:=List.sizeOf_lt_of_mem ha
 simp only [Aw.mk.sizeOf_spec]
 omega
end Go.Sy
