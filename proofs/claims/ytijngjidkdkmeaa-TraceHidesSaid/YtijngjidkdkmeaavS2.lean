/- Walks and what they compute. CONDITIONS: those that each theorem names. -/
import Derived.Test.YtijngjidkdkmeaavE4
import Derived.Test.YtijngjidkdkmeaavE3
import Derived.Test.YtijngjidkdkmeaavS1
set_option linter.unusedVariables false
set_option linter.unusedSimpArgs false
set_option maxHeartbeats 1600000
set_option maxRecDepth 100000
namespace Go.Sy
inductive Aw where
 |mk (kind id other:Int) (args:List Aw)
def Aw.kind :Aw→Int| .mk k _ _ _=>k
def Aw.id :Aw→Int| .mk _ i _ _=>i
def Aw.other :Aw→Int| .mk _ _ o _=>o
def Aw.args :Aw→List Aw| .mk _ _ _ l=>l
mutual
def Aw.cells :Aw→List PL
 | .mk k i o l=>[.i k,.i i,.i o,.R false 4 (Ay l)]
def Ay :List Aw→List (List PL)
 | []=>[]
 |a::l=>a.cells::Ay l
end
theorem Xx : ∀ l:List Aw,Ay l=l.map Aw.cells
 | []=>by rw [Ay];rfl
 |a::l=>by rw [Ay,Xx l];rfl
theorem Az (l:List Aw):(Ay l).length=l.length:=by rw [Xx,vG]
def c0v (k:Int):Prop:= -9223372036854775808≤k∧k≤9223372036854775807
mutual
def Aw.ok :Aw→Prop
 | .mk k i o l=>c0v k∧c0v i∧c0v o∧l.length≤9223372036854775807∧Dq l
def Dq :List Aw→Prop
 | []=>True
 |a::l=>a.ok∧Dq l
end
theorem Dw : ∀ {l:List Aw},Dq l→∀ a∈l,a.ok
 | [],_,a,h=>by cases h
 |b::l,hk,a,h=>by
   rw [Dq] at hk
   rcases yT.mp h with rfl|h
   ·exact hk.1
   exact Dw hk.2 a h
mutual
def Kz :Aw→Int→Int
 | .mk _ _ _ l,deep=>if 40<deep then 301 else c0y l deep 1
def c0y :List Aw→Int→Int→Int
 | [],_,n=>n
 |a::l,deep,n=>if 300<n then n else c0y l deep (n+Kz a (deep+1))
end
mutual
def Ej :Aw→Int→Int
 | .mk _ _ _ l,deep=>if 40<deep then 1048576 else a0i l deep 1
def a0i :List Aw→Int→Int→Int
 | [],_,n=>n
 |a::l,deep,n=>if 1048576<n+Ej a (deep+1) then n+Ej a (deep+1) else a0i l deep (n+Ej a (deep+1))
end
mutual
theorem Yq : ∀ (t:Aw) (d:Int),1≤Kz t d
 | .mk _ _ _ l,d=>by
   rw [Kz];split
   ·omega
   exact j0q l d 1
theorem j0q : ∀ (l:List Aw) (d n:Int),n≤c0y l d n
 | [],d,n=>by rw [c0y];omega
 |a::l,d,n=>by
   rw [c0y];split
   ·omega
   have:=Yq a (d+1)
   have:=j0q l d (n+Kz a (d+1))
   omega
end
mutual
theorem d0g : ∀ (t:Aw) (d:Int),1≤Ej t d
 | .mk _ _ _ l,d=>by
   rw [Ej];split
   ·omega
   exact p0a l d 1
theorem p0a : ∀ (l:List Aw) (d n:Int),n≤a0i l d n
 | [],d,n=>by rw [a0i];omega
 |a::l,d,n=>by
   have:=d0g a (d+1)
   rw [a0i];split
   ·omega
   have:=p0a l d (n+Ej a (d+1))
   omega
end
def upS (x y:Int):Prop:=(x≤300∧y=x)∨(300<x∧300<y)
mutual
theorem l0o : ∀ (t:Aw) (d:Int),upS (Kz t d) (Ej t d)
 | .mk _ _ _ l,d=>by
   rw [Kz,Ej];split
   ·exact .inr ⟨by omega,by omega⟩
   exact p0q l d 1 1 (by omega) (by omega) (.inl ⟨by omega,rfl⟩)
theorem p0q : ∀ (l:List Aw) (d n m:Int),1≤n→1≤m→upS n m→upS (c0y l d n) (a0i l d m)
 | [],d,n,m,_,_,h=>by rw [c0y,a0i];exact h
 |a::l,d,n,m,hn1,hm1,h=>by
   have h1:=l0o a (d+1)
   have h2:=d0g a (d+1)
   have h3:=Yq a (d+1)
   rw [c0y,a0i]
   rcases h with ⟨hn,rfl⟩|⟨hn,hm⟩
   ·rw [if_neg (by omega)]
    split
    ·rename_i hb
     refine .inr ⟨?_,by omega⟩
     have:=j0q l d (m+Kz a (d+1))
     rcases h1 with ⟨g1,g2⟩|⟨g1,g2⟩<;>omega
    refine p0q l d _ _ (by omega) (by omega) ?_
    rcases h1 with ⟨g1,g2⟩|⟨g1,g2⟩
    ·rw [g2]
     by_cases hx:m+Kz a (d+1)≤300
     ·exact .inl ⟨hx,rfl⟩
     exact .inr ⟨by omega,by omega⟩
    exact .inr ⟨by omega,by omega⟩
   rw [if_pos hn]
   refine .inr ⟨hn,?_⟩
   split
   ·omega
   have:=p0a l d (m+Ej a (d+1));omega
end
def sbd :Nat→Int
 |0=>301
 |k+1=>300+sbd k
theorem m1i : ∀ k,301≤sbd k
 |0=>by rw [sbd];omega
 |k+1=>by have:=m1i k;rw [sbd];omega
theorem u0s (k:Nat):sbd (k+1)=300+sbd k:=by rw [sbd]
mutual
theorem n0o : ∀ (t:Aw) (d:Int) (k:Nat),41≤d+k→Kz t d≤sbd k
 | .mk _ _ _ l,d,k,h=>by
   have hg:=m1i k
   have hl:=e1t l d 1
   rw [Kz]
   by_cases h40:40<d
   ·rw [if_pos h40];exact hg
   rw [if_neg h40]
   obtain ⟨j,rfl⟩: ∃ j,k=j+1:=⟨k-1,by omega⟩
   have:=m1i j
   exact hl j (by omega) (by omega)
theorem e1t : ∀ (l:List Aw) (d n:Int) (k:Nat),41≤d+1+k→n≤sbd (k+1)→c0y l d n≤sbd (k+1)
 | [],d,n,k,h,hn=>by simp only [c0y];exact hn
 |a::l,d,n,k,h,hn=>by
   have h1:=n0o a (d+1) k (by omega)
   have h2:=u0s k
   have hl:=fun n hn=>e1t l d n k h hn
   rw [c0y]
   by_cases hx:300<n
   ·rw [if_pos hx];exact hn
   rw [if_neg hx];exact hl _ (by omega)
end
def bnd :Nat→Int
 |0=>1048576
 |k+1=>1048576+bnd k
theorem r1d : ∀ k,1048576≤bnd k
 |0=>by rw [bnd];omega
 |k+1=>by have:=r1d k;rw [bnd];omega
theorem b2j (k:Nat):bnd (k+1)=1048576+bnd k:=by rw [bnd]
mutual
theorem j0j : ∀ (t:Aw) (d:Int) (k:Nat),41≤d+k→Ej t d≤bnd k
 | .mk _ _ _ l,d,k,h=>by
   have hg:=r1d k
   have hl:=w0r l d 1
   rw [Ej]
   by_cases h40:40<d
   ·rw [if_pos h40];exact hg
   rw [if_neg h40]
   obtain ⟨j,rfl⟩: ∃ j,k=j+1:=⟨k-1,by omega⟩
   exact hl j (by omega) (by omega)
theorem w0r : ∀ (l:List Aw) (d n:Int) (k:Nat),41≤d+1+k→n≤1048576→a0i l d n≤bnd (k+1)
 | [],d,n,k,h,hn=>by
   have:=r1d (k+1)
   rw [a0i];omega
 |a::l,d,n,k,h,hn=>by
   have h1:=j0j a (d+1) k (by omega)
   have h2:=b2j k
   have hl:=fun n hn=>w0r l d n k h hn
   rw [a0i]
   by_cases hx:1048576<n+Ej a (d+1)
   ·rw [if_pos hx];omega
   rw [if_neg hx];exact hl _ (by omega)
end
def h0x (k:Int):Int:=if k=4 then 2 else if k=5 then 1 else if k=6 then 2 else if k=7 then 3 else 0
def okT (k i o n:Int):Bool:=decide (n=h0x k)&&decide (0≤i)&&decide (0≤o)&&(if k=3 then decide (i≤o) else if k=1∨k=2∨k=6 then decide (o=0) else decide (i=0∧o=0))
mutual
def Bq :Aw→Int
 | .mk k i o l=>if k<1∨7<k then 2 else if okT k i o l.length=true then Cq l else 3
def Cq :List Aw→Int
 | []=>0
 |a::l=>if Bq a=0 then Cq l else Bq a
end
mutual
def b0b :Aw→Aw→Bool
 | .mk k i o l,.mk k2 i2 o2 l2=>decide (k=k2)&&decide (i=i2)&&decide (o=o2)&&decide (l.length=l2.length)&&h0t l l2
def h0t :List Aw→List Aw→Bool
 | [],_=>true
 |_::_,[]=>true
 |a::l,b::l2=>b0b a b&&h0t l l2
end
end Go.Sy
namespace Go.Sy
open Go.Proofs
attribute [local irreducible] Cj HT Bv Rj onC onE onO onG goV goA goS Tj Ck
theorem s0e {a:Int} {n:Nat} (h:a=(n:Int)) (hn:n≤9223372036854775807):Go.RowKit.wrap64 a=(n:Int):=by subst h;exact w64 (by omega)
abbrev Yy (t:Aw):V:=.w (.agg (pls t.cells))
abbrev Jy (k i o:Int) (l:List Aw):V:=.w (.agg [.pl (.i k),.pl (.i i),.pl (.i o),.pl (.R false 4 (Ay l))])
theorem Bw (k i o:Int) (l:List Aw):Yy (.mk k i o l)=Jy k i o l:=by rw [Yy,Aw.cells];rfl
theorem Cy {l:List Aw} {n:Nat} (h:n<l.length): ∃ k i o m,l.getD n (.mk 0 0 0 [])=.mk k i o m∧.mk k i o m∈l∧l.drop n=.mk k i o m::l.drop (n+1)∧(Ay l).getD n []=[.i k,.i i,.i o,.R false 4 (Ay m)]:=by
 obtain ⟨k,i,o,m,he⟩: ∃ k i o m,l[n]=Aw.mk k i o m:=⟨_,_,_,_,(by cases l[n] with|mk k i o m=>rfl:l[n]=.mk l[n].kind l[n].id l[n].other l[n].args)⟩
 refine ⟨k,i,o,m,?_,?_,?_,?_⟩
 ·rw [←he];simp [List.getD,yX h]
 ·rw [←he];exact List.getElem_mem h
 ·rw [←he];exact vL h
 rw [Xx,List.getD,vD,yX h,he];simp [Aw.cells]
theorem k1w (k i o:Int) (l:List Aw) (hl:l.length≤9223372036854775807) (d:Int) (hd:1≤d∧d≤41) (h:40<d):
 Ct Try.prog 27 [Jy k i o l,.w (.one (.pl (.i d)))] (fun v m=>v=.w (.one (.pl (.i (Kz (.mk k i o l) d))))):=by
 have hr:Kz (.mk k i o l) d=301:=by rw [Kz,if_pos h]
 rw [hr]
 have F0:=h
 exact Ct.go Try.func27 rfl Try.ntmps27 Try.results27
theorem k1v (k i o:Int) (l:List Aw) (hl:l.length≤9223372036854775807) (d:Int) (hd:1≤d∧d≤41) (h:¬40<d) (ih: ∀ a,a∈l→∀ e,1≤e→e≤41→Ct Try.prog 27 [Yy a,.w (.one (.pl (.i e)))] (fun v m=>v=.w (.one (.pl (.i (Kz a e)))))):
 Ct Try.prog 27 [Jy k i o l,.w (.one (.pl (.i d)))] (fun v m=>v=.w (.one (.pl (.i (Kz (.mk k i o l) d))))):=by
 have hr:Kz (.mk k i o l) d=c0y l d 1:=by rw [Kz,if_neg h]
 refine Ct.k Try.func27 rfl Try.ntmps27 (congrArg Array.toList Try.results27) (by simp) fun w0 ro=>?_
 refine a1v fun zZ zhZ=>?_
 iterate 14 first
  |(refine l0n fun zK zhK=>?_;simp only [go_sem,h,Az];(repeat' (first|apply yA|intro _)))
  |refine zhK _ ?_
  |refine Yv ?_
  |(refine zhN _ ?_;clear zhN zhM)
  |refine Rq fun zB zbn zbx zbr zbi=>?_
  |refine a0m fun zN zM zhN zhM=>?_
  |(refine Rv ?_ ?_;focus (first|rfl|(simp [go_sem,h,Az];done)))
 refine Kj [0,2,8,9,10] ?_
 simp only [Lx,Oq,Kk,xA,xG,Nat.reduceBEq,beq_self_eq_true,xM,xP,xO,xD,yQ,reduceIte]
 refine b0s (fun y=>[(5,.w (.one (.pl (.i y.1.2)))),(13,.w (.one (.pl (.i ((y.1.1:Nat):Int)))))]) (fun _=>[]) (fun y=>l.length-y.1.1) (⟨(0,1),yP _,by decide,by decide,rfl⟩:{y:Nat×Int//y.1≤l.length∧1≤y.2∧y.2≤sbd 41∧c0y (l.drop y.1) d y.2=c0y l d 1}) ?_ ?_ ?_
 ·(simp only [go_sem,leX,yC,yD];try simp)
 ·(simp only [go_sem,leX,yC,yD];try simp)
 intro yy zN zM zhN zhM
 simp only [yC,yD]
 obtain ⟨⟨j,n⟩,h1,h2,h3,h4⟩:=yy
 rcases yZ j l.length with hlt|hge
 rcases Int.lt_or_le 300 n with hbig|hbig
 ·simp only at h1 h2 h3 h4
  obtain ⟨k2,i2,o2,m2,he,hm,hdr,hg⟩:=Cy hlt
  have hc:=ih _ hm (d+1) (by omega) (by omega)
  rw [Bw] at hc
  have hcq:((j:Nat):Int)<((l.length:Nat):Int):=by omega
  have hj:(0:Int)≤((j:Nat):Int):=by omega
  have hjl:j<(Ay l).length:=by rw [Az];exact hlt
  have hb:=n0o (.mk k2 i2 o2 m2) (d+1) 40 (by omega)
  have hb1:sbd 41=300+sbd 40:=u0s 40
  have hb2:sbd 41=12601:=by decide
  have hp:=Yq (.mk k2 i2 o2 m2) (d+1)
  obtain ⟨w,hw⟩: ∃ w,Kz (.mk k2 i2 o2 m2) (d+1)=w:=⟨_,rfl⟩
  rw [hw] at hc hb hp
  rw [hdr,c0y,hw] at h4
  rw [if_pos hbig] at h4
  have F8:=yA hcq<|yA hj<|yA hjl<|yA hg<|hbig
  iterate 25 first
   |(refine l0n fun zK zhK=>?_;simp only [go_sem,h,Az,F8];(repeat' (first|apply yA|intro _)))
   |refine zhK _ ?_
   |(refine zhM _ _ ?_;clear zhN zhM)
   |(refine zhN _ ?_;clear zhN zhM)
   |refine Yv ?_
   |refine Rq fun zB zbn zbx zbr zbi=>?_
   |refine f0b ?_
   |(refine zbi _ _ (by decide) ?_;clear zbn zbx zbr zbi)
   |(refine zbx _ ?_;clear zbn zbx zbr zbi)
   |refine b1i ?_
   |(refine zhZ _ _ ?_;simp only [go_sem,h,Az,F8];(all_goals (rw [hr,←h4])))
   |refine a0m fun zN zM zhN zhM=>?_
   |(refine Xz ?_ ?_;focus (first|rfl|(simp [go_sem,h,Az,F8];done)))
 ·simp only at h1 h2 h3 h4
  obtain ⟨k2,i2,o2,m2,he,hm,hdr,hg⟩:=Cy hlt
  have hc:=ih _ hm (d+1) (by omega) (by omega)
  rw [Bw] at hc
  have hcq:((j:Nat):Int)<((l.length:Nat):Int):=by omega
  have hj:(0:Int)≤((j:Nat):Int):=by omega
  have hjl:j<(Ay l).length:=by rw [Az];exact hlt
  have hb:=n0o (.mk k2 i2 o2 m2) (d+1) 40 (by omega)
  have hb1:sbd 41=300+sbd 40:=u0s 40
  have hb2:sbd 41=12601:=by decide
  have hp:=Yq (.mk k2 i2 o2 m2) (d+1)
  obtain ⟨w,hw⟩: ∃ w,Kz (.mk k2 i2 o2 m2) (d+1)=w:=⟨_,rfl⟩
  rw [hw] at hc hb hp
  rw [hdr,c0y,hw] at h4
  rw [if_neg (by omega)] at h4
  have hnb:¬300<n:=by omega
  obtain ⟨hs1,hs2,hs3⟩:Go.RowKit.wrap64 (((j:Nat):Int)+1)=((j+1:Nat):Int)∧Go.RowKit.wrap64 (d+1)=d+1∧Go.RowKit.wrap64 (n+w)=n+w:=⟨s0e (by omega) (by omega),w64 (by omega),w64 (by omega)⟩
  have FZ:=yA hcq<|yA hj<|yA hjl<|yA hg<|yA hnb<|yA hs1<|yA hs2<|hs3
  iterate 23 first
   |refine zhK _ ?_
   |(refine l0n fun zK zhK=>?_;simp only [go_sem,h,Az,FZ];(repeat' (first|apply yA|intro _)))
   |(refine zhN _ ?_;clear zhN zhM)
   |refine Yv ?_
   |(refine Jv fun zK zhK=>?_;simp only [go_sem,h,Az,FZ];(repeat' (first|apply yA|intro _)))
   |refine Rq fun zB zbn zbx zbr zbi=>?_
   |(refine zbn _ ?_;clear zbn zbx zbr zbi)
   |((all_goals (refine Wx (fun k=>k) (fun _ _=>rfl) ?_ (hc.plain fun _ _ h=>h) ?_;focus (first|rfl|(simp only [go_sem,h,Az,FZ]<;>rfl))));(all_goals (rintro v m ⟨hR,hm⟩;subst hR;subst hm));(all_goals refine yA (by first|rfl|simp only [go_sem,h,Az,FZ]) (yA (by first|rfl|simp only [go_sem,h,Az,FZ]) ?_));(all_goals simp only [go_sem,h,Az,FZ]);(all_goals repeat' (first|apply yA|intro _)))
   |refine a0m fun zN zM zhN zhM=>?_
   |(refine Xz ?_ ?_;focus (first|rfl|(simp [go_sem,h,Az,FZ];done)))
   |(refine Rv ?_ ?_;focus (first|rfl|(simp [go_sem,h,Az,FZ];done)))
  refine zhN ⟨(j+1,n+w),hlt,by clear hs1 hs2 hs3 FZ;simp only;omega,by clear hs1 hs2 hs3 FZ;simp only;omega,h4⟩ _ ?_ ?_ ?_
  ·(exact yB hlt (yE j))
  ·(simp only [go_sem,leX,yC,yD];try simp)
  (simp only [go_sem,leX,yC,yD];try simp)
 simp only at h1 h2 h3 h4
 obtain rfl:j=l.length:=by omega
 rw [yG,c0y] at h4
 have hcq:¬((l.length:Nat):Int)<((l.length:Nat):Int):=by omega
 iterate 13 first
  |(refine l0n fun zK zhK=>?_;simp only [go_sem,h,Az,hcq];(repeat' (first|apply yA|intro _)))
  |refine zhK _ ?_
  |(refine zhM _ _ ?_;clear zhN zhM)
  |refine f0b ?_
  |(refine zbx _ ?_;clear zbn zbx zbr zbi)
  |(refine zhN _ ?_;clear zhN zhM)
  |refine b1i ?_
  |(refine zhZ _ _ ?_;simp only [go_sem,h,Az,hcq];(all_goals (rw [hr,←h4])))
  |refine a0m fun zN zM zhN zhM=>?_
  |(refine Rv ?_ ?_;focus (first|rfl|(simp [go_sem,h,Az,hcq];done)))
theorem h1f (k i o:Int) (l:List Aw) (hl:l.length≤9223372036854775807) (d:Int) (hd:1≤d∧d≤41) (h:40<d):
 Ct Try.prog 13 [Jy k i o l,.w (.one (.pl (.i d)))] (fun v m=>v=.w (.one (.pl (.i (Ej (.mk k i o l) d))))):=by
 have hr:Ej (.mk k i o l) d=1048576:=by rw [Ej,if_pos h]
 rw [hr]
 have F0:=h
 exact Ct.go Try.func13 rfl Try.ntmps13 Try.results13
theorem h1e (k i o:Int) (l:List Aw) (hl:l.length≤9223372036854775807) (d:Int) (hd:1≤d∧d≤41) (h:¬40<d) (ih: ∀ a,a∈l→∀ e,1≤e→e≤41→Ct Try.prog 13 [Yy a,.w (.one (.pl (.i e)))] (fun v m=>v=.w (.one (.pl (.i (Ej a e)))))):
 Ct Try.prog 13 [Jy k i o l,.w (.one (.pl (.i d)))] (fun v m=>v=.w (.one (.pl (.i (Ej (.mk k i o l) d))))):=by
 have hr:Ej (.mk k i o l) d=a0i l d 1:=by rw [Ej,if_neg h]
 refine Ct.k Try.func13 rfl Try.ntmps13 (congrArg Array.toList Try.results13) (by simp) fun w0 ro=>?_
 refine a1v fun zZ zhZ=>?_
 iterate 14 first
  |(refine l0n fun zK zhK=>?_;simp only [go_sem,h,Az];(repeat' (first|apply yA|intro _)))
  |refine zhK _ ?_
  |refine Yv ?_
  |(refine zhN _ ?_;clear zhN zhM)
  |refine Rq fun zB zbn zbx zbr zbi=>?_
  |refine a0m fun zN zM zhN zhM=>?_
  |(refine Rv ?_ ?_;focus (first|rfl|(simp [go_sem,h,Az];done)))
 refine Kj [0,2,8,9,10] ?_
 simp only [Lx,Oq,Kk,xA,xG,Nat.reduceBEq,beq_self_eq_true,xM,xP,xO,xD,yQ,reduceIte]
 refine b0s (fun y=>[(5,.w (.one (.pl (.i y.1.2)))),(13,.w (.one (.pl (.i ((y.1.1:Nat):Int)))))]) (fun _=>[]) (fun y=>l.length-y.1.1) (⟨(0,1),yP _,by decide,by decide,rfl⟩:{y:Nat×Int//y.1≤l.length∧1≤y.2∧y.2≤1048576∧a0i (l.drop y.1) d y.2=a0i l d 1}) ?_ ?_ ?_
 ·(simp only [go_sem,leX,yC,yD];try simp)
 ·(simp only [go_sem,leX,yC,yD];try simp)
 intro yy zN zM zhN zhM
 simp only [yC,yD]
 obtain ⟨⟨j,n⟩,h1,h2,h3,h4⟩:=yy
 rcases yZ j l.length with hlt|hge
 rcases Int.lt_or_le 1048576 (n+Ej (l.getD j (.mk 0 0 0 [])) (d+1)) with hbig|hbig
 ·simp only at h1 h2 h3 h4
  obtain ⟨k2,i2,o2,m2,he,hm,hdr,hg⟩:=Cy hlt
  have hc:=ih _ hm (d+1) (by omega) (by omega)
  rw [Bw] at hc
  have hcq:((j:Nat):Int)<((l.length:Nat):Int):=by omega
  have hj:(0:Int)≤((j:Nat):Int):=by omega
  have hjl:j<(Ay l).length:=by rw [Az];exact hlt
  have hb:=j0j (.mk k2 i2 o2 m2) (d+1) 40 (by omega)
  have hb2:bnd 40=42991616:=by decide
  have hp:=d0g (.mk k2 i2 o2 m2) (d+1)
  obtain ⟨w,hw⟩: ∃ w,Ej (.mk k2 i2 o2 m2) (d+1)=w:=⟨_,rfl⟩
  rw [hw] at hc hb hp
  rw [hdr,a0i,hw] at h4
  rw [he,hw] at hbig
  rw [if_pos hbig] at h4
  obtain ⟨hs1,hs2,hs3⟩:Go.RowKit.wrap64 (((j:Nat):Int)+1)=((j+1:Nat):Int)∧Go.RowKit.wrap64 (d+1)=d+1∧Go.RowKit.wrap64 (n+w)=n+w:=⟨s0e (by omega) (by omega),w64 (by omega),w64 (by omega)⟩
  have FZ:=yA hcq<|yA hj<|yA hjl<|yA hg<|yA hbig<|yA hs1<|yA hs2<|hs3
  iterate 25 first
   |(refine l0n fun zK zhK=>?_;simp only [go_sem,h,Az,FZ];(repeat' (first|apply yA|intro _)))
   |refine zhK _ ?_
   |(refine zhM _ _ ?_;clear zhN zhM)
   |(refine zbr _ ?_;clear zbn zbx zbr zbi)
   |refine Yv ?_
   |(refine zhN _ ?_;clear zhN zhM)
   |refine Rq fun zB zbn zbx zbr zbi=>?_
   |refine b1i ?_
   |(refine zhZ _ _ ?_;simp only [go_sem,h,Az,FZ];(all_goals (rw [hr,←h4])))
   |((all_goals (refine Wx (fun k=>k) (fun _ _=>rfl) ?_ (hc.plain fun _ _ h=>h) ?_;focus (first|rfl|(simp only [go_sem,h,Az,FZ]<;>rfl))));(all_goals (rintro v m ⟨hR,hm⟩;subst hR;subst hm));(all_goals refine yA (by first|rfl|simp only [go_sem,h,Az,FZ]) (yA (by first|rfl|simp only [go_sem,h,Az,FZ]) ?_));(all_goals simp only [go_sem,h,Az,FZ]);(all_goals repeat' (first|apply yA|intro _)))
   |refine a0m fun zN zM zhN zhM=>?_
   |(refine Xz ?_ ?_;focus (first|rfl|(simp [go_sem,h,Az,FZ];done)))
 ·simp only at h1 h2 h3 h4
  obtain ⟨k2,i2,o2,m2,he,hm,hdr,hg⟩:=Cy hlt
  have hc:=ih _ hm (d+1) (by omega) (by omega)
  rw [Bw] at hc
  have hcq:((j:Nat):Int)<((l.length:Nat):Int):=by omega
  have hj:(0:Int)≤((j:Nat):Int):=by omega
  have hjl:j<(Ay l).length:=by rw [Az];exact hlt
  have hb:=j0j (.mk k2 i2 o2 m2) (d+1) 40 (by omega)
  have hb2:bnd 40=42991616:=by decide
  have hp:=d0g (.mk k2 i2 o2 m2) (d+1)
  obtain ⟨w,hw⟩: ∃ w,Ej (.mk k2 i2 o2 m2) (d+1)=w:=⟨_,rfl⟩
  rw [hw] at hc hb hp
  rw [hdr,a0i,hw] at h4
  rw [he,hw] at hbig
  rw [if_neg (by omega)] at h4
  have hnb:¬1048576<n+w:=by omega
  obtain ⟨hs1,hs2,hs3⟩:Go.RowKit.wrap64 (((j:Nat):Int)+1)=((j+1:Nat):Int)∧Go.RowKit.wrap64 (d+1)=d+1∧Go.RowKit.wrap64 (n+w)=n+w:=⟨s0e (by omega) (by omega),w64 (by omega),w64 (by omega)⟩
  have FZ:=yA hcq<|yA hj<|yA hjl<|yA hg<|yA hnb<|yA hs1<|yA hs2<|hs3
  iterate 21 first
   |refine zhK _ ?_
   |(refine l0n fun zK zhK=>?_;simp only [go_sem,h,Az,FZ];(repeat' (first|apply yA|intro _)))
   |refine Yv ?_
   |(refine zhN _ ?_;clear zhN zhM)
   |refine Rq fun zB zbn zbx zbr zbi=>?_
   |(refine zbn _ ?_;clear zbn zbx zbr zbi)
   |(refine Jv fun zK zhK=>?_;simp only [go_sem,h,Az,FZ];(repeat' (first|apply yA|intro _)))
   |((all_goals (refine Wx (fun k=>k) (fun _ _=>rfl) ?_ (hc.plain fun _ _ h=>h) ?_;focus (first|rfl|(simp only [go_sem,h,Az,FZ]<;>rfl))));(all_goals (rintro v m ⟨hR,hm⟩;subst hR;subst hm));(all_goals refine yA (by first|rfl|simp only [go_sem,h,Az,FZ]) (yA (by first|rfl|simp only [go_sem,h,Az,FZ]) ?_));(all_goals simp only [go_sem,h,Az,FZ]);(all_goals repeat' (first|apply yA|intro _)))
   |refine a0m fun zN zM zhN zhM=>?_
   |(refine Xz ?_ ?_;focus (first|rfl|(simp [go_sem,h,Az,FZ];done)))
   |(refine Rv ?_ ?_;focus (first|rfl|(simp [go_sem,h,Az,FZ];done)))
  refine zhN ⟨(j+1,n+w),hlt,by clear hs1 hs2 hs3 FZ;simp only;omega,by clear hs1 hs2 hs3 FZ;simp only;omega,h4⟩ _ ?_ ?_ ?_
  ·(exact yB hlt (yE j))
  ·(simp only [go_sem,leX,yC,yD];try simp)
  (simp only [go_sem,leX,yC,yD];try simp)
 simp only at h1 h2 h3 h4
 obtain rfl:j=l.length:=by omega
 rw [yG,a0i] at h4
 have hcq:¬((l.length:Nat):Int)<((l.length:Nat):Int):=by omega
 iterate 13 first
  |(refine l0n fun zK zhK=>?_;simp only [go_sem,h,Az,hcq];(repeat' (first|apply yA|intro _)))
  |refine zhK _ ?_
  |(refine zhM _ _ ?_;clear zhN zhM)
  |refine f0b ?_
  |(refine zbx _ ?_;clear zbn zbx zbr zbi)
  |(refine zhN _ ?_;clear zhN zhM)
  |refine b1i ?_
  |(refine zhZ _ _ ?_;simp only [go_sem,h,Az,hcq];(all_goals (rw [hr,←h4])))
  |refine a0m fun zN zM zhN zhM=>?_
  |(refine Rv ?_ ?_;focus (first|rfl|(simp [go_sem,h,Az,hcq];done)))
end Go.Sy
namespace Go.Sy
open Go.Proofs
attribute [local irreducible] Cj HT Bv Rj onC onE onO onG goV goA goS Tj Ck
theorem same_eq (k i o:Int) (l:List Aw) (k2 i2 o2:Int) (l2:List Aw):b0b (.mk k i o l) (.mk k2 i2 o2 l2)=(decide (k=k2)&&decide (i=i2)&&decide (o=o2)&&decide (l.length=l2.length)&&h0t l l2):=by rw [b0b]
theorem t0a (a b:Aw) (l l2:List Aw):h0t (a::l) (b::l2)=(b0b a b&&h0t l l2):=by rw [h0t]
theorem m1l (l:List Aw):h0t [] l=true:=by cases l<;>rw [h0t]
theorem k2q (k i o:Int) (l:List Aw) (k2 i2 o2:Int) (l2:List Aw) (hno:¬k=k2):
 Ct Try.prog 42 [Jy k i o l,Jy k2 i2 o2 l2] (fun v m=>v=.w (.one (.pl (.b (b0b (.mk k i o l) (.mk k2 i2 o2 l2)))))):=by
 have hr:b0b (.mk k i o l) (.mk k2 i2 o2 l2)=false:=by rw [same_eq];simp only [decide_eq_false hno,wJ,Bool.and_false]
 rw [hr]
 have F0:=yA hno<|@Az
 exact Ct.go Try.func42 rfl Try.ntmps42 Try.results42
theorem k2r (k i o:Int) (l:List Aw) (i2 o2:Int) (l2:List Aw) (hno:¬i=i2):
 Ct Try.prog 42 [Jy k i o l,Jy k i2 o2 l2] (fun v m=>v=.w (.one (.pl (.b (b0b (.mk k i o l) (.mk k i2 o2 l2)))))):=by
 have hr:b0b (.mk k i o l) (.mk k i2 o2 l2)=false:=by rw [same_eq];simp only [decide_eq_false hno,wJ,Bool.and_false]
 rw [hr]
 have F0:=yA hno<|@Az
 exact Ct.go Try.func42 rfl Try.ntmps42 Try.results42
theorem k2o (k i o:Int) (l:List Aw) (o2:Int) (l2:List Aw) (hno:¬o=o2):
 Ct Try.prog 42 [Jy k i o l,Jy k i o2 l2] (fun v m=>v=.w (.one (.pl (.b (b0b (.mk k i o l) (.mk k i o2 l2)))))):=by
 have hr:b0b (.mk k i o l) (.mk k i o2 l2)=false:=by rw [same_eq];simp only [decide_eq_false hno,wJ,Bool.and_false]
 rw [hr]
 have F0:=yA hno<|@Az
 exact Ct.go Try.func42 rfl Try.ntmps42 Try.results42
theorem k2p (k i o:Int) (l:List Aw) (l2:List Aw) (hno:¬((l.length:Nat):Int)=((l2.length:Nat):Int)):
 Ct Try.prog 42 [Jy k i o l,Jy k i o l2] (fun v m=>v=.w (.one (.pl (.b (b0b (.mk k i o l) (.mk k i o l2)))))):=by
 have hno2:¬l.length=l2.length:=fun e=>hno (by rw [e])
 have hr:b0b (.mk k i o l) (.mk k i o l2)=false:=by rw [same_eq];simp only [decide_eq_false hno2,wJ,Bool.and_false]
 rw [hr]
 have F0:=yA hno<|@Az
 exact Ct.go Try.func42 rfl Try.ntmps42 Try.results42
theorem e2n (k i o:Int) (l:List Aw) (l2:List Aw) (hl:l.length≤9223372036854775807) (he2:l2.length=l.length) (ih: ∀ a,a∈l→∀ b,b∈l2→Ct Try.prog 42 [Yy a,Yy b] (fun v m=>v=.w (.one (.pl (.b (b0b a b)))))):
 Ct Try.prog 42 [Jy k i o l,Jy k i o l2] (fun v m=>v=.w (.one (.pl (.b (b0b (.mk k i o l) (.mk k i o l2)))))):=by
 have hr:b0b (.mk k i o l) (.mk k i o l2)=h0t l l2:=by rw [same_eq];simp [he2]
 have F0:=yA he2<|@Az
 refine Ct.go Try.func42 rfl Try.ntmps42 Try.results42 fun w0 ro zZ zhY=>?_
 refine (fun zX=>goW) ?_
 refine Kj [0,1,6,7,8,9,10,11,12,13,14,15,16,17,18,19,20,21,22,23,24,25,26,27,28,29,30,31,32,33,34,35] ?_
 simp only [Lx,Oq,Kk,xA,xG,Nat.reduceBEq,beq_self_eq_true,xM,xP,xO,xD,yQ,reduceIte]
 refine Nw (fun y=>[(37,.w (.one (.pl (.i ((y.1:Nat):Int)))))]) (fun _=>[]) (fun y=>l.length-y.1) (⟨0,yP _,rfl⟩:{y:Nat//y≤l.length∧h0t (l.drop y) (l2.drop y)=h0t l l2}) ?_
 intro yy xN0 xM0 xhN0 xhM0
 simp only [yC,yD]
 obtain ⟨j,h1,h4⟩:=yy
 rcases yZ j l.length with hlt|hge
 rcases hsb:b0b (l.getD j (.mk 0 0 0 [])) (l2.getD j (.mk 0 0 0 [])) with _|_
 ·obtain ⟨k2,i2,o2,m2,he,hm,hdr,hg⟩:=Cy hlt
  obtain ⟨k3,i3,o3,m3,he3,hm3,hdr3,hg3⟩:=Cy (l:=l2) (n:=j) (by omega)
  have hc:=ih _ hm _ hm3
  rw [Bw,Bw] at hc
  have hcq:((j:Nat):Int)<((l.length:Nat):Int):=by omega
  have hj:(0:Int)≤((j:Nat):Int):=by omega
  rw [hdr,hdr3,t0a] at h4
  rw [he,he3] at hsb
  rw [hsb] at hc h4
  rw [wJ] at h4
  have F0:=yA hcq<|yA hj<|yA hlt<|yA hg<|yA hg3<|F0
  have cq:=yA ((hc.plain fun _ _ h=>h))<|trivial
  have zd0:DQ 6 [40,41,42,43,44,45,46,47,48,49,50,51] [0,1,0,7,15,0,32,0,224,480,1023,2047] []:=⟨⟩
  refine (fun zX=>goW) ?_
  refine zhY _ _ ?_
  simp only [go_sem,F0]
  all_goals (rw [hr,←h4])
 ·obtain ⟨k2,i2,o2,m2,he,hm,hdr,hg⟩:=Cy hlt
  obtain ⟨k3,i3,o3,m3,he3,hm3,hdr3,hg3⟩:=Cy (l:=l2) (n:=j) (by omega)
  have hc:=ih _ hm _ hm3
  rw [Bw,Bw] at hc
  have hcq:((j:Nat):Int)<((l.length:Nat):Int):=by omega
  have hj:(0:Int)≤((j:Nat):Int):=by omega
  rw [hdr,hdr3,t0a] at h4
  rw [he,he3] at hsb
  rw [hsb] at hc h4
  rw [xY] at h4
  have hs1:Go.RowKit.wrap64 (((j:Nat):Int)+1)=((j+1:Nat):Int):=s0e (by omega) (by omega)
  have F0:=yA hcq<|yA hj<|yA hlt<|yA hg<|yA hg3<|yA hs1<|F0
  have cq:=yA ((hc.plain fun _ _ h=>h))<|trivial
  have zd0:DQ 6 [40,41,42,43,44,45,46,47,48,49,50,51] [0,1,0,7,15,0,32,0,224,480,1023,2047] []:=⟨⟩
  have zL:=fun S2=>xhN0 ⟨j+1,hlt,h4⟩ S2 (by (exact yB hlt (yE j)))
  exact goW
 obtain rfl:j=l.length:=by omega
 rw [yG,m1l] at h4
 have hcq:¬((l.length:Nat):Int)<((l.length:Nat):Int):=by omega
 have F0:=yA hcq<|F0
 refine (fun zX=>goW) ?_
 refine zhY _ _ ?_
 simp only [go_sem,F0]
 all_goals (rw [hr,←h4])
theorem e2o : ∀ (t u:Aw),t.ok→u.ok→Ct Try.prog 42 [Yy t,Yy u] (fun v m=>v=.w (.one (.pl (.b (b0b t u)))))
 | .mk k i o l,.mk k2 i2 o2 l2,ht,hu=>by
  rw [Aw.ok] at ht hu
  rw [Bw,Bw]
  by_cases hk:k=k2
  ·subst hk
   by_cases hi:i=i2
   ·subst hi
    by_cases ho:o=o2
    ·subst ho
     by_cases hl:((l.length:Nat):Int)=((l2.length:Nat):Int)
     ·exact e2n k i o l l2 ht.2.2.2.1 (by omega) fun a ha b hb=>e2o a b (Dw ht.2.2.2.2 a ha) (Dw hu.2.2.2.2 b hb)
     exact k2p k i o l l2 hl
    exact k2o k i o l o2 l2 ho
   exact k2r k i o l i2 o2 l2 hi
  exact k2q k i o l k2 i2 o2 l2 hk
termination_by t=>SizeOf.sizeOf t
decreasing_by
 have:=vB ha
 simp only [Aw.mk.sizeOf_spec]
 omega
end Go.Sy
