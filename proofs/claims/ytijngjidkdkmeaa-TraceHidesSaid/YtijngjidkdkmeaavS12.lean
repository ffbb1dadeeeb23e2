/- Walks and what they compute. CONDITIONS: those that each theorem names. -/
import Derived.Test.YtijngjidkdkmeaavE3
import Derived.Test.YtijngjidkdkmeaavS10
import Derived.Test.YtijngjidkdkmeaavS11
import Derived.Test.YtijngjidkdkmeaavE6
set_option linter.unusedVariables false
set_option linter.unusedSimpArgs false
set_option maxHeartbeats 1600000
set_option maxRecDepth 100000
namespace Go.Sy
open Go.Proofs
attribute [local irreducible] Cj HT Bv Rj onC onE onO onG goV goA goS Tj Ck
theorem ltI {j n:Nat} (h:j<n):((j:Nat):Int)<((n:Nat):Int):=Int.ofNat_lt.mpr h
theorem a1p {n:Nat}:¬((n:Nat):Int)<((n:Nat):Int):=Int.lt_irrefl _
theorem Zj {j n:Nat} (h:j<n) (hn:n≤9223372036854775807):Go.RowKit.wrap64 ((j:Int)+1)=((j+1:Nat):Int):=s0e rfl (yJ h hn)
theorem c1q {ex':Bool} {sz':Nat} {ro:Ro} {y:Value} (h:PL.den ro (.R true 1 []) y):PL.den ro (.R ex' sz' []) y:=by
 rw [PL.den] at h ⊢
 rcases h with h|⟨blk,off,cap,h1,h2,h3,h4,_⟩|⟨a,cap,h1,h2,h3,h4⟩
 ·exact .inl h
 ·exact .inr (.inl ⟨blk,off,cap,h1,h2,h3,fun _=>h4 rfl,by rw [PL.denRows];trivial⟩)
 exact .inr (.inr ⟨a,cap,h1,h2,h3,fun _=>h4 rfl⟩)
abbrev o1o (k n:Int):V:=.w (.agg [.pl (.i k),.pl (.i n),.pl (.i 0),.pl (.R true 1 [])])
theorem f1z {d:Va} {k n:Int} {y:Value} (h:V.den d (o1o k n) y):V.den d (Jy k n 0 []) y:=by
 obtain ⟨vs,e,hd⟩:=h
 refine ⟨vs,e,?_⟩
 generalize vs.toList=l at hd ⊢
 cases hd with
 |cons h1 hd=>cases hd with
  |cons h2 hd=>cases hd with
   |cons h3 hd=>cases hd with
    |cons h4 hd=>exact .cons h1 (.cons h2 (.cons h3 (.cons (by rw [Ay];exact c1q h4) hd)))
theorem Ct.leaf {P:Program} {f:FuncId} {a:V} {k n:Int} {R:V→List (Nat×Ob)→Prop} (h:Ct P f [a,Jy k n 0 []] R):Ct P f [a,o1o k n] R:=by
 intro w d vals hro hg hv
 refine h w d vals hro hg ?_
 generalize vals.toList=l at hv ⊢
 cases hv with
 |cons h1 h2=>cases h2 with
  |cons h2 h3=>exact .cons h1 (.cons (f1z h2) h3)
theorem o2b (b:List Aw) (hb:b.length≤9223372036854775807) (hk:Dq b) (k i o:Int) (l:List Aw) (ht:(Aw.mk k i o l).ok):
 Ct Try.prog 30 [(.w (.one (.pl (.R false 4 (Ay b))))),Jy k i o l] (fun v m=>v=.w (.one (.pl (.b (hasB b (.mk k i o l)))))):=by
 have F0:=Az
 refine Ct.go Try.func30 rfl Try.ntmps30 Try.results30 fun w0 ro zZ zhZ=>?_
 refine (fun zX=>goW) ?_
 refine Kj [0,1] ?_
 simp only [Lx,Oq,Kk,xA,xG,Nat.reduceBEq,beq_self_eq_true,xM,xP,xO,xD,yQ,reduceIte]
 refine Nw (fun y=>[(9,.w (.one (.pl (.i ((y.1:Nat):Int)))))]) (fun _=>[]) (fun y=>b.length-y.1) (⟨0,yP _,rfl⟩:{y:Nat//y≤b.length∧hasB (b.drop y) (.mk k i o l)=hasB b (.mk k i o l)}) ?_
 intro ⟨j,h1,h4⟩ xN0 xM0 xhN0 xhM0
 simp only [yC,yD]
 rcases yZ j b.length with hlt|hge
 rcases hsb:b0b (b.getD j (.mk 0 0 0 [])) (.mk k i o l) with _|_
 ·obtain ⟨k2,i2,o2,m2,he,hm,hdr,hg⟩:=Cy hlt
  have hc:=e2o _ (.mk k i o l) (Dw hk _ hm) ht
  rw [Bw,Bw] at hc
  have hci:=ltI hlt
  have hj:(0:Int)≤((j:Nat):Int):=yN j
  have hjl:j<(Ay b).length:=by rw [Az];exact hlt
  rw [he] at hsb
  rw [hdr,z0g,hsb] at h4
  rw [hsb] at hc
  rw [xD] at h4
  have hs1:=Zj hlt hb
  have F0:=yA hci<|yA hj<|yA hjl<|yA hg<|yA xC<|yA Az<|yA hs1<|F0
  have cv0:=Ct.cv (hc)
  have zL:=fun S2=>xhN0 ⟨j+1,hlt,h4⟩ S2 (by (exact yB hlt (yE j)))
  exact goW
 ·obtain ⟨k2,i2,o2,m2,he,hm,hdr,hg⟩:=Cy hlt
  have hc:=e2o _ (.mk k i o l) (Dw hk _ hm) ht
  rw [Bw,Bw] at hc
  have hci:=ltI hlt
  have hj:(0:Int)≤((j:Nat):Int):=yN j
  have hjl:j<(Ay b).length:=by rw [Az];exact hlt
  rw [he] at hsb
  rw [hdr,z0g,hsb] at h4
  rw [hsb] at hc
  rw [xO] at h4
  have zE:V.w (.one (.pl (.b true)))=V.w (.one (.pl (.b (hasB b (.mk k i o l))))):=by rw [←h4]
  have F0:=yA hci<|yA hj<|yA hjl<|yA hg<|yA xC<|yA Az<|F0
  have cv0:=Ct.cv (hc)
  exact goW
 obtain rfl:j=b.length:=xJ h1 hge
 rw [yG,y1i] at h4
 have zE:V.w (.one (.pl (.b false)))=V.w (.one (.pl (.b (hasB b (.mk k i o l))))):=by rw [←h4]
 have F0:=yA (@a1p b.length)<|yA Az<|F0
 exact goW
theorem n0k (b:List Aw) (hb:b.length≤9223372036854775807) (hk:Dq b) (t:Aw) (ht:t.ok):Ct Try.prog 30 [(.w (.one (.pl (.R false 4 (Ay b))))),Yy t] (fun v m=>v=.w (.one (.pl (.b (hasB b t))))):=by
 obtain ⟨k,i,o,l⟩:=t
 rw [Bw]
 exact o2b b hb hk k i o l ht
theorem r1e (b:List Aw) (hb:b.length≤9223372036854775807) (hk:Dq b) (k n:Int) (hkb:c0v k) (hn:c0v n):Ct Try.prog 30 [(.w (.one (.pl (.R false 4 (Ay b))))),o1o k n] (fun v m=>v=.w (.one (.pl (.b (hasB b (.mk k n 0 [])))))):=by
 refine Ct.leaf ?_
 rw [←Bw]
 refine n0k b hb hk _ ?_
 rw [Aw.ok,Dq]
 exact ⟨hkb,hn,⟨by decide,by decide⟩,by decide,trivial⟩
theorem g2j (b:List Aw) (hb:b.length≤9223372036854775807) (hk:Dq b) (n:Int) (hn:c0v n):
 CtM Try.prog 31 ([.w (.one (.pl (.i n)))]++[500000].map fun k=>.w (.one (.p k []))) [(500000,⟨false,[.pl (.R false 4 (Ay b))]⟩)] (Told (fun v m=>v=.w (.one (.pl (.b (a0r b n))))∧m=[(500000,⟨false,[.pl (.R false 4 (Ay b))]⟩)])):=by
 have hc:=r1e b hb hk 1 n ⟨by decide,by decide⟩ hn
 have F0:=trivial
 refine CtM.go Try.func31 rfl Try.ntmps31 Try.results31 fun w0 ro may fx zZ zhY=>?_
 have cq:=yA ((hc.plain fun _ _ h=>h))<|trivial
 refine (fun zX=>goW) ?_
 refine zhY _ _ ?_
 simp only [go_sem,F0]
 all_goals (exact Av rfl (Bz (by simp [look])) ⟨rfl,rfl⟩)
theorem d0q (b:List Aw) (hb:b.length≤9223372036854775807) (hk:Dq b) (n:Int) (hn:c0v n):CtM Try.prog 31 ([.w (.one (.pl (.i n)))]++[500000].map fun k=>.w (.one (.p k []))) [(500000,⟨false,[.pl (.R false 4 (Ay b))]⟩)] (fun v m=>v=.w (.one (.pl (.b (a0r b n))))∧m=[(500000,⟨false,[.pl (.R false 4 (Ay b))]⟩)]):=(g2j b hb hk n hn).told
end Go.Sy
namespace Go.Sy
open Go.Proofs
attribute [local irreducible] Cj HT Bv Rj onC onE onO onG goV goA goS Tj Ck
theorem g2e (b:List Aw) (hb:b.length≤9223372036854775807) (hk:Dq b) (n:Int) (hn:c0v n) (ha:a0r b n=true):
 CtM Try.prog 32 ([.w (.one (.pl (.i n)))]++[500000,500001].map fun k=>.w (.one (.p k []))) [(500000,⟨false,[.fn 31 [500001]]⟩),(500001,⟨false,[.pl (.R false 4 (Ay b))]⟩)] (Told (fun v m=>v=.w (.one (.pl (.b (true))))∧m=[(500000,⟨false,[.fn 31 [500001]]⟩),(500001,⟨false,[.pl (.R false 4 (Ay b))]⟩)])):=by
 have hc:=d0q b hb hk n hn
 rw [ha] at hc
 have hd:=r1e b hb hk 2 n ⟨by decide,by decide⟩ hn
 have F0:=trivial
 have cq:=yA (yA (CF.mk [500001] [(500000,500001)]) (hc))<|yA (Ct.cv (hd))<|trivial
 have zF:FG [5,6,7,8,9,10,11,12,13]:=trivial
 exact CtM.run2 Try.func32 rfl Try.ntmps32 Try.results32
theorem g2d (b:List Aw) (hb:b.length≤9223372036854775807) (hk:Dq b) (n:Int) (hn:c0v n) (ha:a0r b n=false):
 CtM Try.prog 32 ([.w (.one (.pl (.i n)))]++[500000,500001].map fun k=>.w (.one (.p k []))) [(500000,⟨false,[.fn 31 [500001]]⟩),(500001,⟨false,[.pl (.R false 4 (Ay b))]⟩)] (Told (fun v m=>v=.w (.one (.pl (.b (hasB b (.mk 2 n 0 [])))))∧m=[(500000,⟨false,[.fn 31 [500001]]⟩),(500001,⟨false,[.pl (.R false 4 (Ay b))]⟩)])):=by
 have hc:=d0q b hb hk n hn
 rw [ha] at hc
 have hd:=r1e b hb hk 2 n ⟨by decide,by decide⟩ hn
 have F0:=trivial
 have cq:=yA (yA (CF.mk [500001] [(500000,500001)]) (hc))<|yA (Ct.cv (hd))<|trivial
 have zF:FG [5,6,7,8,9,10,11,12,13]:=trivial
 exact CtM.run2 Try.func32 rfl Try.ntmps32 Try.results32
theorem s0k (b:List Aw) (hb:b.length≤9223372036854775807) (hk:Dq b) (n:Int) (hn:c0v n):CtM Try.prog 32 ([.w (.one (.pl (.i n)))]++[500000,500001].map fun k=>.w (.one (.p k []))) [(500000,⟨false,[.fn 31 [500001]]⟩),(500001,⟨false,[.pl (.R false 4 (Ay b))]⟩)] (fun v m=>v=.w (.one (.pl (.b (y0g b n))))∧m=[(500000,⟨false,[.fn 31 [500001]]⟩),(500001,⟨false,[.pl (.R false 4 (Ay b))]⟩)]):=by
 rcases ha:a0r b n with _|_
 ·rw [y0g,ha,xD];exact (g2d b hb hk n hn ha).told
 rw [y0g,ha,xO];exact (g2e b hb hk n hn ha).told
end Go.Sy
namespace Go.Sy
open Go.Proofs
attribute [local irreducible] Cj HT Bv Rj onC onE onO onG goV goA goS Tj Ck
theorem o1h (b:List Aw) (hb:b.length≤9223372036854775807) (hk:Dq b) (k i o:Int) (l:List Aw) (ht:(Aw.mk k i o l).ok) (hh:hasB b (.mk k i o l)=true):
 Ct Try.prog 12 [(.w (.one (.pl (.R false 4 (Ay b))))),Jy k i o l] (fun v m=>v=.w (.one (.pl (.b (true))))):=by
 have hc:=n0k b hb hk _ ht
 rw [Bw,hh] at hc
 have F0:=trivial
 have cv0:=Ct.cv (hc)
 exact Ct.go Try.func12 rfl Try.ntmps12 Try.results12
theorem g2n (b:List Aw) (hb:b.length≤9223372036854775807) (hk:Dq b) (i o:Int) (l:List Aw) (ht:(Aw.mk 1 i o l).ok) (hh:hasB b (.mk 1 i o l)=false):
 Ct Try.prog 12 [(.w (.one (.pl (.R false 4 (Ay b))))),Jy 1 i o l] (fun v m=>v=.w (.one (.pl (.b (false))))):=by
 have hc:=n0k b hb hk _ ht
 rw [Bw,hh] at hc
 rw [Aw.ok] at ht
 have F0:=decide_false
 have cq:=yA (Ct.cv (hc))<|trivial
 have zF:FG [9,10,11,12,13,14,16,17,18,19,20,21,22,23,24,25,26,27,28,29,30,31,32,33,34,35,36,37,38,39,40,41,42,43,44,45,46,47,48,52,53,54,55,56,57,58,59]:=trivial
 exact Ct.run2 Try.func12 rfl Try.ntmps12 Try.results12
theorem g2m (b:List Aw) (hb:b.length≤9223372036854775807) (hk:Dq b) (i o:Int) (l:List Aw) (ht:(Aw.mk 2 i o l).ok) (hh:hasB b (.mk 2 i o l)=false):
 Ct Try.prog 12 [(.w (.one (.pl (.R false 4 (Ay b))))),Jy 2 i o l] (fun v m=>v=.w (.one (.pl (.b (a0r b i))))):=by
 have hc:=n0k b hb hk _ ht
 rw [Bw,hh] at hc
 rw [Aw.ok] at ht
 have ca:=d0q b hb hk i ht.2.1
 have F0:=decide_false
 have cq:=yA (Ct.cv (hc))<|yA (yA (CF.mk [2] [(500000,2)]) (ca))<|trivial
 have zF:FG [9,10,11,12,13,14,16,17,18,19,20,21,22,23,24,25,26,27,28,29,30,31,32,33,34,35,36,37,38,39,40,41,42,43,44,45,46,47,48,52,53,54,55,56,57,58,59]:=trivial
 exact Ct.run2 Try.func12 rfl Try.ntmps12 Try.results12
theorem x1v (b:List Aw) (hb:b.length≤9223372036854775807) (hk:Dq b) (i o:Int) (l:List Aw) (ht:(Aw.mk 3 i o l).ok) (hh:hasB b (.mk 3 i o l)=false) (hai:a0r b i=true) (hpo:y0g b o=true):
 Ct Try.prog 12 [(.w (.one (.pl (.R false 4 (Ay b))))),Jy 3 i o l] (fun v m=>v=.w (.one (.pl (.b (true))))):=by
 have hc:=n0k b hb hk _ ht
 rw [Bw,hh] at hc
 rw [Aw.ok] at ht
 have ca:=d0q b hb hk i ht.2.1
 have cp:=s0k b hb hk o ht.2.2.1
 have cc:=d0q b hb hk o ht.2.2.1
 have cd:=s0k b hb hk i ht.2.1
 rw [hai] at ca
 rw [hpo] at cp
 have F0:=decide_false
 have cq:=yA (Ct.cv (hc))<|yA (yA (CF.mk [2] [(500000,2)]) (ca))<|yA (yA (CF.mk [5,2] [(500000,5),(500001,2)]) (cp))<|yA (yA (CF.mk [2] [(500000,2)]) (cc))<|yA (yA (CF.mk [5,2] [(500000,5),(500001,2)]) (cd))<|trivial
 have zF:FG [9,10,11,12,13,14,16,17,18,19,20,21,22,23,24,25,26,27,28,29,30,31,32,33,34,35,36,37,38,39,40,41,42,43,44,45,46,47,48,52,53,54,55,56,57,58,59]:=trivial
 exact Ct.run2 Try.func12 rfl Try.ntmps12 Try.results12
theorem x1u (b:List Aw) (hb:b.length≤9223372036854775807) (hk:Dq b) (i o:Int) (l:List Aw) (ht:(Aw.mk 3 i o l).ok) (hh:hasB b (.mk 3 i o l)=false) (hai:a0r b i=true) (hpo:y0g b o=false) (hao:a0r b o=false):
 Ct Try.prog 12 [(.w (.one (.pl (.R false 4 (Ay b))))),Jy 3 i o l] (fun v m=>v=.w (.one (.pl (.b (false))))):=by
 have hc:=n0k b hb hk _ ht
 rw [Bw,hh] at hc
 rw [Aw.ok] at ht
 have ca:=d0q b hb hk i ht.2.1
 have cp:=s0k b hb hk o ht.2.2.1
 have cc:=d0q b hb hk o ht.2.2.1
 have cd:=s0k b hb hk i ht.2.1
 rw [hai] at ca
 rw [hpo] at cp
 rw [hao] at cc
 have F0:=decide_false
 have cq:=yA (Ct.cv (hc))<|yA (yA (CF.mk [2] [(500000,2)]) (ca))<|yA (yA (CF.mk [5,2] [(500000,5),(500001,2)]) (cp))<|yA (yA (CF.mk [2] [(500000,2)]) (cc))<|yA (yA (CF.mk [5,2] [(500000,5),(500001,2)]) (cd))<|trivial
 have zF:FG [9,10,11,12,13,14,16,17,18,19,20,21,22,23,24,25,26,27,28,29,30,31,32,33,34,35,36,37,38,39,40,41,42,43,44,45,46,47,48,52,53,54,55,56,57,58,59]:=trivial
 exact Ct.run2 Try.func12 rfl Try.ntmps12 Try.results12
theorem x1t (b:List Aw) (hb:b.length≤9223372036854775807) (hk:Dq b) (i o:Int) (l:List Aw) (ht:(Aw.mk 3 i o l).ok) (hh:hasB b (.mk 3 i o l)=false) (hai:a0r b i=true) (hpo:y0g b o=false) (hao:a0r b o=true):
 Ct Try.prog 12 [(.w (.one (.pl (.R false 4 (Ay b))))),Jy 3 i o l] (fun v m=>v=.w (.one (.pl (.b (y0g b i))))):=by
 have hc:=n0k b hb hk _ ht
 rw [Bw,hh] at hc
 rw [Aw.ok] at ht
 have ca:=d0q b hb hk i ht.2.1
 have cp:=s0k b hb hk o ht.2.2.1
 have cc:=d0q b hb hk o ht.2.2.1
 have cd:=s0k b hb hk i ht.2.1
 rw [hai] at ca
 rw [hpo] at cp
 rw [hao] at cc
 have F0:=decide_false
 have cq:=yA (Ct.cv (hc))<|yA (yA (CF.mk [2] [(500000,2)]) (ca))<|yA (yA (CF.mk [5,2] [(500000,5),(500001,2)]) (cp))<|yA (yA (CF.mk [2] [(500000,2)]) (cc))<|yA (yA (CF.mk [5,2] [(500000,5),(500001,2)]) (cd))<|trivial
 have zF:FG [9,10,11,12,13,14,16,17,18,19,20,21,22,23,24,25,26,27,28,29,30,31,32,33,34,35,36,37,38,39,40,41,42,43,44,45,46,47,48,52,53,54,55,56,57,58,59]:=trivial
 exact Ct.run2 Try.func12 rfl Try.ntmps12 Try.results12
theorem x1s (b:List Aw) (hb:b.length≤9223372036854775807) (hk:Dq b) (i o:Int) (l:List Aw) (ht:(Aw.mk 3 i o l).ok) (hh:hasB b (.mk 3 i o l)=false) (hai:a0r b i=false) (hao:a0r b o=false):
 Ct Try.prog 12 [(.w (.one (.pl (.R false 4 (Ay b))))),Jy 3 i o l] (fun v m=>v=.w (.one (.pl (.b (false))))):=by
 have hc:=n0k b hb hk _ ht
 rw [Bw,hh] at hc
 rw [Aw.ok] at ht
 have ca:=d0q b hb hk i ht.2.1
 have cp:=s0k b hb hk o ht.2.2.1
 have cc:=d0q b hb hk o ht.2.2.1
 have cd:=s0k b hb hk i ht.2.1
 rw [hai] at ca
 rw [hao] at cc
 have F0:=decide_false
 have ck0:=yA (CF.mk [5,2] [(500000,5),(500001,2)]) (cd)
 have cq:=yA (Ct.cv (hc))<|yA (yA (CF.mk [2] [(500000,2)]) (ca))<|yA (yA (CF.mk [2] [(500000,2)]) (cc))<|yA ck0<|yA ck0<|trivial
 have zF:FG [9,10,11,12,13,14,16,17,18,19,20,21,22,23,24,25,26,27,28,29,30,31,32,33,34,35,36,37,38,39,40,41,42,43,44,45,46,47,48,52,53,54,55,56,57,58,59]:=trivial
 exact Ct.run2 Try.func12 rfl Try.ntmps12 Try.results12
theorem x1r (b:List Aw) (hb:b.length≤9223372036854775807) (hk:Dq b) (i o:Int) (l:List Aw) (ht:(Aw.mk 3 i o l).ok) (hh:hasB b (.mk 3 i o l)=false) (hai:a0r b i=false) (hao:a0r b o=true):
 Ct Try.prog 12 [(.w (.one (.pl (.R false 4 (Ay b))))),Jy 3 i o l] (fun v m=>v=.w (.one (.pl (.b (y0g b i))))):=by
 have hc:=n0k b hb hk _ ht
 rw [Bw,hh] at hc
 rw [Aw.ok] at ht
 have ca:=d0q b hb hk i ht.2.1
 have cp:=s0k b hb hk o ht.2.2.1
 have cc:=d0q b hb hk o ht.2.2.1
 have cd:=s0k b hb hk i ht.2.1
 rw [hai] at ca
 rw [hao] at cc
 have F0:=decide_false
 have ck0:=yA (CF.mk [5,2] [(500000,5),(500001,2)]) (cd)
 have cq:=yA (Ct.cv (hc))<|yA (yA (CF.mk [2] [(500000,2)]) (ca))<|yA (yA (CF.mk [2] [(500000,2)]) (cc))<|yA ck0<|yA ck0<|trivial
 have zF:FG [9,10,11,12,13,14,16,17,18,19,20,21,22,23,24,25,26,27,28,29,30,31,32,33,34,35,36,37,38,39,40,41,42,43,44,45,46,47,48,52,53,54,55,56,57,58,59]:=trivial
 exact Ct.run2 Try.func12 rfl Try.ntmps12 Try.results12
theorem g2l (b:List Aw) (hb:b.length≤9223372036854775807) (hk:Dq b) (k i o:Int) (l:List Aw) (ht:(Aw.mk k i o l).ok) (hh:hasB b (.mk k i o l)=false) (hk1:¬k=1) (hk2:¬k=2) (hk3:¬k=3) (ih: ∀ a,a∈l→Ct Try.prog 12 [(.w (.one (.pl (.R false 4 (Ay b))))),Yy a] (fun v m=>v=.w (.one (.pl (.b (Lv b a)))))):
 Ct Try.prog 12 [(.w (.one (.pl (.R false 4 (Ay b))))),Jy k i o l] (fun v m=>v=.w (.one (.pl (.b (a0x b l))))):=by
 have hc:=n0k b hb hk _ ht
 rw [Bw,hh] at hc
 rw [Aw.ok] at ht
 have hl:=ht.2.2.2.1
 have F0:=yA Az<|yA hk1<|yA hk2<|hk3
 have cv0:=Ct.cv (hc)
 refine Ct.go Try.func12 rfl Try.ntmps12 Try.results12 fun w0 ro zZ zhZ=>?_
 have cq:=yA (Ct.cv (hc))<|trivial
 refine (fun zX=>goW) ?_
 refine Kj [0,1,3,5,6,9,10,11,12,13,14,15,16,17,18,19,20,21,22,23,24,25,26,27,28,29,30,31,32,33,34,35,36,37,38,39,40,41,42,43,44,45,46,47,48] ?_
 simp only [Lx,Oq,Kk,xA,xG,Nat.reduceBEq,beq_self_eq_true,xM,xP,xO,xD,yQ,reduceIte]
 refine Nw (fun y=>[(51,.w (.one (.pl (.i ((y.1:Nat):Int)))))]) (fun _=>[]) (fun y=>l.length-y.1) (⟨0,yP _,rfl⟩:{y:Nat//y≤l.length∧a0x b (l.drop y)=a0x b l}) ?_
 intro ⟨j,h1,h4⟩ xN0 xM0 xhN0 xhM0
 simp only [yC,yD]
 rcases yZ j l.length with hlt|hge
 rcases hsb:Lv b (l.getD j (.mk 0 0 0 [])) with _|_
 ·obtain ⟨k2,i2,o2,m2,he,hm,hdr,hg⟩:=Cy hlt
  have hc:=ih _ hm
  rw [Bw] at hc
  have hci:=ltI hlt
  have hj:(0:Int)≤((j:Nat):Int):=yN j
  have hjl:j<(Ay l).length:=by rw [Az];exact hlt
  rw [he] at hsb
  rw [hdr,b0r,hsb] at h4
  rw [hsb] at hc
  rw [wJ] at h4
  have zE:V.w (.one (.pl (.b false)))=V.w (.one (.pl (.b (a0x b l)))):=by rw [←h4]
  have F0:=yA hci<|yA hj<|yA hjl<|yA hg<|yA xC<|yA Az<|F0
  have cv0:=Ct.cv (hc)
  exact goW
 ·obtain ⟨k2,i2,o2,m2,he,hm,hdr,hg⟩:=Cy hlt
  have hc:=ih _ hm
  rw [Bw] at hc
  have hci:=ltI hlt
  have hj:(0:Int)≤((j:Nat):Int):=yN j
  have hjl:j<(Ay l).length:=by rw [Az];exact hlt
  rw [he] at hsb
  rw [hdr,b0r,hsb] at h4
  rw [hsb] at hc
  rw [xY] at h4
  have hs1:=Zj hlt hl
  have F0:=yA hci<|yA hj<|yA hjl<|yA hg<|yA xC<|yA Az<|yA hs1<|F0
  have cv0:=Ct.cv (hc)
  have zL:=fun S2=>xhN0 ⟨j+1,hlt,h4⟩ S2 (by (exact yB hlt (yE j)))
  exact goW
 obtain rfl:j=l.length:=xJ h1 hge
 rw [yG,t0m] at h4
 have zE:V.w (.one (.pl (.b true)))=V.w (.one (.pl (.b (a0x b l)))):=by rw [←h4]
 have F0:=yA (@a1p l.length)<|yA Az<|F0
 exact goW
end Go.Sy
