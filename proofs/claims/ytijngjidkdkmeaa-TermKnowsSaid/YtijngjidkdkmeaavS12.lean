/- Walks and what they compute. CONDITIONS: those that each theorem names. -/
import Derived.Test.YtijngjidkdkmeaavS10
import Derived.Test.YtijngjidkdkmeaavS11
import Derived.Test.YtijngjidkdkmeaavE2
import Derived.Test.YtijngjidkdkmeaavE3
import Derived.Test.YtijngjidkdkmeaavE6
set_option linter.unusedVariables false
set_option linter.unusedSimpArgs false
set_option maxHeartbeats 1600000
set_option maxRecDepth 100000
namespace Go.Sy
open Go.Proofs
attribute [local irreducible] Ey HT Bq Tk onC onE onO onG goV goA goS Wv Fx
theorem ltI {j n:Nat} (h:j<n):((j:Nat):Int)<((n:Nat):Int):=Int.ofNat_lt.mpr h
theorem r0e {n:Nat}:¬((n:Nat):Int)<((n:Nat):Int):=Int.lt_irrefl _
theorem Qv {j n:Nat} (h:j<n) (hn:n≤9223372036854775807):Go.RowKit.wrap64 ((j:Int)+1)=((j+1:Nat):Int):=k0l rfl (Nat.le_trans h hn)
theorem s0m {ex':Bool} {sz':Nat} {ro:Ro} {y:Value} (h:PL.den ro (.R true 1 []) y):PL.den ro (.R ex' sz' []) y:=by
 rw [PL.den] at h ⊢
 rcases h with h|⟨blk,off,cap,h1,h2,h3,h4,_⟩|⟨a,cap,h1,h2,h3,h4⟩
 · exact .inl h
 · exact .inr (.inl ⟨blk,off,cap,h1,h2,h3,fun _=>h4 rfl,by rw [PL.denRows];trivial⟩)
 · exact .inr (.inr ⟨a,cap,h1,h2,h3,fun _=>h4 rfl⟩)
abbrev b1g (k n:Int):V:=.w (.agg [.pl (.i k),.pl (.i n),.pl (.i 0),.pl (.R true 1 [])])
theorem u0z {d:Va} {k n:Int} {y:Value} (h:V.den d (b1g k n) y):V.den d (Fy k n 0 []) y:=by
 obtain ⟨vs,e,hd⟩:=h
 refine ⟨vs,e,?_⟩
 generalize vs.toList=l at hd ⊢
 cases hd with
 |cons h1 hd=>cases hd with
  |cons h2 hd=>cases hd with
   |cons h3 hd=>cases hd with
    |cons h4 hd=>exact .cons h1 (.cons h2 (.cons h3 (.cons (by rw [Ay];exact s0m h4) hd)))
theorem Ct.leaf {P:Program} {f:FuncId} {a:V} {k n:Int} {R:V→List (Nat×Ob)→Prop} (h:Ct P f [a,Fy k n 0 []] R):Ct P f [a,b1g k n] R:=by
 intro w d vals hro hg hv
 refine h w d vals hro hg ?_
 generalize vals.toList=l at hv ⊢
 cases hv with
 |cons h1 h2=>cases h2 with
  |cons h2 h3=>exact .cons h1 (.cons (u0z h2) h3)
theorem t1e (b:List Aw) (hb:b.length≤9223372036854775807) (hk:Dv b) (k i o:Int) (l:List Aw) (ht:(Aw.mk k i o l).ok):
 Ct Try.prog 30 [(.w (.one (.pl (.R false 4 (Ay b))))),Fy k i o l] (fun v m=>v=.w (.one (.pl (.b (hasB b (.mk k i o l)))))):=by
 have F0:=Az
 refine Ct.k Try.func30 rfl Try.ntmps30 (congrArg Array.toList Try.results30) (by simp) fun w0 ro=>?_
 refine Ck fun zZ zhZ=>?_
 iterate 6 first
  |(refine Dw fun zK zhK=>?_;simp only [go_sem,F0];(repeat' (first|apply And.intro|intro _)))
  |refine zhK _ ?_
  |refine Bw fun zB zbn zbx zbr zbi=>?_
  |refine Bj fun zN zM zhN zhM=>?_
 refine Gw [0,1] ?_
 simp only [Gq,Iq,Gv,List.contains_cons,List.contains_nil,Nat.reduceBEq,beq_self_eq_true,Bool.or_false,Bool.or_true,Bool.true_or,Bool.false_or,Bool.false_eq_true,reduceIte]
 refine Iy (fun y=>[(9,.w (.one (.pl (.i ((y.1:Nat):Int)))))]) (fun _=>[]) (fun y=>b.length-y.1) (⟨0,Nat.zero_le _,rfl⟩:{y:Nat//y≤b.length∧hasB (b.drop y) (.mk k i o l)=hasB b (.mk k i o l)}) ?_ ?_ ?_
 · (simp only [go_sem,leX,List.cons_append,List.nil_append,F0];try simp)
 · (simp only [go_sem,leX,List.cons_append,List.nil_append,F0];try simp)
 intro ⟨j,h1,h4⟩ zN zM zhN zhM
 simp only [List.cons_append,List.nil_append]
 have yN0:=zhN
 rcases Nat.lt_or_ge j b.length with hlt|hge
 rcases hsb:Tw (b.getD j (.mk 0 0 0 [])) (.mk k i o l) with _|_
 · obtain ⟨k2,i2,o2,m2,he,hm,hdr,hg⟩:=Cy hlt
   have hc:=l1w _ (.mk k i o l) (Dz hk _ hm) ht
   rw [Ak,Ak] at hc
   have hci:=ltI hlt
   have hj:(0:Int)≤((j:Nat):Int):=Int.natCast_nonneg j
   have hjl:j<(Ay b).length:=by rw [Az];exact hlt
   rw [he] at hsb
   rw [hdr,p0w,hsb] at h4
   rw [hsb] at hc
   rw [Bool.false_or] at h4
   have hs1:=Qv hlt hb
   have F0:=And.intro hci<|And.intro hj<|And.intro hjl<|And.intro hg<|And.intro Int.toNat_natCast<|And.intro Az<|And.intro hs1<|F0
   have cv0:=Ct.cv (hc)
   have zL:=fun S2=>yN0 ⟨j+1,hlt,h4⟩ S2 (by (exact Nat.sub_lt_sub_left hlt (Nat.lt_succ_self j)))
   exact HT.w
 · obtain ⟨k2,i2,o2,m2,he,hm,hdr,hg⟩:=Cy hlt
   have hc:=l1w _ (.mk k i o l) (Dz hk _ hm) ht
   rw [Ak,Ak] at hc
   have hci:=ltI hlt
   have hj:(0:Int)≤((j:Nat):Int):=Int.natCast_nonneg j
   have hjl:j<(Ay b).length:=by rw [Az];exact hlt
   rw [he] at hsb
   rw [hdr,p0w,hsb] at h4
   rw [hsb] at hc
   rw [Bool.true_or] at h4
   have zE:V.w (.one (.pl (.b true)))=V.w (.one (.pl (.b (hasB b (.mk k i o l))))):=by rw [←h4]
   have F0:=And.intro hci<|And.intro hj<|And.intro hjl<|And.intro hg<|And.intro Int.toNat_natCast<|And.intro Az<|F0
   have cv0:=Ct.cv (hc)
   exact HT.w
 · obtain rfl:j=b.length:=Nat.le_antisymm h1 hge
   rw [List.drop_length,g1v] at h4
   have zE:V.w (.one (.pl (.b false)))=V.w (.one (.pl (.b (hasB b (.mk k i o l))))):=by rw [←h4]
   have F0:=And.intro (@r0e b.length)<|And.intro Az<|F0
   exact HT.w
theorem h0j (b:List Aw) (hb:b.length≤9223372036854775807) (hk:Dv b) (t:Aw) (ht:t.ok):Ct Try.prog 30 [(.w (.one (.pl (.R false 4 (Ay b))))),Pv t] (fun v m=>v=.w (.one (.pl (.b (hasB b t))))):=by
 obtain ⟨k,i,o,l⟩:=t
 rw [Ak]
 exact t1e b hb hk k i o l ht
theorem d1p (b:List Aw) (hb:b.length≤9223372036854775807) (hk:Dv b) (k n:Int) (hkb:a0p k) (hn:a0p n):Ct Try.prog 30 [(.w (.one (.pl (.R false 4 (Ay b))))),b1g k n] (fun v m=>v=.w (.one (.pl (.b (hasB b (.mk k n 0 [])))))):=by
 refine Ct.leaf ?_
 rw [←Ak]
 refine h0j b hb hk _ ?_
 rw [Aw.ok,Dv]
 exact ⟨hkb,hn,⟨by decide,by decide⟩,by decide,trivial⟩
theorem n1j (b:List Aw) (hb:b.length≤9223372036854775807) (hk:Dv b) (n:Int) (hn:a0p n):
 CtM Try.prog 31 ([.w (.one (.pl (.i n)))]++[500000].map fun k=>.w (.one (.p k []))) [(500000,⟨false,[.pl (.R false 4 (Ay b))]⟩)] (Told (fun v m=>v=.w (.one (.pl (.b (Sq b n))))∧m=[(500000,⟨false,[.pl (.R false 4 (Ay b))]⟩)])):=by
 have hc:=d1p b hb hk 1 n ⟨by decide,by decide⟩ hn
 refine CtM.k Try.func31 rfl Try.ntmps31 (congrArg Array.toList Try.results31) (by simp) fun w0 ro may fx=>?_
 refine Ck fun zZ zhZ=>?_
 refine Dw fun zK zhK=>?_
 simp only [go_sem]
 repeat' (first|apply And.intro|intro _)
 refine zhK _ ?_
 refine Dw fun zK zhK=>?_
 simp only [go_sem]
 repeat' (first|apply And.intro|intro _)
 all_goals (refine Cz (fun k=>k) (fun _ _=>rfl) ?_ (hc.plain fun _ _ h=>h) ?_;focus (first|rfl|(simp only [go_sem]<;>rfl)))
 all_goals (rintro v m ⟨hR,hm⟩;subst hR;subst hm)
 all_goals refine And.intro (by first|rfl|simp only [go_sem]) (And.intro (by first|rfl|simp only [go_sem]) ?_)
 all_goals simp only [go_sem]
 all_goals repeat' (first|apply And.intro|intro _)
 refine zhK _ ?_
 refine Cq ?_
 refine zhZ _ _ ?_
 simp only [go_sem]
 all_goals (exact Uy rfl (a0c (by simp [look])) ⟨rfl,rfl⟩)
theorem Xv (b:List Aw) (hb:b.length≤9223372036854775807) (hk:Dv b) (n:Int) (hn:a0p n):CtM Try.prog 31 ([.w (.one (.pl (.i n)))]++[500000].map fun k=>.w (.one (.p k []))) [(500000,⟨false,[.pl (.R false 4 (Ay b))]⟩)] (fun v m=>v=.w (.one (.pl (.b (Sq b n))))∧m=[(500000,⟨false,[.pl (.R false 4 (Ay b))]⟩)]):=(n1j b hb hk n hn).told
end Go.Sy
namespace Go.Sy
open Go.Proofs
attribute [local irreducible] Ey HT Bq Tk onC onE onO onG goV goA goS Wv Fx
theorem n1i (b:List Aw) (hb:b.length≤9223372036854775807) (hk:Dv b) (n:Int) (hn:a0p n) (ha:Sq b n=true):
 CtM Try.prog 32 ([.w (.one (.pl (.i n)))]++[500000,500001].map fun k=>.w (.one (.p k []))) [(500000,⟨false,[.fn 31 [500001]]⟩),(500001,⟨false,[.pl (.R false 4 (Ay b))]⟩)] (Told (fun v m=>v=.w (.one (.pl (.b (true))))∧m=[(500000,⟨false,[.fn 31 [500001]]⟩),(500001,⟨false,[.pl (.R false 4 (Ay b))]⟩)])):=by
 have hc:=Xv b hb hk n hn
 rw [ha] at hc
 have hd:=d1p b hb hk 2 n ⟨by decide,by decide⟩ hn
 have F0:=trivial
 have cq:=And.intro (And.intro (CF.mk [500001] [(500000,500001)]) (hc))<|And.intro (Ct.cv (hd))<|trivial
 have zF:FG [5,6,7,8,9,10,11,12,13]:=trivial
 exact CtM.run2 Try.func32 rfl Try.ntmps32 Try.results32
theorem n1h (b:List Aw) (hb:b.length≤9223372036854775807) (hk:Dv b) (n:Int) (hn:a0p n) (ha:Sq b n=false):
 CtM Try.prog 32 ([.w (.one (.pl (.i n)))]++[500000,500001].map fun k=>.w (.one (.p k []))) [(500000,⟨false,[.fn 31 [500001]]⟩),(500001,⟨false,[.pl (.R false 4 (Ay b))]⟩)] (Told (fun v m=>v=.w (.one (.pl (.b (hasB b (.mk 2 n 0 [])))))∧m=[(500000,⟨false,[.fn 31 [500001]]⟩),(500001,⟨false,[.pl (.R false 4 (Ay b))]⟩)])):=by
 have hc:=Xv b hb hk n hn
 rw [ha] at hc
 have hd:=d1p b hb hk 2 n ⟨by decide,by decide⟩ hn
 have F0:=trivial
 have cq:=And.intro (And.intro (CF.mk [500001] [(500000,500001)]) (hc))<|And.intro (Ct.cv (hd))<|trivial
 have zF:FG [5,6,7,8,9,10,11,12,13]:=trivial
 exact CtM.run2 Try.func32 rfl Try.ntmps32 Try.results32
theorem k0r (b:List Aw) (hb:b.length≤9223372036854775807) (hk:Dv b) (n:Int) (hn:a0p n):CtM Try.prog 32 ([.w (.one (.pl (.i n)))]++[500000,500001].map fun k=>.w (.one (.p k []))) [(500000,⟨false,[.fn 31 [500001]]⟩),(500001,⟨false,[.pl (.R false 4 (Ay b))]⟩)] (fun v m=>v=.w (.one (.pl (.b (p0e b n))))∧m=[(500000,⟨false,[.fn 31 [500001]]⟩),(500001,⟨false,[.pl (.R false 4 (Ay b))]⟩)]):=by
 rcases ha:Sq b n with _|_
 · rw [p0e,ha,Bool.false_or];exact (n1h b hb hk n hn ha).told
 · rw [p0e,ha,Bool.true_or];exact (n1i b hb hk n hn ha).told
end Go.Sy
namespace Go.Sy
open Go.Proofs
attribute [local irreducible] Ey HT Bq Tk onC onE onO onG goV goA goS Wv Fx
theorem a1z (b:List Aw) (hb:b.length≤9223372036854775807) (hk:Dv b) (k i o:Int) (l:List Aw) (ht:(Aw.mk k i o l).ok) (hh:hasB b (.mk k i o l)=true):
 Ct Try.prog 12 [(.w (.one (.pl (.R false 4 (Ay b))))),Fy k i o l] (fun v m=>v=.w (.one (.pl (.b (true))))):=by
 have hc:=h0j b hb hk _ ht
 rw [Ak,hh] at hc
 have F0:=trivial
 have cv0:=Ct.cv (hc)
 exact Ct.w Try.func12 rfl Try.ntmps12 Try.results12
theorem n1o (b:List Aw) (hb:b.length≤9223372036854775807) (hk:Dv b) (i o:Int) (l:List Aw) (ht:(Aw.mk 1 i o l).ok) (hh:hasB b (.mk 1 i o l)=false):
 Ct Try.prog 12 [(.w (.one (.pl (.R false 4 (Ay b))))),Fy 1 i o l] (fun v m=>v=.w (.one (.pl (.b (false))))):=by
 have hc:=h0j b hb hk _ ht
 rw [Ak,hh] at hc
 rw [Aw.ok] at ht
 have F0:=decide_false
 have cq:=And.intro (Ct.cv (hc))<|trivial
 have zF:FG [9,10,11,12,13,14,16,17,18,19,20,21,22,23,24,25,26,27,28,29,30,31,32,33,34,35,36,37,38,39,40,41,42,43,44,45,46,47,48,52,53,54,55,56,57,58,59]:=trivial
 exact Ct.run2 Try.func12 rfl Try.ntmps12 Try.results12
theorem n1n (b:List Aw) (hb:b.length≤9223372036854775807) (hk:Dv b) (i o:Int) (l:List Aw) (ht:(Aw.mk 2 i o l).ok) (hh:hasB b (.mk 2 i o l)=false):
 Ct Try.prog 12 [(.w (.one (.pl (.R false 4 (Ay b))))),Fy 2 i o l] (fun v m=>v=.w (.one (.pl (.b (Sq b i))))):=by
 have hc:=h0j b hb hk _ ht
 rw [Ak,hh] at hc
 rw [Aw.ok] at ht
 have ca:=Xv b hb hk i ht.2.1
 have F0:=decide_false
 have cq:=And.intro (Ct.cv (hc))<|And.intro (And.intro (CF.mk [2] [(500000,2)]) (ca))<|trivial
 have zF:FG [9,10,11,12,13,14,16,17,18,19,20,21,22,23,24,25,26,27,28,29,30,31,32,33,34,35,36,37,38,39,40,41,42,43,44,45,46,47,48,52,53,54,55,56,57,58,59]:=trivial
 exact Ct.run2 Try.func12 rfl Try.ntmps12 Try.results12
theorem g1l (b:List Aw) (hb:b.length≤9223372036854775807) (hk:Dv b) (i o:Int) (l:List Aw) (ht:(Aw.mk 3 i o l).ok) (hh:hasB b (.mk 3 i o l)=false) (hai:Sq b i=true) (hpo:p0e b o=true):
 Ct Try.prog 12 [(.w (.one (.pl (.R false 4 (Ay b))))),Fy 3 i o l] (fun v m=>v=.w (.one (.pl (.b (true))))):=by
 have hc:=h0j b hb hk _ ht
 rw [Ak,hh] at hc
 rw [Aw.ok] at ht
 have ca:=Xv b hb hk i ht.2.1
 have cp:=k0r b hb hk o ht.2.2.1
 have cc:=Xv b hb hk o ht.2.2.1
 have cd:=k0r b hb hk i ht.2.1
 rw [hai] at ca
 rw [hpo] at cp
 have F0:=decide_false
 have cq:=And.intro (Ct.cv (hc))<|And.intro (And.intro (CF.mk [2] [(500000,2)]) (ca))<|And.intro (And.intro (CF.mk [5,2] [(500000,5),(500001,2)]) (cp))<|And.intro (And.intro (CF.mk [2] [(500000,2)]) (cc))<|And.intro (And.intro (CF.mk [5,2] [(500000,5),(500001,2)]) (cd))<|trivial
 have zF:FG [9,10,11,12,13,14,16,17,18,19,20,21,22,23,24,25,26,27,28,29,30,31,32,33,34,35,36,37,38,39,40,41,42,43,44,45,46,47,48,52,53,54,55,56,57,58,59]:=trivial
 exact Ct.run2 Try.func12 rfl Try.ntmps12 Try.results12
theorem g1j (b:List Aw) (hb:b.length≤9223372036854775807) (hk:Dv b) (i o:Int) (l:List Aw) (ht:(Aw.mk 3 i o l).ok) (hh:hasB b (.mk 3 i o l)=false) (hai:Sq b i=true) (hpo:p0e b o=false) (hao:Sq b o=false):
 Ct Try.prog 12 [(.w (.one (.pl (.R false 4 (Ay b))))),Fy 3 i o l] (fun v m=>v=.w (.one (.pl (.b (false))))):=by
 have hc:=h0j b hb hk _ ht
 rw [Ak,hh] at hc
 rw [Aw.ok] at ht
 have ca:=Xv b hb hk i ht.2.1
 have cp:=k0r b hb hk o ht.2.2.1
 have cc:=Xv b hb hk o ht.2.2.1
 have cd:=k0r b hb hk i ht.2.1
 rw [hai] at ca
 rw [hpo] at cp
 rw [hao] at cc
 have F0:=decide_false
 have cq:=And.intro (Ct.cv (hc))<|And.intro (And.intro (CF.mk [2] [(500000,2)]) (ca))<|And.intro (And.intro (CF.mk [5,2] [(500000,5),(500001,2)]) (cp))<|And.intro (And.intro (CF.mk [2] [(500000,2)]) (cc))<|And.intro (And.intro (CF.mk [5,2] [(500000,5),(500001,2)]) (cd))<|trivial
 have zF:FG [9,10,11,12,13,14,16,17,18,19,20,21,22,23,24,25,26,27,28,29,30,31,32,33,34,35,36,37,38,39,40,41,42,43,44,45,46,47,48,52,53,54,55,56,57,58,59]:=trivial
 exact Ct.run2 Try.func12 rfl Try.ntmps12 Try.results12
theorem g1i (b:List Aw) (hb:b.length≤9223372036854775807) (hk:Dv b) (i o:Int) (l:List Aw) (ht:(Aw.mk 3 i o l).ok) (hh:hasB b (.mk 3 i o l)=false) (hai:Sq b i=true) (hpo:p0e b o=false) (hao:Sq b o=true):
 Ct Try.prog 12 [(.w (.one (.pl (.R false 4 (Ay b))))),Fy 3 i o l] (fun v m=>v=.w (.one (.pl (.b (p0e b i))))):=by
 have hc:=h0j b hb hk _ ht
 rw [Ak,hh] at hc
 rw [Aw.ok] at ht
 have ca:=Xv b hb hk i ht.2.1
 have cp:=k0r b hb hk o ht.2.2.1
 have cc:=Xv b hb hk o ht.2.2.1
 have cd:=k0r b hb hk i ht.2.1
 rw [hai] at ca
 rw [hpo] at cp
 rw [hao] at cc
 have F0:=decide_false
 have cq:=And.intro (Ct.cv (hc))<|And.intro (And.intro (CF.mk [2] [(500000,2)]) (ca))<|And.intro (And.intro (CF.mk [5,2] [(500000,5),(500001,2)]) (cp))<|And.intro (And.intro (CF.mk [2] [(500000,2)]) (cc))<|And.intro (And.intro (CF.mk [5,2] [(500000,5),(500001,2)]) (cd))<|trivial
 have zF:FG [9,10,11,12,13,14,16,17,18,19,20,21,22,23,24,25,26,27,28,29,30,31,32,33,34,35,36,37,38,39,40,41,42,43,44,45,46,47,48,52,53,54,55,56,57,58,59]:=trivial
 exact Ct.run2 Try.func12 rfl Try.ntmps12 Try.results12
theorem g1h (b:List Aw) (hb:b.length≤9223372036854775807) (hk:Dv b) (i o:Int) (l:List Aw) (ht:(Aw.mk 3 i o l).ok) (hh:hasB b (.mk 3 i o l)=false) (hai:Sq b i=false) (hao:Sq b o=false):
 Ct Try.prog 12 [(.w (.one (.pl (.R false 4 (Ay b))))),Fy 3 i o l] (fun v m=>v=.w (.one (.pl (.b (false))))):=by
 have hc:=h0j b hb hk _ ht
 rw [Ak,hh] at hc
 rw [Aw.ok] at ht
 have ca:=Xv b hb hk i ht.2.1
 have cp:=k0r b hb hk o ht.2.2.1
 have cc:=Xv b hb hk o ht.2.2.1
 have cd:=k0r b hb hk i ht.2.1
 rw [hai] at ca
 rw [hao] at cc
 have F0:=decide_false
 have ck0:=And.intro (CF.mk [5,2] [(500000,5),(500001,2)]) (cd)
 have cq:=And.intro (Ct.cv (hc))<|And.intro (And.intro (CF.mk [2] [(500000,2)]) (ca))<|And.intro (And.intro (CF.mk [2] [(500000,2)]) (cc))<|And.intro ck0<|And.intro ck0<|trivial
 have zF:FG [9,10,11,12,13,14,16,17,18,19,20,21,22,23,24,25,26,27,28,29,30,31,32,33,34,35,36,37,38,39,40,41,42,43,44,45,46,47,48,52,53,54,55,56,57,58,59]:=trivial
 exact Ct.run2 Try.func12 rfl Try.ntmps12 Try.results12
theorem g1g (b:List Aw) (hb:b.length≤9223372036854775807) (hk:Dv b) (i o:Int) (l:List Aw) (ht:(Aw.mk 3 i o l).ok) (hh:hasB b (.mk 3 i o l)=false) (hai:Sq b i=false) (hao:Sq b o=true):
 Ct Try.prog 12 [(.w (.one (.pl (.R false 4 (Ay b))))),Fy 3 i o l] (fun v m=>v=.w (.one (.pl (.b (p0e b i))))):=by
 have hc:=h0j b hb hk _ ht
 rw [Ak,hh] at hc
 rw [Aw.ok] at ht
 have ca:=Xv b hb hk i ht.2.1
 have cp:=k0r b hb hk o ht.2.2.1
 have cc:=Xv b hb hk o ht.2.2.1
 have cd:=k0r b hb hk i ht.2.1
 rw [hai] at ca
 rw [hao] at cc
 have F0:=decide_false
 have ck0:=And.intro (CF.mk [5,2] [(500000,5),(500001,2)]) (cd)
 have cq:=And.intro (Ct.cv (hc))<|And.intro (And.intro (CF.mk [2] [(500000,2)]) (ca))<|And.intro (And.intro (CF.mk [2] [(500000,2)]) (cc))<|And.intro ck0<|And.intro ck0<|trivial
 have zF:FG [9,10,11,12,13,14,16,17,18,19,20,21,22,23,24,25,26,27,28,29,30,31,32,33,34,35,36,37,38,39,40,41,42,43,44,45,46,47,48,52,53,54,55,56,57,58,59]:=trivial
 exact Ct.run2 Try.func12 rfl Try.ntmps12 Try.results12
theorem n1m (b:List Aw) (hb:b.length≤9223372036854775807) (hk:Dv b) (k i o:Int) (l:List Aw) (ht:(Aw.mk k i o l).ok) (hh:hasB b (.mk k i o l)=false) (hk1:¬k=1) (hk2:¬k=2) (hk3:¬k=3) (ih: ∀ a,a∈l→Ct Try.prog 12 [(.w (.one (.pl (.R false 4 (Ay b))))),Pv a] (fun v m=>v=.w (.one (.pl (.b (Gj b a)))))):
 Ct Try.prog 12 [(.w (.one (.pl (.R false 4 (Ay b))))),Fy k i o l] (fun v m=>v=.w (.one (.pl (.b (Tz b l))))):=by
 have hc:=h0j b hb hk _ ht
 rw [Ak,hh] at hc
 rw [Aw.ok] at ht
 have hl:=ht.2.2.2.1
 have F0:=And.intro Az<|And.intro hk1<|And.intro hk2<|hk3
 have cv0:=Ct.cv (hc)
 refine Ct.k Try.func12 rfl Try.ntmps12 (congrArg Array.toList Try.results12) (by simp) fun w0 ro=>?_
 refine Ck fun zZ zhZ=>?_
 iterate 33 first
  |(refine Dw fun zK zhK=>?_;simp only [go_sem,F0];(repeat' (first|apply And.intro|intro _)))
  |refine zhK _ ?_
  |refine Bv ?_
  |(refine zhN _ ?_;clear zhN zhM)
  |refine Bw fun zB zbn zbx zbr zbi=>?_
  |(refine zbn _ ?_;clear zbn zbx zbr zbi)
  |((all_goals (refine Cz (fun k=>k) (fun _ _=>rfl) ?_ ((hc).plain fun _ _ h=>h) ?_;focus (first|rfl|(simp only [go_sem,F0]<;>rfl))));(all_goals (rintro v m ⟨hR,hm⟩;subst hR;subst hm));(all_goals refine And.intro (by first|rfl|simp only [go_sem,F0]) (And.intro (by first|rfl|simp only [go_sem,F0]) ?_));(all_goals simp only [go_sem,F0]);(all_goals repeat' (first|apply And.intro|intro _)))
  |refine Bj fun zN zM zhN zhM=>?_
  |(refine Av ?_ ?_;focus (first|rfl|(simp [go_sem,F0];done)))
 refine Gw [0,1,3,5,6,9,10,11,12,13,14,15,16,17,18,19,20,21,22,23,24,25,26,27,28,29,30,31,32,33,34,35,36,37,38,39,40,41,42,43,44,45,46,47,48] ?_
 simp only [Gq,Iq,Gv,List.contains_cons,List.contains_nil,Nat.reduceBEq,beq_self_eq_true,Bool.or_false,Bool.or_true,Bool.true_or,Bool.false_or,Bool.false_eq_true,reduceIte]
 refine Iy (fun y=>[(51,.w (.one (.pl (.i ((y.1:Nat):Int)))))]) (fun _=>[]) (fun y=>l.length-y.1) (⟨0,Nat.zero_le _,rfl⟩:{y:Nat//y≤l.length∧Tz b (l.drop y)=Tz b l}) ?_ ?_ ?_
 · (simp only [go_sem,leX,List.cons_append,List.nil_append,F0];try simp)
 · (simp only [go_sem,leX,List.cons_append,List.nil_append,F0];try simp)
 intro ⟨j,h1,h4⟩ zN zM zhN zhM
 simp only [List.cons_append,List.nil_append]
 have yN0:=zhN
 rcases Nat.lt_or_ge j l.length with hlt|hge
 rcases hsb:Gj b (l.getD j (.mk 0 0 0 [])) with _|_
 · obtain ⟨k2,i2,o2,m2,he,hm,hdr,hg⟩:=Cy hlt
   have hc:=ih _ hm
   rw [Ak] at hc
   have hci:=ltI hlt
   have hj:(0:Int)≤((j:Nat):Int):=Int.natCast_nonneg j
   have hjl:j<(Ay l).length:=by rw [Az];exact hlt
   rw [he] at hsb
   rw [hdr,Ux,hsb] at h4
   rw [hsb] at hc
   rw [Bool.false_and] at h4
   have zE:V.w (.one (.pl (.b false)))=V.w (.one (.pl (.b (Tz b l)))):=by rw [←h4]
   have F0:=And.intro hci<|And.intro hj<|And.intro hjl<|And.intro hg<|And.intro Int.toNat_natCast<|And.intro Az<|F0
   have cv0:=Ct.cv (hc)
   exact HT.w
 · obtain ⟨k2,i2,o2,m2,he,hm,hdr,hg⟩:=Cy hlt
   have hc:=ih _ hm
   rw [Ak] at hc
   have hci:=ltI hlt
   have hj:(0:Int)≤((j:Nat):Int):=Int.natCast_nonneg j
   have hjl:j<(Ay l).length:=by rw [Az];exact hlt
   rw [he] at hsb
   rw [hdr,Ux,hsb] at h4
   rw [hsb] at hc
   rw [Bool.true_and] at h4
   have hs1:=Qv hlt hl
   have F0:=And.intro hci<|And.intro hj<|And.intro hjl<|And.intro hg<|And.intro Int.toNat_natCast<|And.intro Az<|And.intro hs1<|F0
   have cv0:=Ct.cv (hc)
   have zL:=fun S2=>yN0 ⟨j+1,hlt,h4⟩ S2 (by (exact Nat.sub_lt_sub_left hlt (Nat.lt_succ_self j)))
   exact HT.w
 · obtain rfl:j=l.length:=Nat.le_antisymm h1 hge
   rw [List.drop_length,l0s] at h4
   have zE:V.w (.one (.pl (.b true)))=V.w (.one (.pl (.b (Tz b l)))):=by rw [←h4]
   have F0:=And.intro (@r0e l.length)<|And.intro Az<|F0
   exact HT.w
end Go.Sy
