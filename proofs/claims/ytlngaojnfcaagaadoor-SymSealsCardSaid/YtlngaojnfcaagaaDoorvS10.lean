/- Walks and what they compute. CONDITIONS: those that each theorem names. -/
import Derived.Test.YtlngaojnfcaagaaDoorvS8
import Derived.Test.YtlngaojnfcaagaaDoorvS9
set_option linter.unusedVariables false
set_option linter.unusedSimpArgs false
set_option maxHeartbeats 1600000
set_option maxRecDepth 100000
namespace Go.Sy
structure PSt where
 acc:T3
 rest:List UInt8
def g0c (r0 r1:UInt64) (a:T3) (l:List UInt8):T3:=⟨sp0 (Pk a.a a.b a.c r0 r1 l),sp1 (Pk a.a a.b a.c r0 r1 l),sp2 (Pk a.a a.b a.c r0 r1 l)⟩
theorem s0t (r0 r1:UInt64) (a:T3) (l:List UInt8):Oy (g0c r0 r1 a l).a (g0c r0 r1 a l).b (g0c r0 r1 a l).c<pP:=by
 have h:=m1q a.a a.b a.c r0 r1 l
 show Oy (sp0 _) (sp1 _) (sp2 _)<pP
 rw [r1j]
 ·exact h
 ·exact Nat.lt_trans h (by decide)
def j0a (r0 r1:UInt64) (s:PSt) (c:UInt8):PSt:=if s.rest.length=15 then ⟨g0c r0 r1 s.acc (s.rest++[c]),[]⟩ else ⟨s.acc,s.rest++[c]⟩
def Jy (r0 r1:UInt64) (s:PSt) (l:List UInt8):PSt:=l.foldl (j0a r0 r1) s
def PSt.ok (s:PSt):Prop:=s.rest.length≤15∧Oy s.acc.a s.acc.b s.acc.c<pP
section
variable {r0 r1:UInt64} {s:PSt} {l:List UInt8}
theorem step_ok (h:s.ok) (c:UInt8):(j0a r0 r1 s c).ok:=by
 unfold j0a
 split
 ·exact ⟨Nat.zero_le _,s0t _ _ _ _⟩
 ·have:=h.1
  exact ⟨by simp only [List.length_append,List.length_cons,List.length_nil];omega,h.2⟩
theorem c0d : ∀ {l:List UInt8} {s:PSt},s.ok→(Jy r0 r1 s l).ok
 | [],_,h=>h
 |c::l,_,h=>c0d (l:=l) (step_ok h c)
theorem o0c {i:Nat} (h:i<l.length):Jy r0 r1 s (l.take (i+1))=j0a r0 r1 (Jy r0 r1 s (l.take i)) (l.getD i 0):=by
 have e:l.take (i+1)=l.take i++[l.getD i 0]:=by
  rw [List.take_succ_eq_append_getElem h];simp [List.getD,List.getElem?_eq_getElem h]
 rw [e,Jy,List.foldl_append];rfl
theorem d0a (a b:List UInt8):Jy r0 r1 s (a++b)=Jy r0 r1 (Jy r0 r1 s a) b:=List.foldl_append
theorem a0w : ∀ {l:List UInt8} {a:T3} {r:List UInt8},r.length+l.length≤15→Jy r0 r1 ⟨a,r⟩ l=⟨a,r++l⟩
 | [],a,r,_=>by simp [Jy]
 |c::l,a,r,h=>by
  simp only [List.length_cons] at h
  show Jy r0 r1 (j0a r0 r1 ⟨a,r⟩ c) l=_
  have e:j0a r0 r1 ⟨a,r⟩ c=⟨a,r++[c]⟩:=by unfold j0a;rw [if_neg (by show ¬r.length=15;omega)]
  rw [e,a0w (by simp only [List.length_append,List.length_cons,List.length_nil];omega)]
  simp
theorem y0z {a:T3} {r:List UInt8} (h:r.length≤15) (b:List UInt8):Jy r0 r1 ⟨a,r⟩ b=Jy r0 r1 ⟨a,[]⟩ (r++b):=by
 have e:Jy r0 r1 ⟨a,[]⟩ r=⟨a,r⟩:=by rw [a0w (by simpa using h)];rfl
 rw [d0a,e]
theorem v0p {a:T3} (h:16≤l.length):Jy r0 r1 ⟨a,[]⟩ l=Jy r0 r1 ⟨g0c r0 r1 a (l.take 16),[]⟩ (l.drop 16):=by
 have e:l.take 16=l.take 15++[l.getD 15 0]:=by
  rw [List.take_succ_eq_append_getElem (show 15<l.length by omega)];simp [List.getD,List.getElem?_eq_getElem (show 15<l.length by omega)]
 have l15:(l.take 15).length=15:=by rw [List.length_take];omega
 have key:Jy r0 r1 ⟨a,[]⟩ (l.take 16)=⟨g0c r0 r1 a (l.take 16),[]⟩:=by
  have e2:Jy r0 r1 ⟨a,[]⟩ (l.take 15)=⟨a,l.take 15⟩:=by rw [a0w (by simp;omega)];rfl
  rw [e,d0a,e2]
  show j0a r0 r1 ⟨a,l.take 15⟩ _=_
  unfold j0a
  rw [if_pos l15]
 conv=>lhs;rw [←List.take_append_drop 16 l]
 rw [d0a,key]
end
def Pz (r:List UInt8):List UInt8:=r++List.replicate (16-r.length) 0
theorem Ij {r:List UInt8} (h:r.length≤16):(Pz r).length=16:=by simp [Pz];omega
theorem b0k {r:List UInt8} (h:r.length≤16): ∀ j,r.length≤j→j<16→(Pz r).getD j 0=0:=by
 intro j h1 h2
 rw [Pz,List.getD,List.getElem?_append_right h1,List.getElem?_replicate]
 split<;>rfl
theorem Xx (r:List UInt8):(Pz r).take r.length=r:=List.take_left' rfl
theorem t0u {r:List UInt8} (h:r.length<16) (c:UInt8):r++(c::(Pz r).drop (r.length+1))=Pz (r++[c]):=by
 rw [Pz,Pz,List.drop_append,List.drop_of_length_le (by omega),List.drop_replicate,List.nil_append,List.append_assoc]
 simp only [List.length_append,List.length_cons,List.length_nil,List.cons_append,List.nil_append]
 congr 3;omega
end Go.Sy
namespace Go.Sy
open Go.Proofs
attribute [local irreducible] Fz HT Cw Oj onC onE onO onG goV goA goS Qv Ey
def stC (r0 r1 p0 p1:UInt64) (s:PSt):List L:=Ak r0 r1 p0 p1 s.acc.a s.acc.b s.acc.c (Pz s.rest) (s.rest.length:Nat)
theorem b1s {r1:UInt64} (h:r1&&&~~~1152921487695413244=0):r1.toNat<1152921504606846976:=by
 have:=(Ov r1 1152921487695413244).mpr h
 rw [←this,UInt64.toNat_and]
 exact Nat.lt_of_le_of_lt Nat.and_le_right (by decide)
theorem b1i {r0 r1:UInt64} {s:PSt} (hs:s.ok) (h0:r0&&&~~~1152921487695413247=0) (h1:r1&&&~~~1152921487695413244=0):PolyOk r0 r1 s.acc.a s.acc.b s.acc.c (Pz s.rest) (s.rest.length:Nat):=by
 have:=hs.1
 have hv:=hs.2
 refine ⟨h0,h1,?_,hs.2,by omega,by omega,fun j hj hl=>b0k (by omega) j (by simpa using hj) hl⟩
 simp only [Oy,pP] at hv
 have:=s.acc.a.toNat_lt;have:=s.acc.b.toNat_lt
 omega
theorem i1d {b:List UInt8} {i:Nat} (h:i<b.length):((i:Nat):Int)<((b.length:Nat):Int):=by omega
theorem u1m (r0 r1 p0 p1:UInt64) (s:PSt) (hs:s.ok) (hr0:r0&&&~~~1152921487695413247=0) (hr1:r1&&&~~~1152921487695413244=0) (b:List UInt8) (hbl:b.length≤140737488355328) (ex:Bool):
 Ct Tryd.prog 51 [.w (.agg (Ak r0 r1 p0 p1 s.acc.a s.acc.b s.acc.c (Pz s.rest) (s.rest.length:Nat))),.w (.one (.pl (.R ex 1 (Aw b))))] (fun v m=>v=.tup [.agg (stC r0 r1 p0 p1 (Jy r0 r1 s b)),.one (.pl (.i 0))]):=by
 have hpl:=Ij (r:=s.rest) (by have:=hs.1;omega)
 have he:=d0v (b1i hs hr0 hr1)
 have hr:=b1s hr1
 refine Ct.k Tryd.func51 rfl Tryd.ntmps51 (congrArg Array.toList Tryd.results51) (by simp) fun w0 ro=>?_
 refine Dx fun zZ zhZ=>?_
 iterate 15 first
  |(refine Dz fun zK zhK=>?_;simp only [go_sem,Ak,hpl,he];(repeat' (first|apply And.intro|intro _)))
  |refine zhK _ ?_
  |refine Cq ?_
  |(refine zhN _ ?_;clear zhN zhM)
  |refine Cx fun zB zbn zbx zbr zbi=>?_
  |((all_goals (refine Cy (fun k=>k) (fun _ _=>rfl) ?_ ((j0c r0 r1 p0 p1 s.acc.a s.acc.b s.acc.c (Pz s.rest) hpl (s.rest.length:Nat)).plain fun _ _ h=>h) ?_;focus (first|rfl|(simp only [go_sem,Ak,hpl,he]<;>rfl))));(all_goals (rintro v m ⟨hR,hm⟩;subst hR;subst hm));(all_goals refine And.intro (by first|rfl|simp only [go_sem,Ak,hpl,he]) (And.intro (by first|rfl|simp only [go_sem,Ak,hpl,he]) ?_));(all_goals simp only [go_sem,Ak,hpl,he]);(all_goals repeat' (first|apply And.intro|intro _)))
  |refine Bq fun zN zM zhN zhM=>?_
  |(refine Bj ?_ ?_;focus (first|rfl|(simp [go_sem,Ak,hpl,he];done)))
 refine Fq [0,1,6,9,10,11,12,13,14] ?_
 simp only [Gz,Gj,Fj,List.contains_cons,List.contains_nil,Nat.reduceBEq,beq_self_eq_true,Bool.or_false,Bool.or_true,Bool.true_or,Bool.false_or,Bool.false_eq_true,reduceIte]
 refine Ik (fun y=>[(17,.w (.one (.pl (.i ((y.1:Nat):Int)))))]) (fun y=>[(2,⟨false,stC r0 r1 p0 p1 (Jy r0 r1 s (b.take y.1))⟩)]) (fun y=>b.length-y.1) (⟨0,Nat.zero_le _⟩:{y:Nat//y≤b.length}) ?_ ?_ ?_
 · (simp only [go_sem,leX,List.cons_append,List.nil_append];try simp)
 · (simp only [stC,Jy,List.take_zero,List.foldl_nil,Ak,go_sem,leX,List.cons_append,List.nil_append];try simp [stC,Jy,Ak,leX,look])
 intro ⟨i,hi⟩ zN zM zhN zhM
 simp only [List.cons_append,List.nil_append]
 have hd:(i<b.length∧(Jy r0 r1 s (b.take i)).rest.length=15)∨(i<b.length∧¬(Jy r0 r1 s (b.take i)).rest.length=15)∨i=b.length:=by
  by_cases h1:i=b.length
  · exact .inr (.inr h1)
  · by_cases h2:(Jy r0 r1 s (b.take i)).rest.length=15
    · exact .inl ⟨by omega,h2⟩
    · exact .inr (.inl ⟨by omega,h2⟩)
 rcases hd with ⟨hlt,h15⟩|⟨hlt,h15⟩|rfl
 · obtain ⟨⟨⟨qa,qb,qc⟩,q⟩,hq⟩: ∃ q,Jy r0 r1 s (b.take i)=q:=⟨_,rfl⟩
   have hqok:PSt.ok ⟨⟨qa,qb,qc⟩,q⟩:=hq▸c0d hs
   have hq15:q.length≤15:=hqok.1
   have hsn:=o0c (r0:=r0) (r1:=r1) (s:=s) hlt
   rw [hq] at hsn
   have hpq:=Ij (r:=q) (by omega)
   have hps:=t0u (r:=q) (by omega) (b.getD i 0)
   simp only [hq,stC]
   have hcq:=i1d hlt
   have hc0:(0:Int)≤((i:Nat):Int):=by omega
   have hg0:=Iw hlt
   have hc1:(0:Int)≤((q.length:Nat):Int):=by omega
   have hc2:((q.length:Nat):Int)<16:=by omega
   have hc3:q.length+1≤16:=by omega
   have hc4:q.length<16:=by omega
   have hpt:=Xx q
   have hput:Aq q++[L.pl (PL.u8 (b.getD i 0))]++Aq (List.drop (q.length+1) (Pz q))=Aq (Pz (q++[b.getD i 0])):=by rw [←hps];simp [Aq]
   have hpl2:=Ij (r:=q++[b.getD i 0]) (by simp;omega)
   have hle3:(16≤q.length+1+(List.drop (q.length+1) (Pz q)).length)=True:=eq_true (by rw [List.length_drop,hpq];omega)
   obtain ⟨hs1,hs2⟩:Go.RowKit.wrap64 (((i:Nat):Int)+1)=((i+1:Nat):Int)∧Go.RowKit.wrap64 (((q.length:Nat):Int)+1)=((q.length+1:Nat):Int):=⟨Kv (by omega) (by omega),Kv (by omega) (by omega)⟩
   rw [hq] at h15
   simp only at h15
   have hq16:(q++[b.getD i 0]).length=16:=by rw [List.length_append,h15];rfl
   have hpf:Pz (q++[b.getD i 0])=q++[b.getD i 0]:=by rw [Pz,hq16];simp
   have hce:((q.length+1:Nat):Int)=16:=by omega
   have hst:j0a r0 r1 ⟨⟨qa,qb,qc⟩,q⟩ (b.getD i 0)=⟨g0c r0 r1 ⟨qa,qb,qc⟩ (q++[b.getD i 0]),[]⟩:=by unfold j0a;rw [if_pos h15]
   rw [hst] at hsn
   have F8:=And.intro hput<|And.intro hpl2<|And.intro hle3<|And.intro hcq<|And.intro hc0<|And.intro hg0<|And.intro hc1<|And.intro hc2<|And.intro hc3<|And.intro hc4<|And.intro hpq<|And.intro hpt<|And.intro hs1<|And.intro hs2<|hce
   iterate 24 first
    |refine zhK _ ?_
    |(refine Dz fun zK zhK=>?_;simp only [go_sem,Ak,hpl,he,F8];(repeat' (first|apply And.intro|intro _)))
    |(refine zhN _ ?_;clear zhN zhM)
    |(refine Cv fun zK zhK=>?_;simp only [go_sem,Ak,hpl,he,F8];(repeat' (first|apply And.intro|intro _)))
    |refine Cq ?_
    |refine Cx fun zB zbn zbx zbr zbi=>?_
    |(refine zbn _ ?_;clear zbn zbx zbr zbi)
    |((all_goals (refine Cy (fun k=>k) (fun _ _=>rfl) ?_ ((f1k r0 r1 p0 p1 qa qb qc (Pz (q++[b.getD i 0])) hpl2 hqok.2 hr).plain fun _ _ h=>h) ?_;focus (first|rfl|(simp only [go_sem,Ak,hpl,he,F8]<;>rfl))));(all_goals (rintro v m ⟨hR,hm⟩;subst hR;subst hm));(all_goals refine And.intro (by first|rfl|simp only [go_sem,Ak,hpl,he,F8]) (And.intro (by first|rfl|simp only [go_sem,Ak,hpl,he,F8]) ?_));(all_goals simp only [go_sem,Ak,hpl,he,F8]);(all_goals repeat' (first|apply And.intro|intro _)))
    |refine Bq fun zN zM zhN zhM=>?_
    |(refine Bz ?_ ?_;focus (first|rfl|(simp [go_sem,Ak,hpl,he,F8];done)))
   refine zhN ⟨i+1,hlt⟩ _ ?_ ?_ ?_
   · (show b.length-(i+1)<b.length-i;clear hs1 hs2;omega)
   · (simp only [go_sem,leX,List.cons_append,List.nil_append];try simp)
   · (simp only [hsn,hpf,stC,Ak,g0c,go_sem,leX,List.cons_append,List.nil_append];first|done|(simp [hsn,hpf,stC,Ak,g0c,Pz,leX,look];done)|rfl)
 · obtain ⟨⟨⟨qa,qb,qc⟩,q⟩,hq⟩: ∃ q,Jy r0 r1 s (b.take i)=q:=⟨_,rfl⟩
   have hqok:PSt.ok ⟨⟨qa,qb,qc⟩,q⟩:=hq▸c0d hs
   have hq15:q.length≤15:=hqok.1
   have hsn:=o0c (r0:=r0) (r1:=r1) (s:=s) hlt
   rw [hq] at hsn
   have hpq:=Ij (r:=q) (by omega)
   have hps:=t0u (r:=q) (by omega) (b.getD i 0)
   simp only [hq,stC]
   have hcq:=i1d hlt
   have hc0:(0:Int)≤((i:Nat):Int):=by omega
   have hg0:=Iw hlt
   have hc1:(0:Int)≤((q.length:Nat):Int):=by omega
   have hc2:((q.length:Nat):Int)<16:=by omega
   have hc3:q.length+1≤16:=by omega
   have hc4:q.length<16:=by omega
   have hpt:=Xx q
   have hput:Aq q++[L.pl (PL.u8 (b.getD i 0))]++Aq (List.drop (q.length+1) (Pz q))=Aq (Pz (q++[b.getD i 0])):=by rw [←hps];simp [Aq]
   have hpl2:=Ij (r:=q++[b.getD i 0]) (by simp;omega)
   have hle3:(16≤q.length+1+(List.drop (q.length+1) (Pz q)).length)=True:=eq_true (by rw [List.length_drop,hpq];omega)
   obtain ⟨hs1,hs2⟩:Go.RowKit.wrap64 (((i:Nat):Int)+1)=((i+1:Nat):Int)∧Go.RowKit.wrap64 (((q.length:Nat):Int)+1)=((q.length+1:Nat):Int):=⟨Kv (by omega) (by omega),Kv (by omega) (by omega)⟩
   rw [hq] at h15
   simp only at h15
   have hce:(((q.length+1:Nat):Int)=16)=False:=eq_false (by omega)
   have hst:j0a r0 r1 ⟨⟨qa,qb,qc⟩,q⟩ (b.getD i 0)=⟨⟨qa,qb,qc⟩,q++[b.getD i 0]⟩:=by unfold j0a;rw [if_neg h15]
   rw [hst] at hsn
   have F18:=And.intro hput<|And.intro hpl2<|And.intro hle3<|And.intro hcq<|And.intro hc0<|And.intro hg0<|And.intro hc1<|And.intro hc2<|And.intro hc3<|And.intro hc4<|And.intro hpq<|And.intro hpt<|And.intro hs1<|And.intro hs2<|hce
   iterate 22 first
    |refine zhK _ ?_
    |(refine Dz fun zK zhK=>?_;simp only [go_sem,Ak,hpl,he,F18];(repeat' (first|apply And.intro|intro _)))
    |refine Cq ?_
    |(refine zhN _ ?_;clear zhN zhM)
    |refine Cx fun zB zbn zbx zbr zbi=>?_
    |(refine zbn _ ?_;clear zbn zbx zbr zbi)
    |(refine Cv fun zK zhK=>?_;simp only [go_sem,Ak,hpl,he,F18];(repeat' (first|apply And.intro|intro _)))
    |refine Bq fun zN zM zhN zhM=>?_
    |(refine Bz ?_ ?_;focus (first|rfl|(simp [go_sem,Ak,hpl,he,F18];done)))
    |(refine Bj ?_ ?_;focus (first|rfl|(simp [go_sem,Ak,hpl,he,F18];done)))
   refine zhN ⟨i+1,hlt⟩ _ ?_ ?_ ?_
   · (show b.length-(i+1)<b.length-i;clear hs1 hs2;omega)
   · (simp only [go_sem,leX,List.cons_append,List.nil_append];try simp)
   · (simp only [hsn,stC,Ak,go_sem,leX,List.cons_append,List.nil_append];first|done|(simp [hsn,stC,Ak,leX,look];done)|rfl)
 · obtain ⟨⟨⟨qa,qb,qc⟩,q⟩,hq⟩: ∃ q,Jy r0 r1 s (b.take b.length)=q:=⟨_,rfl⟩
   have hqok:PSt.ok ⟨⟨qa,qb,qc⟩,q⟩:=hq▸c0d hs
   have hq15:q.length≤15:=hqok.1
   have hpq:=Ij (r:=q) (by omega)
   simp only [hq,stC]
   rw [List.take_length] at hq
   have hcq:¬((b.length:Nat):Int)<((b.length:Nat):Int):=by omega
   iterate 13 first
    |(refine Dz fun zK zhK=>?_;simp only [go_sem,Ak,hpl,he,hcq,hpq];(repeat' (first|apply And.intro|intro _)))
    |refine zhK _ ?_
    |(refine zhM _ _ ?_;clear zhN zhM)
    |refine Fx ?_
    |(refine zbx _ ?_;clear zbn zbx zbr zbi)
    |(refine zhN _ ?_;clear zhN zhM)
    |refine Ck ?_
    |(refine zhZ _ _ ?_;simp only [go_sem,Ak,hpl,he,hcq,hpq];(all_goals (rw [hq];simp only [stC,Ak])))
    |refine Bq fun zN zM zhN zhM=>?_
    |(refine Bj ?_ ?_;focus (first|rfl|(simp [go_sem,Ak,hpl,he,hcq,hpq];done)))
end Go.Sy
namespace Go.Sy
open Go.Proofs
attribute [local irreducible] Fz HT Cw Oj onC onE onO onG goV goA goS Qv Ey
theorem u1e (r0 r1 p0 p1:UInt64) (s:PSt) (hs:s.ok) (hr0:r0&&&~~~1152921487695413247=0) (hr1:r1&&&~~~1152921487695413244=0) (b:List UInt8) (hbl:b.length≤140737488355328) (ex:Bool):
 Ct Tryd.prog 59 [.w (.agg (Ak r0 r1 p0 p1 s.acc.a s.acc.b s.acc.c (Pz s.rest) (s.rest.length:Nat))),.w (.one (.pl (.R ex 1 (Aw b))))] (fun v m=>v=.tup [.agg (stC r0 r1 p0 p1 (Jy r0 r1 s b)),.one (.pl (.i 0))]):=by
 have hpl:=Ij (r:=s.rest) (by have:=hs.1;omega)
 have he:=d0v (b1i hs hr0 hr1)
 have hr:=b1s hr1
 have h15:=hs.1
 have hc1:(0:Int)≤((s.rest.length:Nat):Int):=by omega
 have hc2:((s.rest.length:Nat):Int)≤16:=by omega
 have hpt:=Xx s.rest
 have hml:s.rest.length+b.length≤9223372036854775807:=by omega
 have hle:s.rest.length≤16:=by omega
 have F0:=And.intro hpl<|And.intro he<|And.intro hc1<|And.intro hc2<|And.intro hpt<|And.intro hml<|hle
 refine Ct.k Tryd.func59 rfl Tryd.ntmps59 (congrArg Array.toList Tryd.results59) (by simp) fun w0 ro=>?_
 refine Dx fun zZ zhZ=>?_
 iterate 17 first
  |(refine Dz fun zK zhK=>?_;simp only [go_sem,Ak,Nat.sub_zero,Nat.zero_add,F0];(repeat' (first|apply And.intro|intro _)))
  |refine zhK _ ?_
  |refine Cq ?_
  |(refine zhN _ ?_;clear zhN zhM)
  |(refine d0c (id:=5) [17,18,19,20,21,22,23,8] [0,1,3,7,0,16,63,127] [] mixed (by kernel_rfl) (by simp only [go_sem]) fun zK zhK=>?_;simp only [go_sem,Ak,Nat.sub_zero,Nat.zero_add,F0];(repeat' (first|apply And.intro|intro _)))
  |refine zhK _ _ trivial ?_
  |refine Cx fun zB zbn zbx zbr zbi=>?_
  |((all_goals (refine Cy (fun k=>k) (fun _ _=>rfl) ?_ ((j0b r0 r1 p0 p1 s.acc.a s.acc.b s.acc.c (Pz s.rest) hpl (s.rest.length:Nat)).plain fun _ _ h=>h) ?_;focus (first|rfl|(simp only [go_sem,Ak,Nat.sub_zero,Nat.zero_add,F0]<;>rfl))));(all_goals (rintro v m ⟨hR,hm⟩;subst hR;subst hm));(all_goals refine And.intro (by first|rfl|simp only [go_sem,Ak,Nat.sub_zero,Nat.zero_add,F0]) (And.intro (by first|rfl|simp only [go_sem,Ak,Nat.sub_zero,Nat.zero_add,F0]) ?_));(all_goals simp only [go_sem,Ak,Nat.sub_zero,Nat.zero_add,F0]);(all_goals repeat' (first|apply And.intro|intro _)))
  |refine Bq fun zN zM zhN zhM=>?_
  |(refine Bj ?_ ?_;focus (first|rfl|(simp [go_sem,Ak,Nat.sub_zero,Nat.zero_add,F0];done)))
 refine Fq [0,1,6,7,9,10,11,12,13,14,15,16,17,18,19,20,21,22,23] ?_
 simp only [Gz,Gj,Fj,List.contains_cons,List.contains_nil,Nat.reduceBEq,beq_self_eq_true,Bool.or_false,Bool.or_true,Bool.true_or,Bool.false_or,Bool.false_eq_true,reduceIte]
 refine Ik (fun y=>[(8,.w (.one (.pl (.str y.1.2.2.2))))]) (fun y=>[(2,⟨false,Ak r0 r1 p0 p1 y.1.1.a y.1.1.b y.1.1.c y.1.2.1 y.1.2.2.1⟩)]) (fun y=>y.1.2.2.2.length) (⟨(s.acc,Pz s.rest,(s.rest.length:Nat),s.rest++b),hpl,hs.2,rfl,by simp⟩:{y:T3×List UInt8×Int×List UInt8//y.2.1.length=16∧Oy y.1.a y.1.b y.1.c<pP∧Jy r0 r1 ⟨y.1,[]⟩ y.2.2.2=Jy r0 r1 ⟨s.acc,[]⟩ (s.rest++b)∧y.2.2.2.length≤s.rest.length+b.length}) ?_ ?_ ?_
 · (simp only [go_sem,leX,List.cons_append,List.nil_append];try simp)
 · (simp only [Ak,go_sem,leX,List.cons_append,List.nil_append];try simp [Ak,leX,look])
 intro yy zN zM zhN zhM
 simp only [List.cons_append,List.nil_append]
 obtain ⟨⟨q,h,k,t⟩,hh,hv,ht,hl⟩:=yy
 rcases Nat.lt_or_ge t.length 16 with hlt|hge
 rotate_left
 · simp only at hh hv ht hl
   obtain ⟨qa,qb,qc⟩:=q
   simp only at hh hv ht hl
   have ha4:qc.toNat<4:=by
    simp only [Oy,pP] at hv
    have:=qa.toNat_lt;have:=qb.toNat_lt
    omega
   have hcq:(16:Int)≤((t.length:Nat):Int):=by omega
   have hc1:((t.length:Nat):Int).toNat=t.length:=Int.toNat_natCast _
   have hbk:=v0p (r0:=r0) (r1:=r1) (a:=⟨qa,qb,qc⟩) hge
   have htd:List.take (t.length-16) (List.drop 16 t)=List.drop 16 t:=List.take_of_length_le (by simp)
   have F9:=And.intro hh<|And.intro hcq<|And.intro hc1<|htd
   refine Bq fun zN zM zhN zhM=>?_
   refine Dz fun zK zhK=>?_
   simp only [go_sem,Ak,Nat.sub_zero,Nat.zero_add,F0,F9]
   repeat' (first|apply And.intro|intro _)
   refine zhK _ ?_
   (refine Bz ?_ ?_;focus (first|rfl|(simp [go_sem,Ak,Nat.sub_zero,Nat.zero_add,F0,F9];done)))
   refine Cq ?_
   refine zhN _ ?_;clear zhN zhM
   refine Cx fun zB zbn zbx zbr zbi=>?_
   refine Kk (id:=7) [27,28,29,30,31,32,8] [0,0,2,7,0,16,15,127] [(4,6),(5,6)] mixed (by kernel_rfl) (by simp only [go_sem]) fun zK zhK=>?_
   simp only [go_sem,Ak,Nat.sub_zero,Nat.zero_add,F0,F9]
   repeat' (first|apply And.intro|intro _)
   all_goals (refine Dv (fun k=>k) _ [] (fun _ _=>rfl) ?_ ((a1d r0 r1 p0 p1 qa qb qc h hh k ha4 (t.take 16) (by rw [List.length_take];omega)).plain fun _ _ h=>h) ?_ ?_;focus (first|rfl|(simp only [go_sem,Ak,Nat.sub_zero,Nat.zero_add,F0,F9]<;>rfl)))
   all_goals try (refine And.intro ?_ (And.intro ?_ (And.intro ?_ ?_))<;>first|rfl|simp only [go_sem])
   all_goals simp only [go_sem,Ak,Nat.sub_zero,Nat.zero_add,F0,F9]
   all_goals repeat' (first|apply And.intro|intro _)
   refine zhK _ _ ?_ ?_
   focus (first|trivial|(simp only [go_sem];done)|(simp only [go_sem];simp;done)|(simp only [go_sem];simp;simp only [go_sem]))
   refine zbn _ ?_;clear zbn zbx zbr zbi
   refine zhN ⟨(g0c r0 r1 ⟨qa,qb,qc⟩ (t.take 16),List.replicate 16 0,0,t.drop 16),by simp,s0t _ _ _ _,by rw [←ht,hbk],by simp only [List.length_drop];omega⟩ _ ?_ ?_ ?_
   · (show (t.drop 16).length<t.length;rw [List.length_drop];omega)
   · (simp only [go_sem,leX,List.cons_append,List.nil_append];try simp)
   · (simp only [g0c,Ak,go_sem,leX,List.cons_append,List.nil_append];first|done|(simp [g0c,Ak,leX,look];done)|rfl)
 · simp only at hh hv ht hl
   obtain ⟨qa,qb,qc⟩:=q
   simp only at hh hv ht hl
   have ha4:qc.toNat<4:=by
    simp only [Oy,pP] at hv
    have:=qa.toNat_lt;have:=qb.toNat_lt
    omega
   have hcq:¬(16:Int)≤((t.length:Nat):Int):=by omega
   have hsh:=a0w (r0:=r0) (r1:=r1) (a:=⟨qa,qb,qc⟩) (r:=[]) (l:=t) (by simp;omega)
   rw [List.nil_append] at hsh
   have hres:Jy r0 r1 s b=⟨⟨qa,qb,qc⟩,t⟩:=by
    rw [←hsh,ht]
    exact y0z hs.1 b
   have hmi:min t.length 16=t.length:=by omega
   have hmi2:min 16 t.length=t.length:=by omega
   have htk:List.take t.length t=t:=List.take_length
   have hdr:List.drop t.length (List.replicate 16 (0:UInt8))=List.replicate (16-t.length) 0:=List.drop_replicate
   have hpt:t++List.replicate (16-t.length) 0=Pz t:=rfl
   have hpl2:=Ij (r:=t) (by omega)
   have F13:=And.intro hh<|And.intro hcq<|And.intro hmi<|And.intro hmi2<|And.intro htk<|And.intro hdr<|And.intro hpt<|hpl2
   refine Bq fun zN zM zhN zhM=>?_
   iterate 10 first
    |(refine Dz fun zK zhK=>?_;simp only [go_sem,Ak,Nat.sub_zero,Nat.zero_add,F0,F13];(repeat' (first|apply And.intro|intro _)))
    |refine zhK _ ?_
    |(refine zhM _ _ ?_;clear zhN zhM)
    |refine Fx ?_
    |(refine zbx _ ?_;clear zbn zbx zbr zbi)
    |(refine zhN _ ?_;clear zhN zhM)
    |(refine Bj ?_ ?_;focus (first|rfl|(simp [go_sem,Ak,Nat.sub_zero,Nat.zero_add,F0,F13];done)))
   refine Bq fun zN zM zhN zhM=>?_
   refine s0n (id:=9) [38,39,40,41] (by simp only [go_sem]) fun zK zhK=>?_
   simp only [go_sem,Ak,Nat.sub_zero,Nat.zero_add,F0,F13]
   repeat' (first|apply And.intro|intro _)
   refine zhK _ _ ?_
   refine zhN _ ?_;clear zhN zhM
   refine Dz fun zK zhK=>?_
   simp only [go_sem,Ak,Nat.sub_zero,Nat.zero_add,F0,F13]
   repeat' (first|apply And.intro|intro _)
   refine zhK _ ?_
   refine Ck ?_
   refine zhZ _ _ ?_
   simp only [go_sem,Ak,Nat.sub_zero,Nat.zero_add,F0,F13]
   all_goals (rw [hres];simp only [stC,Ak])
end Go.Sy
namespace Go.Sy
open Go.Proofs
attribute [local irreducible] Fz HT Cw Oj onC onE onO onG goV goA goS Qv Ey
end Go.Sy
