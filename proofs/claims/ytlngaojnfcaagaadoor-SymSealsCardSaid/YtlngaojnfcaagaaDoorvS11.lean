/- Walks and what they compute. CONDITIONS: those that each theorem names. -/
import Derived.Test.YtlngaojnfcaagaaDoorvS10
import Derived.Test.YtlngaojnfcaagaaDoorvS2
import Derived.Test.YtlngaojnfcaagaaDoorvS4
set_option linter.unusedVariables false
set_option linter.unusedSimpArgs false
set_option maxHeartbeats 1600000
set_option maxRecDepth 100000
namespace Go.Sy
def nB (v:Nat):Nat→List UInt8
 |0=>[]
 |k+1=>UInt8.ofNat v::nB (v/256) k
theorem u0f : ∀ (v k:Nat),(nB v k).length=k
 |_,0=>rfl
 |v,k+1=>by simp [nB,u0f]
theorem u0g : ∀ (j v k:Nat),nB v (j+k)=nB v j++nB (v/256 ^ j) k
 |0,v,k=>by simp [nB]
 |j+1,v,k=>by
  rw [show j+1+k=(j+k)+1 from by omega]
  simp only [nB,List.cons_append,u0g j]
  rw [Nat.div_div_eq_div_mul,show 256 ^ (j+1)=256*256 ^ j from by rw [Nat.pow_succ,Nat.mul_comm]]
theorem h1m : ∀ (k v:Nat),nB (v%256 ^ k) k=nB v k
 |0,v=>rfl
 |k+1,v=>by
  simp only [nB]
  have e:v%256 ^ (k+1)=v%256+256*(v/256%256 ^ k):=by rw [show 256 ^ (k+1)=256*256 ^ k from by rw [Nat.pow_succ,Nat.mul_comm],Nat.mod_mul]
  have e1:UInt8.ofNat (v%256 ^ (k+1))=UInt8.ofNat v:=by
   apply UInt8.toNat_inj.mp
   simp only [UInt8.toNat_ofNat',e];omega
  have e2:v%256 ^ (k+1)/256=v/256%256 ^ k:=by rw [e];omega
  rw [e1,e2,h1m k]
theorem w0r : ∀ (k:Nat) (n:UInt64),Mk n k=nB n.toNat k
 |0,_=>rfl
 |k+1,n=>by
  have e:(n/256).toNat=n.toNat/256:=by rw [UInt64.toNat_div];rfl
  simp only [Mk,nB,w0r k,e]
def v0t :Nat→List UInt8→List UInt8→List UInt8
 |c,a::as',b::bs=>UInt8.ofNat (c+a.toNat+b.toNat)::v0t ((c+a.toNat+b.toNat)/256) as' bs
 |_,_,_=>[]
theorem l1j : ∀ (as' bs:List UInt8) (c:Nat),as'.length=bs.length→v0t c as' bs=nB (c+leN as'+leN bs) as'.length
 | [],[],_,_=>rfl
 | [],_::_,_,h=>by simp at h
 |_::_,[],_,h=>by simp at h
 |a::as',b::bs,c,h=>by
  simp only [v0t,List.length_cons,nB,leN]
  have e1:UInt8.ofNat (c+(a.toNat+256*leN as')+(b.toNat+256*leN bs))=UInt8.ofNat (c+a.toNat+b.toNat):=by
   apply UInt8.toNat_inj.mp
   simp only [UInt8.toNat_ofNat'];omega
  have e2:(c+(a.toNat+256*leN as')+(b.toNat+256*leN bs))/256=(c+a.toNat+b.toNat)/256+leN as'+leN bs:=by omega
  rw [e1,e2,l1j as' bs _ (by simpa using h)]
def v0s (a0 a1 p0 p1:UInt64):List UInt8:=nB (a0.toNat+a1.toNat*18446744073709551616+(p0.toNat+p1.toNat*18446744073709551616)) 16
theorem Ez (a0 a1 p0 p1:UInt64):(v0s a0 a1 p0 p1).length=16:=u0f _ _
theorem i1i (a b:UInt64):leN (Mk a 8++Mk b 8)=a.toNat+b.toNat*18446744073709551616:=by
 rw [a0d,h0m,h0m,Av]
 have e:(256:Nat) ^ 8=18446744073709551616:=rfl
 have ha:=a.toNat_lt
 have hb:=b.toNat_lt
 rw [e,Nat.mod_eq_of_lt ha,Nat.mod_eq_of_lt hb];omega
theorem j1q (a0 a1 p0 p1:UInt64):v0t 0 (Mk a0 8++Mk a1 8) (Mk p0 8++Mk p1 8)=v0s a0 a1 p0 p1:=by
 rw [l1j _ _ _ (by simp [Av]),i1i,i1i,v0s,Nat.zero_add]
 simp [Av]
theorem a1t (a0 a1 p0 p1:UInt64):Mk (adS a0 p0 0) 8++Mk (adS a1 p1 (adC a0 p0 0)) 8=v0s a0 a1 p0 p1:=by
 obtain ⟨h1,h2⟩:=Vk a0 p0 (c:=0) (by decide)
 obtain ⟨h3,h4⟩:=Vk a1 p1 h2
 have z:(0:UInt64).toNat=0:=rfl
 rw [z] at h1
 rw [w0r,w0r,v0s,show 16=8+8 from rfl,u0g,←h1m 8 (_+_),←h1m 8 (_/_)]
 have e:(256:Nat) ^ 8=18446744073709551616:=rfl
 have b1:=(adS a0 p0 0).toNat_lt
 have b2:=(adS a1 p1 (adC a0 p0 0)).toNat_lt
 rw [e]
 generalize (adS a1 p1 (adC a0 p0 0)).toNat=u2 at*
 generalize (adC a1 p1 (adC a0 p0 0)).toNat=u3 at*
 generalize (adS a0 p0 0).toNat=u0 at*
 generalize (adC a0 p0 0).toNat=u1 at*
 generalize a0.toNat=x0 at*
 generalize a1.toNat=x1 at*
 generalize p0.toNat=y0 at*
 generalize p1.toNat=y1 at*
 have e1:(x0+x1*18446744073709551616+(y0+y1*18446744073709551616))%18446744073709551616=u0:=by omega
 have e2:(x0+x1*18446744073709551616+(y0+y1*18446744073709551616))/18446744073709551616%18446744073709551616=u2:=by omega
 rw [e1,e2]
theorem h0e (x:UInt64):Mk x 8=[(Mj x 0).toUInt8,(Mj x 8).toUInt8,(Mj x 16).toUInt8,(Mj x 24).toUInt8,(Mj x 32).toUInt8,(Mj x 40).toUInt8,(Mj x 48).toUInt8,(Mj x 56).toUInt8]:=by
 have e: ∀ y:UInt64,(y/256).toNat=y.toNat/256:=fun y=>by rw [UInt64.toNat_div];rfl
 have g: ∀ (y:UInt64) (n:Nat),y.toNat=n→UInt8.ofNat n=y.toUInt8:=fun y n h=>by
  apply UInt8.toNat_inj.mp
  rw [←h,UInt8.toNat_ofNat',UInt64.toNat_toUInt8]
 simp only [Mk,List.cons.injEq,and_true]
 refine ⟨?_,?_,?_,?_,?_,?_,?_,?_⟩
 all_goals refine g _ _ ?_
 all_goals simp only [Yk,e,Nat.div_div_eq_div_mul]
 all_goals simp
def o0h (r0 r1:UInt64) (s:PSt):T3:=if s.rest.length=0 then s.acc else g0c r0 r1 s.acc s.rest
end Go.Sy
namespace Go.Sy
open Go.Proofs
attribute [local irreducible] Fz HT Cw Oj onC onE onO onG goV goA goS Qv Ey
theorem f1j (r0 r1 p0 p1 a0 a1 a2:UInt64) (held:List UInt8) (hh:held.length=16) (ha:Oy a0 a1 a2<pP) (hr:r1.toNat<1152921504606846976) (k:Nat) (hk:k<16) (hz: ∀ j,k≤j→j<16→held.getD j 0=0):Ct Tryd.prog 68 [.w (.agg (Ak r0 r1 p0 p1 a0 a1 a2 held (k:Int)))] (fun v m=>v=.w (.agg (Ak r0 r1 p0 p1 (sp0 (Pk a0 a1 a2 r0 r1 (held.take k))) (sp1 (Pk a0 a1 a2 r0 r1 (held.take k))) (sp2 (Pk a0 a1 a2 r0 r1 (held.take k))) (List.replicate 16 0) 0))):=by
 rcases Nat.lt_or_ge k 8 with h8|h8
 · exact t1h r0 r1 p0 p1 a0 a1 a2 held hh ha hr k hk hz h8
 · exact t1i r0 r1 p0 p1 a0 a1 a2 held hh ha hr k hk hz h8
theorem z16 :Aq (List.replicate 16 0)=[.pl (.u8 0),.pl (.u8 0),.pl (.u8 0),.pl (.u8 0),.pl (.u8 0),.pl (.u8 0),.pl (.u8 0),.pl (.u8 0),.pl (.u8 0),.pl (.u8 0),.pl (.u8 0),.pl (.u8 0),.pl (.u8 0),.pl (.u8 0),.pl (.u8 0),.pl (.u8 0)]:=rfl
theorem a2x (r0 r1 p0 p1:UInt64) (s:PSt) (hs:s.ok) (hr0:r0&&&~~~1152921487695413247=0) (hr1:r1&&&~~~1152921487695413244=0) (h0:s.rest.length=0):
 Ct Tryd.prog 53 [.w (.agg (Ak r0 r1 p0 p1 s.acc.a s.acc.b s.acc.c (Pz s.rest) (s.rest.length:Nat)))] (fun v m=>v=.tup [.agg (Aq (v0s (o0h r0 r1 s).a (o0h r0 r1 s).b p0 p1)),.one (.pl (.i 0))]):=by
 have h15:=hs.1
 have hpl:=Ij (r:=s.rest) (by omega)
 have hpt:=Xx s.rest
 have hpz:=b0k (r:=s.rest) (by omega)
 have he:=d0v (b1i hs hr0 hr1)
 have hr:=b1s hr1
 have hfa:o0h r0 r1 s=s.acc:=if_pos h0
 have hn0:¬(0:Int)<((s.rest.length:Nat):Int):=by omega
 have F0:=And.intro hpl<|And.intro hpt<|And.intro he<|hn0
 refine Ct.k Tryd.func53 rfl Tryd.ntmps53 (congrArg Array.toList Tryd.results53) (by simp) fun w0 ro=>?_
 refine Dx fun zZ zhZ=>?_
 iterate 188 first
  |(refine Dj (x:=.seq (.region 10 _ _) _) [10,44,45,46,47,48,49,50,51,52,53,54,55,56,57,58,59,60,61] ?_;simp only [go_sem,St.forget,fgt];refine Hw fun zN zM zhN zhM=>?_)
  |refine Hw fun zN zM zhN zhM=>?_
  |refine zhK _ ?_
  |(refine zhN _ ?_;clear zhN zhM)
  |(refine Dz fun zK zhK=>?_;simp only [go_sem,Ak,z16,ic0,ic1,ic2,ic3,ic4,ic5,F0];(repeat' (first|apply And.intro|intro _)))
  |refine Cq ?_
  |refine Cx fun zB zbn zbx zbr zbi=>?_
  |(refine Kk (id:=12) [46,47,48,49,50,51,52,53,54,55,56,57,58,59,60] [0,0,2,0,0,16,56,120,0,0,512,1792,3840,249,8441,32767,65535] [(1,14),(2,14),(8,14),(9,14),(10,14),(11,14),(12,14)] mixed (by kernel_rfl) (by simp only [go_sem]) fun zK zhK=>?_;simp only [go_sem,Ak,z16,ic0,ic1,ic2,ic3,ic4,ic5,F0];(repeat' (first|apply And.intro|intro _)))
  |(refine zhK _ _ ?_ ?_;(focus (first|trivial|(simp only [go_sem];done)|(simp only [go_sem];simp;done)|(simp only [go_sem];simp;simp only [go_sem]))))
  |(refine zbn _ ?_;clear zbn zbx zbr zbi)
  |(refine Cv fun zK zhK=>?_;simp only [go_sem,Ak,z16,ic0,ic1,ic2,ic3,ic4,ic5,F0];(repeat' (first|apply And.intro|intro _)))
  |(refine zhM _ _ ?_;clear zhN zhM)
  |refine Fw (x:=.seq (.region 10 _ _) _) 9 ?_
  |refine Fx ?_
  |(refine zbx _ ?_;clear zbn zbx zbr zbi)
  |refine Ck ?_
  |(refine zhZ _ _ ?_;simp only [go_sem,Ak,z16,ic0,ic1,ic2,ic3,ic4,ic5,F0];(all_goals (rw [hfa,←a1t,h0e,h0e];rfl)))
  |((all_goals refine l0q (by first|rfl|(simp only [go_sem,Ak,z16,ic0,ic1,ic2,ic3,ic4,ic5,F0]<;>rfl)) (h0c _ _ _ (by first|decide|exact (Vk _ _ (by decide)).2|exact (Vk _ _ ((Vk _ _ (by decide)).2)).2)) ?_);(all_goals simp only [go_sem,Ak,z16,ic0,ic1,ic2,ic3,ic4,ic5,F0]);(all_goals repeat' (first|apply And.intro|intro _)))
  |((all_goals (refine Cy (fun k=>k) (fun _ _=>rfl) ?_ ((j0c r0 r1 p0 p1 s.acc.a s.acc.b s.acc.c (Pz s.rest) hpl (s.rest.length:Nat)).plain fun _ _ h=>h) ?_;focus (first|rfl|(simp only [go_sem,Ak,z16,ic0,ic1,ic2,ic3,ic4,ic5,F0]<;>rfl))));(all_goals (rintro v m ⟨hR,hm⟩;subst hR;subst hm));(all_goals refine And.intro (by first|rfl|simp only [go_sem,Ak,z16,ic0,ic1,ic2,ic3,ic4,ic5,F0]) (And.intro (by first|rfl|simp only [go_sem,Ak,z16,ic0,ic1,ic2,ic3,ic4,ic5,F0]) ?_));(all_goals simp only [go_sem,Ak,z16,ic0,ic1,ic2,ic3,ic4,ic5,F0]);(all_goals repeat' (first|apply And.intro|intro _)))
  |refine Bq fun zN zM zhN zhM=>?_
  |(refine Bz ?_ ?_;focus (first|rfl|(simp [go_sem,Ak,z16,ic0,ic1,ic2,ic3,ic4,ic5,F0];done)))
  |(refine Bj ?_ ?_;focus (first|rfl|(simp [go_sem,Ak,z16,ic0,ic1,ic2,ic3,ic4,ic5,F0];done)))
theorem a2y (r0 r1 p0 p1:UInt64) (s:PSt) (hs:s.ok) (hr0:r0&&&~~~1152921487695413247=0) (hr1:r1&&&~~~1152921487695413244=0) (h0:0<s.rest.length):
 Ct Tryd.prog 53 [.w (.agg (Ak r0 r1 p0 p1 s.acc.a s.acc.b s.acc.c (Pz s.rest) (s.rest.length:Nat)))] (fun v m=>v=.tup [.agg (Aq (v0s (o0h r0 r1 s).a (o0h r0 r1 s).b p0 p1)),.one (.pl (.i 0))]):=by
 have h15:=hs.1
 have hpl:=Ij (r:=s.rest) (by omega)
 have hpt:=Xx s.rest
 have hpz:=b0k (r:=s.rest) (by omega)
 have he:=d0v (b1i hs hr0 hr1)
 have hr:=b1s hr1
 have hfa:o0h r0 r1 s=g0c r0 r1 s.acc s.rest:=if_neg (by omega)
 have hn0:(0:Int)<((s.rest.length:Nat):Int):=by omega
 have F0:=And.intro hpl<|And.intro hpt<|And.intro he<|hn0
 refine Ct.k Tryd.func53 rfl Tryd.ntmps53 (congrArg Array.toList Tryd.results53) (by simp) fun w0 ro=>?_
 refine Dx fun zZ zhZ=>?_
 iterate 190 first
  |(refine Dj (x:=.seq (.region 10 _ _) _) [10,44,45,46,47,48,49,50,51,52,53,54,55,56,57,58,59,60,61] ?_;simp only [go_sem,St.forget,fgt];refine Hw fun zN zM zhN zhM=>?_)
  |refine Hw fun zN zM zhN zhM=>?_
  |refine zhK _ ?_
  |(refine zhN _ ?_;clear zhN zhM)
  |(refine Dz fun zK zhK=>?_;simp only [go_sem,Ak,z16,ic0,ic1,ic2,ic3,ic4,ic5,F0];(repeat' (first|apply And.intro|intro _)))
  |refine Cq ?_
  |(refine Cv fun zK zhK=>?_;simp only [go_sem,Ak,z16,ic0,ic1,ic2,ic3,ic4,ic5,F0];(repeat' (first|apply And.intro|intro _)))
  |refine Cx fun zB zbn zbx zbr zbi=>?_
  |(refine Kk (id:=12) [46,47,48,49,50,51,52,53,54,55,56,57,58,59,60] [0,0,2,0,0,16,56,120,0,0,512,1792,3840,249,8441,32767,65535] [(1,14),(2,14),(8,14),(9,14),(10,14),(11,14),(12,14)] mixed (by kernel_rfl) (by simp only [go_sem]) fun zK zhK=>?_;simp only [go_sem,Ak,z16,ic0,ic1,ic2,ic3,ic4,ic5,F0];(repeat' (first|apply And.intro|intro _)))
  |(refine zhK _ _ ?_ ?_;(focus (first|trivial|(simp only [go_sem];done)|(simp only [go_sem];simp;done)|(simp only [go_sem];simp;simp only [go_sem]))))
  |(refine zbn _ ?_;clear zbn zbx zbr zbi)
  |(refine zhM _ _ ?_;clear zhN zhM)
  |refine Fw (x:=.seq (.region 10 _ _) _) 9 ?_
  |refine Fx ?_
  |(refine zbx _ ?_;clear zbn zbx zbr zbi)
  |refine Ck ?_
  |(refine zhZ _ _ ?_;simp only [go_sem,Ak,z16,ic0,ic1,ic2,ic3,ic4,ic5,F0];(all_goals (rw [hfa,←a1t,h0e,h0e];rfl)))
  |((all_goals refine l0q (by first|rfl|(simp only [go_sem,Ak,z16,ic0,ic1,ic2,ic3,ic4,ic5,F0]<;>rfl)) (h0c _ _ _ (by first|decide|exact (Vk _ _ (by decide)).2|exact (Vk _ _ ((Vk _ _ (by decide)).2)).2)) ?_);(all_goals simp only [go_sem,Ak,z16,ic0,ic1,ic2,ic3,ic4,ic5,F0]);(all_goals repeat' (first|apply And.intro|intro _)))
  |((all_goals (refine Cy (fun k=>k) (fun _ _=>rfl) ?_ ((j0c r0 r1 p0 p1 s.acc.a s.acc.b s.acc.c (Pz s.rest) hpl (s.rest.length:Nat)).plain fun _ _ h=>h) ?_;focus (first|rfl|(simp only [go_sem,Ak,z16,ic0,ic1,ic2,ic3,ic4,ic5,F0]<;>rfl))));(all_goals (rintro v m ⟨hR,hm⟩;subst hR;subst hm));(all_goals refine And.intro (by first|rfl|simp only [go_sem,Ak,z16,ic0,ic1,ic2,ic3,ic4,ic5,F0]) (And.intro (by first|rfl|simp only [go_sem,Ak,z16,ic0,ic1,ic2,ic3,ic4,ic5,F0]) ?_));(all_goals simp only [go_sem,Ak,z16,ic0,ic1,ic2,ic3,ic4,ic5,F0]);(all_goals repeat' (first|apply And.intro|intro _)))
  |((all_goals (refine Cy (fun k=>k) (fun _ _=>rfl) ?_ ((f1j r0 r1 p0 p1 s.acc.a s.acc.b s.acc.c (Pz s.rest) hpl hs.2 hr s.rest.length (by omega) hpz).plain fun _ _ h=>h) ?_;focus (first|rfl|(simp only [go_sem,Ak,z16,ic0,ic1,ic2,ic3,ic4,ic5,F0]<;>rfl))));(all_goals (rintro v m ⟨hR,hm⟩;subst hR;subst hm));(all_goals refine And.intro (by first|rfl|simp only [go_sem,Ak,z16,ic0,ic1,ic2,ic3,ic4,ic5,F0]) (And.intro (by first|rfl|simp only [go_sem,Ak,z16,ic0,ic1,ic2,ic3,ic4,ic5,F0]) ?_));(all_goals simp only [go_sem,Ak,z16,ic0,ic1,ic2,ic3,ic4,ic5,F0]);(all_goals repeat' (first|apply And.intro|intro _)))
  |refine Bq fun zN zM zhN zhM=>?_
  |(refine Bz ?_ ?_;focus (first|rfl|(simp [go_sem,Ak,z16,ic0,ic1,ic2,ic3,ic4,ic5,F0];done)))
  |(refine Bj ?_ ?_;focus (first|rfl|(simp [go_sem,Ak,z16,ic0,ic1,ic2,ic3,ic4,ic5,F0];done)))
theorem n1x (r0 r1 p0 p1:UInt64) (s:PSt) (hs:s.ok) (hr0:r0&&&~~~1152921487695413247=0) (hr1:r1&&&~~~1152921487695413244=0) (h0:s.rest.length=0):
 Ct Tryd.prog 61 [.w (.agg (Ak r0 r1 p0 p1 s.acc.a s.acc.b s.acc.c (Pz s.rest) (s.rest.length:Nat)))] (fun v m=>v=.tup [.agg (Aq (v0s (o0h r0 r1 s).a (o0h r0 r1 s).b p0 p1)),.one (.pl (.i 0))]):=by
 have h15:=hs.1
 have hpl:=Ij (r:=s.rest) (by omega)
 have hpt:=Xx s.rest
 have hpz:=b0k (r:=s.rest) (by omega)
 have he:=d0v (b1i hs hr0 hr1)
 have hr:=b1s hr1
 have ha4:s.acc.c.toNat<4:=by
  have hv:=hs.2
  simp only [Oy,pP] at hv
  have:=s.acc.a.toNat_lt;have:=s.acc.b.toNat_lt
  omega
 have hc1:(0:Int)≤((s.rest.length:Nat):Int):=by omega
 have hc2:((s.rest.length:Nat):Int)≤16:=by omega
 have hle:s.rest.length≤16:=by omega
 have hfa:o0h r0 r1 s=s.acc:=if_pos h0
 have hn0:¬(0:Int)<((s.rest.length:Nat):Int):=by omega
 have F0:=And.intro hpl<|And.intro hpt<|And.intro he<|And.intro hn0<|And.intro hc1<|And.intro hc2<|hle
 refine Ct.k Tryd.func61 rfl Tryd.ntmps61 (congrArg Array.toList Tryd.results61) (by simp) fun w0 ro=>?_
 refine Dx fun zZ zhZ=>?_
 iterate 35 first
  |(refine Dz fun zK zhK=>?_;simp only [go_sem,Ak,Av,Nat.sub_zero,Nat.zero_add,F0];(repeat' (first|apply And.intro|intro _)))
  |refine zhK _ ?_
  |refine Cq ?_
  |(refine zhN _ ?_;clear zhN zhM)
  |refine zhK _ _ trivial ?_
  |(refine d0c (id:=8) [28,29,30,31,32,33,34,35,36,7] [0,1,3,7,0,16,48,127,255,511] [] mixed (by kernel_rfl) (by simp only [go_sem]) fun zK zhK=>?_;simp only [go_sem,Ak,Av,Nat.sub_zero,Nat.zero_add,F0];(repeat' (first|apply And.intro|intro _)))
  |(refine d0c (id:=9) [37,38,39,40,41,42,43,44,45,8] [0,1,3,7,0,16,48,127,255,511] [] mixed (by kernel_rfl) (by simp only [go_sem]) fun zK zhK=>?_;simp only [go_sem,Ak,Av,Nat.sub_zero,Nat.zero_add,F0];(repeat' (first|apply And.intro|intro _)))
  |refine Cx fun zB zbn zbx zbr zbi=>?_
  |((all_goals refine Dv (fun k=>k) _ [] (fun _ _=>rfl) (by first|rfl|(simp only [go_sem,Ak,Av,Nat.sub_zero,Nat.zero_add,F0]<;>rfl)) ((e1e _ 8 (by decide)).plain fun _ _ h=>h) ?_ ?_);(all_goals try (refine And.intro ?_ (And.intro ?_ (And.intro ?_ ?_))<;>first|rfl|simp only [go_sem]));(all_goals simp only [go_sem,Ak,Av,Nat.sub_zero,Nat.zero_add,F0]);(all_goals repeat' (first|apply And.intro|intro _)))
  |((all_goals (refine Cy (fun k=>k) (fun _ _=>rfl) ?_ ((j0b r0 r1 p0 p1 s.acc.a s.acc.b s.acc.c (Pz s.rest) hpl (s.rest.length:Nat)).plain fun _ _ h=>h) ?_;focus (first|rfl|(simp only [go_sem,Ak,Av,Nat.sub_zero,Nat.zero_add,F0]<;>rfl))));(all_goals (rintro v m ⟨hR,hm⟩;subst hR;subst hm));(all_goals refine And.intro (by first|rfl|simp only [go_sem,Ak,Av,Nat.sub_zero,Nat.zero_add,F0]) (And.intro (by first|rfl|simp only [go_sem,Ak,Av,Nat.sub_zero,Nat.zero_add,F0]) ?_));(all_goals simp only [go_sem,Ak,Av,Nat.sub_zero,Nat.zero_add,F0]);(all_goals repeat' (first|apply And.intro|intro _)))
  |refine Bq fun zN zM zhN zhM=>?_
  |(refine Bj ?_ ?_;focus (first|rfl|(simp [go_sem,Ak,Av,Nat.sub_zero,Nat.zero_add,F0];done)))
 refine Fq [0,1,4,5,11,12,13,14,15,16,17,18,19,20,21,22,23,24,25,26,27,28,29,30,31,32,33,34,35,36,37,38,39,40,41,42,43,44,45] ?_
 simp only [Gz,Gj,Fj,List.contains_cons,List.contains_nil,Nat.reduceBEq,beq_self_eq_true,Bool.or_false,Bool.or_true,Bool.true_or,Bool.false_or,Bool.false_eq_true,reduceIte]
 refine Ik (fun y=>[(46,.w (.one (.pl (.i ((y.1.1:Nat):Int))))),(9,.w (.one (.pl (.i ((y.1.2.1:Nat):Int)))))]) (fun y=>[(6,⟨false,Aq y.1.2.2⟩)]) (fun y=>16-y.1.1) (⟨(0,0,List.replicate 16 0),Nat.zero_le _,Nat.zero_le _,by simp,rfl⟩:{y:Nat×Nat×List UInt8//y.1≤16∧y.2.1≤1∧y.2.2.length=16∧y.2.2.take y.1++v0t y.2.1 ((Mk s.acc.a 8++Mk s.acc.b 8).drop y.1) ((Mk p0 8++Mk p1 8).drop y.1)=v0t 0 (Mk s.acc.a 8++Mk s.acc.b 8) (Mk p0 8++Mk p1 8)}) ?_ ?_ ?_
 · (simp only [go_sem,leX,List.cons_append,List.nil_append];try simp)
 · (simp only [go_sem,leX,List.cons_append,List.nil_append];try simp)
 intro yy zN zM zhN zhM
 simp only [List.cons_append,List.nil_append]
 obtain ⟨⟨i,c,q⟩,hi,hc,hq,hv⟩:=yy
 simp only at hi hc hq hv
 have hev:=j1q s.acc.a s.acc.b p0 p1
 obtain ⟨al,hal⟩: ∃ al,Mk s.acc.a 8++Mk s.acc.b 8=al:=⟨_,rfl⟩
 obtain ⟨bl,hbl⟩: ∃ bl,Mk p0 8++Mk p1 8=bl:=⟨_,rfl⟩
 have lal:al.length=16:=by rw [←hal];simp [Av]
 have lbl:bl.length=16:=by rw [←hbl];simp [Av]
 rw [hal,hbl] at hv hev
 simp only [hal,hbl]
 rcases Nat.lt_or_ge i 16 with hlt|hge
 · obtain ⟨a,ha⟩: ∃ a,al.getD i 0=a:=⟨_,rfl⟩
   obtain ⟨b,hb⟩: ∃ b,bl.getD i 0=b:=⟨_,rfl⟩
   have hda:=drop_cons (l:=al) (j:=i) (by omega)
   have hdb:=drop_cons (l:=bl) (j:=i) (by omega)
   rw [ha] at hda
   rw [hb] at hdb
   rw [hda,hdb,v0t] at hv
   have a1:=a.toNat_lt
   have b1:=b.toNat_lt
   obtain ⟨x,hx⟩: ∃ x,UInt8.ofNat (c+a.toNat+b.toNat)=x:=⟨_,rfl⟩
   rw [hx] at hv
   have hcq:((i:Nat):Int)<16:=by omega
   have hc0:(0:Int)≤((i:Nat):Int):=by omega
   have hk2:i+1≤16:=by omega
   have hput:Aq (List.take i q)++[L.pl (PL.u8 x)]++Aq (List.drop (i+1) q)=Aq (q.take i++x::q.drop (i+1)):=by simp [Aq]
   have hmo:UInt8.ofNat ((((c+(a.toNat+b.toNat):Nat):Int)%256).toNat)=x:=by
    rw [←hx,show (((c+(a.toNat+b.toNat):Nat):Int)%256).toNat=(c+(a.toNat+b.toNat))%256 from by omega]
    apply UInt8.toNat_inj.mp
    simp only [UInt8.toNat_ofNat'];omega
   have htd:((c+(a.toNat+b.toNat):Nat):Int).tdiv 256=(((c+a.toNat+b.toNat)/256:Nat):Int):=by
    rw [show ((c+(a.toNat+b.toNat):Nat):Int).tdiv 256=(((c+(a.toNat+b.toNat))/256:Nat):Int) from rfl,Nat.add_assoc]
   have n1:(c+a.toNat+b.toNat)/256≤1:=by omega
   have n2:(q.take i++x::q.drop (i+1)).length=16:=by rw [List.length_append,List.length_cons,List.length_take,List.length_drop];omega
   have htl:(q.take i).length=i:=by rw [List.length_take];omega
   have n3:(q.take i++x::q.drop (i+1)).take (i+1)++v0t ((c+a.toNat+b.toNat)/256) (al.drop (i+1)) (bl.drop (i+1))=v0t 0 al bl:=by
    rw [←hv,List.take_append,htl,List.take_of_length_le (by omega),show i+1-i=1 from by omega,List.take_succ_cons,List.take_zero,List.append_assoc];rfl
   obtain ⟨hw1,hw2,hw4,hs1⟩:Go.RowKit.wrap64 (((a.toNat:Nat):Int)+((b.toNat:Nat):Int))=((a.toNat+b.toNat:Nat):Int)∧Go.RowKit.wrap64 (((c:Nat):Int)+((a.toNat+b.toNat:Nat):Int))=((c+(a.toNat+b.toNat):Nat):Int)∧Go.RowKit.wrap64 ((((c+a.toNat+b.toNat)/256:Nat):Int))=(((c+a.toNat+b.toNat)/256:Nat):Int)∧Go.RowKit.wrap64 (((i:Nat):Int)+1)=((i+1:Nat):Int):=⟨Kv (by omega) (by omega),Kv (by omega) (by omega),Kv rfl (by omega),Kv (by omega) (by omega)⟩
   have F15:=And.intro hcq<|And.intro hc0<|And.intro hk2<|And.intro hq<|And.intro lal<|And.intro lbl<|And.intro ha<|And.intro hb<|And.intro hput<|And.intro hmo<|And.intro htd<|And.intro hw1<|And.intro hw2<|And.intro hw4<|hs1
   iterate 20 first
    |refine zhK _ ?_
    |(refine Dz fun zK zhK=>?_;simp only [go_sem,Ak,Av,Nat.sub_zero,Nat.zero_add,F0,F15];(repeat' (first|apply And.intro|intro _)))
    |(refine zhN _ ?_;clear zhN zhM)
    |(refine Cv fun zK zhK=>?_;simp only [go_sem,Ak,Av,Nat.sub_zero,Nat.zero_add,F0,F15];(repeat' (first|apply And.intro|intro _)))
    |refine Cq ?_
    |refine Cx fun zB zbn zbx zbr zbi=>?_
    |(refine d0c (id:=14) [49,50,51,52,53,54,55,56,57,58,59,9] [0,0,0,6,14,0,0,96,224,510,1023,2047] [] mixed (by kernel_rfl) (by simp only [go_sem]) fun zK zhK=>?_;simp only [go_sem,Ak,Av,Nat.sub_zero,Nat.zero_add,F0,F15];(repeat' (first|apply And.intro|intro _)))
    |refine zhK _ _ trivial ?_
    |(refine zbn _ ?_;clear zbn zbx zbr zbi)
    |refine Bq fun zN zM zhN zhM=>?_
    |(refine Bz ?_ ?_;focus (first|rfl|(simp [go_sem,Ak,Av,Nat.sub_zero,Nat.zero_add,F0,F15];done)))
   refine zhN ⟨(i+1,(c+a.toNat+b.toNat)/256,q.take i++x::q.drop (i+1)),hlt,n1,n2,by rw [hal,hbl];exact n3⟩ _ ?_ ?_ ?_
   · (exact Nat.sub_lt_sub_left hlt (Nat.lt_succ_self i))
   · (simp only [go_sem,leX,List.cons_append,List.nil_append];try simp [hal,hbl])
   · (simp only [go_sem,leX,List.cons_append,List.nil_append];try simp)
 · obtain rfl:i=16:=by omega
   have hcq:¬((16:Nat):Int)<16:=by omega
   have hfin:q=v0s s.acc.a s.acc.b p0 p1:=by
    rw [←hev,←hv,List.drop_of_length_le (by omega),List.take_of_length_le (by omega)];simp [v0t]
   iterate 13 first
    |(refine Dz fun zK zhK=>?_;simp only [go_sem,Ak,Av,Nat.sub_zero,Nat.zero_add,F0,hcq,hq];(repeat' (first|apply And.intro|intro _)))
    |refine zhK _ ?_
    |(refine zhM _ _ ?_;clear zhN zhM)
    |refine Fx ?_
    |(refine zbx _ ?_;clear zbn zbx zbr zbi)
    |(refine zhN _ ?_;clear zhN zhM)
    |refine Ck ?_
    |(refine zhZ _ _ ?_;simp only [go_sem,Ak,Av,Nat.sub_zero,Nat.zero_add,F0,hcq,hq];(all_goals (first|(rw [hfa,hfin];done)|(rw [hfa,hfin];rfl))))
    |refine Bq fun zN zM zhN zhM=>?_
    |(refine Bj ?_ ?_;focus (first|rfl|(simp [go_sem,Ak,Av,Nat.sub_zero,Nat.zero_add,F0,hcq,hq];done)))
theorem n1y (r0 r1 p0 p1:UInt64) (s:PSt) (hs:s.ok) (hr0:r0&&&~~~1152921487695413247=0) (hr1:r1&&&~~~1152921487695413244=0) (h0:0<s.rest.length):
 Ct Tryd.prog 61 [.w (.agg (Ak r0 r1 p0 p1 s.acc.a s.acc.b s.acc.c (Pz s.rest) (s.rest.length:Nat)))] (fun v m=>v=.tup [.agg (Aq (v0s (o0h r0 r1 s).a (o0h r0 r1 s).b p0 p1)),.one (.pl (.i 0))]):=by
 have h15:=hs.1
 have hpl:=Ij (r:=s.rest) (by omega)
 have hpt:=Xx s.rest
 have hpz:=b0k (r:=s.rest) (by omega)
 have he:=d0v (b1i hs hr0 hr1)
 have hr:=b1s hr1
 have ha4:s.acc.c.toNat<4:=by
  have hv:=hs.2
  simp only [Oy,pP] at hv
  have:=s.acc.a.toNat_lt;have:=s.acc.b.toNat_lt
  omega
 have hc1:(0:Int)≤((s.rest.length:Nat):Int):=by omega
 have hc2:((s.rest.length:Nat):Int)≤16:=by omega
 have hle:s.rest.length≤16:=by omega
 have hfa:o0h r0 r1 s=g0c r0 r1 s.acc s.rest:=if_neg (by omega)
 have hn0:(0:Int)<((s.rest.length:Nat):Int):=by omega
 have F0:=And.intro hpl<|And.intro hpt<|And.intro he<|And.intro hn0<|And.intro hc1<|And.intro hc2<|hle
 refine Ct.k Tryd.func61 rfl Tryd.ntmps61 (congrArg Array.toList Tryd.results61) (by simp) fun w0 ro=>?_
 refine Dx fun zZ zhZ=>?_
 iterate 37 first
  |(refine Dz fun zK zhK=>?_;simp only [go_sem,Ak,Av,Nat.sub_zero,Nat.zero_add,F0];(repeat' (first|apply And.intro|intro _)))
  |refine zhK _ ?_
  |refine zhK _ _ trivial ?_
  |(refine zhN _ ?_;clear zhN zhM)
  |refine Cq ?_
  |(refine Kk (id:=6) [22,23,24,25,26,27] [0,0,2,6,14,31,63] [] mixed (by kernel_rfl) (by simp only [go_sem]) fun zK zhK=>?_;simp only [go_sem,Ak,Av,Nat.sub_zero,Nat.zero_add,F0];(repeat' (first|apply And.intro|intro _)))
  |(refine d0c (id:=8) [28,29,30,31,32,33,34,35,36,7] [0,1,3,7,0,16,48,127,255,511] [] mixed (by kernel_rfl) (by simp only [go_sem]) fun zK zhK=>?_;simp only [go_sem,Ak,Av,Nat.sub_zero,Nat.zero_add,F0];(repeat' (first|apply And.intro|intro _)))
  |(refine d0c (id:=9) [37,38,39,40,41,42,43,44,45,8] [0,1,3,7,0,16,48,127,255,511] [] mixed (by kernel_rfl) (by simp only [go_sem]) fun zK zhK=>?_;simp only [go_sem,Ak,Av,Nat.sub_zero,Nat.zero_add,F0];(repeat' (first|apply And.intro|intro _)))
  |refine Cx fun zB zbn zbx zbr zbi=>?_
  |((all_goals refine Dv (fun k=>k) _ [] (fun _ _=>rfl) (by first|rfl|(simp only [go_sem,Ak,Av,Nat.sub_zero,Nat.zero_add,F0]<;>rfl)) ((e1e _ 8 (by decide)).plain fun _ _ h=>h) ?_ ?_);(all_goals try (refine And.intro ?_ (And.intro ?_ (And.intro ?_ ?_))<;>first|rfl|simp only [go_sem]));(all_goals simp only [go_sem,Ak,Av,Nat.sub_zero,Nat.zero_add,F0]);(all_goals repeat' (first|apply And.intro|intro _)))
  |((all_goals (refine Cy (fun k=>k) (fun _ _=>rfl) ?_ ((j0b r0 r1 p0 p1 s.acc.a s.acc.b s.acc.c (Pz s.rest) hpl (s.rest.length:Nat)).plain fun _ _ h=>h) ?_;focus (first|rfl|(simp only [go_sem,Ak,Av,Nat.sub_zero,Nat.zero_add,F0]<;>rfl))));(all_goals (rintro v m ⟨hR,hm⟩;subst hR;subst hm));(all_goals refine And.intro (by first|rfl|simp only [go_sem,Ak,Av,Nat.sub_zero,Nat.zero_add,F0]) (And.intro (by first|rfl|simp only [go_sem,Ak,Av,Nat.sub_zero,Nat.zero_add,F0]) ?_));(all_goals simp only [go_sem,Ak,Av,Nat.sub_zero,Nat.zero_add,F0]);(all_goals repeat' (first|apply And.intro|intro _)))
  |((all_goals (refine Dv (fun k=>k) _ [] (fun _ _=>rfl) ?_ ((a1d r0 r1 p0 p1 s.acc.a s.acc.b s.acc.c (Pz s.rest) hpl (s.rest.length:Nat) ha4 s.rest (by omega)).plain fun _ _ h=>h) ?_ ?_;focus (first|rfl|(simp only [go_sem,Ak,Av,Nat.sub_zero,Nat.zero_add,F0]<;>rfl))));(all_goals try (refine And.intro ?_ (And.intro ?_ (And.intro ?_ ?_))<;>first|rfl|simp only [go_sem]));(all_goals simp only [go_sem,Ak,Av,Nat.sub_zero,Nat.zero_add,F0]);(all_goals repeat' (first|apply And.intro|intro _)))
  |refine Bq fun zN zM zhN zhM=>?_
  |(refine Bj ?_ ?_;focus (first|rfl|(simp [go_sem,Ak,Av,Nat.sub_zero,Nat.zero_add,F0];done)))
  |(refine Bz ?_ ?_;focus (first|rfl|(simp [go_sem,Ak,Av,Nat.sub_zero,Nat.zero_add,F0];done)))
 refine Fq [0,1,4,5,11,12,13,14,15,16,17,18,19,20,21,22,23,24,25,26,27,28,29,30,31,32,33,34,35,36,37,38,39,40,41,42,43,44,45] ?_
 simp only [Gz,Gj,Fj,List.contains_cons,List.contains_nil,Nat.reduceBEq,beq_self_eq_true,Bool.or_false,Bool.or_true,Bool.true_or,Bool.false_or,Bool.false_eq_true,reduceIte]
 refine Ik (fun y=>[(46,.w (.one (.pl (.i ((y.1.1:Nat):Int))))),(9,.w (.one (.pl (.i ((y.1.2.1:Nat):Int)))))]) (fun y=>[(6,⟨false,Aq y.1.2.2⟩)]) (fun y=>16-y.1.1) (⟨(0,0,List.replicate 16 0),Nat.zero_le _,Nat.zero_le _,by simp,rfl⟩:{y:Nat×Nat×List UInt8//y.1≤16∧y.2.1≤1∧y.2.2.length=16∧y.2.2.take y.1++v0t y.2.1 ((Mk (sp0 (Pk s.acc.a s.acc.b s.acc.c r0 r1 s.rest)) 8++Mk (sp1 (Pk s.acc.a s.acc.b s.acc.c r0 r1 s.rest)) 8).drop y.1) ((Mk p0 8++Mk p1 8).drop y.1)=v0t 0 (Mk (sp0 (Pk s.acc.a s.acc.b s.acc.c r0 r1 s.rest)) 8++Mk (sp1 (Pk s.acc.a s.acc.b s.acc.c r0 r1 s.rest)) 8) (Mk p0 8++Mk p1 8)}) ?_ ?_ ?_
 · (simp only [go_sem,leX,List.cons_append,List.nil_append];try simp)
 · (simp only [go_sem,leX,List.cons_append,List.nil_append];try simp)
 intro yy zN zM zhN zhM
 simp only [List.cons_append,List.nil_append]
 obtain ⟨⟨i,c,q⟩,hi,hc,hq,hv⟩:=yy
 simp only at hi hc hq hv
 have hev:=j1q (sp0 (Pk s.acc.a s.acc.b s.acc.c r0 r1 s.rest)) (sp1 (Pk s.acc.a s.acc.b s.acc.c r0 r1 s.rest)) p0 p1
 obtain ⟨al,hal⟩: ∃ al,Mk (sp0 (Pk s.acc.a s.acc.b s.acc.c r0 r1 s.rest)) 8++Mk (sp1 (Pk s.acc.a s.acc.b s.acc.c r0 r1 s.rest)) 8=al:=⟨_,rfl⟩
 obtain ⟨bl,hbl⟩: ∃ bl,Mk p0 8++Mk p1 8=bl:=⟨_,rfl⟩
 have lal:al.length=16:=by rw [←hal];simp [Av]
 have lbl:bl.length=16:=by rw [←hbl];simp [Av]
 rw [hal,hbl] at hv hev
 simp only [hal,hbl]
 rcases Nat.lt_or_ge i 16 with hlt|hge
 · obtain ⟨a,ha⟩: ∃ a,al.getD i 0=a:=⟨_,rfl⟩
   obtain ⟨b,hb⟩: ∃ b,bl.getD i 0=b:=⟨_,rfl⟩
   have hda:=drop_cons (l:=al) (j:=i) (by omega)
   have hdb:=drop_cons (l:=bl) (j:=i) (by omega)
   rw [ha] at hda
   rw [hb] at hdb
   rw [hda,hdb,v0t] at hv
   have a1:=a.toNat_lt
   have b1:=b.toNat_lt
   obtain ⟨x,hx⟩: ∃ x,UInt8.ofNat (c+a.toNat+b.toNat)=x:=⟨_,rfl⟩
   rw [hx] at hv
   have hcq:((i:Nat):Int)<16:=by omega
   have hc0:(0:Int)≤((i:Nat):Int):=by omega
   have hk2:i+1≤16:=by omega
   have hput:Aq (List.take i q)++[L.pl (PL.u8 x)]++Aq (List.drop (i+1) q)=Aq (q.take i++x::q.drop (i+1)):=by simp [Aq]
   have hmo:UInt8.ofNat ((((c+(a.toNat+b.toNat):Nat):Int)%256).toNat)=x:=by
    rw [←hx,show (((c+(a.toNat+b.toNat):Nat):Int)%256).toNat=(c+(a.toNat+b.toNat))%256 from by omega]
    apply UInt8.toNat_inj.mp
    simp only [UInt8.toNat_ofNat'];omega
   have htd:((c+(a.toNat+b.toNat):Nat):Int).tdiv 256=(((c+a.toNat+b.toNat)/256:Nat):Int):=by
    rw [show ((c+(a.toNat+b.toNat):Nat):Int).tdiv 256=(((c+(a.toNat+b.toNat))/256:Nat):Int) from rfl,Nat.add_assoc]
   have n1:(c+a.toNat+b.toNat)/256≤1:=by omega
   have n2:(q.take i++x::q.drop (i+1)).length=16:=by rw [List.length_append,List.length_cons,List.length_take,List.length_drop];omega
   have htl:(q.take i).length=i:=by rw [List.length_take];omega
   have n3:(q.take i++x::q.drop (i+1)).take (i+1)++v0t ((c+a.toNat+b.toNat)/256) (al.drop (i+1)) (bl.drop (i+1))=v0t 0 al bl:=by
    rw [←hv,List.take_append,htl,List.take_of_length_le (by omega),show i+1-i=1 from by omega,List.take_succ_cons,List.take_zero,List.append_assoc];rfl
   obtain ⟨hw1,hw2,hw4,hs1⟩:Go.RowKit.wrap64 (((a.toNat:Nat):Int)+((b.toNat:Nat):Int))=((a.toNat+b.toNat:Nat):Int)∧Go.RowKit.wrap64 (((c:Nat):Int)+((a.toNat+b.toNat:Nat):Int))=((c+(a.toNat+b.toNat):Nat):Int)∧Go.RowKit.wrap64 ((((c+a.toNat+b.toNat)/256:Nat):Int))=(((c+a.toNat+b.toNat)/256:Nat):Int)∧Go.RowKit.wrap64 (((i:Nat):Int)+1)=((i+1:Nat):Int):=⟨Kv (by omega) (by omega),Kv (by omega) (by omega),Kv rfl (by omega),Kv (by omega) (by omega)⟩
   have F16:=And.intro hcq<|And.intro hc0<|And.intro hk2<|And.intro hq<|And.intro lal<|And.intro lbl<|And.intro ha<|And.intro hb<|And.intro hput<|And.intro hmo<|And.intro htd<|And.intro hw1<|And.intro hw2<|And.intro hw4<|hs1
   iterate 20 first
    |refine zhK _ ?_
    |(refine Dz fun zK zhK=>?_;simp only [go_sem,Ak,Av,Nat.sub_zero,Nat.zero_add,F0,F16];(repeat' (first|apply And.intro|intro _)))
    |(refine zhN _ ?_;clear zhN zhM)
    |(refine Cv fun zK zhK=>?_;simp only [go_sem,Ak,Av,Nat.sub_zero,Nat.zero_add,F0,F16];(repeat' (first|apply And.intro|intro _)))
    |refine Cq ?_
    |refine Cx fun zB zbn zbx zbr zbi=>?_
    |(refine d0c (id:=14) [49,50,51,52,53,54,55,56,57,58,59,9] [0,0,0,6,14,0,0,96,224,510,1023,2047] [] mixed (by kernel_rfl) (by simp only [go_sem]) fun zK zhK=>?_;simp only [go_sem,Ak,Av,Nat.sub_zero,Nat.zero_add,F0,F16];(repeat' (first|apply And.intro|intro _)))
    |refine zhK _ _ trivial ?_
    |(refine zbn _ ?_;clear zbn zbx zbr zbi)
    |refine Bq fun zN zM zhN zhM=>?_
    |(refine Bz ?_ ?_;focus (first|rfl|(simp [go_sem,Ak,Av,Nat.sub_zero,Nat.zero_add,F0,F16];done)))
   refine zhN ⟨(i+1,(c+a.toNat+b.toNat)/256,q.take i++x::q.drop (i+1)),hlt,n1,n2,by rw [hal,hbl];exact n3⟩ _ ?_ ?_ ?_
   · (exact Nat.sub_lt_sub_left hlt (Nat.lt_succ_self i))
   · (simp only [go_sem,leX,List.cons_append,List.nil_append];try simp [hal,hbl])
   · (simp only [go_sem,leX,List.cons_append,List.nil_append];try simp)
 · obtain rfl:i=16:=by omega
   have hcq:¬((16:Nat):Int)<16:=by omega
   have hfin:q=v0s (sp0 (Pk s.acc.a s.acc.b s.acc.c r0 r1 s.rest)) (sp1 (Pk s.acc.a s.acc.b s.acc.c r0 r1 s.rest)) p0 p1:=by
    rw [←hev,←hv,List.drop_of_length_le (by omega),List.take_of_length_le (by omega)];simp [v0t]
   iterate 13 first
    |(refine Dz fun zK zhK=>?_;simp only [go_sem,Ak,Av,Nat.sub_zero,Nat.zero_add,F0,hcq,hq];(repeat' (first|apply And.intro|intro _)))
    |refine zhK _ ?_
    |(refine zhM _ _ ?_;clear zhN zhM)
    |refine Fx ?_
    |(refine zbx _ ?_;clear zbn zbx zbr zbi)
    |(refine zhN _ ?_;clear zhN zhM)
    |refine Ck ?_
    |(refine zhZ _ _ ?_;simp only [go_sem,Ak,Av,Nat.sub_zero,Nat.zero_add,F0,hcq,hq];(all_goals (first|(rw [hfa,hfin];done)|(rw [hfa,hfin];rfl))))
    |refine Bq fun zN zM zhN zhM=>?_
    |(refine Bj ?_ ?_;focus (first|rfl|(simp [go_sem,Ak,Av,Nat.sub_zero,Nat.zero_add,F0,hcq,hq];done)))
end Go.Sy
namespace Go.Sy
open Go.Proofs
attribute [local irreducible] Fz HT Cw Oj onC onE onO onG goV goA goS Qv Ey
theorem u1k (r0 r1 p0 p1:UInt64) (s:PSt) (hs:s.ok) (hr0:r0&&&~~~1152921487695413247=0) (hr1:r1&&&~~~1152921487695413244=0):Ct Tryd.prog 53 [.w (.agg (Ak r0 r1 p0 p1 s.acc.a s.acc.b s.acc.c (Pz s.rest) (s.rest.length:Nat)))] (fun v m=>v=.tup [.agg (Aq (v0s (o0h r0 r1 s).a (o0h r0 r1 s).b p0 p1)),.one (.pl (.i 0))]):=by
 rcases Nat.eq_zero_or_pos s.rest.length with h0|h0
 · exact a2x r0 r1 p0 p1 s hs hr0 hr1 h0
 · exact a2y r0 r1 p0 p1 s hs hr0 hr1 h0
theorem g1r (r0 r1 p0 p1:UInt64) (s:PSt) (hs:s.ok) (hr0:r0&&&~~~1152921487695413247=0) (hr1:r1&&&~~~1152921487695413244=0):Ct Tryd.prog 61 [.w (.agg (Ak r0 r1 p0 p1 s.acc.a s.acc.b s.acc.c (Pz s.rest) (s.rest.length:Nat)))] (fun v m=>v=.tup [.agg (Aq (v0s (o0h r0 r1 s).a (o0h r0 r1 s).b p0 p1)),.one (.pl (.i 0))]):=by
 rcases Nat.eq_zero_or_pos s.rest.length with h0|h0
 · exact n1x r0 r1 p0 p1 s hs hr0 hr1 h0
 · exact n1y r0 r1 p0 p1 s hs hr0 hr1 h0
end Go.Sy
namespace Go.Sy
open Go.Proofs
attribute [local irreducible] Fz HT Cw Oj onC onE onO onG goV goA goS Qv Ey
def tagV (key b:List UInt8):List UInt8:=
 v0s (o0h (lev (key.take 8)&&&1152921487695413247) (lev ((key.drop 8).take 8)&&&1152921487695413244) (Jy (lev (key.take 8)&&&1152921487695413247) (lev ((key.drop 8).take 8)&&&1152921487695413244) ⟨⟨0,0,0⟩,[]⟩ b)).a
  (o0h (lev (key.take 8)&&&1152921487695413247) (lev ((key.drop 8).take 8)&&&1152921487695413244) (Jy (lev (key.take 8)&&&1152921487695413247) (lev ((key.drop 8).take 8)&&&1152921487695413244) ⟨⟨0,0,0⟩,[]⟩ b)).b
  (lev ((key.drop 16).take 8)) (lev ((key.drop 24).take 8))
theorem v0w (key b:List UInt8):(tagV key b).length=16:=Ez _ _ _ _
theorem r0z (x m:UInt64):(x&&&m)&&&~~~m=0:=(Ov (x&&&m) m).mp (by rw [UInt64.and_assoc,UInt64.and_self])
theorem m1x :PSt.ok ⟨⟨0,0,0⟩,[]⟩:=⟨Nat.zero_le _,by decide⟩
theorem n1t (key:List UInt8) (hk:key.length=32) (b:List UInt8) (hbl:b.length≤140737488355328) (ex:Bool):
 Ct Tryd.prog 38 [.w (.agg (Aq key)),.w (.one (.pl (.R ex 1 (Aw b))))] (fun v m=>v=.w (.agg (Aq (tagV key b)))):=by
 obtain ⟨r0,hr0⟩: ∃ r,lev (key.take 8)&&&1152921487695413247=r:=⟨_,rfl⟩
 obtain ⟨r1,hr1⟩: ∃ r,lev ((key.drop 8).take 8)&&&1152921487695413244=r:=⟨_,rfl⟩
 have ho0:r0&&&~~~1152921487695413247=0:=by rw [←hr0];exact r0z _ _
 have ho1:r1&&&~~~1152921487695413244=0:=by rw [←hr1];exact r0z _ _
 have hst:tagV key b=v0s (o0h r0 r1 (Jy r0 r1 ⟨⟨0,0,0⟩,[]⟩ b)).a (o0h r0 r1 (Jy r0 r1 ⟨⟨0,0,0⟩,[]⟩ b)).b (lev ((key.drop 16).take 8)) (lev ((key.drop 24).take 8)):=by rw [tagV,hr0,hr1]
 have hso:(Jy r0 r1 ⟨⟨0,0,0⟩,[]⟩ b).ok:=c0d m1x
 have hqq: ∀ q,Jy r0 r1 ⟨⟨0,0,0⟩,[]⟩ b=q→(Pz q.rest).length=16:=fun q h=>Ij (by rw [←h];have:=hso.1;omega)
 obtain ⟨⟨⟨qa,qb,qc⟩,q⟩,hq⟩: ∃ q,Jy r0 r1 ⟨⟨0,0,0⟩,[]⟩ b=q:=⟨_,rfl⟩
 have hpq:=hqq _ hq
 simp only at hpq
 rw [hq] at hso hst
 have F0:=And.intro hk<|And.intro hr0<|And.intro hr1<|And.intro hq<|hpq
 refine Ct.k Tryd.func38 rfl Tryd.ntmps38 (congrArg Array.toList Tryd.results38) (by simp) fun w0 ro=>?_
 refine Dx fun zZ zhZ=>?_
 refine Dz fun zK zhK=>?_
 simp only [go_sem,c0v,Ak,stC,Ez,F0]
 repeat' (first|apply And.intro|intro _)
 refine zhK _ ?_
 refine Dz fun zK zhK=>?_
 simp only [go_sem,c0v,Ak,stC,Ez,F0]
 repeat' (first|apply And.intro|intro _)
 all_goals (refine Cy (fun k=>k) (fun _ _=>rfl) ?_ ((c1e key hk).plain fun _ _ h=>h) ?_;focus (first|rfl|(simp only [go_sem,c0v,Ak,stC,Ez,F0]<;>rfl)))
 all_goals (rintro v m ⟨hR,hm⟩;subst hR;subst hm)
 all_goals refine And.intro (by first|rfl|simp only [go_sem,c0v,Ak,stC,Ez,F0]) (And.intro (by first|rfl|simp only [go_sem,c0v,Ak,stC,Ez,F0]) ?_)
 all_goals simp only [go_sem,c0v,Ak,stC,Ez,F0]
 all_goals repeat' (first|apply And.intro|intro _)
 all_goals refine Cy (fun k=>k) (fun _ _=>rfl) (by first|rfl|(simp only [go_sem,c0v,Ak,stC,Ez,F0]<;>rfl)) ((u1m r0 r1 (lev ((key.drop 16).take 8)) (lev ((key.drop 24).take 8)) ⟨⟨0,0,0⟩,[]⟩ m1x ho0 ho1 b hbl _).plain fun _ _ h=>h) ?_
 all_goals (rintro v m ⟨hR,hm⟩;subst hR;subst hm)
 all_goals refine And.intro (by first|rfl|simp only [go_sem,c0v,Ak,stC,Ez,F0]) (And.intro (by first|rfl|simp only [go_sem,c0v,Ak,stC,Ez,F0]) ?_)
 all_goals simp only [go_sem,c0v,Ak,stC,Ez,F0]
 all_goals repeat' (first|apply And.intro|intro _)
 refine zhK _ ?_
 refine Dz fun zK zhK=>?_
 simp only [go_sem,c0v,Ak,stC,Ez,F0]
 repeat' (first|apply And.intro|intro _)
 all_goals (refine Cy (fun k=>k) (fun _ _=>rfl) ?_ ((u1k r0 r1 (lev ((key.drop 16).take 8)) (lev ((key.drop 24).take 8)) ⟨⟨qa,qb,qc⟩,q⟩ hso ho0 ho1).plain fun _ _ h=>h) ?_;focus (first|rfl|(simp only [go_sem,c0v,Ak,stC,Ez,F0]<;>rfl)))
 all_goals (rintro v m ⟨hR,hm⟩;subst hR;subst hm)
 all_goals refine And.intro (by first|rfl|simp only [go_sem,c0v,Ak,stC,Ez,F0]) (And.intro (by first|rfl|simp only [go_sem,c0v,Ak,stC,Ez,F0]) ?_)
 all_goals simp only [go_sem,c0v,Ak,stC,Ez,F0]
 all_goals repeat' (first|apply And.intro|intro _)
 refine zhK _ ?_
 refine Dz fun zK zhK=>?_
 simp only [go_sem,c0v,Ak,stC,Ez,F0]
 repeat' (first|apply And.intro|intro _)
 refine zhK _ ?_
 refine Ck ?_
 refine zhZ _ _ ?_
 simp only [go_sem,c0v,Ak,stC,Ez,F0]
 all_goals (rw [hst])
theorem t0o (key:List UInt8) (hk:key.length=32) (b:List UInt8) (hbl:b.length≤140737488355328):
 Ct Tryd.prog 43 [.w (.agg (Aq key)),.w (.one (.pl (.str b)))] (fun v m=>v=.w (.agg (Aq (tagV key b)))):=by
 obtain ⟨r0,hr0⟩: ∃ r,lev (key.take 8)&&&1152921487695413247=r:=⟨_,rfl⟩
 obtain ⟨r1,hr1⟩: ∃ r,lev ((key.drop 8).take 8)&&&1152921487695413244=r:=⟨_,rfl⟩
 have ho0:r0&&&~~~1152921487695413247=0:=by rw [←hr0];exact r0z _ _
 have ho1:r1&&&~~~1152921487695413244=0:=by rw [←hr1];exact r0z _ _
 have hst:tagV key b=v0s (o0h r0 r1 (Jy r0 r1 ⟨⟨0,0,0⟩,[]⟩ b)).a (o0h r0 r1 (Jy r0 r1 ⟨⟨0,0,0⟩,[]⟩ b)).b (lev ((key.drop 16).take 8)) (lev ((key.drop 24).take 8)):=by rw [tagV,hr0,hr1]
 have hso:(Jy r0 r1 ⟨⟨0,0,0⟩,[]⟩ b).ok:=c0d m1x
 have hqq: ∀ q,Jy r0 r1 ⟨⟨0,0,0⟩,[]⟩ b=q→(Pz q.rest).length=16:=fun q h=>Ij (by rw [←h];have:=hso.1;omega)
 obtain ⟨⟨⟨qa,qb,qc⟩,q⟩,hq⟩: ∃ q,Jy r0 r1 ⟨⟨0,0,0⟩,[]⟩ b=q:=⟨_,rfl⟩
 have hpq:=hqq _ hq
 simp only at hpq
 rw [hq] at hso hst
 have hcb:b.length≤140737488355328:=hbl
 have F0:=And.intro hk<|And.intro hr0<|And.intro hr1<|And.intro hq<|And.intro hpq<|hcb
 refine Ct.k Tryd.func43 rfl Tryd.ntmps43 (congrArg Array.toList Tryd.results43) (by simp) fun w0 ro=>?_
 refine Dx fun zZ zhZ=>?_
 refine Dz fun zK zhK=>?_
 simp only [go_sem,c0v,Ak,stC,Ez,F0]
 repeat' (first|apply And.intro|intro _)
 refine zhK _ ?_
 refine Dz fun zK zhK=>?_
 simp only [go_sem,c0v,Ak,stC,Ez,F0]
 repeat' (first|apply And.intro|intro _)
 all_goals (refine Cy (fun k=>k) (fun _ _=>rfl) ?_ ((p0d key hk).plain fun _ _ h=>h) ?_;focus (first|rfl|(simp only [go_sem,c0v,Ak,stC,Ez,F0]<;>rfl)))
 all_goals (rintro v m ⟨hR,hm⟩;subst hR;subst hm)
 all_goals refine And.intro (by first|rfl|simp only [go_sem,c0v,Ak,stC,Ez,F0]) (And.intro (by first|rfl|simp only [go_sem,c0v,Ak,stC,Ez,F0]) ?_)
 all_goals simp only [go_sem,c0v,Ak,stC,Ez,F0]
 all_goals repeat' (first|apply And.intro|intro _)
 all_goals refine Cy (fun k=>k) (fun _ _=>rfl) (by first|rfl|(simp only [go_sem,c0v,Ak,stC,Ez,F0]<;>rfl)) ((u1e r0 r1 (lev ((key.drop 16).take 8)) (lev ((key.drop 24).take 8)) ⟨⟨0,0,0⟩,[]⟩ m1x ho0 ho1 b hbl _).plain fun _ _ h=>h) ?_
 all_goals (rintro v m ⟨hR,hm⟩;subst hR;subst hm)
 all_goals refine And.intro (by first|rfl|simp only [go_sem,c0v,Ak,stC,Ez,F0]) (And.intro (by first|rfl|simp only [go_sem,c0v,Ak,stC,Ez,F0]) ?_)
 all_goals simp only [go_sem,c0v,Ak,stC,Ez,F0]
 all_goals repeat' (first|apply And.intro|intro _)
 refine zhK _ ?_
 refine Dz fun zK zhK=>?_
 simp only [go_sem,c0v,Ak,stC,Ez,F0]
 repeat' (first|apply And.intro|intro _)
 all_goals (refine Cy (fun k=>k) (fun _ _=>rfl) ?_ ((g1r r0 r1 (lev ((key.drop 16).take 8)) (lev ((key.drop 24).take 8)) ⟨⟨qa,qb,qc⟩,q⟩ hso ho0 ho1).plain fun _ _ h=>h) ?_;focus (first|rfl|(simp only [go_sem,c0v,Ak,stC,Ez,F0]<;>rfl)))
 all_goals (rintro v m ⟨hR,hm⟩;subst hR;subst hm)
 all_goals refine And.intro (by first|rfl|simp only [go_sem,c0v,Ak,stC,Ez,F0]) (And.intro (by first|rfl|simp only [go_sem,c0v,Ak,stC,Ez,F0]) ?_)
 all_goals simp only [go_sem,c0v,Ak,stC,Ez,F0]
 all_goals repeat' (first|apply And.intro|intro _)
 refine zhK _ ?_
 refine Dz fun zK zhK=>?_
 simp only [go_sem,c0v,Ak,stC,Ez,F0]
 repeat' (first|apply And.intro|intro _)
 refine zhK _ ?_
 refine Ck ?_
 refine zhZ _ _ ?_
 simp only [go_sem,c0v,Ak,stC,Ez,F0]
 all_goals (rw [hst])
end Go.Sy
namespace Go.Sy
open Go.Proofs
attribute [local irreducible] Fz HT Cw Oj onC onE onO onG goV goA goS Qv Ey
def j0w (key nonce ad text:List UInt8):List UInt8:=tagV ((Yq (d0i key 0 nonce)).take 32) (Wq ad++Wq text++Kj ad.length++Kj text.length)
theorem Ox (key nonce ad text:List UInt8):(j0w key nonce ad text).length=16:=v0w _ _
theorem u0t : ∀ n:Fin 1000,Mk (UInt64.ofNat n.val) 8=Kj n.val:=by decide+kernel
theorem l1h {ad text:List UInt8} (h1:ad.length≤200) (h2:text.length≤800):(Wq ad++Wq text++Kj ad.length++Kj text.length).length≤140737488355328:=by
 simp only [List.length_append,Wq,List.length_replicate,d0j,Kj,List.length_cons,List.length_nil];omega
theorem d2r (key nonce ad text:List UInt8) (hk:key.length=32) (hn:nonce.length=12) (h1:ad.length≤200) (h2:text.length≤800) (ex1 ex2:Bool):CtM Tryd.prog 26 [.w (.agg (Aq key)),.w (.agg (Aq nonce)),.w (.one (.pl (.R ex1 1 (Aw ad)))),.w (.one (.pl (.R ex2 1 (Aw text))))] [] (fun v m=>v=.w (.agg (Aq (j0w key nonce ad text)))∧m=[]):=by
 have h64:(Yq (d0i key 0 nonce)).length=64:=a0b _
 have hB:=block_ key hk 0 nonce hn
 have hT:=n1t ((Yq (d0i key 0 nonce)).take 32) (by rw [List.length_take];omega) (Wq ad++Wq text++Kj ad.length++Kj text.length) (l1h h1 h2) false
 have ht:=Ox key nonce ad text
 by_cases p1:d0j ad=0
 · by_cases p2:d0j text=0
   · by_cases q2:text.length=0
     · exact (z1q key nonce ad text _ hk hn h64 h1 h2 ex1 ex2 _ ht p1 p2 q2 hB hT).told
     · exact (z1r key nonce ad text _ hk hn h64 h1 h2 ex1 ex2 _ ht p1 p2 q2 hB hT).told
   · exact (z1p key nonce ad text _ hk hn h64 h1 h2 ex1 ex2 _ ht p1 p2 hB hT).told
 · by_cases p2:d0j text=0
   · exact (z1o key nonce ad text _ hk hn h64 h1 h2 ex1 ex2 _ ht p1 p2 hB hT).told
   · exact (z1n key nonce ad text _ hk hn h64 h1 h2 ex1 ex2 _ ht p1 p2 hB hT).told
theorem z0o (key nonce ad text:List UInt8) (hk:key.length=32) (hn:nonce.length=12) (h1:ad.length≤200) (h2:text.length≤800):
 Ct Tryd.prog 30 [.w (.agg (Aq key)),.w (.agg (Aq nonce)),.w (.one (.pl (.str ad))),.w (.one (.pl (.str text)))] (fun v m=>v=.w (.one (.pl (.str (j0w key nonce ad text))))):=by
 have h64:(Yq (d0i key 0 nonce)).length=64:=a0b _
 have hB:=b1b key hk 0 nonce hn
 have hT:=t0o ((Yq (d0i key 0 nonce)).take 32) (by rw [List.length_take];omega) (Wq ad++Wq text++Kj ad.length++Kj text.length) (l1h h1 h2)
 have ht:=Ox key nonce ad text
 have hF1:=c2n ad (by omega)
 have hF2:=c2n text (by omega)
 have hL1:=e1e (UInt64.ofNat ad.length) 8 (by omega)
 have hL2:=e1e (UInt64.ofNat text.length) 8 (by omega)
 rw [u0t ⟨ad.length,by omega⟩] at hL1
 rw [u0t ⟨text.length,by omega⟩] at hL2
 have hu1:UInt64.ofNat (((ad.length:Nat):Int)%18446744073709551616).toNat=UInt64.ofNat ad.length:=by rw [show (((ad.length:Nat):Int)%18446744073709551616).toNat=ad.length from by omega]
 have hu2:UInt64.ofNat (((text.length:Nat):Int)%18446744073709551616).toNat=UInt64.ofNat text.length:=by rw [show (((text.length:Nat):Int)%18446744073709551616).toNat=text.length from by omega]
 have hts:tagV ((Yq (d0i key 0 nonce)).take 32) (Wq ad++Wq text++Kj ad.length++Kj text.length)=j0w key nonce ad text:=rfl
 rw [hts] at hT
 obtain ⟨tg,htg⟩: ∃ q,j0w key nonce ad text=q:=⟨_,rfl⟩
 rw [htg] at hT ht
 obtain ⟨once,hoo⟩: ∃ q,Yq (d0i key 0 nonce)=q:=⟨_,rfl⟩
 rw [hoo] at hB hT h64
 obtain ⟨o32,ho⟩: ∃ q,once.take 32=q:=⟨_,rfl⟩
 have hol:o32.length=32:=by rw [←ho,List.length_take];omega
 rw [ho] at hT
 obtain ⟨e,he⟩: ∃ q,Kj ad.length=q:=⟨_,rfl⟩
 have hel:e.length=8:=by rw [←he];rfl
 obtain ⟨f,hf⟩: ∃ q,Kj text.length=q:=⟨_,rfl⟩
 have hfl:f.length=8:=by rw [←hf];rfl
 rw [he] at hL1 hT
 rw [hf] at hL2 hT
 obtain ⟨pa,hpa⟩: ∃ q,Wq ad=q:=⟨_,rfl⟩
 have hpl:pa.length≤300:=by rw [←hpa];simp [Wq];unfold d0j;omega
 obtain ⟨pb,hpb⟩: ∃ q,Wq text=q:=⟨_,rfl⟩
 have hbl:pb.length≤900:=by rw [←hpb];simp [Wq];unfold d0j;omega
 rw [hpa] at hF1 hT
 rw [hpb] at hF2 hT
 have hq1:pa.length+pb.length≤9223372036854775807:=by omega
 have hq2:pa.length+pb.length+8≤9223372036854775807:=by omega
 have hq3:pa.length+pb.length+8+8≤9223372036854775807:=by omega
 have hm0:min 32 32=32:=rfl
 have htk:List.take 32 o32=o32:=List.take_of_length_le (by omega)
 have hm1:min 64 32=32:=rfl
 have hm2:min 32 64=32:=rfl
 have hdr:List.drop 32 (List.replicate 32 (0:UInt8))=[]:=rfl
 have F0:=And.intro hk<|And.intro hn<|And.intro h64<|And.intro ht<|And.intro hu1<|And.intro hu2<|And.intro ho<|And.intro hol<|And.intro hel<|And.intro hfl<|And.intro hq1<|And.intro hq2<|And.intro hq3<|And.intro hm0<|And.intro htk<|And.intro hm1<|And.intro hm2<|hdr
 refine Ct.k Tryd.func30 rfl Tryd.ntmps30 (congrArg Array.toList Tryd.results30) (by simp) fun w0 ro=>?_
 refine Dx fun zZ zhZ=>?_
 refine Dz fun zK zhK=>?_
 simp only [go_sem,F0]
 repeat' (first|apply And.intro|intro _)
 refine zhK _ ?_
 refine Dz fun zK zhK=>?_
 simp only [go_sem,F0]
 repeat' (first|apply And.intro|intro _)
 all_goals (refine Cy (fun k=>k) (fun _ _=>rfl) ?_ (hB.plain fun _ _ h=>h) ?_;focus (first|rfl|(simp only [go_sem,F0]<;>rfl)))
 all_goals (rintro v m ⟨hR,hm⟩;subst hR;subst hm)
 all_goals refine And.intro (by first|rfl|simp only [go_sem,F0]) (And.intro (by first|rfl|simp only [go_sem,F0]) ?_)
 all_goals simp only [go_sem,F0]
 all_goals repeat' (first|apply And.intro|intro _)
 refine zhK _ ?_
 refine Dz fun zK zhK=>?_
 simp only [go_sem,F0]
 repeat' (first|apply And.intro|intro _)
 refine zhK _ ?_
 refine Bq fun zN zM zhN zhM=>?_
 refine Kk (id:=3) [15,16,17] [0,0,3] [] mixed (by kernel_rfl) (by simp only [go_sem]) fun zK zhK=>?_
 simp only [go_sem,F0]
 repeat' (first|apply And.intro|intro _)
 refine zhK _ _ trivial ?_
 refine zhN _ ?_;clear zhN zhM
 refine Bq fun zN zM zhN zhM=>?_
 refine Zj (id:=4) mixed fun zE zhE=>?_
 refine Cj (p:=0) 18 [18,19,20,21,22,23,24,25,26,27,28,29,30,31,32,33,34,11] [0,0,2,0,14,30,0,64,192,478,1022,0,2048,6144,15326,32766,65535,0,262143] [] rfl (by kernel_rfl) rfl (by simp only [go_sem]) fun zR zK zhR zhK=>?_
 simp only [go_sem,F0]
 repeat' (first|apply And.intro|intro _)
 all_goals (refine Dv (fun k=>k) (.w (.one (.pl (.str pa)))) [] (fun _ _=>rfl) ?_ (hF1.plain fun _ _ h=>h) ?_ ?_;focus (first|rfl|(simp only [go_sem,F0]<;>rfl)))
 all_goals try (refine And.intro ?_ (And.intro ?_ (And.intro ?_ ?_))<;>first|rfl|simp only [go_sem])
 all_goals simp only [go_sem,F0]
 all_goals repeat' (first|apply And.intro|intro _)
 all_goals (refine Dv (fun k=>k) (.w (.one (.pl (.str pb)))) [] (fun _ _=>rfl) ?_ (hF2.plain fun _ _ h=>h) ?_ ?_;focus (first|rfl|(simp only [go_sem,F0]<;>rfl)))
 all_goals try (refine And.intro ?_ (And.intro ?_ (And.intro ?_ ?_))<;>first|rfl|simp only [go_sem])
 all_goals simp only [go_sem,F0]
 all_goals repeat' (first|apply And.intro|intro _)
 all_goals (refine Dv (fun k=>k) (.w (.one (.pl (.str e)))) [] (fun _ _=>rfl) ?_ (hL1.plain fun _ _ h=>h) ?_ ?_;focus (first|rfl|(simp only [go_sem,F0]<;>rfl)))
 all_goals try (refine And.intro ?_ (And.intro ?_ (And.intro ?_ ?_))<;>first|rfl|simp only [go_sem])
 all_goals simp only [go_sem,F0]
 all_goals repeat' (first|apply And.intro|intro _)
 all_goals (refine Dv (fun k=>k) (.w (.one (.pl (.str f)))) [] (fun _ _=>rfl) ?_ (hL2.plain fun _ _ h=>h) ?_ ?_;focus (first|rfl|(simp only [go_sem,F0]<;>rfl)))
 all_goals try (refine And.intro ?_ (And.intro ?_ (And.intro ?_ ?_))<;>first|rfl|simp only [go_sem])
 all_goals simp only [go_sem,F0]
 all_goals repeat' (first|apply And.intro|intro _)
 all_goals (refine Dv (fun k=>k) (.w (.agg (Aq tg))) [] (fun _ _=>rfl) ?_ (hT.plain fun _ _ h=>h) ?_ ?_;focus (first|rfl|(simp only [go_sem,F0]<;>rfl)))
 all_goals try (refine And.intro ?_ (And.intro ?_ (And.intro ?_ ?_))<;>first|rfl|simp only [go_sem])
 all_goals simp only [go_sem,F0]
 all_goals repeat' (first|apply And.intro|intro _)
 refine zhK _ _ trivial (zhR _ ?_)
 refine Dw 1 19 rfl (by kernel_rfl) rfl rfl fun zR zhR=>?_
 simp only [go_sem,F0]
 repeat' (first|apply And.intro|intro _)
 refine zhR _ ?_
 refine Hq rfl (zhE _ ?_)
 refine zhN _ ?_;clear zhN zhM
 refine Dz fun zK zhK=>?_
 simp only [go_sem,F0]
 repeat' (first|apply And.intro|intro _)
 refine zhK _ ?_
 refine Ck ?_
 refine zhZ _ _ ?_
 simp only [go_sem,F0]
 all_goals (rw [htg])
end Go.Sy
namespace Go.Sy
open Go.Proofs
attribute [local irreducible] Fz HT Cw Oj onC onE onO onG goV goA goS Qv Ey
def slE (ad text:List UInt8):Int:=if 200<ad.length then 1 else if 800<text.length then 1 else 0
def slV (key nonce ad text:List UInt8):List UInt8:=d0b key 1 nonce text++j0w key nonce ad (d0b key 1 nonce text)
def slB (key nonce ad text:List UInt8):List UInt8:=if slE ad text=0 then slV key nonce ad text else []
theorem Ny (key:List UInt8) (c:UInt32) (nonce b:List UInt8):(d0b key c nonce b).length=b.length:=Oz _ _ _
theorem ho1 {n:Nat} (h:n≤1600):¬64*(4294967296-(1:UInt32).toNat)<n:=by rw [show (1:UInt32).toNat=1 from rfl];omega
theorem t1l (key nonce ad text:List UInt8) (hk:key.length=32) (hn:nonce.length=12) (ex1 ex2:Bool) (h1:200<ad.length):
 CtM Tryd.prog 14 [.w (.agg (Aq key)),.w (.agg (Aq nonce)),.w (.one (.pl (.R ex1 1 (Aw ad)))),.w (.one (.pl (.R ex2 1 (Aw text))))] [] (Told (byV [] 1)):=by
 have g1:(200:Int)<((ad.length:Nat):Int):=by omega
 have F0:=And.intro hk<|And.intro hn<|g1
 refine CtM.k Tryd.func14 rfl Tryd.ntmps14 (congrArg Array.toList Tryd.results14) (by simp) fun w0 ro may fx=>?_
 refine Dx fun zZ zhZ=>?_
 iterate 11 first
  |(refine Dz fun zK zhK=>?_;simp only [go_sem,F0];(repeat' (first|apply And.intro|intro _)))
  |refine zhK _ ?_
  |refine Ck ?_
  |(refine zhM _ _ ?_;clear zhN zhM)
  |(refine zhZ _ _ ?_;simp only [go_sem,F0];(all_goals (exact b0y)))
  |refine Bq fun zN zM zhN zhM=>?_
  |(refine Bz ?_ ?_;focus (first|rfl|(simp [go_sem,F0];done)))
theorem f1q (key nonce ad text:List UInt8) (hk:key.length=32) (hn:nonce.length=12) (ex1 ex2:Bool) (h1:ad.length≤200) (h2:800<text.length):
 CtM Tryd.prog 14 [.w (.agg (Aq key)),.w (.agg (Aq nonce)),.w (.one (.pl (.R ex1 1 (Aw ad)))),.w (.one (.pl (.R ex2 1 (Aw text))))] [] (Told (byV [] 1)):=by
 have g1:¬(200:Int)<((ad.length:Nat):Int):=by omega
 have g2:(800:Int)<((text.length:Nat):Int):=by omega
 have F0:=And.intro hk<|And.intro hn<|And.intro g1<|g2
 refine CtM.k Tryd.func14 rfl Tryd.ntmps14 (congrArg Array.toList Tryd.results14) (by simp) fun w0 ro may fx=>?_
 refine Dx fun zZ zhZ=>?_
 iterate 11 first
  |(refine Dz fun zK zhK=>?_;simp only [go_sem,F0];(repeat' (first|apply And.intro|intro _)))
  |refine zhK _ ?_
  |refine Ck ?_
  |(refine zhM _ _ ?_;clear zhN zhM)
  |(refine zhZ _ _ ?_;simp only [go_sem,F0];(all_goals (exact b0y)))
  |refine Bq fun zN zM zhN zhM=>?_
  |(refine Bz ?_ ?_;focus (first|rfl|(simp [go_sem,F0];done)))
theorem m1v (key nonce ad text:List UInt8) (hk:key.length=32) (hn:nonce.length=12) (ex1 ex2:Bool) (h1:200<ad.length):
 CtM Tryd.prog 20 [.w (.agg (Aq key)),.w (.agg (Aq nonce)),.w (.one (.pl (.R ex1 1 (Aw ad)))),.w (.one (.pl (.R ex2 1 (Aw text))))] [] (Told (byV [] 1)):=by
 have g1:(200:Int)<((ad.length:Nat):Int):=by omega
 have F0:=And.intro hk<|And.intro hn<|g1
 refine CtM.k Tryd.func20 rfl Tryd.ntmps20 (congrArg Array.toList Tryd.results20) (by simp) fun w0 ro may fx=>?_
 refine Dx fun zZ zhZ=>?_
 iterate 11 first
  |(refine Dz fun zK zhK=>?_;simp only [go_sem,F0];(repeat' (first|apply And.intro|intro _)))
  |refine zhK _ ?_
  |refine Ck ?_
  |(refine zhM _ _ ?_;clear zhN zhM)
  |(refine zhZ _ _ ?_;simp only [go_sem,F0];(all_goals (exact b0y)))
  |refine Bq fun zN zM zhN zhM=>?_
  |(refine Bz ?_ ?_;focus (first|rfl|(simp [go_sem,F0];done)))
theorem b1k (key nonce ad text:List UInt8) (hk:key.length=32) (hn:nonce.length=12) (ex1 ex2:Bool) (h1:ad.length≤200) (h2:800<text.length):
 CtM Tryd.prog 20 [.w (.agg (Aq key)),.w (.agg (Aq nonce)),.w (.one (.pl (.R ex1 1 (Aw ad)))),.w (.one (.pl (.R ex2 1 (Aw text))))] [] (Told (byV [] 1)):=by
 have g1:¬(200:Int)<((ad.length:Nat):Int):=by omega
 have g2:(800:Int)<((text.length:Nat):Int):=by omega
 have F0:=And.intro hk<|And.intro hn<|And.intro g1<|g2
 refine CtM.k Tryd.func20 rfl Tryd.ntmps20 (congrArg Array.toList Tryd.results20) (by simp) fun w0 ro may fx=>?_
 refine Dx fun zZ zhZ=>?_
 iterate 11 first
  |(refine Dz fun zK zhK=>?_;simp only [go_sem,F0];(repeat' (first|apply And.intro|intro _)))
  |refine zhK _ ?_
  |refine Ck ?_
  |(refine zhM _ _ ?_;clear zhN zhM)
  |(refine zhZ _ _ ?_;simp only [go_sem,F0];(all_goals (exact b0y)))
  |refine Bq fun zN zM zhN zhM=>?_
  |(refine Bz ?_ ?_;focus (first|rfl|(simp [go_sem,F0];done)))
theorem z0t (key nonce ad text:List UInt8) (hk:key.length=32) (hn:nonce.length=12) (ex1 ex2:Bool) (h1:ad.length≤200) (h2:text.length≤800):
 CtM Tryd.prog 14 [.w (.agg (Aq key)),.w (.agg (Aq nonce)),.w (.one (.pl (.R ex1 1 (Aw ad)))),.w (.one (.pl (.R ex2 1 (Aw text))))] [] (Told (byO (slV key nonce ad text) 0)):=by
 have g1:¬(200:Int)<((ad.length:Nat):Int):=by omega
 have g2:¬(800:Int)<((text.length:Nat):Int):=by omega
 have ht:=Ox key nonce ad (d0b key 1 nonce text)
 have hcl:=Ny key 1 nonce text
 have hT:=d2r key nonce ad (d0b key 1 nonce text) hk hn h1 (by rw [Ny];exact h2) ex1 false
 have hS:=(q0j key hk 1 nonce hn text ex2 (by omega) (ho1 (by omega))).told
 have hfin:slV key nonce ad text=d0b key 1 nonce text++j0w key nonce ad (d0b key 1 nonce text):=rfl
 obtain ⟨c,hc⟩: ∃ q,d0b key 1 nonce text=q:=⟨_,rfl⟩
 rw [hc] at ht hcl hT hS hfin
 obtain ⟨tg,htg⟩: ∃ q,j0w key nonce ad c=q:=⟨_,rfl⟩
 rw [htg] at ht hT hfin
 have hch:chunks 1 text.length (c.map PL.u8)=Aw c:=Ew hcl
 have hq:text.length+16≤140737488355328:=by omega
 have hq2:text.length+16≤9223372036854775807:=by omega
 have htk:List.take 16 tg=tg:=List.take_of_length_le (by omega)
 have F0:=And.intro hk<|And.intro hn<|And.intro g1<|And.intro g2<|And.intro hcl<|And.intro ht<|And.intro hch<|And.intro hq<|And.intro hq2<|htk
 refine CtM.k Tryd.func14 rfl Tryd.ntmps14 (congrArg Array.toList Tryd.results14) (by simp) fun w0 ro may fx=>?_
 refine Dx fun zZ zhZ=>?_
 iterate 24 first
  |(refine Dz fun zK zhK=>?_;simp only [go_sem,Nat.sub_zero,F0];(repeat' (first|apply And.intro|intro _)))
  |refine zhK _ ?_
  |refine Cq ?_
  |(refine zhN _ ?_;clear zhN zhM)
  |refine Ck ?_
  |(refine zhZ _ _ ?_;simp only [go_sem,Nat.sub_zero,F0];(all_goals (rw [hfin];exact f0h (by simp [ht,hcl]) (by simp [look]))))
  |((all_goals (refine Dy false [] (fun _=>25) (fun _ _=>rfl) ?_ (by decide) ?_ hS.hands ?_;iterate 2 (focus (first|rfl|(simp only [go_sem,Nat.sub_zero,F0]<;>first|done|rfl|simp)))));(all_goals (rintro v m ⟨hR,hm⟩;subst hR;subst hm));(all_goals (refine And.intro ?_ (And.intro ?_ (And.intro ?_ ?_));iterate 3 (focus (first|rfl|(simp only [go_sem,Nat.sub_zero,F0];done)|(simp [go_sem,look,Nat.sub_zero,F0];done)))));(all_goals (try simp only [go_sem,Nat.sub_zero,F0]));(all_goals (try simp only [go_sem,Nat.sub_zero,F0]));(all_goals repeat' (first|apply And.intro|intro _)))
  |((all_goals (refine Dy true [] (fun k=>k) (fun _ _=>rfl) ?_ (by decide) ?_ hT ?_;iterate 2 (focus (first|rfl|(simp only [go_sem,Nat.sub_zero,F0]<;>first|done|rfl|simp)))));(all_goals (rintro v m ⟨hR,hm⟩;subst hR;subst hm));(all_goals (refine And.intro ?_ (And.intro ?_ (And.intro ?_ ?_));iterate 3 (focus (first|rfl|(simp only [go_sem,Nat.sub_zero,F0];done)|(simp [go_sem,look,Nat.sub_zero,F0];done)))));(all_goals (try simp only [go_sem,Nat.sub_zero,F0]));(all_goals (try simp only [go_sem,Nat.sub_zero,F0]));(all_goals repeat' (first|apply And.intro|intro _)))
  |refine Bq fun zN zM zhN zhM=>?_
  |(refine Bj ?_ ?_;focus (first|rfl|(simp [go_sem,Nat.sub_zero,F0];done)))
theorem s0z (key nonce ad text:List UInt8) (hk:key.length=32) (hn:nonce.length=12) (ex1 ex2:Bool) (h1:ad.length≤200) (h2:text.length≤800):
 CtM Tryd.prog 20 [.w (.agg (Aq key)),.w (.agg (Aq nonce)),.w (.one (.pl (.R ex1 1 (Aw ad)))),.w (.one (.pl (.R ex2 1 (Aw text))))] [] (Told (byO (slV key nonce ad text) 0)):=by
 have g1:¬(200:Int)<((ad.length:Nat):Int):=by omega
 have g2:¬(800:Int)<((text.length:Nat):Int):=by omega
 have ht:=Ox key nonce ad (d0b key 1 nonce text)
 have hcl:=Ny key 1 nonce text
 have hT:=z0o key nonce ad (d0b key 1 nonce text) hk hn h1 (by rw [Ny];exact h2)
 have hS:=(v0y key hk 1 nonce hn text ex2 (by omega) (ho1 (by omega))).told
 have hfin:slV key nonce ad text=d0b key 1 nonce text++j0w key nonce ad (d0b key 1 nonce text):=rfl
 obtain ⟨c,hc⟩: ∃ q,d0b key 1 nonce text=q:=⟨_,rfl⟩
 rw [hc] at ht hcl hT hS hfin
 obtain ⟨tg,htg⟩: ∃ q,j0w key nonce ad c=q:=⟨_,rfl⟩
 rw [htg] at ht hT hfin
 have hch:chunks 1 text.length (c.map PL.u8)=Aw c:=Ew hcl
 have hq:text.length+16≤140737488355328:=by omega
 have hq2:text.length+16≤9223372036854775807:=by omega
 have htk:List.take 16 tg=tg:=List.take_of_length_le (by omega)
 have F0:=And.intro hk<|And.intro hn<|And.intro g1<|And.intro g2<|And.intro hcl<|And.intro ht<|And.intro hch<|And.intro hq<|And.intro hq2<|htk
 refine CtM.k Tryd.func20 rfl Tryd.ntmps20 (congrArg Array.toList Tryd.results20) (by simp) fun w0 ro may fx=>?_
 refine Dx fun zZ zhZ=>?_
 refine Dz fun zK zhK=>?_
 simp only [go_sem,Nat.sub_zero,F0]
 repeat' (first|apply And.intro|intro _)
 refine zhK _ ?_
 refine Bq fun zN zM zhN zhM=>?_
 refine Dz fun zK zhK=>?_
 simp only [go_sem,Nat.sub_zero,F0]
 repeat' (first|apply And.intro|intro _)
 refine zhK _ ?_
 (refine Bj ?_ ?_;focus (first|rfl|(simp [go_sem,Nat.sub_zero,F0];done)))
 refine Cq ?_
 refine zhN _ ?_;clear zhN zhM
 refine Dz fun zK zhK=>?_
 simp only [go_sem,Nat.sub_zero,F0]
 repeat' (first|apply And.intro|intro _)
 all_goals (refine Dy false [] (fun k=>k) (fun _ _=>rfl) ?_ (by decide) ?_ hS.hands ?_;iterate 2 (focus (first|rfl|(simp only [go_sem,Nat.sub_zero,F0]<;>first|done|rfl|simp))))
 all_goals (rintro v m ⟨hR,hm⟩;subst hR;subst hm)
 all_goals (refine And.intro ?_ (And.intro ?_ (And.intro ?_ ?_));iterate 3 (focus (first|rfl|(simp only [go_sem,Nat.sub_zero,F0];done)|(simp [go_sem,look,Nat.sub_zero,F0];done))))
 all_goals (try simp only [go_sem,Nat.sub_zero,F0])
 all_goals (try simp only [go_sem,Nat.sub_zero,F0])
 all_goals repeat' (first|apply And.intro|intro _)
 refine zhK _ ?_
 refine Bq fun zN zM zhN zhM=>?_
 refine Zj (id:=4) mixed fun zE zhE=>?_
 refine Cj (p:=0) 9 [27,28,29,30,31,32,33,34,35] [0,1,0,0,0,16,0,64,252,511,1023,2047,4095] [] rfl (by kernel_rfl) rfl (by simp only [go_sem]) fun zR zK zhR zhK=>?_
 simp only [go_sem,Nat.sub_zero,F0]
 repeat' (first|apply And.intro|intro _)
 all_goals (refine Dv (fun k=>k) (.w (.one (.pl (.str tg)))) [] (fun _ _=>rfl) ?_ (hT.plain fun _ _ h=>h) ?_ ?_;focus (first|rfl|(simp only [go_sem,Nat.sub_zero,F0]<;>rfl)))
 all_goals try (refine And.intro ?_ (And.intro ?_ (And.intro ?_ ?_))<;>first|rfl|simp only [go_sem])
 all_goals simp only [go_sem,Nat.sub_zero,F0]
 all_goals repeat' (first|apply And.intro|intro _)
 refine zhK _ _ trivial (zhR _ ?_)
 refine Dw 4 13 rfl (by kernel_rfl) rfl rfl fun zR zhR=>?_
 simp only [go_sem,Nat.sub_zero,F0]
 repeat' (first|apply And.intro|intro _)
 refine zhR _ ?_
 refine Hq rfl (zhE _ ?_)
 refine zhN _ ?_;clear zhN zhM
 refine Ck ?_
 refine zhZ _ _ ?_
 simp only [go_sem,Nat.sub_zero,F0]
 all_goals (rw [hfin];exact f0h (by simp [ht,hcl]) (by simp [look]))
theorem t1k (key nonce ad text:List UInt8) (hk:key.length=32) (hn:nonce.length=12) (ex1 ex2:Bool) (h1:ad.length≤200) (h2:text.length≤800):CtM Tryd.prog 14 [.w (.agg (Aq key)),.w (.agg (Aq nonce)),.w (.one (.pl (.R ex1 1 (Aw ad)))),.w (.one (.pl (.R ex2 1 (Aw text))))] [] (Told (byV (slV key nonce ad text) 0)):=
 (z0t key nonce ad text hk hn ex1 ex2 h1 h2).told.mono fun v m ⟨hv,hm⟩=>by subst hv;subst hm;exact k1d (b:=true) rfl rfl
theorem d2w (key nonce ad text:List UInt8) (hk:key.length=32) (hn:nonce.length=12) (ex1 ex2:Bool):CtM Tryd.prog 14 [.w (.agg (Aq key)),.w (.agg (Aq nonce)),.w (.one (.pl (.R ex1 1 (Aw ad)))),.w (.one (.pl (.R ex2 1 (Aw text))))] [] (byV (slB key nonce ad text) (slE ad text)):=by
 by_cases h1:200<ad.length
 · have e:slE ad text=1:=if_pos h1
   rw [slB,e,if_neg (by decide)]
   exact (t1l key nonce ad text hk hn ex1 ex2 h1).told
 · by_cases h2:800<text.length
   · have e:slE ad text=1:=by unfold slE;rw [if_neg h1,if_pos h2]
     rw [slB,e,if_neg (by decide)]
     exact (f1q key nonce ad text hk hn ex1 ex2 (by omega) h2).told
   · have e:slE ad text=0:=by unfold slE;rw [if_neg h1,if_neg h2]
     rw [slB,e,if_pos rfl]
     exact (t1k key nonce ad text hk hn ex1 ex2 (by omega) (by omega)).told
theorem m1u (key nonce ad text:List UInt8) (hk:key.length=32) (hn:nonce.length=12) (ex1 ex2:Bool) (h1:ad.length≤200) (h2:text.length≤800):CtM Tryd.prog 20 [.w (.agg (Aq key)),.w (.agg (Aq nonce)),.w (.one (.pl (.R ex1 1 (Aw ad)))),.w (.one (.pl (.R ex2 1 (Aw text))))] [] (Told (byV (slV key nonce ad text) 0)):=
 (s0z key nonce ad text hk hn ex1 ex2 h1 h2).told.mono fun v m ⟨hv,hm⟩=>by subst hv;subst hm;exact k1d (b:=true) rfl rfl
theorem a2c (key nonce ad text:List UInt8) (hk:key.length=32) (hn:nonce.length=12) (ex1 ex2:Bool):CtM Tryd.prog 20 [.w (.agg (Aq key)),.w (.agg (Aq nonce)),.w (.one (.pl (.R ex1 1 (Aw ad)))),.w (.one (.pl (.R ex2 1 (Aw text))))] [] (byV (slB key nonce ad text) (slE ad text)):=by
 by_cases h1:200<ad.length
 · have e:slE ad text=1:=if_pos h1
   rw [slB,e,if_neg (by decide)]
   exact (m1v key nonce ad text hk hn ex1 ex2 h1).told
 · by_cases h2:800<text.length
   · have e:slE ad text=1:=by unfold slE;rw [if_neg h1,if_pos h2]
     rw [slB,e,if_neg (by decide)]
     exact (b1k key nonce ad text hk hn ex1 ex2 (by omega) h2).told
   · have e:slE ad text=0:=by unfold slE;rw [if_neg h1,if_neg h2]
     rw [slB,e,if_pos rfl]
     exact (m1u key nonce ad text hk hn ex1 ex2 (by omega) (by omega)).told
end Go.Sy
namespace Go.Sy
open Go.Proofs
attribute [local irreducible] Fz HT Cw Oj onC onE onO onG goV goA goS Qv Ey
def Rq (key nonce ad b:List UInt8):Int:=if 200<ad.length then 1 else if 816<b.length then 1 else if b.length<16 then 4 else if j0w key nonce ad (b.take (b.length-16))=b.drop (b.length-16) then 0 else 10
def Zq (key nonce ad b:List UInt8):List UInt8:=if Rq key nonce ad b=0 then d0b key 1 nonce (b.take (b.length-16)) else []
def e1d (q t:List UInt8):Nat→UInt8
 |0=>0
 |i+1=>e1d q t i|||(q.getD i 0^^^t.getD i 0)
theorem u0c (q t:List UInt8): ∀ n,e1d q t n=0↔∀ i,i<n→q.getD i 0=t.getD i 0
 |0=>⟨fun _ i h=>absurd h (Nat.not_lt_zero i),fun _=>rfl⟩
 |n+1=>by
  rw [e1d,UInt8.or_eq_zero_iff,u0c q t n,UInt8.xor_eq_zero_iff]
  constructor
  · intro ⟨h1,h2⟩ i hi
    rcases Nat.lt_succ_iff_lt_or_eq.mp hi with h|h
    · exact h1 i h
    · rw [h];exact h2
  · intro h
    exact ⟨fun i hi=>h i (by omega),h n (by omega)⟩
theorem r1s {q t:List UInt8} (hq:q.length=16) (ht:t.length=16):e1d q t 16=0↔t=q:=by
 rw [u0c]
 constructor
 · intro h
   refine List.ext_getElem (by omega) fun i h1 h2=>?_
   have:=h i (by omega)
   simpa [List.getD,List.getElem?_eq_getElem h1,List.getElem?_eq_getElem h2] using this.symm
 · intro h i _
   rw [h]
theorem u1r (key nonce ad b:List UInt8) (hk:key.length=32) (hn:nonce.length=12) (ex1 ex2:Bool) (hcap:b.length≤9223372036854775807) (h1:200<ad.length):
 CtM Tryd.prog 16 [.w (.agg (Aq key)),.w (.agg (Aq nonce)),.w (.one (.pl (.R ex1 1 (Aw ad)))),.w (.one (.pl (.R ex2 1 (Aw b))))] [] (Told (byV [] 1)):=by
 have g1:(200:Int)<((ad.length:Nat):Int):=by omega
 have hw:Go.RowKit.wrap64 (((b.length:Nat):Int)-16)=((b.length:Nat):Int)-16:=w64 (by omega)
 have F0:=And.intro hk<|And.intro hn<|And.intro hw<|g1
 refine CtM.k Tryd.func16 rfl Tryd.ntmps16 (congrArg Array.toList Tryd.results16) (by simp) fun w0 ro may fx=>?_
 refine Dx fun zZ zhZ=>?_
 iterate 13 first
  |(refine Dz fun zK zhK=>?_;simp only [go_sem,F0];(repeat' (first|apply And.intro|intro _)))
  |refine zhK _ ?_
  |refine Ck ?_
  |(refine zhM _ _ ?_;clear zhN zhM)
  |(refine zhZ _ _ ?_;simp only [go_sem,F0];(all_goals (exact b0y)))
  |refine Bq fun zN zM zhN zhM=>?_
  |(refine Bz ?_ ?_;focus (first|rfl|(simp [go_sem,F0];done)))
theorem h1f (key nonce ad b:List UInt8) (hk:key.length=32) (hn:nonce.length=12) (ex1 ex2:Bool) (hcap:b.length≤9223372036854775807) (h1:ad.length≤200) (h2:816<b.length):
 CtM Tryd.prog 16 [.w (.agg (Aq key)),.w (.agg (Aq nonce)),.w (.one (.pl (.R ex1 1 (Aw ad)))),.w (.one (.pl (.R ex2 1 (Aw b))))] [] (Told (byV [] 1)):=by
 have g1:¬(200:Int)<((ad.length:Nat):Int):=by omega
 have hw:Go.RowKit.wrap64 (((b.length:Nat):Int)-16)=((b.length:Nat):Int)-16:=w64 (by omega)
 have g2:(800:Int)<((b.length:Nat):Int)-16:=by omega
 have g2b:(816:Int)<((b.length:Nat):Int):=by omega
 have F0:=And.intro hk<|And.intro hn<|And.intro hw<|And.intro g1<|And.intro g2<|g2b
 refine CtM.k Tryd.func16 rfl Tryd.ntmps16 (congrArg Array.toList Tryd.results16) (by simp) fun w0 ro may fx=>?_
 refine Dx fun zZ zhZ=>?_
 iterate 13 first
  |(refine Dz fun zK zhK=>?_;simp only [go_sem,F0];(repeat' (first|apply And.intro|intro _)))
  |refine zhK _ ?_
  |refine Ck ?_
  |(refine zhM _ _ ?_;clear zhN zhM)
  |(refine zhZ _ _ ?_;simp only [go_sem,F0];(all_goals (exact b0y)))
  |refine Bq fun zN zM zhN zhM=>?_
  |(refine Bz ?_ ?_;focus (first|rfl|(simp [go_sem,F0];done)))
theorem c1k (key nonce ad b:List UInt8) (hk:key.length=32) (hn:nonce.length=12) (ex1 ex2:Bool) (hcap:b.length≤9223372036854775807) (h1:ad.length≤200) (h2:b.length≤816) (h3:b.length<16):
 CtM Tryd.prog 16 [.w (.agg (Aq key)),.w (.agg (Aq nonce)),.w (.one (.pl (.R ex1 1 (Aw ad)))),.w (.one (.pl (.R ex2 1 (Aw b))))] [] (Told (byV [] 4)):=by
 have g1:¬(200:Int)<((ad.length:Nat):Int):=by omega
 have hw:Go.RowKit.wrap64 (((b.length:Nat):Int)-16)=((b.length:Nat):Int)-16:=w64 (by omega)
 have g2:¬(800:Int)<((b.length:Nat):Int)-16:=by omega
 have g2b:¬(816:Int)<((b.length:Nat):Int):=by omega
 have g3:((b.length:Nat):Int)-16<(0:Int):=by omega
 have g3b:((b.length:Nat):Int)<(16:Int):=by omega
 have F0:=And.intro hk<|And.intro hn<|And.intro hw<|And.intro g1<|And.intro g2<|And.intro g2b<|And.intro g3<|g3b
 refine CtM.k Tryd.func16 rfl Tryd.ntmps16 (congrArg Array.toList Tryd.results16) (by simp) fun w0 ro may fx=>?_
 refine Dx fun zZ zhZ=>?_
 iterate 19 first
  |(refine Dz fun zK zhK=>?_;simp only [go_sem,F0];(repeat' (first|apply And.intro|intro _)))
  |refine zhK _ ?_
  |refine Cq ?_
  |(refine zhN _ ?_;clear zhN zhM)
  |refine Ck ?_
  |(refine zhM _ _ ?_;clear zhN zhM)
  |(refine zhZ _ _ ?_;simp only [go_sem,F0];(all_goals (exact b0y)))
  |refine Bq fun zN zM zhN zhM=>?_
  |(refine Bj ?_ ?_;focus (first|rfl|(simp [go_sem,F0];done)))
  |(refine Bz ?_ ?_;focus (first|rfl|(simp [go_sem,F0];done)))
theorem s1n (key nonce ad b:List UInt8) (hk:key.length=32) (hn:nonce.length=12) (ex1 ex2:Bool) (hcap:b.length≤9223372036854775807) (h1:200<ad.length):
 CtM Tryd.prog 18 [.w (.agg (Aq key)),.w (.agg (Aq nonce)),.w (.one (.pl (.R ex1 1 (Aw ad)))),.w (.one (.pl (.R ex2 1 (Aw b))))] [] (Told (byV [] 1)):=by
 have g1:(200:Int)<((ad.length:Nat):Int):=by omega
 have hw:Go.RowKit.wrap64 (((b.length:Nat):Int)-16)=((b.length:Nat):Int)-16:=w64 (by omega)
 have F0:=And.intro hk<|And.intro hn<|And.intro hw<|g1
 refine CtM.k Tryd.func18 rfl Tryd.ntmps18 (congrArg Array.toList Tryd.results18) (by simp) fun w0 ro may fx=>?_
 refine Dx fun zZ zhZ=>?_
 iterate 11 first
  |(refine Dz fun zK zhK=>?_;simp only [go_sem,F0];(repeat' (first|apply And.intro|intro _)))
  |refine zhK _ ?_
  |refine Ck ?_
  |(refine zhM _ _ ?_;clear zhN zhM)
  |(refine zhZ _ _ ?_;simp only [go_sem,F0];(all_goals (exact b0y)))
  |refine Bq fun zN zM zhN zhM=>?_
  |(refine Bz ?_ ?_;focus (first|rfl|(simp [go_sem,F0];done)))
theorem e1m (key nonce ad b:List UInt8) (hk:key.length=32) (hn:nonce.length=12) (ex1 ex2:Bool) (hcap:b.length≤9223372036854775807) (h1:ad.length≤200) (h2:816<b.length):
 CtM Tryd.prog 18 [.w (.agg (Aq key)),.w (.agg (Aq nonce)),.w (.one (.pl (.R ex1 1 (Aw ad)))),.w (.one (.pl (.R ex2 1 (Aw b))))] [] (Told (byV [] 1)):=by
 have g1:¬(200:Int)<((ad.length:Nat):Int):=by omega
 have hw:Go.RowKit.wrap64 (((b.length:Nat):Int)-16)=((b.length:Nat):Int)-16:=w64 (by omega)
 have g2:(800:Int)<((b.length:Nat):Int)-16:=by omega
 have g2b:(816:Int)<((b.length:Nat):Int):=by omega
 have F0:=And.intro hk<|And.intro hn<|And.intro hw<|And.intro g1<|And.intro g2<|g2b
 refine CtM.k Tryd.func18 rfl Tryd.ntmps18 (congrArg Array.toList Tryd.results18) (by simp) fun w0 ro may fx=>?_
 refine Dx fun zZ zhZ=>?_
 iterate 11 first
  |(refine Dz fun zK zhK=>?_;simp only [go_sem,F0];(repeat' (first|apply And.intro|intro _)))
  |refine zhK _ ?_
  |refine Ck ?_
  |(refine zhM _ _ ?_;clear zhN zhM)
  |(refine zhZ _ _ ?_;simp only [go_sem,F0];(all_goals (exact b0y)))
  |refine Bq fun zN zM zhN zhM=>?_
  |(refine Bz ?_ ?_;focus (first|rfl|(simp [go_sem,F0];done)))
theorem b1g (key nonce ad b:List UInt8) (hk:key.length=32) (hn:nonce.length=12) (ex1 ex2:Bool) (hcap:b.length≤9223372036854775807) (h1:ad.length≤200) (h2:b.length≤816) (h3:b.length<16):
 CtM Tryd.prog 18 [.w (.agg (Aq key)),.w (.agg (Aq nonce)),.w (.one (.pl (.R ex1 1 (Aw ad)))),.w (.one (.pl (.R ex2 1 (Aw b))))] [] (Told (byV [] 4)):=by
 have g1:¬(200:Int)<((ad.length:Nat):Int):=by omega
 have hw:Go.RowKit.wrap64 (((b.length:Nat):Int)-16)=((b.length:Nat):Int)-16:=w64 (by omega)
 have g2:¬(800:Int)<((b.length:Nat):Int)-16:=by omega
 have g2b:¬(816:Int)<((b.length:Nat):Int):=by omega
 have g3:((b.length:Nat):Int)-16<(0:Int):=by omega
 have g3b:((b.length:Nat):Int)<(16:Int):=by omega
 have F0:=And.intro hk<|And.intro hn<|And.intro hw<|And.intro g1<|And.intro g2<|And.intro g2b<|And.intro g3<|g3b
 refine CtM.k Tryd.func18 rfl Tryd.ntmps18 (congrArg Array.toList Tryd.results18) (by simp) fun w0 ro may fx=>?_
 refine Dx fun zZ zhZ=>?_
 iterate 17 first
  |(refine Dz fun zK zhK=>?_;simp only [go_sem,F0];(repeat' (first|apply And.intro|intro _)))
  |refine zhK _ ?_
  |refine Cq ?_
  |(refine zhN _ ?_;clear zhN zhM)
  |refine Ck ?_
  |(refine zhM _ _ ?_;clear zhN zhM)
  |(refine zhZ _ _ ?_;simp only [go_sem,F0];(all_goals (exact b0y)))
  |refine Bq fun zN zM zhN zhM=>?_
  |(refine Bj ?_ ?_;focus (first|rfl|(simp [go_sem,F0];done)))
  |(refine Bz ?_ ?_;focus (first|rfl|(simp [go_sem,F0];done)))
theorem o1o (key nonce ad b:List UInt8) (hk:key.length=32) (hn:nonce.length=12) (ex1 ex2:Bool) (h1:ad.length≤200) (h2:b.length≤816) (h3:¬b.length<16) (heq:¬j0w key nonce ad (b.take (b.length-16))=b.drop (b.length-16)):
 CtM Tryd.prog 16 [.w (.agg (Aq key)),.w (.agg (Aq nonce)),.w (.one (.pl (.R ex1 1 (Aw ad)))),.w (.one (.pl (.R ex2 1 (Aw b))))] [] (Told (byV [] 10)):=by
 have g1:¬(200:Int)<((ad.length:Nat):Int):=by omega
 have g2:¬(800:Int)<((b.length:Nat):Int)-16:=by omega
 have g2b:¬(816:Int)<((b.length:Nat):Int):=by omega
 have g3:¬((b.length:Nat):Int)-16<(0:Int):=by omega
 have g3b:¬((b.length:Nat):Int)<(16:Int):=by omega
 obtain ⟨p,hp⟩: ∃ q,b.take (b.length-16)=q:=⟨_,rfl⟩
 obtain ⟨q,hq⟩: ∃ q,b.drop (b.length-16)=q:=⟨_,rfl⟩
 have hpl:p.length=(b.length-16):=by rw [←hp,List.length_take];omega
 have hql:q.length=16:=by rw [←hq,List.length_drop];omega
 have hp8:p.length≤800:=by omega
 rw [hp,hq] at heq
 have hT:=d2r key nonce ad p hk hn h1 hp8 ex1 false
 have hS:=(q0j key hk 1 nonce hn p false (by omega) (ho1 (by omega))).told
 have ht:=Ox key nonce ad p
 have hsl:=Ny key 1 nonce p
 obtain ⟨tg,htg⟩: ∃ q,j0w key nonce ad p=q:=⟨_,rfl⟩
 rw [htg] at ht hT heq
 obtain ⟨c,hc⟩: ∃ q,d0b key 1 nonce p=q:=⟨_,rfl⟩
 rw [hc] at hsl hS
 obtain ⟨n,hnn⟩: ∃ q,(b.length-16)=q:=⟨_,rfl⟩
 have hnb:b.length=n+16:=by omega
 rw [hnn] at hp hq hpl
 have hw:Go.RowKit.wrap64 (((n+16:Nat):Int)-16)=((n:Nat):Int):=by rw [w64 (by omega)];omega
 rw [hnb] at g2 g2b g3 g3b
 have hne:(n=n+16)=False:=eq_false (by omega)
 have hsub:n+16-n=16:=by omega
 have htq:List.take 16 q=q:=List.take_of_length_le (by omega)
 have htt:List.take 16 tg=tg:=List.take_of_length_le (by omega)
 have hle:n≤n+16:=by omega
 have z1:(0:Int)≤((n:Nat):Int)∧((n:Nat):Int)≤((n+16:Nat):Int):=by omega
 have z2:¬(800:Int)<((n:Nat):Int)∧¬((n:Nat):Int)<0:=by omega
 have F0:=And.intro hk<|And.intro hn<|And.intro hw<|And.intro g1<|And.intro g2<|And.intro g2b<|And.intro g3<|And.intro g3b<|And.intro hnb<|And.intro hp<|And.intro hq<|And.intro hpl<|And.intro hql<|And.intro ht<|And.intro hsl<|And.intro hne<|And.intro hsub<|And.intro htq<|And.intro htt<|And.intro hle<|And.intro z1<|z2
 refine CtM.k Tryd.func16 rfl Tryd.ntmps16 (congrArg Array.toList Tryd.results16) (by simp) fun w0 ro may fx=>?_
 refine Dx fun zZ zhZ=>?_
 iterate 25 first
  |(refine Dz fun zK zhK=>?_;simp only [go_sem,Nat.sub_zero,Bool.and_false,F0];(repeat' (first|apply And.intro|intro _)))
  |refine zhK _ ?_
  |(refine zhN _ ?_;clear zhN zhM)
  |refine Cq ?_
  |refine Cx fun zB zbn zbx zbr zbi=>?_
  |(refine Zj (id:=6) mixed fun zE zhE=>?_;refine Cj (p:=0) 8 [27,28,29,30,31,32,33,11] [0,0,0,0,0,24,63,0,255] [] rfl (by kernel_rfl) rfl (by simp only [go_sem]) fun zR zK zhR zhK=>?_;simp only [go_sem,Nat.sub_zero,Bool.and_false,F0];(repeat' (first|apply And.intro|intro _));(all_goals (refine Fy (fun k=>k) (.w (.agg (Aq tg))) [] (fun _ _=>rfl) ?_ ?_ ?_ hT ?_ ?_;(iterate 2 (focus (first|rfl|(simp only [go_sem,Nat.sub_zero,Bool.and_false,F0]<;>first|done|rfl|simp))));(first|kernel_rfl|rfl|simp [h0y,i0r,pls])));(all_goals try (refine And.intro ?_ (And.intro ?_ (And.intro ?_ ?_))<;>(first|rfl|(simp only [go_sem,Nat.sub_zero,Bool.and_false,F0];done)|(simp [go_sem,look,Nat.sub_zero,Bool.and_false,F0];done))));(all_goals (try simp only [go_sem,Nat.sub_zero,Bool.and_false,F0]));(all_goals (try simp only [go_sem,Nat.sub_zero,Bool.and_false,F0]));(all_goals repeat' (first|apply And.intro|intro _));refine zhK _ _ trivial (zhR _ ?_);refine Dw 1 9 rfl (by kernel_rfl) rfl rfl fun zR zhR=>?_;simp only [go_sem,Nat.sub_zero,Bool.and_false,F0];(repeat' (first|apply And.intro|intro _));refine zhR _ ?_;refine Hq rfl (zhE _ ?_))
  |refine Bq fun zN zM zhN zhM=>?_
  |(refine Bj ?_ ?_;focus (first|rfl|(simp [go_sem,Nat.sub_zero,Bool.and_false,F0];done)))
 refine Fq [0,1,2,15,16,17,18,19,20,21,22,23,24,25,26,27,28,29,30,31,32,33,34,35] ?_
 simp only [Gz,Gj,Fj,List.contains_cons,List.contains_nil,Nat.reduceBEq,beq_self_eq_true,Bool.or_false,Bool.or_true,Bool.true_or,Bool.false_or,Bool.false_eq_true,reduceIte]
 refine Ik (fun y=>[(12,.w (.one (.pl (.u8 (e1d q tg y.1))))),(38,.w (.one (.pl (.i ((y.1:Nat):Int)))))]) (fun _=>[]) (fun y=>16-y.1) (⟨0,Nat.zero_le _⟩:{y:Nat//y≤16}) ?_ ?_ ?_
 · (simp only [go_sem,e1d,leX,List.cons_append,List.nil_append];try simp)
 · (simp only [go_sem,leX,List.cons_append,List.nil_append];try simp)
 intro ⟨i,hi⟩ zN zM zhN zhM
 simp only [List.cons_append,List.nil_append]
 rcases Nat.lt_or_ge i 16 with hlt|hge
 · have hcq:((i:Nat):Int)<(16:Int):=by clear hw F0;omega
   have hb1:=Iw (bs:=q) (n:=i) (by clear hw F0;omega)
   have hb2:=Ux (q:=tg) (i:=i) (by clear hw F0;omega)
   have d0:(0:Int)≤((i:Nat):Int)∧((i:Nat):Int)<(16:Int):=by clear hw F0;omega
   have d1:i+1≤16:=by clear hw F0;omega
   have hs1:Go.RowKit.wrap64 (((i:Nat):Int)+1)=((i+1:Nat):Int):=Kv (by clear hw F0;omega) (by clear hw F0;omega)
   have F15:=And.intro hcq<|And.intro hb1<|And.intro hb2<|And.intro d0<|And.intro d1<|hs1
   iterate 16 first
    |refine zhK _ ?_
    |(refine Dz fun zK zhK=>?_;simp only [go_sem,Nat.sub_zero,Bool.and_false,F0,Dq,F15];(repeat' (first|apply And.intro|intro _)))
    |(refine zhN _ ?_;clear zhN zhM)
    |(refine Cv fun zK zhK=>?_;simp only [go_sem,Nat.sub_zero,Bool.and_false,F0,Dq,F15];(repeat' (first|apply And.intro|intro _)))
    |refine Cq ?_
    |refine Cx fun zB zbn zbx zbr zbi=>?_
    |(refine zbn _ ?_;clear zbn zbx zbr zbi)
    |refine Bq fun zN zM zhN zhM=>?_
    |(refine Bz ?_ ?_;focus (first|rfl|(simp [go_sem,Nat.sub_zero,Bool.and_false,F0,Dq,F15];done)))
   refine zhN ⟨i+1,hlt⟩ _ ?_ ?_ ?_
   · (exact Nat.sub_lt_sub_left hlt (Nat.lt_succ_self i))
   · (simp only [go_sem,e1d,leX,List.cons_append,List.nil_append];try simp)
   · (simp only [go_sem,leX,List.cons_append,List.nil_append];try simp)
 · obtain rfl:i=16:=by clear hw F0;omega
   have hcq:¬((16:Nat):Int)<(16:Int):=by clear hw F0;omega
   have hod:¬e1d q tg 16=0:=by rw [r1s hql ht];exact heq
   iterate 18 first
    |(refine Dz fun zK zhK=>?_;simp only [go_sem,Nat.sub_zero,Bool.and_false,F0,hcq,hod];(repeat' (first|apply And.intro|intro _)))
    |refine zhK _ ?_
    |(refine zhM _ _ ?_;clear zhN zhM)
    |refine Fx ?_
    |(refine zbx _ ?_;clear zbn zbx zbr zbi)
    |(refine zhN _ ?_;clear zhN zhM)
    |refine Ck ?_
    |(refine zhZ _ _ ?_;simp only [go_sem,Nat.sub_zero,Bool.and_false,F0,hcq,hod];(all_goals (exact b0y)))
    |refine Bq fun zN zM zhN zhM=>?_
    |(refine Bj ?_ ?_;focus (first|rfl|(simp [go_sem,Nat.sub_zero,Bool.and_false,F0,hcq,hod];done)))
    |(refine Bz ?_ ?_;focus (first|rfl|(simp [go_sem,Nat.sub_zero,Bool.and_false,F0,hcq,hod];done)))
theorem a1g (key nonce ad b:List UInt8) (hk:key.length=32) (hn:nonce.length=12) (ex1 ex2:Bool) (h1:ad.length≤200) (h2:b.length≤816) (h3:¬b.length<16) (heq:j0w key nonce ad (b.take (b.length-16))=b.drop (b.length-16)):
 CtM Tryd.prog 16 [.w (.agg (Aq key)),.w (.agg (Aq nonce)),.w (.one (.pl (.R ex1 1 (Aw ad)))),.w (.one (.pl (.R ex2 1 (Aw b))))] [] (Told (byO (d0b key 1 nonce (b.take (b.length-16))) 0)):=by
 have g1:¬(200:Int)<((ad.length:Nat):Int):=by omega
 have g2:¬(800:Int)<((b.length:Nat):Int)-16:=by omega
 have g2b:¬(816:Int)<((b.length:Nat):Int):=by omega
 have g3:¬((b.length:Nat):Int)-16<(0:Int):=by omega
 have g3b:¬((b.length:Nat):Int)<(16:Int):=by omega
 obtain ⟨p,hp⟩: ∃ q,b.take (b.length-16)=q:=⟨_,rfl⟩
 obtain ⟨q,hq⟩: ∃ q,b.drop (b.length-16)=q:=⟨_,rfl⟩
 have hpl:p.length=(b.length-16):=by rw [←hp,List.length_take];omega
 have hql:q.length=16:=by rw [←hq,List.length_drop];omega
 have hp8:p.length≤800:=by omega
 rw [hp,hq] at heq
 have hT:=d2r key nonce ad p hk hn h1 hp8 ex1 false
 have hS:=(q0j key hk 1 nonce hn p false (by omega) (ho1 (by omega))).told
 have ht:=Ox key nonce ad p
 have hsl:=Ny key 1 nonce p
 obtain ⟨tg,htg⟩: ∃ q,j0w key nonce ad p=q:=⟨_,rfl⟩
 rw [htg] at ht hT heq
 obtain ⟨c,hc⟩: ∃ q,d0b key 1 nonce p=q:=⟨_,rfl⟩
 rw [hc] at hsl hS
 obtain ⟨n,hnn⟩: ∃ q,(b.length-16)=q:=⟨_,rfl⟩
 have hnb:b.length=n+16:=by omega
 rw [hnn] at hp hq hpl
 have hw:Go.RowKit.wrap64 (((n+16:Nat):Int)-16)=((n:Nat):Int):=by rw [w64 (by omega)];omega
 rw [hnb] at g2 g2b g3 g3b
 have hne:(n=n+16)=False:=eq_false (by omega)
 have hsub:n+16-n=16:=by omega
 have htq:List.take 16 q=q:=List.take_of_length_le (by omega)
 have htt:List.take 16 tg=tg:=List.take_of_length_le (by omega)
 have hle:n≤n+16:=by omega
 have z1:(0:Int)≤((n:Nat):Int)∧((n:Nat):Int)≤((n+16:Nat):Int):=by omega
 have z2:¬(800:Int)<((n:Nat):Int)∧¬((n:Nat):Int)<0:=by omega
 have hfin:d0b key 1 nonce (b.take (b.length-16))=c:=by rw [←hc,←hp,hnn]
 rw [hfin]
 have F0:=And.intro hk<|And.intro hn<|And.intro hw<|And.intro g1<|And.intro g2<|And.intro g2b<|And.intro g3<|And.intro g3b<|And.intro hnb<|And.intro hp<|And.intro hq<|And.intro hpl<|And.intro hql<|And.intro ht<|And.intro hsl<|And.intro hne<|And.intro hsub<|And.intro htq<|And.intro htt<|And.intro hle<|And.intro z1<|z2
 refine CtM.k Tryd.func16 rfl Tryd.ntmps16 (congrArg Array.toList Tryd.results16) (by simp) fun w0 ro may fx=>?_
 refine Dx fun zZ zhZ=>?_
 iterate 25 first
  |(refine Dz fun zK zhK=>?_;simp only [go_sem,Nat.sub_zero,Bool.and_false,F0];(repeat' (first|apply And.intro|intro _)))
  |refine zhK _ ?_
  |(refine zhN _ ?_;clear zhN zhM)
  |refine Cq ?_
  |refine Cx fun zB zbn zbx zbr zbi=>?_
  |(refine Zj (id:=6) mixed fun zE zhE=>?_;refine Cj (p:=0) 8 [27,28,29,30,31,32,33,11] [0,0,0,0,0,24,63,0,255] [] rfl (by kernel_rfl) rfl (by simp only [go_sem]) fun zR zK zhR zhK=>?_;simp only [go_sem,Nat.sub_zero,Bool.and_false,F0];(repeat' (first|apply And.intro|intro _));(all_goals (refine Fy (fun k=>k) (.w (.agg (Aq tg))) [] (fun _ _=>rfl) ?_ ?_ ?_ hT ?_ ?_;(iterate 2 (focus (first|rfl|(simp only [go_sem,Nat.sub_zero,Bool.and_false,F0]<;>first|done|rfl|simp))));(first|kernel_rfl|rfl|simp [h0y,i0r,pls])));(all_goals try (refine And.intro ?_ (And.intro ?_ (And.intro ?_ ?_))<;>(first|rfl|(simp only [go_sem,Nat.sub_zero,Bool.and_false,F0];done)|(simp [go_sem,look,Nat.sub_zero,Bool.and_false,F0];done))));(all_goals (try simp only [go_sem,Nat.sub_zero,Bool.and_false,F0]));(all_goals (try simp only [go_sem,Nat.sub_zero,Bool.and_false,F0]));(all_goals repeat' (first|apply And.intro|intro _));refine zhK _ _ trivial (zhR _ ?_);refine Dw 1 9 rfl (by kernel_rfl) rfl rfl fun zR zhR=>?_;simp only [go_sem,Nat.sub_zero,Bool.and_false,F0];(repeat' (first|apply And.intro|intro _));refine zhR _ ?_;refine Hq rfl (zhE _ ?_))
  |refine Bq fun zN zM zhN zhM=>?_
  |(refine Bj ?_ ?_;focus (first|rfl|(simp [go_sem,Nat.sub_zero,Bool.and_false,F0];done)))
 refine Fq [0,1,2,15,16,17,18,19,20,21,22,23,24,25,26,27,28,29,30,31,32,33,34,35] ?_
 simp only [Gz,Gj,Fj,List.contains_cons,List.contains_nil,Nat.reduceBEq,beq_self_eq_true,Bool.or_false,Bool.or_true,Bool.true_or,Bool.false_or,Bool.false_eq_true,reduceIte]
 refine Ik (fun y=>[(12,.w (.one (.pl (.u8 (e1d q tg y.1))))),(38,.w (.one (.pl (.i ((y.1:Nat):Int)))))]) (fun _=>[]) (fun y=>16-y.1) (⟨0,Nat.zero_le _⟩:{y:Nat//y≤16}) ?_ ?_ ?_
 · (simp only [go_sem,e1d,leX,List.cons_append,List.nil_append];try simp)
 · (simp only [go_sem,leX,List.cons_append,List.nil_append];try simp)
 intro ⟨i,hi⟩ zN zM zhN zhM
 simp only [List.cons_append,List.nil_append]
 rcases Nat.lt_or_ge i 16 with hlt|hge
 · have hcq:((i:Nat):Int)<(16:Int):=by clear hw F0;omega
   have hb1:=Iw (bs:=q) (n:=i) (by clear hw F0;omega)
   have hb2:=Ux (q:=tg) (i:=i) (by clear hw F0;omega)
   have d0:(0:Int)≤((i:Nat):Int)∧((i:Nat):Int)<(16:Int):=by clear hw F0;omega
   have d1:i+1≤16:=by clear hw F0;omega
   have hs1:Go.RowKit.wrap64 (((i:Nat):Int)+1)=((i+1:Nat):Int):=Kv (by clear hw F0;omega) (by clear hw F0;omega)
   have F15:=And.intro hcq<|And.intro hb1<|And.intro hb2<|And.intro d0<|And.intro d1<|hs1
   iterate 16 first
    |refine zhK _ ?_
    |(refine Dz fun zK zhK=>?_;simp only [go_sem,Nat.sub_zero,Bool.and_false,F0,Dq,F15];(repeat' (first|apply And.intro|intro _)))
    |(refine zhN _ ?_;clear zhN zhM)
    |(refine Cv fun zK zhK=>?_;simp only [go_sem,Nat.sub_zero,Bool.and_false,F0,Dq,F15];(repeat' (first|apply And.intro|intro _)))
    |refine Cq ?_
    |refine Cx fun zB zbn zbx zbr zbi=>?_
    |(refine zbn _ ?_;clear zbn zbx zbr zbi)
    |refine Bq fun zN zM zhN zhM=>?_
    |(refine Bz ?_ ?_;focus (first|rfl|(simp [go_sem,Nat.sub_zero,Bool.and_false,F0,Dq,F15];done)))
   refine zhN ⟨i+1,hlt⟩ _ ?_ ?_ ?_
   · (exact Nat.sub_lt_sub_left hlt (Nat.lt_succ_self i))
   · (simp only [go_sem,e1d,leX,List.cons_append,List.nil_append];try simp)
   · (simp only [go_sem,leX,List.cons_append,List.nil_append];try simp)
 · obtain rfl:i=16:=by clear hw F0;omega
   have hcq:¬((16:Nat):Int)<(16:Int):=by clear hw F0;omega
   have hod:e1d q tg 16=0:=by rw [r1s hql ht];exact heq
   iterate 20 first
    |(refine zhN _ ?_;clear zhN zhM)
    |(refine Dz fun zK zhK=>?_;simp only [go_sem,Nat.sub_zero,Bool.and_false,F0,hcq,hod];(repeat' (first|apply And.intro|intro _)))
    |refine zhK _ ?_
    |(refine zhM _ _ ?_;clear zhN zhM)
    |refine Fx ?_
    |(refine zbx _ ?_;clear zbn zbx zbr zbi)
    |refine Cq ?_
    |refine Ck ?_
    |(refine zhZ _ _ ?_;simp only [go_sem,Nat.sub_zero,Bool.and_false,F0,hcq,hod];(all_goals (exact f0h (by rw [hsl,hpl]) (by simp [look]))))
    |(refine Zj (id:=15) mixed fun zE zhE=>?_;refine Cj (p:=0) 5 [53,54,55,56,57] [0,0,0,0,12,31,63,63,255,511] [] rfl (by kernel_rfl) rfl (by simp only [go_sem]) fun zR zK zhR zhK=>?_;simp only [go_sem,Nat.sub_zero,Bool.and_false,F0,hcq,hod];(repeat' (first|apply And.intro|intro _));refine zhK _ _ trivial (zhR _ ?_);refine Dw 1 6 rfl (by kernel_rfl) rfl rfl fun zR zhR=>?_;simp only [go_sem,Nat.sub_zero,Bool.and_false,F0,hcq,hod];(repeat' (first|apply And.intro|intro _));(all_goals (refine Dy false [] (fun _=>58) (fun _ _=>rfl) ?_ (by decide) ?_ hS.hands ?_;iterate 2 (focus (first|rfl|(simp only [go_sem,Nat.sub_zero,Bool.and_false,F0,hcq,hod]<;>first|done|rfl|simp)))));(all_goals (rintro v m ⟨hR,hm⟩;subst hR;subst hm));(all_goals (refine And.intro ?_ (And.intro ?_ (And.intro ?_ ?_));iterate 3 (focus (first|rfl|(simp only [go_sem,Nat.sub_zero,Bool.and_false,F0,hcq,hod];done)|(simp [go_sem,look,Nat.sub_zero,Bool.and_false,F0,hcq,hod];done)))));(all_goals (try simp only [go_sem,Nat.sub_zero,Bool.and_false,F0,hcq,hod]));(all_goals (try simp only [go_sem,Nat.sub_zero,Bool.and_false,F0,hcq,hod]));(all_goals repeat' (first|apply And.intro|intro _));refine zhR _ ?_;refine Cj (p:=6) 8 [59,60] [0,0,0,0,12,31,63,63,255,511] [] rfl (by kernel_rfl) rfl (by simp only [go_sem]) fun zR zK zhR zhK=>?_;simp only [go_sem,Nat.sub_zero,Bool.and_false,F0,hcq,hod];(repeat' (first|apply And.intro|intro _));refine zhK _ _ trivial (zhR _ ?_);refine Dw 2 10 rfl (by kernel_rfl) rfl rfl fun zR zhR=>?_;simp only [go_sem,Nat.sub_zero,Bool.and_false,F0,hcq,hod];(repeat' (first|apply And.intro|intro _));refine zhR _ ?_;refine Hq rfl (zhE _ ?_))
    |refine Bq fun zN zM zhN zhM=>?_
    |(refine Bj ?_ ?_;focus (first|rfl|(simp [go_sem,Nat.sub_zero,Bool.and_false,F0,hcq,hod];done)))
theorem m1c (key nonce ad b:List UInt8) (hk:key.length=32) (hn:nonce.length=12) (ex1 ex2:Bool) (h1:ad.length≤200) (h2:b.length≤816) (h3:¬b.length<16) (heq:¬j0w key nonce ad (b.take (b.length-16))=b.drop (b.length-16)):
 CtM Tryd.prog 18 [.w (.agg (Aq key)),.w (.agg (Aq nonce)),.w (.one (.pl (.R ex1 1 (Aw ad)))),.w (.one (.pl (.R ex2 1 (Aw b))))] [] (Told (byV [] 10)):=by
 have g1:¬(200:Int)<((ad.length:Nat):Int):=by omega
 have g2:¬(800:Int)<((b.length:Nat):Int)-16:=by omega
 have g2b:¬(816:Int)<((b.length:Nat):Int):=by omega
 have g3:¬((b.length:Nat):Int)-16<(0:Int):=by omega
 have g3b:¬((b.length:Nat):Int)<(16:Int):=by omega
 obtain ⟨p,hp⟩: ∃ q,b.take (b.length-16)=q:=⟨_,rfl⟩
 obtain ⟨q,hq⟩: ∃ q,b.drop (b.length-16)=q:=⟨_,rfl⟩
 have hpl:p.length=(b.length-16):=by rw [←hp,List.length_take];omega
 have hql:q.length=16:=by rw [←hq,List.length_drop];omega
 have hp8:p.length≤800:=by omega
 rw [hp,hq] at heq
 have hT:=z0o key nonce ad p hk hn h1 hp8
 have hS:=(v0y key hk 1 nonce hn p false (by omega) (ho1 (by omega))).told
 have ht:=Ox key nonce ad p
 have hsl:=Ny key 1 nonce p
 obtain ⟨tg,htg⟩: ∃ q,j0w key nonce ad p=q:=⟨_,rfl⟩
 rw [htg] at ht hT heq
 obtain ⟨c,hc⟩: ∃ q,d0b key 1 nonce p=q:=⟨_,rfl⟩
 rw [hc] at hsl hS
 obtain ⟨n,hnn⟩: ∃ q,(b.length-16)=q:=⟨_,rfl⟩
 have hnb:b.length=n+16:=by omega
 rw [hnn] at hp hq hpl
 have hw:Go.RowKit.wrap64 (((n+16:Nat):Int)-16)=((n:Nat):Int):=by rw [w64 (by omega)];omega
 rw [hnb] at g2 g2b g3 g3b
 have hne:(n=n+16)=False:=eq_false (by omega)
 have hsub:n+16-n=16:=by omega
 have htq:List.take 16 q=q:=List.take_of_length_le (by omega)
 have htt:List.take 16 tg=tg:=List.take_of_length_le (by omega)
 have hle:n≤n+16:=by omega
 have z1:(0:Int)≤((n:Nat):Int)∧((n:Nat):Int)≤((n+16:Nat):Int):=by omega
 have z2:¬(800:Int)<((n:Nat):Int)∧¬((n:Nat):Int)<0:=by omega
 have hsq:(tg=q)=False:=eq_false heq
 have F0:=And.intro hk<|And.intro hn<|And.intro hw<|And.intro g1<|And.intro g2<|And.intro g2b<|And.intro g3<|And.intro g3b<|And.intro hnb<|And.intro hp<|And.intro hq<|And.intro hpl<|And.intro hql<|And.intro ht<|And.intro hsl<|And.intro hne<|And.intro hsub<|And.intro htq<|And.intro htt<|And.intro hle<|And.intro z1<|And.intro z2<|hsq
 refine CtM.k Tryd.func18 rfl Tryd.ntmps18 (congrArg Array.toList Tryd.results18) (by simp) fun w0 ro may fx=>?_
 refine Dx fun zZ zhZ=>?_
 iterate 26 first
  |(refine Dz fun zK zhK=>?_;simp only [go_sem,Nat.sub_zero,Bool.and_false,not_true_eq_false,F0];(repeat' (first|apply And.intro|intro _)))
  |refine zhK _ ?_
  |(refine zhN _ ?_;clear zhN zhM)
  |refine Cq ?_
  |refine Ck ?_
  |(refine zhM _ _ ?_;clear zhN zhM)
  |(refine zhZ _ _ ?_;simp only [go_sem,Nat.sub_zero,Bool.and_false,not_true_eq_false,F0];(all_goals (exact b0y)))
  |(refine Zj (id:=6) mixed fun zE zhE=>?_;refine Cj (p:=0) 13 [25,26,27,28,29,30,31,32,33,34,35,36,37] [0,0,0,4,0,0,48,112,255,0,0,1536,3584,8191] [] rfl (by kernel_rfl) rfl (by simp only [go_sem]) fun zR zK zhR zhK=>?_;simp only [go_sem,Nat.sub_zero,Bool.and_false,not_true_eq_false,F0];(repeat' (first|apply And.intro|intro _));(all_goals (refine Dv (fun k=>k) (.w (.one (.pl (.str tg)))) [] (fun _ _=>rfl) ?_ (hT.plain fun _ _ h=>h) ?_ ?_;focus (first|rfl|(simp only [go_sem,Nat.sub_zero,Bool.and_false,not_true_eq_false,F0]<;>rfl))));(all_goals try (refine And.intro ?_ (And.intro ?_ (And.intro ?_ ?_))<;>first|rfl|simp only [go_sem]));(all_goals simp only [go_sem,Nat.sub_zero,Bool.and_false,not_true_eq_false,F0]);(all_goals repeat' (first|apply And.intro|intro _));refine zhK _ _ trivial (zhR _ ?_);refine Dw 1 14 rfl (by kernel_rfl) rfl rfl fun zR zhR=>?_;simp only [go_sem,Nat.sub_zero,Bool.and_false,not_true_eq_false,F0];(repeat' (first|apply And.intro|intro _));refine zhR _ ?_;refine Hq rfl (zhE _ ?_))
  |refine Bq fun zN zM zhN zhM=>?_
  |(refine Bj ?_ ?_;focus (first|rfl|(simp [go_sem,Nat.sub_zero,Bool.and_false,not_true_eq_false,F0];done)))
  |(refine Bz ?_ ?_;focus (first|rfl|(simp [go_sem,Nat.sub_zero,Bool.and_false,not_true_eq_false,F0];done)))
theorem m1b (key nonce ad b:List UInt8) (hk:key.length=32) (hn:nonce.length=12) (ex1 ex2:Bool) (h1:ad.length≤200) (h2:b.length≤816) (h3:¬b.length<16) (heq:j0w key nonce ad (b.take (b.length-16))=b.drop (b.length-16)) (h0:16<b.length):
 CtM Tryd.prog 18 [.w (.agg (Aq key)),.w (.agg (Aq nonce)),.w (.one (.pl (.R ex1 1 (Aw ad)))),.w (.one (.pl (.R ex2 1 (Aw b))))] [] (Told (byO (d0b key 1 nonce (b.take (b.length-16))) 0)):=by
 have g1:¬(200:Int)<((ad.length:Nat):Int):=by omega
 have g2:¬(800:Int)<((b.length:Nat):Int)-16:=by omega
 have g2b:¬(816:Int)<((b.length:Nat):Int):=by omega
 have g3:¬((b.length:Nat):Int)-16<(0:Int):=by omega
 have g3b:¬((b.length:Nat):Int)<(16:Int):=by omega
 obtain ⟨p,hp⟩: ∃ q,b.take (b.length-16)=q:=⟨_,rfl⟩
 obtain ⟨q,hq⟩: ∃ q,b.drop (b.length-16)=q:=⟨_,rfl⟩
 have hpl:p.length=(b.length-16):=by rw [←hp,List.length_take];omega
 have hql:q.length=16:=by rw [←hq,List.length_drop];omega
 have hp8:p.length≤800:=by omega
 rw [hp,hq] at heq
 have hT:=z0o key nonce ad p hk hn h1 hp8
 have hS:=(m1h key hk 1 nonce hn p false (by omega) (ho1 (by omega)) (by omega)).told
 have ht:=Ox key nonce ad p
 have hsl:=Ny key 1 nonce p
 obtain ⟨tg,htg⟩: ∃ q,j0w key nonce ad p=q:=⟨_,rfl⟩
 rw [htg] at ht hT heq
 obtain ⟨c,hc⟩: ∃ q,d0b key 1 nonce p=q:=⟨_,rfl⟩
 rw [hc] at hsl hS
 obtain ⟨n,hnn⟩: ∃ q,(b.length-16)=q:=⟨_,rfl⟩
 have hnb:b.length=n+16:=by omega
 rw [hnn] at hp hq hpl
 have hw:Go.RowKit.wrap64 (((n+16:Nat):Int)-16)=((n:Nat):Int):=by rw [w64 (by omega)];omega
 rw [hnb] at g2 g2b g3 g3b
 have hne:(n=n+16)=False:=eq_false (by omega)
 have hsub:n+16-n=16:=by omega
 have htq:List.take 16 q=q:=List.take_of_length_le (by omega)
 have htt:List.take 16 tg=tg:=List.take_of_length_le (by omega)
 have hle:n≤n+16:=by omega
 have z1:(0:Int)≤((n:Nat):Int)∧((n:Nat):Int)≤((n+16:Nat):Int):=by omega
 have z2:¬(800:Int)<((n:Nat):Int)∧¬((n:Nat):Int)<0:=by omega
 have hfin:d0b key 1 nonce (b.take (b.length-16))=c:=by rw [←hc,←hp,hnn]
 rw [hfin]
 have hsq:(tg=q)=True:=eq_true heq
 have F0:=And.intro hk<|And.intro hn<|And.intro hw<|And.intro g1<|And.intro g2<|And.intro g2b<|And.intro g3<|And.intro g3b<|And.intro hnb<|And.intro hp<|And.intro hq<|And.intro hpl<|And.intro hql<|And.intro ht<|And.intro hsl<|And.intro hne<|And.intro hsub<|And.intro htq<|And.intro htt<|And.intro hle<|And.intro z1<|And.intro z2<|hsq
 refine CtM.k Tryd.func18 rfl Tryd.ntmps18 (congrArg Array.toList Tryd.results18) (by simp) fun w0 ro may fx=>?_
 refine Dx fun zZ zhZ=>?_
 iterate 28 first
  |(refine zhN _ ?_;clear zhN zhM)
  |(refine Dz fun zK zhK=>?_;simp only [go_sem,Nat.sub_zero,Bool.and_false,not_true_eq_false,F0];(repeat' (first|apply And.intro|intro _)))
  |refine zhK _ ?_
  |refine Cq ?_
  |refine Ck ?_
  |(refine zhZ _ _ ?_;simp only [go_sem,Nat.sub_zero,Bool.and_false,not_true_eq_false,F0];(all_goals (exact f0h (by rw [hsl,hpl]) (by simp [look]))))
  |(refine Zj (id:=6) mixed fun zE zhE=>?_;refine Cj (p:=0) 13 [25,26,27,28,29,30,31,32,33,34,35,36,37] [0,0,0,4,0,0,48,112,255,0,0,1536,3584,8191] [] rfl (by kernel_rfl) rfl (by simp only [go_sem]) fun zR zK zhR zhK=>?_;simp only [go_sem,Nat.sub_zero,Bool.and_false,not_true_eq_false,F0];(repeat' (first|apply And.intro|intro _));(all_goals (refine Dv (fun k=>k) (.w (.one (.pl (.str tg)))) [] (fun _ _=>rfl) ?_ (hT.plain fun _ _ h=>h) ?_ ?_;focus (first|rfl|(simp only [go_sem,Nat.sub_zero,Bool.and_false,not_true_eq_false,F0]<;>rfl))));(all_goals try (refine And.intro ?_ (And.intro ?_ (And.intro ?_ ?_))<;>first|rfl|simp only [go_sem]));(all_goals simp only [go_sem,Nat.sub_zero,Bool.and_false,not_true_eq_false,F0]);(all_goals repeat' (first|apply And.intro|intro _));refine zhK _ _ trivial (zhR _ ?_);refine Dw 1 14 rfl (by kernel_rfl) rfl rfl fun zR zhR=>?_;simp only [go_sem,Nat.sub_zero,Bool.and_false,not_true_eq_false,F0];(repeat' (first|apply And.intro|intro _));refine zhR _ ?_;refine Hq rfl (zhE _ ?_))
  |(refine Zj (id:=8) mixed fun zE zhE=>?_;refine Cj (p:=0) 5 [39,40,41,42,43] [0,0,0,0,12,31,63,63,255,511] [] rfl (by kernel_rfl) rfl (by simp only [go_sem]) fun zR zK zhR zhK=>?_;simp only [go_sem,Nat.sub_zero,Bool.and_false,not_true_eq_false,F0];(repeat' (first|apply And.intro|intro _));refine zhK _ _ trivial (zhR _ ?_);refine Dw 1 6 rfl (by kernel_rfl) rfl rfl fun zR zhR=>?_;simp only [go_sem,Nat.sub_zero,Bool.and_false,not_true_eq_false,F0];(repeat' (first|apply And.intro|intro _));(all_goals (refine Dy false [] (fun _=>58) (fun _ _=>rfl) ?_ (by decide) ?_ hS.hands ?_;iterate 2 (focus (first|rfl|(simp only [go_sem,Nat.sub_zero,Bool.and_false,not_true_eq_false,F0]<;>first|done|rfl|simp)))));(all_goals (rintro v m ⟨hR,hm⟩;subst hR;subst hm));(all_goals (refine And.intro ?_ (And.intro ?_ (And.intro ?_ ?_));iterate 3 (focus (first|rfl|(simp only [go_sem,Nat.sub_zero,Bool.and_false,not_true_eq_false,F0];done)|(simp [go_sem,look,Nat.sub_zero,Bool.and_false,not_true_eq_false,F0];done)))));(all_goals (try simp only [go_sem,Nat.sub_zero,Bool.and_false,not_true_eq_false,F0]));(all_goals (try simp only [go_sem,Nat.sub_zero,Bool.and_false,not_true_eq_false,F0]));(all_goals repeat' (first|apply And.intro|intro _));refine zhR _ ?_;refine Cj (p:=6) 8 [45,46] [0,0,0,0,12,31,63,63,255,511] [] rfl (by kernel_rfl) rfl (by simp only [go_sem]) fun zR zK zhR zhK=>?_;simp only [go_sem,Nat.sub_zero,Bool.and_false,not_true_eq_false,F0];(repeat' (first|apply And.intro|intro _));refine zhK _ _ trivial (zhR _ ?_);refine Dw 2 10 rfl (by kernel_rfl) rfl rfl fun zR zhR=>?_;simp only [go_sem,Nat.sub_zero,Bool.and_false,not_true_eq_false,F0];(repeat' (first|apply And.intro|intro _));refine zhR _ ?_;refine Hq rfl (zhE _ ?_))
  |refine Bq fun zN zM zhN zhM=>?_
  |(refine Bj ?_ ?_;focus (first|rfl|(simp [go_sem,Nat.sub_zero,Bool.and_false,not_true_eq_false,F0];done)))
theorem s1m (key nonce ad b:List UInt8) (hk:key.length=32) (hn:nonce.length=12) (ex1 ex2:Bool) (h1:ad.length≤200) (h2:b.length≤816) (h3:¬b.length<16) (heq:j0w key nonce ad (b.take (b.length-16))=b.drop (b.length-16)):
 CtM Tryd.prog 18 [.w (.agg (Aq key)),.w (.agg (Aq nonce)),.w (.one (.pl (.R ex1 1 (Aw ad)))),.w (.one (.pl (.R ex2 1 (Aw b))))] [] (Told (byV (d0b key 1 nonce (b.take (b.length-16))) 0)):=by
 have g1:¬(200:Int)<((ad.length:Nat):Int):=by omega
 have g2:¬(800:Int)<((b.length:Nat):Int)-16:=by omega
 have g2b:¬(816:Int)<((b.length:Nat):Int):=by omega
 have g3:¬((b.length:Nat):Int)-16<(0:Int):=by omega
 have g3b:¬((b.length:Nat):Int)<(16:Int):=by omega
 obtain ⟨p,hp⟩: ∃ q,b.take (b.length-16)=q:=⟨_,rfl⟩
 obtain ⟨q,hq⟩: ∃ q,b.drop (b.length-16)=q:=⟨_,rfl⟩
 have hpl:p.length=(b.length-16):=by rw [←hp,List.length_take];omega
 have hql:q.length=16:=by rw [←hq,List.length_drop];omega
 have hp8:p.length≤800:=by omega
 rw [hp,hq] at heq
 have hT:=z0o key nonce ad p hk hn h1 hp8
 have hS:=(v0y key hk 1 nonce hn p false (by omega) (ho1 (by omega))).told
 have ht:=Ox key nonce ad p
 have hsl:=Ny key 1 nonce p
 obtain ⟨tg,htg⟩: ∃ q,j0w key nonce ad p=q:=⟨_,rfl⟩
 rw [htg] at ht hT heq
 obtain ⟨c,hc⟩: ∃ q,d0b key 1 nonce p=q:=⟨_,rfl⟩
 rw [hc] at hsl hS
 obtain ⟨n,hnn⟩: ∃ q,(b.length-16)=q:=⟨_,rfl⟩
 have hnb:b.length=n+16:=by omega
 rw [hnn] at hp hq hpl
 have hw:Go.RowKit.wrap64 (((n+16:Nat):Int)-16)=((n:Nat):Int):=by rw [w64 (by omega)];omega
 rw [hnb] at g2 g2b g3 g3b
 have hne:(n=n+16)=False:=eq_false (by omega)
 have hsub:n+16-n=16:=by omega
 have htq:List.take 16 q=q:=List.take_of_length_le (by omega)
 have htt:List.take 16 tg=tg:=List.take_of_length_le (by omega)
 have hle:n≤n+16:=by omega
 have z1:(0:Int)≤((n:Nat):Int)∧((n:Nat):Int)≤((n+16:Nat):Int):=by omega
 have z2:¬(800:Int)<((n:Nat):Int)∧¬((n:Nat):Int)<0:=by omega
 have hfin:d0b key 1 nonce (b.take (b.length-16))=c:=by rw [←hc,←hp,hnn]
 rw [hfin]
 have hsq:(tg=q)=True:=eq_true heq
 have F0:=And.intro hk<|And.intro hn<|And.intro hw<|And.intro g1<|And.intro g2<|And.intro g2b<|And.intro g3<|And.intro g3b<|And.intro hnb<|And.intro hp<|And.intro hq<|And.intro hpl<|And.intro hql<|And.intro ht<|And.intro hsl<|And.intro hne<|And.intro hsub<|And.intro htq<|And.intro htt<|And.intro hle<|And.intro z1<|And.intro z2<|hsq
 refine CtM.k Tryd.func18 rfl Tryd.ntmps18 (congrArg Array.toList Tryd.results18) (by simp) fun w0 ro may fx=>?_
 refine Dx fun zZ zhZ=>?_
 iterate 28 first
  |(refine zhN _ ?_;clear zhN zhM)
  |(refine Dz fun zK zhK=>?_;simp only [go_sem,Nat.sub_zero,Bool.and_false,not_true_eq_false,F0];(repeat' (first|apply And.intro|intro _)))
  |refine zhK _ ?_
  |refine Cq ?_
  |refine Ck ?_
  |(refine zhZ _ _ ?_;simp only [go_sem,Nat.sub_zero,Bool.and_false,not_true_eq_false,F0];(all_goals (exact k1c _)))
  |(refine Zj (id:=6) mixed fun zE zhE=>?_;refine Cj (p:=0) 13 [25,26,27,28,29,30,31,32,33,34,35,36,37] [0,0,0,4,0,0,48,112,255,0,0,1536,3584,8191] [] rfl (by kernel_rfl) rfl (by simp only [go_sem]) fun zR zK zhR zhK=>?_;simp only [go_sem,Nat.sub_zero,Bool.and_false,not_true_eq_false,F0];(repeat' (first|apply And.intro|intro _));(all_goals (refine Dv (fun k=>k) (.w (.one (.pl (.str tg)))) [] (fun _ _=>rfl) ?_ (hT.plain fun _ _ h=>h) ?_ ?_;focus (first|rfl|(simp only [go_sem,Nat.sub_zero,Bool.and_false,not_true_eq_false,F0]<;>rfl))));(all_goals try (refine And.intro ?_ (And.intro ?_ (And.intro ?_ ?_))<;>first|rfl|simp only [go_sem]));(all_goals simp only [go_sem,Nat.sub_zero,Bool.and_false,not_true_eq_false,F0]);(all_goals repeat' (first|apply And.intro|intro _));refine zhK _ _ trivial (zhR _ ?_);refine Dw 1 14 rfl (by kernel_rfl) rfl rfl fun zR zhR=>?_;simp only [go_sem,Nat.sub_zero,Bool.and_false,not_true_eq_false,F0];(repeat' (first|apply And.intro|intro _));refine zhR _ ?_;refine Hq rfl (zhE _ ?_))
  |(refine Zj (id:=8) mixed fun zE zhE=>?_;refine Cj (p:=0) 5 [39,40,41,42,43] [0,0,0,0,12,31,63,63,255,511] [] rfl (by kernel_rfl) rfl (by simp only [go_sem]) fun zR zK zhR zhK=>?_;simp only [go_sem,Nat.sub_zero,Bool.and_false,not_true_eq_false,F0];(repeat' (first|apply And.intro|intro _));refine zhK _ _ trivial (zhR _ ?_);refine Dw 1 6 rfl (by kernel_rfl) rfl rfl fun zR zhR=>?_;simp only [go_sem,Nat.sub_zero,Bool.and_false,not_true_eq_false,F0];(repeat' (first|apply And.intro|intro _));(all_goals (refine Dy false [] (fun k=>k) (fun _ _=>rfl) ?_ (by decide) ?_ hS.hands ?_;iterate 2 (focus (first|rfl|(simp only [go_sem,Nat.sub_zero,Bool.and_false,not_true_eq_false,F0]<;>first|done|rfl|simp)))));(all_goals (rintro v m ⟨hR,hm⟩;subst hR;subst hm));(all_goals (refine And.intro ?_ (And.intro ?_ (And.intro ?_ ?_));iterate 3 (focus (first|rfl|(simp only [go_sem,Nat.sub_zero,Bool.and_false,not_true_eq_false,F0];done)|(simp [go_sem,look,Nat.sub_zero,Bool.and_false,not_true_eq_false,F0];done)))));(all_goals (try simp only [go_sem,Nat.sub_zero,Bool.and_false,not_true_eq_false,F0]));(all_goals (try simp only [go_sem,Nat.sub_zero,Bool.and_false,not_true_eq_false,F0]));(all_goals repeat' (first|apply And.intro|intro _));refine zhR _ ?_;refine Cj (p:=6) 8 [45,46] [0,0,0,0,12,31,63,63,255,511] [] rfl (by kernel_rfl) rfl (by simp only [go_sem]) fun zR zK zhR zhK=>?_;simp only [go_sem,Nat.sub_zero,Bool.and_false,not_true_eq_false,F0];(repeat' (first|apply And.intro|intro _));refine zhK _ _ trivial (zhR _ ?_);refine Dw 2 10 rfl (by kernel_rfl) rfl rfl fun zR zhR=>?_;simp only [go_sem,Nat.sub_zero,Bool.and_false,not_true_eq_false,F0];(repeat' (first|apply And.intro|intro _));refine zhR _ ?_;refine Hq rfl (zhE _ ?_))
  |refine Bq fun zN zM zhN zhM=>?_
  |(refine Bj ?_ ?_;focus (first|rfl|(simp [go_sem,Nat.sub_zero,Bool.and_false,not_true_eq_false,F0];done)))
theorem u1q (key nonce ad b:List UInt8) (hk:key.length=32) (hn:nonce.length=12) (ex1 ex2:Bool) (h1:ad.length≤200) (h2:b.length≤816) (h3:¬b.length<16) (heq:j0w key nonce ad (b.take (b.length-16))=b.drop (b.length-16)):CtM Tryd.prog 16 [.w (.agg (Aq key)),.w (.agg (Aq nonce)),.w (.one (.pl (.R ex1 1 (Aw ad)))),.w (.one (.pl (.R ex2 1 (Aw b))))] [] (Told (byV (d0b key 1 nonce (b.take (b.length-16))) 0)):=
 (a1g key nonce ad b hk hn ex1 ex2 h1 h2 h3 heq).told.mono fun v m ⟨hv,hm⟩=>by subst hv;subst hm;exact k1d (b:=true) rfl rfl
theorem open_ (key nonce ad b:List UInt8) (hk:key.length=32) (hn:nonce.length=12) (ex1 ex2:Bool) (hcap:b.length≤9223372036854775807):CtM Tryd.prog 16 [.w (.agg (Aq key)),.w (.agg (Aq nonce)),.w (.one (.pl (.R ex1 1 (Aw ad)))),.w (.one (.pl (.R ex2 1 (Aw b))))] [] (byV (Zq key nonce ad b) (Rq key nonce ad b)):=by
 by_cases h1:200<ad.length
 · have e:Rq key nonce ad b=1:=if_pos h1
   rw [Zq,e,if_neg (by decide)]
   exact (u1r key nonce ad b hk hn ex1 ex2 hcap h1).told
 · by_cases h2:816<b.length
   · have e:Rq key nonce ad b=1:=by unfold Rq;rw [if_neg h1,if_pos h2]
     rw [Zq,e,if_neg (by decide)]
     exact (h1f key nonce ad b hk hn ex1 ex2 hcap (by omega) h2).told
   · by_cases h3:b.length<16
     · have e:Rq key nonce ad b=4:=by unfold Rq;rw [if_neg h1,if_neg h2,if_pos h3]
       rw [Zq,e,if_neg (by decide)]
       exact (c1k key nonce ad b hk hn ex1 ex2 hcap (by omega) (by omega) h3).told
     · by_cases heq:j0w key nonce ad (b.take (b.length-16))=b.drop (b.length-16)
       · have e:Rq key nonce ad b=0:=by unfold Rq;rw [if_neg h1,if_neg h2,if_neg h3,if_pos heq]
         rw [Zq,e,if_pos rfl]
         exact (u1q key nonce ad b hk hn ex1 ex2 (by omega) (by omega) h3 heq).told
       · have e:Rq key nonce ad b=10:=by unfold Rq;rw [if_neg h1,if_neg h2,if_neg h3,if_neg heq]
         rw [Zq,e,if_neg (by decide)]
         exact (o1o key nonce ad b hk hn ex1 ex2 (by omega) (by omega) h3 heq).told
theorem z1d (key nonce ad b:List UInt8) (hk:key.length=32) (hn:nonce.length=12) (ex1 ex2:Bool) (hcap:b.length≤9223372036854775807):CtM Tryd.prog 18 [.w (.agg (Aq key)),.w (.agg (Aq nonce)),.w (.one (.pl (.R ex1 1 (Aw ad)))),.w (.one (.pl (.R ex2 1 (Aw b))))] [] (byV (Zq key nonce ad b) (Rq key nonce ad b)):=by
 by_cases h1:200<ad.length
 · have e:Rq key nonce ad b=1:=if_pos h1
   rw [Zq,e,if_neg (by decide)]
   exact (s1n key nonce ad b hk hn ex1 ex2 hcap h1).told
 · by_cases h2:816<b.length
   · have e:Rq key nonce ad b=1:=by unfold Rq;rw [if_neg h1,if_pos h2]
     rw [Zq,e,if_neg (by decide)]
     exact (e1m key nonce ad b hk hn ex1 ex2 hcap (by omega) h2).told
   · by_cases h3:b.length<16
     · have e:Rq key nonce ad b=4:=by unfold Rq;rw [if_neg h1,if_neg h2,if_pos h3]
       rw [Zq,e,if_neg (by decide)]
       exact (b1g key nonce ad b hk hn ex1 ex2 hcap (by omega) (by omega) h3).told
     · by_cases heq:j0w key nonce ad (b.take (b.length-16))=b.drop (b.length-16)
       · have e:Rq key nonce ad b=0:=by unfold Rq;rw [if_neg h1,if_neg h2,if_neg h3,if_pos heq]
         rw [Zq,e,if_pos rfl]
         exact (s1m key nonce ad b hk hn ex1 ex2 (by omega) (by omega) h3 heq).told
       · have e:Rq key nonce ad b=10:=by unfold Rq;rw [if_neg h1,if_neg h2,if_neg h3,if_neg heq]
         rw [Zq,e,if_neg (by decide)]
         exact (m1c key nonce ad b hk hn ex1 ex2 (by omega) (by omega) h3 heq).told
end Go.Sy
namespace Go.Sy
open Go.Proofs
attribute [local irreducible] Fz HT Cw Oj onC onE onO onG goV goA goS Qv Ey
end Go.Sy
