/- Walks and what they compute. CONDITIONS: those that each theorem names. -/
import Derived.Test.YtlngaojnfcaagaaDoorvS14
import Derived.Test.YtlngaojnfcaagaaDoorvS15
import Derived.Test.YtlngaojnfcaagaaDoorvS16
import Derived.Test.YtlngaojnfcaagaaDoorvS12
set_option linter.unusedVariables false
set_option linter.unusedSimpArgs false
set_option maxHeartbeats 1600000
set_option maxRecDepth 100000
namespace Go.Sy
namespace Bk
open Go.Proofs
attribute [local irreducible] Fz HT Cw Oj onC onE onO onG goV goA goS Qv Ey
theorem v1u (h0 h1 h2 h3 h4 h5 h6 h7:UInt32) (held:List UInt8) (hh:held.length=64) (k l:Nat) (hok:HashOk held (k:Int) (l:Int)):
 CtM Tryd.prog 29 [.w (.agg (Bw ⟨h0,h1,h2,h3,h4,h5,h6,h7⟩ held (k:Int) (l:Int)))] [(1000000,⟨false,[.pl (.u32 1779033703),.pl (.u32 3144134277),.pl (.u32 1013904242),.pl (.u32 2773480762),.pl (.u32 1359893119),.pl (.u32 2600822924),.pl (.u32 528734635),.pl (.u32 1541459225)]⟩),(1000002,⟨false,f0q⟩)] (Told (fun v m=>v=.tup [.agg (Aq (i1n (g0d ⟨h0,h1,h2,h3,h4,h5,h6,h7⟩ held l true).l)),.one (.pl (.i 0))]∧m=[])):=by
 have he:=e0b hok
 have hb:=c0n hok
 have hl3:l≤1073741824:=by have:=hok.mx;omega
 obtain ⟨s,hs⟩: ∃ s,g0d ⟨h0,h1,h2,h3,h4,h5,h6,h7⟩ held l true=s:=⟨_,rfl⟩
 have hlsl:=s.ls_l
 have hl8:=s.l_length
 have hul:=a0e s.l
 rw [hl8] at hul
 have hsq:=z0r h0 h1 h2 h3 h4 h5 h6 h7 held hh (k:Int) l hl3 true
 rw [hs,hlsl] at hsq
 have F0:=And.intro hh<|And.intro he<|hul
 refine CtM.k Tryd.func29 rfl Tryd.ntmps29 (congrArg Array.toList Tryd.results29) (by simp) fun w0 ro may fx=>?_
 refine Dx fun zZ zhZ=>?_
 iterate 20 first
  |(refine Dz fun zK zhK=>?_;simp only [go_sem,Bw,H8.ls,F0];(repeat' (first|apply And.intro|intro _)))
  |refine zhK _ ?_
  |refine Cq ?_
  |(refine zhN _ ?_;clear zhN zhM)
  |refine Cx fun zB zbn zbx zbr zbi=>?_
  |((all_goals (refine Cy (fun k=>k) (fun _ _=>rfl) ?_ ((j0i h0 h1 h2 h3 h4 h5 h6 h7 held hh (k:Int) (l:Int)).plain fun _ _ h=>h) ?_;focus (first|rfl|(simp only [go_sem,Bw,H8.ls,F0]<;>rfl))));(all_goals (rintro v m ⟨hR,hm⟩;subst hR;subst hm));(all_goals refine And.intro (by first|rfl|simp only [go_sem,Bw,H8.ls,F0]) (And.intro (by first|rfl|simp only [go_sem,Bw,H8.ls,F0]) ?_));(all_goals simp only [go_sem,Bw,H8.ls,F0]);(all_goals repeat' (first|apply And.intro|intro _)))
  |((all_goals (refine Dy false [] (fun k=>k) (fun _ _=>rfl) ?_ (by decide) ?_ hsq.told ?_;iterate 2 (focus (first|rfl|(simp only [go_sem,Bw,H8.ls,F0]<;>first|done|rfl|simp)))));(all_goals (rintro v m ⟨hR,hm⟩;subst hR;subst hm));(all_goals (refine And.intro ?_ (And.intro ?_ (And.intro ?_ ?_));iterate 3 (focus (first|rfl|(simp only [go_sem,Bw,H8.ls,F0];done)|(simp [go_sem,look,Bw,H8.ls,F0];done)))));(all_goals (try simp only [go_sem,Bw,H8.ls,F0]));(all_goals (try simp only [go_sem,Bw,H8.ls,F0]));(all_goals repeat' (first|apply And.intro|intro _)))
  |refine Bq fun zN zM zhN zhM=>?_
  |(refine Bj ?_ ?_;focus (first|rfl|(simp [go_sem,Bw,H8.ls,F0];done)))
 refine Fq [0,1,4,8,9,10,11,12,13,14,15] ?_
 simp only [Gz,Gj,Fj,List.contains_cons,List.contains_nil,Nat.reduceBEq,beq_self_eq_true,Bool.or_false,Bool.or_true,Bool.true_or,Bool.false_or,Bool.false_eq_true,reduceIte]
 refine Ik (fun y=>[(16,.w (.one (.pl (.i ((y.1.1:Nat):Int)))))]) (fun y=>[(6,⟨false,Aq y.1.2⟩)]) (fun y=>32-y.1.1) (⟨(0,List.replicate 32 0),Nat.zero_le _,by simp,rfl⟩:{y:Nat×List UInt8//y.1≤32∧y.2.length=32∧y.2.take y.1=(i1n s.l).take y.1}) ?_ ?_ ?_
 · (simp only [go_sem,leX,List.cons_append,List.nil_append];try simp)
 · (simp only [go_sem,leX,List.cons_append,List.nil_append];try simp)
 intro yy zN zM zhN zhM
 simp only [List.cons_append,List.nil_append]
 obtain ⟨⟨i,q⟩,hi,hq,hv⟩:=yy
 simp only at hi hq hv
 rcases Nat.lt_or_ge i 32 with hlt|hge
 · have hcq:((i:Nat):Int)<32:=by omega
   have hc0:(0:Int)≤((i:Nat):Int)∧(0:Int)≤((i/4:Nat):Int)∧((i/4:Nat):Int)<8∧(0:Int)≤((8*(i%4):Nat):Int)∧i+1≤32∧i/4+1≤8:=by omega
   have hdv:((i:Nat):Int).tdiv 4=((i/4:Nat):Int):=rfl
   have hmv:((i:Nat):Int).tmod 4=((i%4:Nat):Int):=rfl
   have hu1:=c0f (l:=s.l) (i:=i/4) (by omega)
   have hke:=v1t s i hlt
   obtain ⟨x,hx⟩: ∃ x,(i1n s.l).getD i 0=x:=⟨_,rfl⟩
   have hst:=m1t hq (g0j s) hlt hv
   rw [hx] at hke hst
   obtain ⟨hwd,hw8,hs1⟩:Go.RowKit.wrap64 ((i/4:Nat):Int)=((i/4:Nat):Int)∧Go.RowKit.wrap64 (8*((i%4:Nat):Int))=((8*(i%4):Nat):Int)∧Go.RowKit.wrap64 (((i:Nat):Int)+1)=((i+1:Nat):Int):=⟨Kv rfl (by omega),Kv (by omega) (by omega),Kv (by omega) (by omega)⟩
   have hput:Aq (List.take i q)++[L.pl (PL.u8 x)]++Aq (List.drop (i+1) q)=Aq (q.take i++x::q.drop (i+1)):=by simp [Aq]
   have n2:=u1c hq hlt x
   have F10:=And.intro hq<|And.intro hcq<|And.intro hc0<|And.intro hdv<|And.intro hmv<|And.intro hwd<|And.intro hw8<|And.intro hs1<|And.intro hu1<|And.intro hke<|hput
   iterate 16 first
    |refine zhK _ ?_
    |(refine Dz fun zK zhK=>?_;simp only [go_sem,Bw,H8.ls,F0,F10];(repeat' (first|apply And.intro|intro _)))
    |(refine zhN _ ?_;clear zhN zhM)
    |(refine Cv fun zK zhK=>?_;simp only [go_sem,Bw,H8.ls,F0,F10];(repeat' (first|apply And.intro|intro _)))
    |refine Cq ?_
    |refine Cx fun zB zbn zbx zbr zbi=>?_
    |(refine zbn _ ?_;clear zbn zbx zbr zbi)
    |refine Bq fun zN zM zhN zhM=>?_
    |(refine Bz ?_ ?_;focus (first|rfl|(simp [go_sem,Bw,H8.ls,F0,F10];done)))
   refine zhN ⟨(i+1,q.take i++x::q.drop (i+1)),hlt,n2,hst⟩ _ ?_ ?_ ?_
   · (exact Nat.sub_lt_sub_left hlt (Nat.lt_succ_self i))
   · (simp only [go_sem,leX,List.cons_append,List.nil_append];try simp)
   · (simp only [go_sem,leX,List.cons_append,List.nil_append];try simp)
 · obtain rfl:i=32:=by omega
   have hcq:¬((32:Nat):Int)<32:=by omega
   have hqe:q=i1n s.l:=by rw [List.take_of_length_le (by omega),List.take_of_length_le (by rw [g0j];omega)] at hv;exact hv
   iterate 13 first
    |(refine Dz fun zK zhK=>?_;simp only [go_sem,Bw,H8.ls,F0,hq,hcq];(repeat' (first|apply And.intro|intro _)))
    |refine zhK _ ?_
    |(refine zhM _ _ ?_;clear zhN zhM)
    |refine Fx ?_
    |(refine zbx _ ?_;clear zbn zbx zbr zbi)
    |(refine zhN _ ?_;clear zhN zhM)
    |refine Ck ?_
    |(refine zhZ _ _ ?_;simp only [go_sem,Bw,H8.ls,F0,hq,hcq];(all_goals (exact told_plain (t0q _ _) ⟨by rw [hqe,hs],rfl⟩)))
    |refine Bq fun zN zM zhN zhM=>?_
    |(refine Bj ?_ ?_;focus (first|rfl|(simp [go_sem,Bw,H8.ls,F0,hq,hcq];done)))
theorem i1r (h0 h1 h2 h3 h4 h5 h6 h7:UInt32) (held:List UInt8) (hh:held.length=64) (k l:Nat) (hok:HashOk held (k:Int) (l:Int)):
 CtM Tryd.prog 35 [.w (.agg (Bw ⟨h0,h1,h2,h3,h4,h5,h6,h7⟩ held (k:Int) (l:Int)))] [(1000001,⟨false,[.pl (.u32 1779033703),.pl (.u32 3144134277),.pl (.u32 1013904242),.pl (.u32 2773480762),.pl (.u32 1359893119),.pl (.u32 2600822924),.pl (.u32 528734635),.pl (.u32 1541459225)]⟩)] (Told (fun v m=>v=.tup [.agg (Aq (i1n (g0d ⟨h0,h1,h2,h3,h4,h5,h6,h7⟩ held l true).l)),.one (.pl (.i 0))]∧m=[])):=by
 have he:=e0b hok
 have hb:=c0n hok
 have hl3:l≤1073741824:=by have:=hok.mx;omega
 obtain ⟨s,hs⟩: ∃ s,g0d ⟨h0,h1,h2,h3,h4,h5,h6,h7⟩ held l true=s:=⟨_,rfl⟩
 obtain ⟨s0,s1,s2,s3,s4,s5,s6,s7⟩:=s
 have F0:=And.intro hh<|And.intro hb<|hs
 refine CtM.k Tryd.func35 rfl Tryd.ntmps35 (congrArg Array.toList Tryd.results35) (by simp) fun w0 ro may fx=>?_
 refine Dx fun zZ zhZ=>?_
 iterate 186 first
  |(refine Dj (x:=.seq (.region 6 _ _) _) [7,21,22,23,24,25,26,27,28] ?_;simp only [go_sem,St.forget,fgt];refine Hw fun zN zM zhN zhM=>?_)
  |refine Hw fun zN zM zhN zhM=>?_
  |refine zhK _ ?_
  |(refine zhN _ ?_;clear zhN zhM)
  |(refine Dz fun zK zhK=>?_;simp only [go_sem,Bw,H8.ls,Av,F0];(repeat' (first|apply And.intro|intro _)))
  |(refine Cv fun zK zhK=>?_;simp only [go_sem,Bw,H8.ls,Av,F0];(repeat' (first|apply And.intro|intro _)))
  |refine Cq ?_
  |refine Cx fun zB zbn zbx zbr zbi=>?_
  |(refine zbn _ ?_;clear zbn zbx zbr zbi)
  |(refine zhM _ _ ?_;clear zhN zhM)
  |refine Fw (x:=.seq (.region 6 _ _) _) 9 ?_
  |refine Fx ?_
  |(refine zbx _ ?_;clear zbn zbx zbr zbi)
  |refine Ck ?_
  |(refine zhZ _ _ ?_;simp only [go_sem,Bw,H8.ls,Av,F0];(all_goals (exact told_plain (t0q _ _) ⟨by simp [i1n,H8.l,List.append_assoc],rfl⟩)))
  |((all_goals refine Cy (fun k=>k) (fun _ _=>rfl) (by first|rfl|(simp only [go_sem,Bw,H8.ls,Av,F0]<;>rfl)) ((e1e _ 4 (by decide)).plain fun _ _ h=>h) ?_);(all_goals (rintro v m ⟨hR,hm⟩;subst hR;subst hm));(all_goals refine And.intro (by first|rfl|simp only [go_sem,Bw,H8.ls,Av,F0]) (And.intro (by first|rfl|simp only [go_sem,Bw,H8.ls,Av,F0]) ?_));(all_goals simp only [go_sem,Bw,H8.ls,Av,F0]);(all_goals repeat' (first|apply And.intro|intro _)))
  |((all_goals (refine Cy (fun k=>k) (fun _ _=>rfl) ?_ ((r0i h0 h1 h2 h3 h4 h5 h6 h7 held hh (k:Int) (l:Int)).plain fun _ _ h=>h) ?_;focus (first|rfl|(simp only [go_sem,Bw,H8.ls,Av,F0]<;>rfl))));(all_goals (rintro v m ⟨hR,hm⟩;subst hR;subst hm));(all_goals refine And.intro (by first|rfl|simp only [go_sem,Bw,H8.ls,Av,F0]) (And.intro (by first|rfl|simp only [go_sem,Bw,H8.ls,Av,F0]) ?_));(all_goals simp only [go_sem,Bw,H8.ls,Av,F0]);(all_goals repeat' (first|apply And.intro|intro _)))
  |(refine Zj (id:=5) mixed fun zE zhE=>?_;refine Cj (p:=0) 8 [13,14,15,16,17,18,19,20] [0,1,0,4,0,16,63,0] [] rfl (by kernel_rfl) rfl (by simp only [go_sem]) fun zR zK zhR zhK=>?_;simp only [go_sem,Bw,H8.ls,Av,F0];(repeat' (first|apply And.intro|intro _));(all_goals (refine Fy (fun k=>k) _ [] (fun _ _=>rfl) ?_ ?_ ?_ (s0r h0 h1 h2 h3 h4 h5 h6 h7 held hh l hl3 true).told ?_ ?_;(iterate 2 (focus (first|rfl|(simp only [go_sem,Bw,H8.ls,Av,F0]<;>first|done|rfl|simp))));(first|kernel_rfl|rfl|simp [h0y,i0r,pls])));(all_goals try (refine And.intro ?_ (And.intro ?_ (And.intro ?_ ?_))<;>(first|rfl|(simp only [go_sem,Bw,H8.ls,Av,F0];done)|(simp [go_sem,look,Bw,H8.ls,Av,F0];done))));(all_goals (try simp only [go_sem,Bw,H8.ls,Av,F0]));(all_goals (try simp only [go_sem,Bw,H8.ls,Av,F0]));(all_goals repeat' (first|apply And.intro|intro _));refine zhK _ _ trivial (zhR _ ?_);refine Hq rfl (zhE _ ?_))
  |((all_goals refine Cy (fun k=>k) (fun _ _=>rfl) (by first|rfl|(simp only [go_sem,Bw,H8.ls,Av,F0]<;>rfl)) ((f2f _ (by first|rfl|simp [Av])).plain fun _ _ h=>h) ?_);(all_goals (rintro v m ⟨hR,hm⟩;subst hR;subst hm));(all_goals refine And.intro (by first|rfl|simp only [go_sem,Bw,H8.ls,Av,F0]) (And.intro (by first|rfl|simp only [go_sem,Bw,H8.ls,Av,F0]) ?_));(all_goals simp only [go_sem,Bw,H8.ls,Av,F0]);(all_goals repeat' (first|apply And.intro|intro _)))
  |refine Bq fun zN zM zhN zhM=>?_
  |(refine Bz ?_ ?_;focus (first|rfl|(simp [go_sem,Bw,H8.ls,Av,F0];done)))
  |(refine Bj ?_ ?_;focus (first|rfl|(simp [go_sem,Bw,H8.ls,Av,F0];done)))
end Bk
end Go.Sy
namespace Go.Sy
namespace Bk
open Go.Proofs
attribute [local irreducible] Fz HT Cw Oj onC onE onO onG goV goA goS Qv Ey
theorem m1k {s:HSt} (c:UInt8) (h:s.done%64=0):(a0y s c).done%64=0∧¬(a0y s c).rest.length=0:=by
 unfold a0y
 split
 · exact ⟨by show (s.done+64)%64=0;omega,by simp⟩
 · exact ⟨h,by simp⟩
theorem l1m : ∀ {l:List UInt8} {s:HSt},s.done%64=0→(s.rest.length=0→s.done=0)→(a0q s l).done%64=0∧((a0q s l).rest.length=0→(a0q s l).done=0)
 | [],_,h,h2=>⟨h,h2⟩
 |c::l,s,h,_=>by
  obtain ⟨h3,h4⟩:=m1k (s:=s) c h
  exact l1m (l:=l) h3 (fun e=>absurd e h4)
def y1q :HSt:=⟨⟨0,0,0,0,0,0,0,0⟩,0,[]⟩
def i0j :HSt:=⟨(⟨(1779033703^^^16842784),3144134277,1013904242,2773480762,1359893119,2600822924,528734635,1541459225⟩:H8),0,[]⟩
def s0o (b:List UInt8):HSt:=if 1073741824<b.length then y1q else a0q i0j b
theorem k0c (l:List UInt8):Pw (.w (.agg (Aq l)))=true:=m0i l
def y1f (b:List UInt8):Int:=if 1073741824<b.length then 1 else 0
def g0r (b:List UInt8):List UInt8:=i1n (g0d (s0o b).h (Vx (s0o b).rest) (s0o b).len true).l
theorem Jk (b:List UInt8):(g0r b).length=32:=g0j _
theorem q0i (b:List UInt8):(s0o b).ok:=by
 unfold s0o
 split
 · exact ⟨by decide,by decide,by decide,fun _=>rfl⟩
 · obtain ⟨h1,h2⟩:=l1m (l:=b) (s:=i0j) rfl (fun _=>rfl)
   obtain ⟨h3,h4⟩:=i0p (l:=b) (s:=i0j) (by decide)
   have h5:i0j.done=0∧i0j.rest.length=0:=⟨rfl,rfl⟩
   exact ⟨h3,by show (a0q i0j b).done+(a0q i0j b).rest.length≤_;omega,h1,h2⟩
theorem z0q :stB y1q=Bw ⟨0,0,0,0,0,0,0,0⟩ (List.replicate 64 0) 0 0:=rfl
theorem p1o (b:List UInt8) (hbl:b.length≤9223372036854775807) (ex:Bool):CtM Tryd.prog 27 [.w (.agg (Bw (⟨(1779033703^^^16842784),3144134277,1013904242,2773480762,1359893119,2600822924,528734635,1541459225⟩:H8) (List.replicate 64 0) 0 0)),.w (.one (.pl (.R ex 1 (Aw b))))] [(1000000,⟨false,[.pl (.u32 1779033703),.pl (.u32 3144134277),.pl (.u32 1013904242),.pl (.u32 2773480762),.pl (.u32 1359893119),.pl (.u32 2600822924),.pl (.u32 528734635),.pl (.u32 1541459225)]⟩),(1000002,⟨false,f0q⟩)] (Told (fun v m=>v=.tup [.agg (stB (s0o b)),.one (.pl (.i (y1f b)))]∧m=[])):=by
 have hok:HashOk (List.replicate 64 0) ((0:Nat):Int) ((0:Nat):Int):=j0z (s:=i0j) ⟨by decide,by decide,by decide,fun _=>rfl⟩
 by_cases h:1073741824<b.length
 · rw [s0o,y1f,if_pos h,if_pos h,z0q]
   exact i1w (1779033703^^^16842784) 3144134277 1013904242 2773480762 1359893119 2600822924 528734635 1541459225 (List.replicate 64 0) (by simp) 0 0 hok b (by omega) ex (by omega)
 · rw [s0o,y1f,if_neg h,if_neg h]
   exact c1u (1779033703^^^16842784) 3144134277 1013904242 2773480762 1359893119 2600822924 528734635 1541459225 (List.replicate 64 0) (by simp) 0 0 hok b (by omega) ex (by omega)
theorem c1s (b:List UInt8) (hbl:b.length≤9223372036854775807) (ex:Bool):CtM Tryd.prog 33 [.w (.agg (Bw (⟨(1779033703^^^16842784),3144134277,1013904242,2773480762,1359893119,2600822924,528734635,1541459225⟩:H8) (List.replicate 64 0) 0 0)),.w (.one (.pl (.R ex 1 (Aw b))))] [(1000001,⟨false,[.pl (.u32 1779033703),.pl (.u32 3144134277),.pl (.u32 1013904242),.pl (.u32 2773480762),.pl (.u32 1359893119),.pl (.u32 2600822924),.pl (.u32 528734635),.pl (.u32 1541459225)]⟩)] (Told (fun v m=>v=.tup [.agg (stB (s0o b)),.one (.pl (.i (y1f b)))]∧m=[])):=by
 have hok:HashOk (List.replicate 64 0) ((0:Nat):Int) ((0:Nat):Int):=j0z (s:=i0j) ⟨by decide,by decide,by decide,fun _=>rfl⟩
 by_cases h:1073741824<b.length
 · rw [s0o,y1f,if_pos h,if_pos h,z0q]
   exact w0v (1779033703^^^16842784) 3144134277 1013904242 2773480762 1359893119 2600822924 528734635 1541459225 (List.replicate 64 0) (by simp) 0 0 hok b (by omega) ex (by omega)
 · rw [s0o,y1f,if_neg h,if_neg h]
   exact u0o (1779033703^^^16842784) 3144134277 1013904242 2773480762 1359893119 2600822924 528734635 1541459225 (List.replicate 64 0) (by simp) 0 0 hok b (by omega) ex (by omega)
theorem p1j (b:List UInt8):CtM Tryd.prog 29 [.w (.agg (stB (s0o b)))] [(1000000,⟨false,[.pl (.u32 1779033703),.pl (.u32 3144134277),.pl (.u32 1013904242),.pl (.u32 2773480762),.pl (.u32 1359893119),.pl (.u32 2600822924),.pl (.u32 528734635),.pl (.u32 1541459225)]⟩),(1000002,⟨false,f0q⟩)] (Told (fun v m=>v=.tup [.agg (Aq (g0r b)),.one (.pl (.i 0))]∧m=[])):=by
 have h:=q0i b
 unfold g0r
 obtain ⟨⟨⟨h0,h1,h2,h3,h4,h5,h6,h7⟩,d,r⟩,hs⟩: ∃ s,s0o b=s:=⟨_,rfl⟩
 rw [hs] at h ⊢
 exact v1u h0 h1 h2 h3 h4 h5 h6 h7 (Vx r) (Jw h.1) r.length _ (j0z h)
theorem c1r (b:List UInt8):CtM Tryd.prog 35 [.w (.agg (stB (s0o b)))] [(1000001,⟨false,[.pl (.u32 1779033703),.pl (.u32 3144134277),.pl (.u32 1013904242),.pl (.u32 2773480762),.pl (.u32 1359893119),.pl (.u32 2600822924),.pl (.u32 528734635),.pl (.u32 1541459225)]⟩)] (Told (fun v m=>v=.tup [.agg (Aq (g0r b)),.one (.pl (.i 0))]∧m=[])):=by
 have h:=q0i b
 unfold g0r
 obtain ⟨⟨⟨h0,h1,h2,h3,h4,h5,h6,h7⟩,d,r⟩,hs⟩: ∃ s,s0o b=s:=⟨_,rfl⟩
 rw [hs] at h ⊢
 exact i1r h0 h1 h2 h3 h4 h5 h6 h7 (Vx r) (Jw h.1) r.length _ (j0z h)
theorem sum_ (b:List UInt8) (hbl:b.length≤9223372036854775807) (ex:Bool):
 CtM Tryd.prog 15 [.w (.one (.pl (.R ex 1 (Aw b))))] [(1000000,⟨false,[.pl (.u32 1779033703),.pl (.u32 3144134277),.pl (.u32 1013904242),.pl (.u32 2773480762),.pl (.u32 1359893119),.pl (.u32 2600822924),.pl (.u32 528734635),.pl (.u32 1541459225)]⟩),(1000002,⟨false,f0q⟩)] (Told (fun v m=>v=.w (.agg (Aq (g0r b)))∧m=[])):=by
 obtain ⟨⟨⟨q0,q1,q2,q3,q4,q5,q6,q7⟩,d,q⟩,hs⟩: ∃ s,s0o b=s:=⟨_,rfl⟩
 have hok:=q0i b
 rw [hs] at hok
 have hpq:=Jw (r:=q) hok.1
 have hkl:=Jk b
 have hA:=p1o b hbl ex
 rw [hs] at hA
 have hE:=p1j b
 rw [hs] at hE
 refine CtM.k Tryd.func15 rfl Tryd.ntmps15 (congrArg Array.toList Tryd.results15) (by simp) fun w0 ro may fx=>?_
 refine Dx fun zZ zhZ=>?_
 refine Dz fun zK zhK=>?_
 simp only [go_sem,stB,Bw,H8.ls,hpq,hkl]
 repeat' (first|apply And.intro|intro _)
 refine zhK _ ?_
 refine Dz fun zK zhK=>?_
 simp only [go_sem,stB,Bw,H8.ls,hpq,hkl]
 repeat' (first|apply And.intro|intro _)
 all_goals (refine Dy false [] (fun k=>k) (fun _ _=>rfl) ?_ (by decide) ?_ c2h.told ?_;iterate 2 (focus (first|rfl|(simp only [go_sem,stB,Bw,H8.ls,hpq,hkl]<;>first|done|rfl|simp))))
 all_goals (rintro v m ⟨hR,hm⟩;subst hR;subst hm)
 all_goals (refine And.intro ?_ (And.intro ?_ (And.intro ?_ ?_));iterate 3 (focus (first|rfl|(simp only [go_sem,stB,Bw,H8.ls,hpq,hkl];done)|(simp [go_sem,look,stB,Bw,H8.ls,hpq,hkl];done))))
 all_goals (try simp only [go_sem,stB,Bw,H8.ls,hpq,hkl])
 all_goals (try simp only [go_sem,stB,Bw,H8.ls,hpq,hkl])
 all_goals repeat' (first|apply And.intro|intro _)
 all_goals (refine Dy false [] (fun k=>k) (fun _ _=>rfl) ?_ (by decide) ?_ hA.told ?_;iterate 2 (focus (first|rfl|(simp only [go_sem,stB,Bw,H8.ls,hpq,hkl]<;>first|done|rfl|simp))))
 all_goals (rintro v m ⟨hR,hm⟩;subst hR;subst hm)
 all_goals (refine And.intro ?_ (And.intro ?_ (And.intro ?_ ?_));iterate 3 (focus (first|rfl|(simp only [go_sem,stB,Bw,H8.ls,hpq,hkl];done)|(simp [go_sem,look,stB,Bw,H8.ls,hpq,hkl];done))))
 all_goals (try simp only [go_sem,stB,Bw,H8.ls,hpq,hkl])
 all_goals (try simp only [go_sem,stB,Bw,H8.ls,hpq,hkl])
 all_goals repeat' (first|apply And.intro|intro _)
 refine zhK _ ?_
 refine Dz fun zK zhK=>?_
 simp only [go_sem,stB,Bw,H8.ls,hpq,hkl]
 repeat' (first|apply And.intro|intro _)
 all_goals (refine Dy false [] (fun k=>k) (fun _ _=>rfl) ?_ (by decide) ?_ hE.told ?_;iterate 2 (focus (first|rfl|(simp only [go_sem,stB,Bw,H8.ls,hpq,hkl]<;>first|done|rfl|simp))))
 all_goals (rintro v m ⟨hR,hm⟩;subst hR;subst hm)
 all_goals (refine And.intro ?_ (And.intro ?_ (And.intro ?_ ?_));iterate 3 (focus (first|rfl|(simp only [go_sem,stB,Bw,H8.ls,hpq,hkl];done)|(simp [go_sem,look,stB,Bw,H8.ls,hpq,hkl];done))))
 all_goals (try simp only [go_sem,stB,Bw,H8.ls,hpq,hkl])
 all_goals (try simp only [go_sem,stB,Bw,H8.ls,hpq,hkl])
 all_goals repeat' (first|apply And.intro|intro _)
 refine zhK _ ?_
 refine Dz fun zK zhK=>?_
 simp only [go_sem,stB,Bw,H8.ls,hpq,hkl]
 repeat' (first|apply And.intro|intro _)
 refine zhK _ ?_
 refine Ck ?_
 refine zhZ _ _ ?_
 simp only [go_sem,stB,Bw,H8.ls,hpq,hkl]
 all_goals (exact told_plain (k0c _) ⟨rfl,rfl⟩)
theorem w1f (b:List UInt8) (hbl:b.length≤9223372036854775807):
 CtM Tryd.prog 21 [.w (.one (.pl (.str b)))] [(1000001,⟨false,[.pl (.u32 1779033703),.pl (.u32 3144134277),.pl (.u32 1013904242),.pl (.u32 2773480762),.pl (.u32 1359893119),.pl (.u32 2600822924),.pl (.u32 528734635),.pl (.u32 1541459225)]⟩)] (Told (fun v m=>v=.w (.agg (Aq (g0r b)))∧m=[])):=by
 obtain ⟨⟨⟨q0,q1,q2,q3,q4,q5,q6,q7⟩,d,q⟩,hs⟩: ∃ s,s0o b=s:=⟨_,rfl⟩
 have hok:=q0i b
 rw [hs] at hok
 have hpq:=Jw (r:=q) hok.1
 have hkl:=Jk b
 have hA:=c1s b hbl false
 rw [hs] at hA
 have hE:=c1r b
 rw [hs] at hE
 have hbl2:b.length≤9223372036854775807:=by omega
 have F0:=And.intro hpq<|And.intro hkl<|hbl2
 refine CtM.k Tryd.func21 rfl Tryd.ntmps21 (congrArg Array.toList Tryd.results21) (by simp) fun w0 ro may fx=>?_
 refine Dx fun zZ zhZ=>?_
 refine Dz fun zK zhK=>?_
 simp only [go_sem,stB,Bw,H8.ls,F0]
 repeat' (first|apply And.intro|intro _)
 refine zhK _ ?_
 refine Dz fun zK zhK=>?_
 simp only [go_sem,stB,Bw,H8.ls,F0]
 repeat' (first|apply And.intro|intro _)
 all_goals (refine Dy false [] (fun k=>k) (fun _ _=>rfl) ?_ (by decide) ?_ c2g.told ?_;iterate 2 (focus (first|rfl|(simp only [go_sem,stB,Bw,H8.ls,F0]<;>first|done|rfl|simp))))
 all_goals (rintro v m ⟨hR,hm⟩;subst hR;subst hm)
 all_goals (refine And.intro ?_ (And.intro ?_ (And.intro ?_ ?_));iterate 3 (focus (first|rfl|(simp only [go_sem,stB,Bw,H8.ls,F0];done)|(simp [go_sem,look,stB,Bw,H8.ls,F0];done))))
 all_goals (try simp only [go_sem,stB,Bw,H8.ls,F0])
 all_goals (try simp only [go_sem,stB,Bw,H8.ls,F0])
 all_goals repeat' (first|apply And.intro|intro _)
 all_goals (refine Dy true [] (fun k=>k) (fun _ _=>rfl) ?_ (by decide) ?_ hA.told ?_;iterate 2 (focus (first|rfl|(simp only [go_sem,stB,Bw,H8.ls,F0]<;>first|done|rfl|simp))))
 all_goals (rintro v m ⟨hR,hm⟩;subst hR;subst hm)
 all_goals (refine And.intro ?_ (And.intro ?_ (And.intro ?_ ?_));iterate 3 (focus (first|rfl|(simp only [go_sem,stB,Bw,H8.ls,F0];done)|(simp [go_sem,look,stB,Bw,H8.ls,F0];done))))
 all_goals (try simp only [go_sem,stB,Bw,H8.ls,F0])
 all_goals (try simp only [go_sem,stB,Bw,H8.ls,F0])
 all_goals repeat' (first|apply And.intro|intro _)
 refine zhK _ ?_
 refine Dz fun zK zhK=>?_
 simp only [go_sem,stB,Bw,H8.ls,F0]
 repeat' (first|apply And.intro|intro _)
 all_goals (refine Dy false [] (fun k=>k) (fun _ _=>rfl) ?_ (by decide) ?_ hE.told ?_;iterate 2 (focus (first|rfl|(simp only [go_sem,stB,Bw,H8.ls,F0]<;>first|done|rfl|simp))))
 all_goals (rintro v m ⟨hR,hm⟩;subst hR;subst hm)
 all_goals (refine And.intro ?_ (And.intro ?_ (And.intro ?_ ?_));iterate 3 (focus (first|rfl|(simp only [go_sem,stB,Bw,H8.ls,F0];done)|(simp [go_sem,look,stB,Bw,H8.ls,F0];done))))
 all_goals (try simp only [go_sem,stB,Bw,H8.ls,F0])
 all_goals (try simp only [go_sem,stB,Bw,H8.ls,F0])
 all_goals repeat' (first|apply And.intro|intro _)
 refine zhK _ ?_
 refine Dz fun zK zhK=>?_
 simp only [go_sem,stB,Bw,H8.ls,F0]
 repeat' (first|apply And.intro|intro _)
 refine zhK _ ?_
 refine Ck ?_
 refine zhZ _ _ ?_
 simp only [go_sem,stB,Bw,H8.ls,F0]
 all_goals (exact told_plain (k0c _) ⟨rfl,rfl⟩)
end Bk
end Go.Sy
namespace Go.Sy
open Go.Proofs
attribute [local irreducible] Fz HT Cw Oj onC onE onO onG goV goA goS Qv Ey
def Bv (st:Bool) (key:List UInt8) (n:UInt64) (ch h:List UInt8):List L:=.pl (.b st)::(Aq key++(.pl (.u64 n)::(Aq ch++Aq h)))
theorem l0e (st:Bool) (key:List UInt8) (n:UInt64) (ch h b:List UInt8) (hk:key.length=32) (hc:ch.length=32) (hh:h.length=32) (hb:b.length≤140737488351232) (ex:Bool):
 CtM Tryd.prog 9 [.w (.agg (Bv st key n ch h)),.w (.one (.pl (.R ex 1 (Aw b))))] [(1000000,⟨false,[.pl (.u32 1779033703),.pl (.u32 3144134277),.pl (.u32 1013904242),.pl (.u32 2773480762),.pl (.u32 1359893119),.pl (.u32 2600822924),.pl (.u32 528734635),.pl (.u32 1541459225)]⟩),(1000002,⟨false,Bk.f0q⟩)] (Told (fun v m=>v=.w (.agg (Bv st key n ch (Bk.g0r (h++b))))∧m=[])):=by
 obtain ⟨z,hz⟩: ∃ z,Bk.g0r (h++b)=z:=⟨_,rfl⟩
 have hzl:z.length=32:=by rw [←hz];exact Bk.Jk _
 have hn2:(h++b).length≤9223372036854775807:=by simp [hh];omega
 rw [hz]
 have hS:=Bk.sum_ (h++b) hn2 false
 rw [hz] at hS
 obtain ⟨q,hq⟩: ∃ q,h++b=q:=⟨_,rfl⟩
 have hql:q.length=32+b.length:=by rw [←hq,List.length_append,hh]
 rw [hq] at hS
 have hle:32+b.length≤140737488355328:=by omega
 have hch:chunks 1 (32+b.length) (q.map PL.u8)=Aw q:=Ew hql
 have F0:=And.intro hk<|And.intro hc<|And.intro hh<|And.intro hzl<|And.intro hle<|And.intro hq<|And.intro hql<|hch
 refine CtM.k Tryd.func9 rfl Tryd.ntmps9 (congrArg Array.toList Tryd.results9) (by simp) fun w0 ro may fx=>?_
 refine Dx fun zZ zhZ=>?_
 iterate 9 first
  |(refine Dz fun zK zhK=>?_;simp only [go_sem,Bv,F0];(repeat' (first|apply And.intro|intro _)))
  |refine zhK _ ?_
  |refine Ck ?_
  |(refine zhZ _ _ ?_;simp only [go_sem,Bv,F0];(all_goals (exact told_plain (by simp [Pw,Uw,Aq]) ⟨by first|(simp;done)|(simp [Bv,Az,Aq];done),rfl⟩)))
  |((all_goals (refine Dy true [] (fun k=>k) (fun _ _=>rfl) ?_ (by decide) ?_ hS.told ?_;iterate 2 (focus (first|rfl|(simp only [go_sem,Bv,F0]<;>first|done|rfl|simp)))));(all_goals (rintro v m ⟨hR,hm⟩;subst hR;subst hm));(all_goals (refine And.intro ?_ (And.intro ?_ (And.intro ?_ ?_));iterate 3 (focus (first|rfl|(simp only [go_sem,Bv,F0];done)|(simp [go_sem,look,Bv,F0];done)))));(all_goals (try simp only [go_sem,Bv,F0]));(all_goals (try simp only [go_sem,Bv,F0]));(all_goals repeat' (first|apply And.intro|intro _)))
theorem z1i (l:List UInt8) (hl:l.length=32):
 Ct Tryd.prog 22 [.w (.agg (Aq l))] (fun v m=>v=.w (.one (.pl (.str l)))):=by
 refine Ct.k Tryd.func22 rfl Tryd.ntmps22 (congrArg Array.toList Tryd.results22) (by simp) fun w0 ro=>?_
 refine Dx fun zZ zhZ=>?_
 iterate 6 first
  |(refine Dz fun zK zhK=>?_;simp only [go_sem,hl];(repeat' (first|apply And.intro|intro _)))
  |refine zhK _ ?_
  |refine Ck ?_
  |(refine zhZ _ _ ?_;simp only [go_sem,hl];(all_goals rfl))
theorem d0r (st:Bool) (key:List UInt8) (n:UInt64) (ch h b:List UInt8) (hk:key.length=32) (hc:ch.length=32) (hh:h.length=32) (hb:b.length≤140737488351232):
 CtM Tryd.prog 12 [.w (.agg (Bv st key n ch h)),.w (.one (.pl (.str b)))] [(1000001,⟨false,[.pl (.u32 1779033703),.pl (.u32 3144134277),.pl (.u32 1013904242),.pl (.u32 2773480762),.pl (.u32 1359893119),.pl (.u32 2600822924),.pl (.u32 528734635),.pl (.u32 1541459225)]⟩)] (Told (fun v m=>v=.w (.agg (Bv st key n ch (Bk.g0r (h++b))))∧m=[])):=by
 obtain ⟨z,hz⟩: ∃ z,Bk.g0r (h++b)=z:=⟨_,rfl⟩
 have hzl:z.length=32:=by rw [←hz];exact Bk.Jk _
 have hn2:(h++b).length≤9223372036854775807:=by simp [hh];omega
 rw [hz]
 have hT1:=z1i h hh
 have hS:=Bk.w1f (h++b) hn2
 rw [hz] at hS
 have hle:32+b.length≤9223372036854775807:=by omega
 have F0:=And.intro hk<|And.intro hc<|And.intro hh<|And.intro hzl<|hle
 refine CtM.k Tryd.func12 rfl Tryd.ntmps12 (congrArg Array.toList Tryd.results12) (by simp) fun w0 ro may fx=>?_
 refine Dx fun zZ zhZ=>?_
 refine Dz fun zK zhK=>?_
 simp only [go_sem,Bv,F0]
 repeat' (first|apply And.intro|intro _)
 refine zhK _ ?_
 refine Dz fun zK zhK=>?_
 simp only [go_sem,Bv,F0]
 repeat' (first|apply And.intro|intro _)
 all_goals (refine Cy (fun k=>k) (fun _ _=>rfl) ?_ (hT1.plain fun _ _ h=>h) ?_;focus (first|rfl|(simp only [go_sem,Bv,F0]<;>rfl)))
 all_goals (rintro v m ⟨hR,hm⟩;subst hR;subst hm)
 all_goals refine And.intro (by first|rfl|simp only [go_sem,Bv,F0]) (And.intro (by first|rfl|simp only [go_sem,Bv,F0]) ?_)
 all_goals simp only [go_sem,Bv,F0]
 all_goals repeat' (first|apply And.intro|intro _)
 all_goals (refine Dy false [] (fun k=>k) (fun _ _=>rfl) ?_ (by decide) ?_ hS.told ?_;iterate 2 (focus (first|rfl|(simp only [go_sem,Bv,F0]<;>first|done|rfl|simp))))
 all_goals (rintro v m ⟨hR,hm⟩;subst hR;subst hm)
 all_goals (refine And.intro ?_ (And.intro ?_ (And.intro ?_ ?_));iterate 3 (focus (first|rfl|(simp only [go_sem,Bv,F0];done)|(simp [go_sem,look,Bv,F0];done))))
 all_goals (try simp only [go_sem,Bv,F0])
 all_goals (try simp only [go_sem,Bv,F0])
 all_goals repeat' (first|apply And.intro|intro _)
 refine zhK _ ?_
 refine Dz fun zK zhK=>?_
 simp only [go_sem,Bv,F0]
 repeat' (first|apply And.intro|intro _)
 refine zhK _ ?_
 refine Ck ?_
 refine zhZ _ _ ?_
 simp only [go_sem,Bv,F0]
 all_goals (exact told_plain (by simp [Pw,Uw,Aq]) ⟨by first|(simp;done)|(simp [Bv,Az,Aq];done),rfl⟩)
end Go.Sy
namespace Go.Sy
open Go.Proofs
attribute [local irreducible] Fz HT Cw Oj onC onE onO onG goV goA goS Qv Ey
def x0g (has:Bool) (key:List UInt8) (n:UInt64) (bs:List UInt8) (e:Int) (bx:List L) (v:V) (m:List (Nat×Ob)):Prop:=v=.tup [.agg (Az has key n),.one (.pl (.R false 1 (Aw bs))),.one (.pl (.i e))]∧m=[(500000,⟨false,bx⟩)]
theorem r0b {m:List (Nat×Ob)} {a:Nat} {oa:Ob} (h:look m a=some oa): ∀ x∈[(a,oa)],look m x.1=some x.2:=fun x hx=>by rw [List.mem_singleton] at hx;subst hx;exact h
theorem a0v {has:Bool} {key:List UInt8} {n:UInt64} {e:Int} {m:List (Nat×Ob)} {sz:Nat} {ex:Bool} {bx:List L} (hb:look m 500000=some ⟨false,bx⟩):Told (x0g has key n [] e bx) (.tup [.agg (Az has key n),.one (.pl (.R ex sz [])),.one (.pl (.i e))]) m:=
 Vz (e0s (a':=.pl (.R false 1 (Aw []))) fun d y h=>a0a d y (e0n h)) (g0v (r0b hb) ⟨rfl,rfl⟩)
theorem i0d {has:Bool} {key:List UInt8} {n:UInt64} {e:Int} {m:List (Nat×Ob)} {ex:Bool} {l:List UInt8} {bx:List L} (hb:look m 500000=some ⟨false,bx⟩):Told (x0g has key n l e bx) (.tup [.agg (Az has key n),.one (.pl (.R ex 1 (Aw l))),.one (.pl (.i e))]) m:=
 Vz (e0s fun d y h=>a0a d y h) (g0v (r0b hb) ⟨rfl,rfl⟩)
theorem z0s {k:Nat} {c:List PL} {st:Bool} {key:List UInt8} {n:UInt64} {ch h:List UInt8}:(.pl (.b st)::(Aq key++(.pl (.u64 n)::Aq (ch++h))):List L).map (c0g k c)=(.pl (.b st)::(Aq key++(.pl (.u64 n)::Aq (ch++h))):List L):=by
 simp only [List.map_cons,List.map_append,h1r,c0g]
theorem c1p {k:Nat} {c:List PL} {m:List (Nat×Ob)} {o:Ob} (hk:¬(500000:Nat)=k) (h:look m 500000=some o):look (q0n k c m) 500000=some ⟨o.row,o.cells.map (c0g k c)⟩:=by
 rw [e0z,if_neg hk,h];rfl
theorem a1w {has:Bool} {key:List UInt8} {n:UInt64} {st:Bool} {ky:List UInt8} {nn:UInt64} {ch h:List UInt8} {k j:Nat} {e:Int} {m:List (Nat×Ob)} {b:Bool} {l:List UInt8} (hk:look m k=some ⟨b,Aq l⟩) (hn:j=l.length) (hb:look m 500000=some ⟨false,(.pl (.b st)::(Aq ky++(.pl (.u64 nn)::Aq (ch++h))))⟩) (hlt:k<500000:=by decide):Told (x0g has key n l e ((.pl (.b st)::(Aq ky++(.pl (.u64 nn)::Aq (ch++h)))))) (.tup [.agg (Az has key n),.one (.s k [] j 1),.one (.pl (.i e))]) m:=by
 refine b0f k (l.map .u8) (by rw [hk,Yy]) hlt ?_
 simp only [o0o,List.map_cons,List.map_nil,m0c]
 simp only [k0s,b0h hn,l0h]
 have hq:=c1p (c:=l.map .u8) (Nat.ne_of_gt hlt) hb
 rw [z0s] at hq
 exact g0v (r0b hq) ⟨rfl,rfl⟩
theorem e1i (k:Nat) (has:Bool) (key:List UInt8) (hk:key.length=32) (n:UInt64) (ch h b:List UInt8) (hc:ch.length=32) (hh:h.length=32) (ex:Bool) (hf:Fv has key n=9):
 CtM Tryd.prog 13 [.w (.agg (Az has key n)),.w (.one (.fn k [])),.w (.one (.s 500000 [(0,32),(66,32)] 32 1)),.w (.one (.pl (.R ex 1 (Aw b))))] [(500000,⟨false,Bv has key n ch h⟩)] (Told (x0g false z32 0 [] 9 (Bv has key n ch h))):=by
 have F0:=And.intro hc<|And.intro hh<|And.intro hk<|hf
 refine CtM.k Tryd.func13 rfl Tryd.ntmps13 (congrArg Array.toList Tryd.results13) (by simp) fun w0 ro may fx=>?_
 refine Dx fun zZ zhZ=>?_
 iterate 14 first
  |(refine Dz fun zK zhK=>?_;simp only [go_sem,Az,Bv,F0];(repeat' (first|apply And.intro|intro _)))
  |refine zhK _ ?_
  |refine Ck ?_
  |(refine zhM _ _ ?_;clear zhN zhM)
  |(refine zhZ _ _ ?_;simp only [go_sem,Az,Bv,F0];(all_goals (exact a0v (by simp [look,Bv]))))
  |((all_goals (refine Cy (fun k=>k) (fun _ _=>rfl) ?_ ((Mv has key hk n).plain fun _ _ h=>h) ?_;focus (first|rfl|(simp only [go_sem,Az,Bv,F0]<;>rfl))));(all_goals (rintro v m ⟨hR,hm⟩;subst hR;subst hm));(all_goals refine And.intro (by first|rfl|simp only [go_sem,Az,Bv,F0]) (And.intro (by first|rfl|simp only [go_sem,Az,Bv,F0]) ?_));(all_goals simp only [go_sem,Az,Bv,F0]);(all_goals repeat' (first|apply And.intro|intro _)))
  |refine Bq fun zN zM zhN zhM=>?_
  |(refine Bz ?_ ?_;focus (first|rfl|(simp [go_sem,Az,Bv,F0];done)))
theorem e1h (k:Nat) (ch h b:List UInt8) (hc:ch.length=32) (hh:h.length=32) (ex:Bool) (hf:800<b.length):
 CtM Tryd.prog 13 [.w (.agg (Az false z32 0)),.w (.one (.fn k [])),.w (.one (.s 500000 [(0,32),(66,32)] 32 1)),.w (.one (.pl (.R ex 1 (Aw b))))] [(500000,⟨false,Bv false z32 0 ch h⟩)] (Told (x0g false z32 0 [] 1 (Bv false z32 0 ch h))):=by
 have g:(800:Int)<((b.length:Nat):Int):=by omega
 have F0:=And.intro hc<|And.intro hh<|g
 refine CtM.k Tryd.func13 rfl Tryd.ntmps13 (congrArg Array.toList Tryd.results13) (by simp) fun w0 ro may fx=>?_
 refine Dx fun zZ zhZ=>?_
 iterate 25 first
  |(refine Dz fun zK zhK=>?_;simp only [go_sem,Az,Bv,Dk,Ay,F0];(repeat' (first|apply And.intro|intro _)))
  |refine zhK _ ?_
  |(refine zhM _ _ ?_;clear zhN zhM)
  |refine Cq ?_
  |(refine zhN _ ?_;clear zhN zhM)
  |refine Ck ?_
  |(refine zhZ _ _ ?_;simp only [go_sem,Az,Bv,Dk,Ay,F0];(all_goals (exact a0v (by simp [look,Bv]))))
  |((all_goals (refine Cy (fun k=>k) (fun _ _=>rfl) ?_ ((Mv false z32 Ay 0).plain fun _ _ h=>h) ?_;focus (first|rfl|(simp only [go_sem,Az,Bv,Dk,Ay,F0]<;>rfl))));(all_goals (rintro v m ⟨hR,hm⟩;subst hR;subst hm));(all_goals refine And.intro (by first|rfl|simp only [go_sem,Az,Bv,Dk,Ay,F0]) (And.intro (by first|rfl|simp only [go_sem,Az,Bv,Dk,Ay,F0]) ?_));(all_goals simp only [go_sem,Az,Bv,Dk,Ay,F0]);(all_goals repeat' (first|apply And.intro|intro _)))
  |refine Bq fun zN zM zhN zhM=>?_
  |(refine Bz ?_ ?_;focus (first|rfl|(simp [go_sem,Az,Bv,Dk,Ay,F0];done)))
  |(refine Bj ?_ ?_;focus (first|rfl|(simp [go_sem,Az,Bv,Dk,Ay,F0];done)))
theorem z0i (k:Nat) (ch h b:List UInt8) (hc:ch.length=32) (hh:h.length=32) (ex:Bool) (hf:¬800<b.length):
 CtM Tryd.prog 13 [.w (.agg (Az false z32 0)),.w (.one (.fn k [])),.w (.one (.s 500000 [(0,32),(66,32)] 32 1)),.w (.one (.pl (.R ex 1 (Aw b))))] [(500000,⟨false,Bv false z32 0 ch h⟩)] (Told (x0g false z32 0 b 0 (Bv false z32 0 ch h))):=by
 have g:¬(800:Int)<((b.length:Nat):Int):=by omega
 have hq:b.length≤140737488355328:=by omega
 have F0:=And.intro hc<|And.intro hh<|And.intro g<|hq
 refine CtM.k Tryd.func13 rfl Tryd.ntmps13 (congrArg Array.toList Tryd.results13) (by simp) fun w0 ro may fx=>?_
 refine Dx fun zZ zhZ=>?_
 iterate 26 first
  |(refine Dz fun zK zhK=>?_;simp only [go_sem,Az,Bv,Dk,Ay,F0];(repeat' (first|apply And.intro|intro _)))
  |refine zhK _ ?_
  |refine Cq ?_
  |(refine zhN _ ?_;clear zhN zhM)
  |(refine d0c (id:=7) [27,28,29,30,9,10] [0,0,0,6,15,31,63] [(0,3)] mixed (by kernel_rfl) (by simp only [go_sem]) fun zK zhK=>?_;simp only [go_sem,Az,Bv,Dk,Ay,F0];(repeat' (first|apply And.intro|intro _)))
  |(refine zhK _ _ ?_ ?_;(focus (first|trivial|(simp only [go_sem];done)|(simp only [go_sem];simp;done)|(simp only [go_sem];simp;simp only [go_sem]))))
  |refine Ck ?_
  |(refine zhM _ _ ?_;clear zhN zhM)
  |(refine zhZ _ _ ?_;simp only [go_sem,Az,Bv,Dk,Ay,F0];(all_goals (first|exact i0d (by simp [look,Bv])|exact a1w (has:=false) (key:=z32) (n:=0) (st:=false) (ky:=z32) (nn:=0) (ch:=ch) (h:=h) (l:=b) (b:=true) (by simp [look]) (by simp) (by simp [look,Bv]))))
  |((all_goals (refine Cy (fun k=>k) (fun _ _=>rfl) ?_ ((Mv false z32 Ay 0).plain fun _ _ h=>h) ?_;focus (first|rfl|(simp only [go_sem,Az,Bv,Dk,Ay,F0]<;>rfl))));(all_goals (rintro v m ⟨hR,hm⟩;subst hR;subst hm));(all_goals refine And.intro (by first|rfl|simp only [go_sem,Az,Bv,Dk,Ay,F0]) (And.intro (by first|rfl|simp only [go_sem,Az,Bv,Dk,Ay,F0]) ?_));(all_goals simp only [go_sem,Az,Bv,Dk,Ay,F0]);(all_goals repeat' (first|apply And.intro|intro _)))
  |refine Bq fun zN zM zhN zhM=>?_
  |(refine Bj ?_ ?_;focus (first|rfl|(simp [go_sem,Az,Bv,Dk,Ay,F0];done)))
  |(refine Bz ?_ ?_;focus (first|rfl|(simp [go_sem,Az,Bv,Dk,Ay,F0];done)))
theorem f1t (op:Bool) (has:Bool) (key:List UInt8) (hk:key.length=32) (n:UInt64) (ch h b:List UInt8) (hc:ch.length=32) (hh:h.length=32) (ex:Bool) (hf:Fv has key n=9):
 CtM Tryd.prog 11 [.w (.one (.pl (.b op))),.w (.agg (Az has key n)),.w (.one (.s 500000 [(0,32),(66,32)] 32 1)),.w (.one (.pl (.R ex 1 (Aw b))))] [(500000,⟨false,Bv has key n ch h⟩)] (Told (x0g false z32 0 [] 9 (Bv has key n ch h))):=by
 have F0:=And.intro hc<|And.intro hh<|And.intro hk<|hf
 refine CtM.k Tryd.func11 rfl Tryd.ntmps11 (congrArg Array.toList Tryd.results11) (by simp) fun w0 ro may fx=>?_
 refine Dx fun zZ zhZ=>?_
 iterate 14 first
  |(refine Dz fun zK zhK=>?_;simp only [go_sem,Az,Bv,F0];(repeat' (first|apply And.intro|intro _)))
  |refine zhK _ ?_
  |refine Ck ?_
  |(refine zhM _ _ ?_;clear zhN zhM)
  |(refine zhZ _ _ ?_;simp only [go_sem,Az,Bv,F0];(all_goals (exact a0v (by simp [look,Bv]))))
  |((all_goals (refine Cy (fun k=>k) (fun _ _=>rfl) ?_ ((Jv has key hk n).plain fun _ _ h=>h) ?_;focus (first|rfl|(simp only [go_sem,Az,Bv,F0]<;>rfl))));(all_goals (rintro v m ⟨hR,hm⟩;subst hR;subst hm));(all_goals refine And.intro (by first|rfl|simp only [go_sem,Az,Bv,F0]) (And.intro (by first|rfl|simp only [go_sem,Az,Bv,F0]) ?_));(all_goals simp only [go_sem,Az,Bv,F0]);(all_goals repeat' (first|apply And.intro|intro _)))
  |refine Bq fun zN zM zhN zhM=>?_
  |(refine Bz ?_ ?_;focus (first|rfl|(simp [go_sem,Az,Bv,F0];done)))
theorem f1s (op:Bool) (ch h b:List UInt8) (hc:ch.length=32) (hh:h.length=32) (ex:Bool) (hf:800<b.length):
 CtM Tryd.prog 11 [.w (.one (.pl (.b op))),.w (.agg (Az false z32 0)),.w (.one (.s 500000 [(0,32),(66,32)] 32 1)),.w (.one (.pl (.R ex 1 (Aw b))))] [(500000,⟨false,Bv false z32 0 ch h⟩)] (Told (x0g false z32 0 [] 1 (Bv false z32 0 ch h))):=by
 have g:(800:Int)<((b.length:Nat):Int):=by omega
 have F0:=And.intro hc<|And.intro hh<|g
 refine CtM.k Tryd.func11 rfl Tryd.ntmps11 (congrArg Array.toList Tryd.results11) (by simp) fun w0 ro may fx=>?_
 refine Dx fun zZ zhZ=>?_
 iterate 25 first
  |(refine Dz fun zK zhK=>?_;simp only [go_sem,Az,Bv,Dk,Ay,F0];(repeat' (first|apply And.intro|intro _)))
  |refine zhK _ ?_
  |(refine zhM _ _ ?_;clear zhN zhM)
  |refine Cq ?_
  |(refine zhN _ ?_;clear zhN zhM)
  |refine Ck ?_
  |(refine zhZ _ _ ?_;simp only [go_sem,Az,Bv,Dk,Ay,F0];(all_goals (exact a0v (by simp [look,Bv]))))
  |((all_goals (refine Cy (fun k=>k) (fun _ _=>rfl) ?_ ((Jv false z32 Ay 0).plain fun _ _ h=>h) ?_;focus (first|rfl|(simp only [go_sem,Az,Bv,Dk,Ay,F0]<;>rfl))));(all_goals (rintro v m ⟨hR,hm⟩;subst hR;subst hm));(all_goals refine And.intro (by first|rfl|simp only [go_sem,Az,Bv,Dk,Ay,F0]) (And.intro (by first|rfl|simp only [go_sem,Az,Bv,Dk,Ay,F0]) ?_));(all_goals simp only [go_sem,Az,Bv,Dk,Ay,F0]);(all_goals repeat' (first|apply And.intro|intro _)))
  |refine Bq fun zN zM zhN zhM=>?_
  |(refine Bz ?_ ?_;focus (first|rfl|(simp [go_sem,Az,Bv,Dk,Ay,F0];done)))
  |(refine Bj ?_ ?_;focus (first|rfl|(simp [go_sem,Az,Bv,Dk,Ay,F0];done)))
theorem z0u (op:Bool) (ch h b:List UInt8) (hc:ch.length=32) (hh:h.length=32) (ex:Bool) (hf:¬800<b.length):
 CtM Tryd.prog 11 [.w (.one (.pl (.b op))),.w (.agg (Az false z32 0)),.w (.one (.s 500000 [(0,32),(66,32)] 32 1)),.w (.one (.pl (.R ex 1 (Aw b))))] [(500000,⟨false,Bv false z32 0 ch h⟩)] (Told (x0g false z32 0 b 0 (Bv false z32 0 ch h))):=by
 have g:¬(800:Int)<((b.length:Nat):Int):=by omega
 have hq:b.length≤140737488355328:=by omega
 have F0:=And.intro hc<|And.intro hh<|And.intro g<|hq
 refine CtM.k Tryd.func11 rfl Tryd.ntmps11 (congrArg Array.toList Tryd.results11) (by simp) fun w0 ro may fx=>?_
 refine Dx fun zZ zhZ=>?_
 iterate 26 first
  |(refine Dz fun zK zhK=>?_;simp only [go_sem,Az,Bv,Dk,Ay,F0];(repeat' (first|apply And.intro|intro _)))
  |refine zhK _ ?_
  |refine Cq ?_
  |(refine zhN _ ?_;clear zhN zhM)
  |refine Ck ?_
  |(refine zhM _ _ ?_;clear zhN zhM)
  |(refine zhZ _ _ ?_;simp only [go_sem,Az,Bv,Dk,Ay,F0];(all_goals (first|exact i0d (by simp [look,Bv])|exact a1w (has:=false) (key:=z32) (n:=0) (st:=false) (ky:=z32) (nn:=0) (ch:=ch) (h:=h) (l:=b) (b:=true) (by simp [look]) (by simp) (by simp [look,Bv]))))
  |((all_goals (refine Cy (fun k=>k) (fun _ _=>rfl) ?_ ((Jv false z32 Ay 0).plain fun _ _ h=>h) ?_;focus (first|rfl|(simp only [go_sem,Az,Bv,Dk,Ay,F0]<;>rfl))));(all_goals (rintro v m ⟨hR,hm⟩;subst hR;subst hm));(all_goals refine And.intro (by first|rfl|simp only [go_sem,Az,Bv,Dk,Ay,F0]) (And.intro (by first|rfl|simp only [go_sem,Az,Bv,Dk,Ay,F0]) ?_));(all_goals simp only [go_sem,Az,Bv,Dk,Ay,F0]);(all_goals repeat' (first|apply And.intro|intro _)))
  |refine Bq fun zN zM zhN zhM=>?_
  |(refine Bj ?_ ?_;focus (first|rfl|(simp [go_sem,Az,Bv,Dk,Ay,F0];done)))
  |(refine Bz ?_ ?_;focus (first|rfl|(simp [go_sem,Az,Bv,Dk,Ay,F0];done)))
end Go.Sy
namespace Go.Sy
open Go.Proofs
attribute [local irreducible] Fz HT Cw Oj onC onE onO onG goV goA goS Qv Ey
def s1e (has:Bool) (key:List UInt8) (n:UInt64) (l:List UInt8) (v:V) (m:List (Nat×Ob)):Prop:=v=.tup [.agg (Az has key n),.one (.s 0 [] l.length 1),.one (.pl (.i 0))]∧m=[(0,⟨true,Aq l⟩)]
theorem n0o {has:Bool} {key:List UInt8} {n:UInt64} (g:Nat→Nat):(Az has key n).map (L.ren g)=Az has key n:=by
 simp only [Az,List.map_cons,List.map_append,List.map_nil,j0p,L.ren]
theorem Tz {has:Bool} {key:List UInt8} {n:UInt64} {m:List (Nat×Ob)} {j k:Nat} {l:List UInt8} (hn:k=l.length) (h:look m j=some ⟨true,Aq l⟩) (hj:j<500000:=by decide):Told (s1e has key n l) (.tup [.agg (Az has key n),.one (.s j [] k 1),.one (.pl (.i 0))]) m:=by
 refine Yz ⟨only j,.tup [.agg (Az has key n),.one (.s 0 [] l.length 1),.one (.pl (.i 0))],[(0,⟨true,Aq l⟩)],?_,b0e h hj,rfl,rfl⟩
 simp only [V.ren,List.map_cons,List.map_nil,W.ren,n0o,hn];rfl
theorem r1g (k:Nat) (hgo: ∀ vals w,(callFunc k vals).run Tryd.prog w=.ok (.enter k vals) w) (key:List UInt8) (hk:key.length=32) (n:UInt64) (ad b:List UInt8) (ex1 ex2:Bool) (h:¬n=18446744073709551615) (out:List UInt8) (hop:CtM Tryd.prog k [.w (.agg (Aq key)),.w (.agg (Aq (Ej n))),.w (.one (.pl (.R ex1 1 (Aw ad)))),.w (.one (.pl (.R ex2 1 (Aw b))))] [] (byO out 0)):
 CtM Tryd.prog 13 [.w (.agg (Az true key n)),.w (.one (.fn k [])),.w (.one (.pl (.R ex1 1 (Aw ad)))),.w (.one (.pl (.R ex2 1 (Aw b))))] [] (Told (s1e true key (n+1) out)):=by
 have h2:¬n+1=0:=fun q=>h (Vv.mp q)
 have hnl:=Gy n
 obtain ⟨nb,hnb⟩: ∃ q,Ej n=q:=⟨_,rfl⟩
 rw [hnb] at hnl hop
 have hN:=h1i n
 rw [hnb] at hN
 have F0:=And.intro hk<|And.intro h<|And.intro h2<|hnl
 refine CtM.k Tryd.func13 rfl Tryd.ntmps13 (congrArg Array.toList Tryd.results13) (by simp) fun w0 ro may fx=>?_
 refine Dx fun zZ zhZ=>?_
 iterate 38 first
  |(refine Dz fun zK zhK=>?_;simp only [go_sem,Az,Aj,F0];(repeat' (first|apply And.intro|intro _)))
  |refine zhK _ ?_
  |(refine zhN _ ?_;clear zhN zhM)
  |refine Cq ?_
  |refine Ck ?_
  |(refine zhZ _ _ ?_;simp only [go_sem,Az,Aj,F0];(all_goals (first|exact Tz rfl (by simp [look])|exact Tz (has:=true) (key:=key) (n:=n+1) (l:=out) rfl (by simp [look]))))
  |((all_goals (refine Cy (fun k=>k) (fun _ _=>rfl) ?_ ((Mv true key hk n).plain fun _ _ h=>h) ?_;focus (first|rfl|(simp only [go_sem,Az,Aj,F0]<;>rfl))));(all_goals (rintro v m ⟨hR,hm⟩;subst hR;subst hm));(all_goals refine And.intro (by first|rfl|simp only [go_sem,Az,Aj,F0]) (And.intro (by first|rfl|simp only [go_sem,Az,Aj,F0]) ?_));(all_goals simp only [go_sem,Az,Aj,F0]);(all_goals repeat' (first|apply And.intro|intro _)))
  |(refine Zj (id:=10) mixed fun zE zhE=>?_;refine Cj (p:=0) 8 [36,37,38,39,40,41,42,43] [0,0,2,0,8,24,0,0,255,511,1023,1023,2047,8191] [] rfl (by kernel_rfl) rfl (by simp only [go_sem]) fun zR zK zhR zhK=>?_;simp only [go_sem,Az,Aj,F0];(repeat' (first|apply And.intro|intro _));(all_goals (refine Dv (fun k=>k) (.w (.agg (Aq nb))) [] (fun _ _=>rfl) ?_ (hN.plain fun _ _ h=>h) ?_ ?_;focus (first|rfl|(simp only [go_sem,Az,Aj,F0]<;>rfl))));(all_goals try (refine And.intro ?_ (And.intro ?_ (And.intro ?_ ?_))<;>first|rfl|simp only [go_sem]));(all_goals simp only [go_sem,Az,Aj,F0]);(all_goals repeat' (first|apply And.intro|intro _));refine zhK _ _ trivial (zhR _ ?_);refine Dw 2 10 rfl (by kernel_rfl) rfl rfl fun zR zhR=>?_;simp only [go_sem,Az,Aj,F0];(repeat' (first|apply And.intro|intro _));(all_goals (refine g0q (caps:=[]) false [] (fun _=>44) ?_ ?_ hgo ?_ (by decide) ?_ (show CtM Tryd.prog k ([.w (.agg (Aq key)),.w (.agg (Aq nb)),.w (.one (.pl (.R ex1 1 (Aw ad)))),.w (.one (.pl (.R ex2 1 (Aw b))))]++([]:List Nat).map fun k=>V.w (.one (.p k []))) _ _ from hop) ?_;iterate 4 (focus (first|rfl|(simp only [go_sem,Az,Aj,F0]<;>first|done|rfl|simp)))));(all_goals (rintro v m ⟨hR,hm⟩;subst hR;subst hm));(all_goals (refine And.intro ?_ (And.intro ?_ (And.intro ?_ ?_));iterate 3 (focus (first|rfl|(simp only [go_sem,Az,Aj,F0];done)|(simp [go_sem,look,Az,Aj,F0];done)))));(all_goals (try simp only [go_sem,Az,Aj,F0]));(all_goals (try simp only [go_sem,Az,Aj,F0]));(all_goals repeat' (first|apply And.intro|intro _));refine zhR _ ?_;refine Cj (p:=10) 13 [45,46,12] [0,0,2,0,8,24,0,0,255,511,1023,1023,2047,8191] [] rfl (by kernel_rfl) rfl (by simp only [go_sem]) fun zR zK zhR zhK=>?_;simp only [go_sem,Az,Aj,F0];(repeat' (first|apply And.intro|intro _));refine zhK _ _ trivial (zhR _ ?_);refine Dw 1 14 rfl (by kernel_rfl) rfl rfl fun zR zhR=>?_;simp only [go_sem,Az,Aj,F0];(repeat' (first|apply And.intro|intro _));refine zhR _ ?_;refine Hq rfl (zhE _ ?_))
  |refine Bq fun zN zM zhN zhM=>?_
  |(refine Bj ?_ ?_;focus (first|rfl|(simp [go_sem,Az,Aj,F0];done)))
theorem c2v (key:List UInt8) (hk:key.length=32) (n:UInt64) (ad b:List UInt8) (ex1 ex2:Bool) (h:¬n=18446744073709551615) (out:List UInt8) (hop:CtM Tryd.prog 14 [.w (.agg (Aq key)),.w (.agg (Aq (Ej n))),.w (.one (.pl (.R ex1 1 (Aw ad)))),.w (.one (.pl (.R ex2 1 (Aw b))))] [] (byO out 0)):
 CtM Tryd.prog 8 [.w (.agg (Az true key n)),.w (.one (.pl (.R ex1 1 (Aw ad)))),.w (.one (.pl (.R ex2 1 (Aw b))))] [] (Told (s1e true key (n+1) out)):=by
 have hU:=r1g 14 (fun _ _=>rfl) key hk n ad b ex1 ex2 h out hop
 have hc1:=Cz (has:=true) (n:=n) hk
 have hc2:=Cz (has:=true) (n:=n+1) hk
 refine CtM.k Tryd.func8 rfl Tryd.ntmps8 (congrArg Array.toList Tryd.results8) (by simp) fun w0 ro may fx=>?_
 refine Dx fun zZ zhZ=>?_
 refine Dz fun zK zhK=>?_
 simp only [go_sem,hk,Az]
 repeat' (first|apply And.intro|intro _)
 refine zhK _ ?_
 refine Dz fun zK zhK=>?_
 simp only [go_sem,hk,Az]
 repeat' (first|apply And.intro|intro _)
 all_goals (refine Dy false [] (fun _=>12) (fun _ _=>rfl) ?_ (by decide) ?_ hU.told ?_;iterate 2 (focus (first|rfl|(simp only [go_sem,hk,Az]<;>first|done|rfl|simp))))
 all_goals (rintro v m ⟨hR,hm⟩;subst hR;subst hm)
 all_goals (refine And.intro ?_ (And.intro ?_ (And.intro ?_ ?_));iterate 3 (focus (first|rfl|(simp only [go_sem,hk,Az];done)|(simp [go_sem,look,hk,Az];done))))
 all_goals (try simp only [go_sem,hk,Az])
 all_goals (try simp only [go_sem,hk,Az])
 all_goals repeat' (first|apply And.intro|intro _)
 refine zhK _ ?_
 refine Ck ?_
 refine zhZ _ _ ?_
 simp only [go_sem,hk,Az]
 all_goals (first|exact Tz rfl (by simp [look])|exact Tz (has:=true) (key:=key) (n:=n+1) (l:=out) rfl (by simp [look]))
theorem c2y (key:List UInt8) (hk:key.length=32) (n:UInt64) (ad b:List UInt8) (ex1 ex2:Bool) (h:¬n=18446744073709551615) (out:List UInt8) (hop:CtM Tryd.prog 16 [.w (.agg (Aq key)),.w (.agg (Aq (Ej n))),.w (.one (.pl (.R ex1 1 (Aw ad)))),.w (.one (.pl (.R ex2 1 (Aw b))))] [] (byO out 0)):
 CtM Tryd.prog 10 [.w (.agg (Az true key n)),.w (.one (.pl (.R ex1 1 (Aw ad)))),.w (.one (.pl (.R ex2 1 (Aw b))))] [] (Told (s1e true key (n+1) out)):=by
 have hU:=r1g 16 (fun _ _=>rfl) key hk n ad b ex1 ex2 h out hop
 have hc1:=Cz (has:=true) (n:=n) hk
 have hc2:=Cz (has:=true) (n:=n+1) hk
 refine CtM.k Tryd.func10 rfl Tryd.ntmps10 (congrArg Array.toList Tryd.results10) (by simp) fun w0 ro may fx=>?_
 refine Dx fun zZ zhZ=>?_
 refine Dz fun zK zhK=>?_
 simp only [go_sem,hk,Az]
 repeat' (first|apply And.intro|intro _)
 refine zhK _ ?_
 refine Dz fun zK zhK=>?_
 simp only [go_sem,hk,Az]
 repeat' (first|apply And.intro|intro _)
 all_goals (refine Dy false [] (fun _=>12) (fun _ _=>rfl) ?_ (by decide) ?_ hU.told ?_;iterate 2 (focus (first|rfl|(simp only [go_sem,hk,Az]<;>first|done|rfl|simp))))
 all_goals (rintro v m ⟨hR,hm⟩;subst hR;subst hm)
 all_goals (refine And.intro ?_ (And.intro ?_ (And.intro ?_ ?_));iterate 3 (focus (first|rfl|(simp only [go_sem,hk,Az];done)|(simp [go_sem,look,hk,Az];done))))
 all_goals (try simp only [go_sem,hk,Az])
 all_goals (try simp only [go_sem,hk,Az])
 all_goals repeat' (first|apply And.intro|intro _)
 refine zhK _ ?_
 refine Ck ?_
 refine zhZ _ _ ?_
 simp only [go_sem,hk,Az]
 all_goals (first|exact Tz rfl (by simp [look])|exact Tz (has:=true) (key:=key) (n:=n+1) (l:=out) rfl (by simp [look]))
end Go.Sy
namespace Go.Sy
open Go.Proofs
attribute [local irreducible] Fz HT Cw Oj onC onE onO onG goV goA goS Qv Ey
theorem x1o (has:Bool) (key:List UInt8) (hk:key.length=32) (n:UInt64) (ch h b:List UInt8) (hc:ch.length=32) (hh:h.length=32) (ex:Bool) (hf:Fv has key n=9):
 CtM Tryd.prog 8 [.w (.agg (Az has key n)),.w (.one (.s 500000 [(0,32),(66,32)] 32 1)),.w (.one (.pl (.R ex 1 (Aw b))))] [(500000,⟨false,Bv has key n ch h⟩)] (Told (x0g false z32 0 [] 9 (Bv has key n ch h))):=by
 have hc1:=Cz (has:=has) (n:=n) hk
 have hc2:=Cz (has:=false) (n:=0) Ay
 have F0:=And.intro hc<|And.intro hh<|hk
 refine CtM.k Tryd.func8 rfl Tryd.ntmps8 (congrArg Array.toList Tryd.results8) (by simp) fun w0 ro may fx=>?_
 refine Dx fun zZ zhZ=>?_
 refine Dz fun zK zhK=>?_
 simp only [go_sem,Az,Bv,F0]
 repeat' (first|apply And.intro|intro _)
 refine zhK _ ?_
 refine Dz fun zK zhK=>?_
 simp only [go_sem,Az,Bv,F0]
 repeat' (first|apply And.intro|intro _)
 all_goals (refine Dy false [(500000,500000)] (fun k=>k) (fun _ _=>rfl) ?_ (by decide) ?_ (e1i 14 has key hk n ch h b hc hh ex hf).told ?_;iterate 2 (focus (first|rfl|(simp only [go_sem,Az,Bv,F0]<;>first|done|rfl|simp))))
 all_goals (rintro v m ⟨hR,hm⟩;subst hR;subst hm)
 all_goals (refine And.intro ?_ (And.intro ?_ (And.intro ?_ ?_));iterate 3 (focus (first|rfl|(simp only [go_sem,Az,Bv,F0];done)|(simp [go_sem,look,Az,Bv,F0];done))))
 all_goals (try simp only [go_sem,Az,Bv,F0])
 all_goals (try simp only [go_sem,Az,Bv,F0])
 all_goals repeat' (first|apply And.intro|intro _)
 refine zhK _ ?_
 refine Ck ?_
 refine zhZ _ _ ?_
 simp only [go_sem,Az,Bv,F0]
 all_goals (exact a0v (by simp [look,Bv]))
theorem x1n (ch h b:List UInt8) (hc:ch.length=32) (hh:h.length=32) (ex:Bool) (hf:800<b.length):
 CtM Tryd.prog 8 [.w (.agg (Az false z32 0)),.w (.one (.s 500000 [(0,32),(66,32)] 32 1)),.w (.one (.pl (.R ex 1 (Aw b))))] [(500000,⟨false,Bv false z32 0 ch h⟩)] (Told (x0g false z32 0 [] 1 (Bv false z32 0 ch h))):=by
 have hc2:=Cz (has:=false) (n:=0) Ay
 refine CtM.k Tryd.func8 rfl Tryd.ntmps8 (congrArg Array.toList Tryd.results8) (by simp) fun w0 ro may fx=>?_
 refine Dx fun zZ zhZ=>?_
 refine Dz fun zK zhK=>?_
 simp only [go_sem,Az,Bv,hc,hh,Ay]
 repeat' (first|apply And.intro|intro _)
 refine zhK _ ?_
 refine Dz fun zK zhK=>?_
 simp only [go_sem,Az,Bv,hc,hh,Ay]
 repeat' (first|apply And.intro|intro _)
 all_goals (refine Dy false [(500000,500000)] (fun k=>k) (fun _ _=>rfl) ?_ (by decide) ?_ (e1h 14 ch h b hc hh ex hf).told ?_;iterate 2 (focus (first|rfl|(simp only [go_sem,Az,Bv,hc,hh,Ay]<;>first|done|rfl|simp))))
 all_goals (rintro v m ⟨hR,hm⟩;subst hR;subst hm)
 all_goals (refine And.intro ?_ (And.intro ?_ (And.intro ?_ ?_));iterate 3 (focus (first|rfl|(simp only [go_sem,Az,Bv,hc,hh,Ay];done)|(simp [go_sem,look,Az,Bv,hc,hh,Ay];done))))
 all_goals (try simp only [go_sem,Az,Bv,hc,hh,Ay])
 all_goals (try simp only [go_sem,Az,Bv,hc,hh,Ay])
 all_goals repeat' (first|apply And.intro|intro _)
 refine zhK _ ?_
 refine Ck ?_
 refine zhZ _ _ ?_
 simp only [go_sem,Az,Bv,hc,hh,Ay]
 all_goals (exact a0v (by simp [look,Bv]))
theorem q1p (ch h b:List UInt8) (hc:ch.length=32) (hh:h.length=32) (ex:Bool) (hf:¬800<b.length):
 CtM Tryd.prog 8 [.w (.agg (Az false z32 0)),.w (.one (.s 500000 [(0,32),(66,32)] 32 1)),.w (.one (.pl (.R ex 1 (Aw b))))] [(500000,⟨false,Bv false z32 0 ch h⟩)] (Told (x0g false z32 0 b 0 (Bv false z32 0 ch h))):=by
 have hc2:=Cz (has:=false) (n:=0) Ay
 refine CtM.k Tryd.func8 rfl Tryd.ntmps8 (congrArg Array.toList Tryd.results8) (by simp) fun w0 ro may fx=>?_
 refine Dx fun zZ zhZ=>?_
 refine Dz fun zK zhK=>?_
 simp only [go_sem,Az,Bv,hc,hh,Ay]
 repeat' (first|apply And.intro|intro _)
 refine zhK _ ?_
 refine Dz fun zK zhK=>?_
 simp only [go_sem,Az,Bv,hc,hh,Ay]
 repeat' (first|apply And.intro|intro _)
 all_goals (refine Dy false [(500000,500000)] (fun k=>k) (fun _ _=>rfl) ?_ (by decide) ?_ (z0i 14 ch h b hc hh ex hf).told ?_;iterate 2 (focus (first|rfl|(simp only [go_sem,Az,Bv,hc,hh,Ay]<;>first|done|rfl|simp))))
 all_goals (rintro v m ⟨hR,hm⟩;subst hR;subst hm)
 all_goals (refine And.intro ?_ (And.intro ?_ (And.intro ?_ ?_));iterate 3 (focus (first|rfl|(simp only [go_sem,Az,Bv,hc,hh,Ay];done)|(simp [go_sem,look,Az,Bv,hc,hh,Ay];done))))
 all_goals (try simp only [go_sem,Az,Bv,hc,hh,Ay])
 all_goals (try simp only [go_sem,Az,Bv,hc,hh,Ay])
 all_goals repeat' (first|apply And.intro|intro _)
 refine zhK _ ?_
 refine Ck ?_
 refine zhZ _ _ ?_
 simp only [go_sem,Az,Bv,hc,hh,Ay]
 all_goals (exact i0d (by simp [look,Bv]))
theorem x1r (has:Bool) (key:List UInt8) (hk:key.length=32) (n:UInt64) (ch h b:List UInt8) (hc:ch.length=32) (hh:h.length=32) (ex:Bool) (hf:Fv has key n=9):
 CtM Tryd.prog 10 [.w (.agg (Az has key n)),.w (.one (.s 500000 [(0,32),(66,32)] 32 1)),.w (.one (.pl (.R ex 1 (Aw b))))] [(500000,⟨false,Bv has key n ch h⟩)] (Told (x0g false z32 0 [] 9 (Bv has key n ch h))):=by
 have hc1:=Cz (has:=has) (n:=n) hk
 have hc2:=Cz (has:=false) (n:=0) Ay
 have F0:=And.intro hc<|And.intro hh<|hk
 refine CtM.k Tryd.func10 rfl Tryd.ntmps10 (congrArg Array.toList Tryd.results10) (by simp) fun w0 ro may fx=>?_
 refine Dx fun zZ zhZ=>?_
 refine Dz fun zK zhK=>?_
 simp only [go_sem,Az,Bv,F0]
 repeat' (first|apply And.intro|intro _)
 refine zhK _ ?_
 refine Dz fun zK zhK=>?_
 simp only [go_sem,Az,Bv,F0]
 repeat' (first|apply And.intro|intro _)
 all_goals (refine Dy false [(500000,500000)] (fun k=>k) (fun _ _=>rfl) ?_ (by decide) ?_ (e1i 16 has key hk n ch h b hc hh ex hf).told ?_;iterate 2 (focus (first|rfl|(simp only [go_sem,Az,Bv,F0]<;>first|done|rfl|simp))))
 all_goals (rintro v m ⟨hR,hm⟩;subst hR;subst hm)
 all_goals (refine And.intro ?_ (And.intro ?_ (And.intro ?_ ?_));iterate 3 (focus (first|rfl|(simp only [go_sem,Az,Bv,F0];done)|(simp [go_sem,look,Az,Bv,F0];done))))
 all_goals (try simp only [go_sem,Az,Bv,F0])
 all_goals (try simp only [go_sem,Az,Bv,F0])
 all_goals repeat' (first|apply And.intro|intro _)
 refine zhK _ ?_
 refine Ck ?_
 refine zhZ _ _ ?_
 simp only [go_sem,Az,Bv,F0]
 all_goals (exact a0v (by simp [look,Bv]))
theorem x1q (ch h b:List UInt8) (hc:ch.length=32) (hh:h.length=32) (ex:Bool) (hf:800<b.length):
 CtM Tryd.prog 10 [.w (.agg (Az false z32 0)),.w (.one (.s 500000 [(0,32),(66,32)] 32 1)),.w (.one (.pl (.R ex 1 (Aw b))))] [(500000,⟨false,Bv false z32 0 ch h⟩)] (Told (x0g false z32 0 [] 1 (Bv false z32 0 ch h))):=by
 have hc2:=Cz (has:=false) (n:=0) Ay
 refine CtM.k Tryd.func10 rfl Tryd.ntmps10 (congrArg Array.toList Tryd.results10) (by simp) fun w0 ro may fx=>?_
 refine Dx fun zZ zhZ=>?_
 refine Dz fun zK zhK=>?_
 simp only [go_sem,Az,Bv,hc,hh,Ay]
 repeat' (first|apply And.intro|intro _)
 refine zhK _ ?_
 refine Dz fun zK zhK=>?_
 simp only [go_sem,Az,Bv,hc,hh,Ay]
 repeat' (first|apply And.intro|intro _)
 all_goals (refine Dy false [(500000,500000)] (fun k=>k) (fun _ _=>rfl) ?_ (by decide) ?_ (e1h 16 ch h b hc hh ex hf).told ?_;iterate 2 (focus (first|rfl|(simp only [go_sem,Az,Bv,hc,hh,Ay]<;>first|done|rfl|simp))))
 all_goals (rintro v m ⟨hR,hm⟩;subst hR;subst hm)
 all_goals (refine And.intro ?_ (And.intro ?_ (And.intro ?_ ?_));iterate 3 (focus (first|rfl|(simp only [go_sem,Az,Bv,hc,hh,Ay];done)|(simp [go_sem,look,Az,Bv,hc,hh,Ay];done))))
 all_goals (try simp only [go_sem,Az,Bv,hc,hh,Ay])
 all_goals (try simp only [go_sem,Az,Bv,hc,hh,Ay])
 all_goals repeat' (first|apply And.intro|intro _)
 refine zhK _ ?_
 refine Ck ?_
 refine zhZ _ _ ?_
 simp only [go_sem,Az,Bv,hc,hh,Ay]
 all_goals (exact a0v (by simp [look,Bv]))
theorem q1t (ch h b:List UInt8) (hc:ch.length=32) (hh:h.length=32) (ex:Bool) (hf:¬800<b.length):
 CtM Tryd.prog 10 [.w (.agg (Az false z32 0)),.w (.one (.s 500000 [(0,32),(66,32)] 32 1)),.w (.one (.pl (.R ex 1 (Aw b))))] [(500000,⟨false,Bv false z32 0 ch h⟩)] (Told (x0g false z32 0 b 0 (Bv false z32 0 ch h))):=by
 have hc2:=Cz (has:=false) (n:=0) Ay
 refine CtM.k Tryd.func10 rfl Tryd.ntmps10 (congrArg Array.toList Tryd.results10) (by simp) fun w0 ro may fx=>?_
 refine Dx fun zZ zhZ=>?_
 refine Dz fun zK zhK=>?_
 simp only [go_sem,Az,Bv,hc,hh,Ay]
 repeat' (first|apply And.intro|intro _)
 refine zhK _ ?_
 refine Dz fun zK zhK=>?_
 simp only [go_sem,Az,Bv,hc,hh,Ay]
 repeat' (first|apply And.intro|intro _)
 all_goals (refine Dy false [(500000,500000)] (fun k=>k) (fun _ _=>rfl) ?_ (by decide) ?_ (z0i 16 ch h b hc hh ex hf).told ?_;iterate 2 (focus (first|rfl|(simp only [go_sem,Az,Bv,hc,hh,Ay]<;>first|done|rfl|simp))))
 all_goals (rintro v m ⟨hR,hm⟩;subst hR;subst hm)
 all_goals (refine And.intro ?_ (And.intro ?_ (And.intro ?_ ?_));iterate 3 (focus (first|rfl|(simp only [go_sem,Az,Bv,hc,hh,Ay];done)|(simp [go_sem,look,Az,Bv,hc,hh,Ay];done))))
 all_goals (try simp only [go_sem,Az,Bv,hc,hh,Ay])
 all_goals (try simp only [go_sem,Az,Bv,hc,hh,Ay])
 all_goals repeat' (first|apply And.intro|intro _)
 refine zhK _ ?_
 refine Ck ?_
 refine zhZ _ _ ?_
 simp only [go_sem,Az,Bv,hc,hh,Ay]
 all_goals (exact i0d (by simp [look,Bv]))
end Go.Sy
namespace Go.Sy
open Go.Proofs
attribute [local irreducible] Fz HT Cw Oj onC onE onO onG goV goA goS Qv Ey
theorem Tx {has:Bool} {key:List UInt8} {n:UInt64} {bs:List UInt8} {e:Int} (g:Nat→Nat):(V.tup [.agg (Az has key n),.one (.pl (.R false 1 (Aw bs))),.one (.pl (.i e))]).ren g=V.tup [.agg (Az has key n),.one (.pl (.R false 1 (Aw bs))),.one (.pl (.i e))]:=by
 simp [V.ren,W.ren,L.ren,n0o]
theorem Tw {has:Bool} {key:List UInt8} {n:UInt64} {bs:List UInt8} {e:Int} (k:Nat):(V.tup [.agg (Az has key n),.one (.pl (.R false 1 (Aw bs))),.one (.pl (.i e))]).has k=false:=by
 simp [V.has,W.has,L.has,Az,p0x,List.any_append]
def j0x (c:List L) (bs:List UInt8) (e:Int) (v:V) (m:List (Nat×Ob)):Prop:=v=.tup [.agg c,.one (.pl (.R false 1 (Aw bs))),.one (.pl (.i e))]∧m=[]
theorem j0e {st:Bool} {key:List UInt8} {n:UInt64} {ch h bs:List UInt8} {e:Int}:Pw (.tup [.agg (.pl (.b st)::(Aq key++.pl (.u64 n)::Aq (ch++h))),.one (.pl (.R false 1 (Aw bs))),.one (.pl (.i e))])=true:=by
 simp [Pw,Uw,Aq]
theorem Xy {st:Bool} {key:List UInt8} {n:UInt64} {ch h:List UInt8} {e:Int} {m:List (Nat×Ob)} {sz:Nat} {ex:Bool}:Told (j0x (.pl (.b st)::(Aq key++.pl (.u64 n)::Aq (ch++h))) [] e) (.tup [.agg (.pl (.b st)::(Aq key++.pl (.u64 n)::Aq (ch++h))),.one (.pl (.R ex sz [])),.one (.pl (.i e))]) m:=
 Vz (e0s (a':=.pl (.R false 1 (Aw []))) fun d y h=>a0a d y (e0n h)) (told_plain j0e ⟨rfl,rfl⟩)
theorem l0f {st:Bool} {key:List UInt8} {n:UInt64} {ch h:List UInt8} {e:Int} {m:List (Nat×Ob)} {ex:Bool} {l:List UInt8}:Told (j0x (.pl (.b st)::(Aq key++.pl (.u64 n)::Aq (ch++h))) l e) (.tup [.agg (.pl (.b st)::(Aq key++.pl (.u64 n)::Aq (ch++h))),.one (.pl (.R ex 1 (Aw l))),.one (.pl (.i e))]) m:=
 Vz (e0s fun d y h=>a0a d y h) (told_plain j0e ⟨rfl,rfl⟩)
theorem s1z (has:Bool) (key:List UInt8) (hk:key.length=32) (n:UInt64) (ch h b:List UInt8) (hc:ch.length=32) (hh:h.length=32) (ex:Bool) (hf:Fv has key n=9):
 CtM Tryd.prog 4 [.w (.agg (Bv has key n ch h)),.w (.one (.pl (.R ex 1 (Aw b))))] [(1000000,⟨false,[.pl (.u32 1779033703),.pl (.u32 3144134277),.pl (.u32 1013904242),.pl (.u32 2773480762),.pl (.u32 1359893119),.pl (.u32 2600822924),.pl (.u32 528734635),.pl (.u32 1541459225)]⟩),(1000002,⟨false,Bk.f0q⟩)] (Told (j0x (Bv false z32 0 z32 z32) [] 9)):=by
 have hc1:=Cz (has:=has) (n:=n) hk
 have hc2:=Cz (has:=false) (n:=0) Ay
 have F0:=And.intro hc<|And.intro hh<|hk
 refine CtM.k Tryd.func4 rfl Tryd.ntmps4 (congrArg Array.toList Tryd.results4) (by simp) fun w0 ro may fx=>?_
 refine Dx fun zZ zhZ=>?_
 refine Dz fun zK zhK=>?_
 simp only [go_sem,Az,Bv,Ay,F0]
 repeat' (first|apply And.intro|intro _)
 refine zhK _ ?_
 refine Bq fun zN zM zhN zhM=>?_
 refine Zj (id:=1) mixed fun zE zhE=>?_
 refine Cj (p:=0) 13 [11,12,13,14,15,16,10,17,18,19,7,8] [0,1,0,4,0,31,63,127,127,127,0,1279,3583,8191] [(8,11),(9,11)] rfl (by kernel_rfl) rfl (by simp only [go_sem]) fun zR zK zhR zhK=>?_
 simp only [go_sem,Az,Bv,Ay,F0]
 repeat' (first|apply And.intro|intro _)
 all_goals (refine Lv [(500000,2)] (.tup [.agg (Az false z32 0),.one (.pl (.R false 1 (Aw ([]:List UInt8)))),.one (.pl (.i 9))]) (fun _ _=>rfl) ?_ (by decide) ?_ ?_ (by first|rfl|simp) (x1o has key hk n ch h b hc hh ex hf).told ?_ ⟨Tx _,Tw⟩ ?_ (by rfl) ?_;(iterate 2 (focus (first|rfl|(simp only [go_sem,Az,Bv,Ay,F0]<;>first|done|rfl|simp))));(focus (first|rfl|(simp [h0u,go_sem,V.has,W.has,L.has,Az,Bv,Ay,F0];done)));(focus (first|rfl|(simp only [go_sem,Az,Bv,Ay,F0];done)|(simp [go_sem,look,Az,Bv,Ay,F0];done)));(focus (intro S1;first|rfl|(simp only [go_sem,Az,Bv,Ay,F0];done)|(simp [go_sem,look,Az,Bv,Ay,F0];done))))
 all_goals (refine And.intro ?_ ?_;focus (first|rfl|(simp only [go_sem,Az,Bv,Ay,F0];done)|(simp [go_sem,look,Az,Bv,Ay,F0];done)))
 all_goals (try simp only [go_sem,Az,Bv,Ay,F0])
 all_goals (try simp only [go_sem,Az,Bv,Ay,F0])
 all_goals repeat' (first|apply And.intro|intro _)
 refine zhK _ _ ?_ (zhR _ ?_)
 focus (first|trivial|(simp only [go_sem];done)|(simp only [go_sem];simp;done)|(simp only [go_sem];simp;simp only [go_sem]))
 refine Dw 1 14 rfl (by kernel_rfl) rfl rfl fun zR zhR=>?_
 simp only [go_sem,Az,Bv,Ay,F0]
 repeat' (first|apply And.intro|intro _)
 refine zhR _ ?_
 refine Hq rfl (zhE _ ?_)
 refine zhN _ ?_;clear zhN zhM
 refine Bq fun zN zM zhN zhM=>?_
 refine Dz fun zK zhK=>?_
 simp only [go_sem,Az,Bv,Ay,F0]
 repeat' (first|apply And.intro|intro _)
 refine zhK _ ?_
 (refine Bz ?_ ?_;focus (first|rfl|(simp [go_sem,Az,Bv,Ay,F0];done)))
 refine Dz fun zK zhK=>?_
 simp only [go_sem,Az,Bv,Ay,F0]
 repeat' (first|apply And.intro|intro _)
 refine zhK _ ?_
 refine Ck ?_
 refine zhM _ _ ?_;clear zhN zhM
 refine zhZ _ _ ?_
 simp only [go_sem,Az,Bv,Ay,F0]
 all_goals (exact Xy (st:=false) (key:=z32) (n:=0) (ch:=z32) (h:=z32))
theorem s1y (ch h b:List UInt8) (hc:ch.length=32) (hh:h.length=32) (ex:Bool) (hf:800<b.length):
 CtM Tryd.prog 4 [.w (.agg (Bv false z32 0 ch h)),.w (.one (.pl (.R ex 1 (Aw b))))] [(1000000,⟨false,[.pl (.u32 1779033703),.pl (.u32 3144134277),.pl (.u32 1013904242),.pl (.u32 2773480762),.pl (.u32 1359893119),.pl (.u32 2600822924),.pl (.u32 528734635),.pl (.u32 1541459225)]⟩),(1000002,⟨false,Bk.f0q⟩)] (Told (j0x (Bv false z32 0 z32 z32) [] 1)):=by
 have hc2:=Cz (has:=false) (n:=0) Ay
 refine CtM.k Tryd.func4 rfl Tryd.ntmps4 (congrArg Array.toList Tryd.results4) (by simp) fun w0 ro may fx=>?_
 refine Dx fun zZ zhZ=>?_
 refine Dz fun zK zhK=>?_
 simp only [go_sem,Az,Bv,hc,hh,Ay]
 repeat' (first|apply And.intro|intro _)
 refine zhK _ ?_
 refine Bq fun zN zM zhN zhM=>?_
 refine Zj (id:=1) mixed fun zE zhE=>?_
 refine Cj (p:=0) 13 [11,12,13,14,15,16,10,17,18,19,7,8] [0,1,0,4,0,31,63,127,127,127,0,1279,3583,8191] [(8,11),(9,11)] rfl (by kernel_rfl) rfl (by simp only [go_sem]) fun zR zK zhR zhK=>?_
 simp only [go_sem,Az,Bv,hc,hh,Ay]
 repeat' (first|apply And.intro|intro _)
 all_goals (refine Lv [(500000,2)] (.tup [.agg (Az false z32 0),.one (.pl (.R false 1 (Aw ([]:List UInt8)))),.one (.pl (.i 1))]) (fun _ _=>rfl) ?_ (by decide) ?_ ?_ (by first|rfl|simp) (x1n ch h b hc hh ex hf).told ?_ ⟨Tx _,Tw⟩ ?_ (by rfl) ?_;(iterate 2 (focus (first|rfl|(simp only [go_sem,Az,Bv,hc,hh,Ay]<;>first|done|rfl|simp))));(focus (first|rfl|(simp [h0u,go_sem,V.has,W.has,L.has,Az,Bv,hc,hh,Ay];done)));(focus (first|rfl|(simp only [go_sem,Az,Bv,hc,hh,Ay];done)|(simp [go_sem,look,Az,Bv,hc,hh,Ay];done)));(focus (intro S1;first|rfl|(simp only [go_sem,Az,Bv,hc,hh,Ay];done)|(simp [go_sem,look,Az,Bv,hc,hh,Ay];done))))
 all_goals (refine And.intro ?_ ?_;focus (first|rfl|(simp only [go_sem,Az,Bv,hc,hh,Ay];done)|(simp [go_sem,look,Az,Bv,hc,hh,Ay];done)))
 all_goals (try simp only [go_sem,Az,Bv,hc,hh,Ay])
 all_goals (try simp only [go_sem,Az,Bv,hc,hh,Ay])
 all_goals repeat' (first|apply And.intro|intro _)
 refine zhK _ _ ?_ (zhR _ ?_)
 focus (first|trivial|(simp only [go_sem];done)|(simp only [go_sem];simp;done)|(simp only [go_sem];simp;simp only [go_sem]))
 refine Dw 1 14 rfl (by kernel_rfl) rfl rfl fun zR zhR=>?_
 simp only [go_sem,Az,Bv,hc,hh,Ay]
 repeat' (first|apply And.intro|intro _)
 refine zhR _ ?_
 refine Hq rfl (zhE _ ?_)
 refine zhN _ ?_;clear zhN zhM
 refine Bq fun zN zM zhN zhM=>?_
 refine Dz fun zK zhK=>?_
 simp only [go_sem,Az,Bv,hc,hh,Ay]
 repeat' (first|apply And.intro|intro _)
 refine zhK _ ?_
 (refine Bz ?_ ?_;focus (first|rfl|(simp [go_sem,Az,Bv,hc,hh,Ay];done)))
 refine Dz fun zK zhK=>?_
 simp only [go_sem,Az,Bv,hc,hh,Ay]
 repeat' (first|apply And.intro|intro _)
 refine zhK _ ?_
 refine Ck ?_
 refine zhM _ _ ?_;clear zhN zhM
 refine zhZ _ _ ?_
 simp only [go_sem,Az,Bv,hc,hh,Ay]
 all_goals (exact Xy (st:=false) (key:=z32) (n:=0) (ch:=z32) (h:=z32))
theorem m1n (ch h b:List UInt8) (hc:ch.length=32) (hh:h.length=32) (ex:Bool) (hf:¬800<b.length):
 CtM Tryd.prog 4 [.w (.agg (Bv false z32 0 ch h)),.w (.one (.pl (.R ex 1 (Aw b))))] [(1000000,⟨false,[.pl (.u32 1779033703),.pl (.u32 3144134277),.pl (.u32 1013904242),.pl (.u32 2773480762),.pl (.u32 1359893119),.pl (.u32 2600822924),.pl (.u32 528734635),.pl (.u32 1541459225)]⟩),(1000002,⟨false,Bk.f0q⟩)] (Told (j0x (Bv false z32 0 ch (Bk.g0r (h++b))) b 0)):=by
 have hc2:=Cz (has:=false) (n:=0) Ay
 obtain ⟨z,hz⟩: ∃ z,Bk.g0r (h++b)=z:=⟨_,rfl⟩
 have hzl:z.length=32:=by rw [←hz];exact Bk.Jk _
 have hb:b.length≤140737488351232:=by omega
 have hS:=(l0e false z32 0 ch h b Ay hc hh hb false).told
 rw [hz] at hS ⊢
 have F0:=And.intro hc<|And.intro hh<|hzl
 refine CtM.k Tryd.func4 rfl Tryd.ntmps4 (congrArg Array.toList Tryd.results4) (by simp) fun w0 ro may fx=>?_
 refine Dx fun zZ zhZ=>?_
 refine Dz fun zK zhK=>?_
 simp only [go_sem,Az,Bv,Ay,F0]
 repeat' (first|apply And.intro|intro _)
 refine zhK _ ?_
 refine Bq fun zN zM zhN zhM=>?_
 refine Zj (id:=1) mixed fun zE zhE=>?_
 refine Cj (p:=0) 13 [11,12,13,14,15,16,10,17,18,19,7,8] [0,1,0,4,0,31,63,127,127,127,0,1279,3583,8191] [(8,11),(9,11)] rfl (by kernel_rfl) rfl (by simp only [go_sem]) fun zR zK zhR zhK=>?_
 simp only [go_sem,Az,Bv,Ay,F0]
 repeat' (first|apply And.intro|intro _)
 all_goals (refine Lv [(500000,2)] (.tup [.agg (Az false z32 0),.one (.pl (.R false 1 (Aw (b:List UInt8)))),.one (.pl (.i 0))]) (fun _ _=>rfl) ?_ (by decide) ?_ ?_ (by first|rfl|simp) (q1p ch h b hc hh ex hf).told ?_ ⟨Tx _,Tw⟩ ?_ (by rfl) ?_;(iterate 2 (focus (first|rfl|(simp only [go_sem,Az,Bv,Ay,F0]<;>first|done|rfl|simp))));(focus (first|rfl|(simp [h0u,go_sem,V.has,W.has,L.has,Az,Bv,Ay,F0];done)));(focus (first|rfl|(simp only [go_sem,Az,Bv,Ay,F0];done)|(simp [go_sem,look,Az,Bv,Ay,F0];done)));(focus (intro S1;first|rfl|(simp only [go_sem,Az,Bv,Ay,F0];done)|(simp [go_sem,look,Az,Bv,Ay,F0];done))))
 all_goals (refine And.intro ?_ ?_;focus (first|rfl|(simp only [go_sem,Az,Bv,Ay,F0];done)|(simp [go_sem,look,Az,Bv,Ay,F0];done)))
 all_goals (try simp only [go_sem,Az,Bv,Ay,F0])
 all_goals (try simp only [go_sem,Az,Bv,Ay,F0])
 all_goals repeat' (first|apply And.intro|intro _)
 refine zhK _ _ ?_ (zhR _ ?_)
 focus (first|trivial|(simp only [go_sem];done)|(simp only [go_sem];simp;done)|(simp only [go_sem];simp;simp only [go_sem]))
 refine Dw 1 14 rfl (by kernel_rfl) rfl rfl fun zR zhR=>?_
 simp only [go_sem,Az,Bv,Ay,F0]
 repeat' (first|apply And.intro|intro _)
 refine zhR _ ?_
 refine Hq rfl (zhE _ ?_)
 refine zhN _ ?_;clear zhN zhM
 refine Bq fun zN zM zhN zhM=>?_
 refine Dz fun zK zhK=>?_
 simp only [go_sem,Az,Bv,Ay,F0]
 repeat' (first|apply And.intro|intro _)
 refine zhK _ ?_
 (refine Bj ?_ ?_;focus (first|rfl|(simp [go_sem,Az,Bv,Ay,F0];done)))
 refine Cq ?_
 refine zhN _ ?_;clear zhN zhM
 refine Dz fun zK zhK=>?_
 simp only [go_sem,Az,Bv,Ay,F0]
 repeat' (first|apply And.intro|intro _)
 refine zhK _ ?_
 refine Dz fun zK zhK=>?_
 simp only [go_sem,Az,Bv,Ay,F0]
 repeat' (first|apply And.intro|intro _)
 all_goals (refine Dy false [] (fun k=>k) (fun _ _=>rfl) ?_ (by decide) ?_ hS ?_;(focus (simp only [go_sem,Az,Bv,Ay,F0,List.append_assoc,List.singleton_append]<;>first|done|rfl|(simp;done)|(simp [Aq];done)));(focus (first|(simp only [go_sem,Az,Bv,Ay,F0];done)|rfl|(simp [Kq,look];done))))
 all_goals (rintro v m ⟨hR,hm⟩;subst hR;subst hm)
 all_goals (refine And.intro ?_ (And.intro ?_ (And.intro ?_ ?_));iterate 3 (focus (first|rfl|(simp only [go_sem,Az,Bv,Ay,F0];done)|(simp [go_sem,look,Az,Bv,Ay,F0];done))))
 all_goals simp only [go_sem,Az,Bv,Ay,F0]
 all_goals repeat' (first|apply And.intro|intro _)
 refine zhK _ ?_
 refine Ck ?_
 refine zhZ _ _ ?_
 simp only [go_sem,Az,Bv,Ay,F0]
 all_goals (exact l0f (st:=false) (key:=z32) (n:=0) (ch:=ch) (h:=z))
theorem t1g (has:Bool) (key:List UInt8) (hk:key.length=32) (n:UInt64) (ch h b:List UInt8) (hc:ch.length=32) (hh:h.length=32) (ex:Bool) (hf:Fv has key n=9):
 CtM Tryd.prog 5 [.w (.agg (Bv has key n ch h)),.w (.one (.pl (.R ex 1 (Aw b))))] [(1000000,⟨false,[.pl (.u32 1779033703),.pl (.u32 3144134277),.pl (.u32 1013904242),.pl (.u32 2773480762),.pl (.u32 1359893119),.pl (.u32 2600822924),.pl (.u32 528734635),.pl (.u32 1541459225)]⟩),(1000002,⟨false,Bk.f0q⟩)] (Told (j0x (Bv false z32 0 z32 z32) [] 9)):=by
 have hc1:=Cz (has:=has) (n:=n) hk
 have hc2:=Cz (has:=false) (n:=0) Ay
 have F0:=And.intro hc<|And.intro hh<|hk
 refine CtM.k Tryd.func5 rfl Tryd.ntmps5 (congrArg Array.toList Tryd.results5) (by simp) fun w0 ro may fx=>?_
 refine Dx fun zZ zhZ=>?_
 refine Dz fun zK zhK=>?_
 simp only [go_sem,Az,Bv,Ay,F0]
 repeat' (first|apply And.intro|intro _)
 refine zhK _ ?_
 refine Bq fun zN zM zhN zhM=>?_
 refine Zj (id:=1) mixed fun zE zhE=>?_
 refine Cj (p:=0) 13 [11,12,13,14,15,16,10,17,18,19,7,8] [0,1,0,4,0,31,63,127,127,127,0,1279,3583,8191] [(8,11),(9,11)] rfl (by kernel_rfl) rfl (by simp only [go_sem]) fun zR zK zhR zhK=>?_
 simp only [go_sem,Az,Bv,Ay,F0]
 repeat' (first|apply And.intro|intro _)
 all_goals (refine Lv [(500000,2)] (.tup [.agg (Az false z32 0),.one (.pl (.R false 1 (Aw ([]:List UInt8)))),.one (.pl (.i 9))]) (fun _ _=>rfl) ?_ (by decide) ?_ ?_ (by first|rfl|simp) (x1r has key hk n ch h b hc hh ex hf).told ?_ ⟨Tx _,Tw⟩ ?_ (by rfl) ?_;(iterate 2 (focus (first|rfl|(simp only [go_sem,Az,Bv,Ay,F0]<;>first|done|rfl|simp))));(focus (first|rfl|(simp [h0u,go_sem,V.has,W.has,L.has,Az,Bv,Ay,F0];done)));(focus (first|rfl|(simp only [go_sem,Az,Bv,Ay,F0];done)|(simp [go_sem,look,Az,Bv,Ay,F0];done)));(focus (intro S1;first|rfl|(simp only [go_sem,Az,Bv,Ay,F0];done)|(simp [go_sem,look,Az,Bv,Ay,F0];done))))
 all_goals (refine And.intro ?_ ?_;focus (first|rfl|(simp only [go_sem,Az,Bv,Ay,F0];done)|(simp [go_sem,look,Az,Bv,Ay,F0];done)))
 all_goals (try simp only [go_sem,Az,Bv,Ay,F0])
 all_goals (try simp only [go_sem,Az,Bv,Ay,F0])
 all_goals repeat' (first|apply And.intro|intro _)
 refine zhK _ _ ?_ (zhR _ ?_)
 focus (first|trivial|(simp only [go_sem];done)|(simp only [go_sem];simp;done)|(simp only [go_sem];simp;simp only [go_sem]))
 refine Dw 1 14 rfl (by kernel_rfl) rfl rfl fun zR zhR=>?_
 simp only [go_sem,Az,Bv,Ay,F0]
 repeat' (first|apply And.intro|intro _)
 refine zhR _ ?_
 refine Hq rfl (zhE _ ?_)
 refine zhN _ ?_;clear zhN zhM
 refine Bq fun zN zM zhN zhM=>?_
 refine Dz fun zK zhK=>?_
 simp only [go_sem,Az,Bv,Ay,F0]
 repeat' (first|apply And.intro|intro _)
 refine zhK _ ?_
 (refine Bz ?_ ?_;focus (first|rfl|(simp [go_sem,Az,Bv,Ay,F0];done)))
 refine Dz fun zK zhK=>?_
 simp only [go_sem,Az,Bv,Ay,F0]
 repeat' (first|apply And.intro|intro _)
 refine zhK _ ?_
 refine Ck ?_
 refine zhM _ _ ?_;clear zhN zhM
 refine zhZ _ _ ?_
 simp only [go_sem,Az,Bv,Ay,F0]
 all_goals (exact Xy (st:=false) (key:=z32) (n:=0) (ch:=z32) (h:=z32))
theorem t1f (ch h b:List UInt8) (hc:ch.length=32) (hh:h.length=32) (ex:Bool) (hf:800<b.length):
 CtM Tryd.prog 5 [.w (.agg (Bv false z32 0 ch h)),.w (.one (.pl (.R ex 1 (Aw b))))] [(1000000,⟨false,[.pl (.u32 1779033703),.pl (.u32 3144134277),.pl (.u32 1013904242),.pl (.u32 2773480762),.pl (.u32 1359893119),.pl (.u32 2600822924),.pl (.u32 528734635),.pl (.u32 1541459225)]⟩),(1000002,⟨false,Bk.f0q⟩)] (Told (j0x (Bv false z32 0 z32 z32) [] 1)):=by
 have hc2:=Cz (has:=false) (n:=0) Ay
 refine CtM.k Tryd.func5 rfl Tryd.ntmps5 (congrArg Array.toList Tryd.results5) (by simp) fun w0 ro may fx=>?_
 refine Dx fun zZ zhZ=>?_
 refine Dz fun zK zhK=>?_
 simp only [go_sem,Az,Bv,hc,hh,Ay]
 repeat' (first|apply And.intro|intro _)
 refine zhK _ ?_
 refine Bq fun zN zM zhN zhM=>?_
 refine Zj (id:=1) mixed fun zE zhE=>?_
 refine Cj (p:=0) 13 [11,12,13,14,15,16,10,17,18,19,7,8] [0,1,0,4,0,31,63,127,127,127,0,1279,3583,8191] [(8,11),(9,11)] rfl (by kernel_rfl) rfl (by simp only [go_sem]) fun zR zK zhR zhK=>?_
 simp only [go_sem,Az,Bv,hc,hh,Ay]
 repeat' (first|apply And.intro|intro _)
 all_goals (refine Lv [(500000,2)] (.tup [.agg (Az false z32 0),.one (.pl (.R false 1 (Aw ([]:List UInt8)))),.one (.pl (.i 1))]) (fun _ _=>rfl) ?_ (by decide) ?_ ?_ (by first|rfl|simp) (x1q ch h b hc hh ex hf).told ?_ ⟨Tx _,Tw⟩ ?_ (by rfl) ?_;(iterate 2 (focus (first|rfl|(simp only [go_sem,Az,Bv,hc,hh,Ay]<;>first|done|rfl|simp))));(focus (first|rfl|(simp [h0u,go_sem,V.has,W.has,L.has,Az,Bv,hc,hh,Ay];done)));(focus (first|rfl|(simp only [go_sem,Az,Bv,hc,hh,Ay];done)|(simp [go_sem,look,Az,Bv,hc,hh,Ay];done)));(focus (intro S1;first|rfl|(simp only [go_sem,Az,Bv,hc,hh,Ay];done)|(simp [go_sem,look,Az,Bv,hc,hh,Ay];done))))
 all_goals (refine And.intro ?_ ?_;focus (first|rfl|(simp only [go_sem,Az,Bv,hc,hh,Ay];done)|(simp [go_sem,look,Az,Bv,hc,hh,Ay];done)))
 all_goals (try simp only [go_sem,Az,Bv,hc,hh,Ay])
 all_goals (try simp only [go_sem,Az,Bv,hc,hh,Ay])
 all_goals repeat' (first|apply And.intro|intro _)
 refine zhK _ _ ?_ (zhR _ ?_)
 focus (first|trivial|(simp only [go_sem];done)|(simp only [go_sem];simp;done)|(simp only [go_sem];simp;simp only [go_sem]))
 refine Dw 1 14 rfl (by kernel_rfl) rfl rfl fun zR zhR=>?_
 simp only [go_sem,Az,Bv,hc,hh,Ay]
 repeat' (first|apply And.intro|intro _)
 refine zhR _ ?_
 refine Hq rfl (zhE _ ?_)
 refine zhN _ ?_;clear zhN zhM
 refine Bq fun zN zM zhN zhM=>?_
 refine Dz fun zK zhK=>?_
 simp only [go_sem,Az,Bv,hc,hh,Ay]
 repeat' (first|apply And.intro|intro _)
 refine zhK _ ?_
 (refine Bz ?_ ?_;focus (first|rfl|(simp [go_sem,Az,Bv,hc,hh,Ay];done)))
 refine Dz fun zK zhK=>?_
 simp only [go_sem,Az,Bv,hc,hh,Ay]
 repeat' (first|apply And.intro|intro _)
 refine zhK _ ?_
 refine Ck ?_
 refine zhM _ _ ?_;clear zhN zhM
 refine zhZ _ _ ?_
 simp only [go_sem,Az,Bv,hc,hh,Ay]
 all_goals (exact Xy (st:=false) (key:=z32) (n:=0) (ch:=z32) (h:=z32))
theorem m1p (ch h b:List UInt8) (hc:ch.length=32) (hh:h.length=32) (ex:Bool) (hf:¬800<b.length):
 CtM Tryd.prog 5 [.w (.agg (Bv false z32 0 ch h)),.w (.one (.pl (.R ex 1 (Aw b))))] [(1000000,⟨false,[.pl (.u32 1779033703),.pl (.u32 3144134277),.pl (.u32 1013904242),.pl (.u32 2773480762),.pl (.u32 1359893119),.pl (.u32 2600822924),.pl (.u32 528734635),.pl (.u32 1541459225)]⟩),(1000002,⟨false,Bk.f0q⟩)] (Told (j0x (Bv false z32 0 ch (Bk.g0r (h++b))) b 0)):=by
 have hc2:=Cz (has:=false) (n:=0) Ay
 obtain ⟨z,hz⟩: ∃ z,Bk.g0r (h++b)=z:=⟨_,rfl⟩
 have hzl:z.length=32:=by rw [←hz];exact Bk.Jk _
 have hb:b.length≤140737488351232:=by omega
 have hS:=(l0e false z32 0 ch h b Ay hc hh hb ex).told
 rw [hz] at hS ⊢
 have F0:=And.intro hc<|And.intro hh<|hzl
 refine CtM.k Tryd.func5 rfl Tryd.ntmps5 (congrArg Array.toList Tryd.results5) (by simp) fun w0 ro may fx=>?_
 refine Dx fun zZ zhZ=>?_
 refine Dz fun zK zhK=>?_
 simp only [go_sem,Az,Bv,Ay,F0]
 repeat' (first|apply And.intro|intro _)
 refine zhK _ ?_
 refine Bq fun zN zM zhN zhM=>?_
 refine Zj (id:=1) mixed fun zE zhE=>?_
 refine Cj (p:=0) 13 [11,12,13,14,15,16,10,17,18,19,7,8] [0,1,0,4,0,31,63,127,127,127,0,1279,3583,8191] [(8,11),(9,11)] rfl (by kernel_rfl) rfl (by simp only [go_sem]) fun zR zK zhR zhK=>?_
 simp only [go_sem,Az,Bv,Ay,F0]
 repeat' (first|apply And.intro|intro _)
 all_goals (refine Lv [(500000,2)] (.tup [.agg (Az false z32 0),.one (.pl (.R false 1 (Aw (b:List UInt8)))),.one (.pl (.i 0))]) (fun _ _=>rfl) ?_ (by decide) ?_ ?_ (by first|rfl|simp) (q1t ch h b hc hh ex hf).told ?_ ⟨Tx _,Tw⟩ ?_ (by rfl) ?_;(iterate 2 (focus (first|rfl|(simp only [go_sem,Az,Bv,Ay,F0]<;>first|done|rfl|simp))));(focus (first|rfl|(simp [h0u,go_sem,V.has,W.has,L.has,Az,Bv,Ay,F0];done)));(focus (first|rfl|(simp only [go_sem,Az,Bv,Ay,F0];done)|(simp [go_sem,look,Az,Bv,Ay,F0];done)));(focus (intro S1;first|rfl|(simp only [go_sem,Az,Bv,Ay,F0];done)|(simp [go_sem,look,Az,Bv,Ay,F0];done))))
 all_goals (refine And.intro ?_ ?_;focus (first|rfl|(simp only [go_sem,Az,Bv,Ay,F0];done)|(simp [go_sem,look,Az,Bv,Ay,F0];done)))
 all_goals (try simp only [go_sem,Az,Bv,Ay,F0])
 all_goals (try simp only [go_sem,Az,Bv,Ay,F0])
 all_goals repeat' (first|apply And.intro|intro _)
 refine zhK _ _ ?_ (zhR _ ?_)
 focus (first|trivial|(simp only [go_sem];done)|(simp only [go_sem];simp;done)|(simp only [go_sem];simp;simp only [go_sem]))
 refine Dw 1 14 rfl (by kernel_rfl) rfl rfl fun zR zhR=>?_
 simp only [go_sem,Az,Bv,Ay,F0]
 repeat' (first|apply And.intro|intro _)
 refine zhR _ ?_
 refine Hq rfl (zhE _ ?_)
 refine zhN _ ?_;clear zhN zhM
 refine Bq fun zN zM zhN zhM=>?_
 refine Dz fun zK zhK=>?_
 simp only [go_sem,Az,Bv,Ay,F0]
 repeat' (first|apply And.intro|intro _)
 refine zhK _ ?_
 (refine Bj ?_ ?_;focus (first|rfl|(simp [go_sem,Az,Bv,Ay,F0];done)))
 refine Cq ?_
 refine zhN _ ?_;clear zhN zhM
 refine Dz fun zK zhK=>?_
 simp only [go_sem,Az,Bv,Ay,F0]
 repeat' (first|apply And.intro|intro _)
 refine zhK _ ?_
 refine Dz fun zK zhK=>?_
 simp only [go_sem,Az,Bv,Ay,F0]
 repeat' (first|apply And.intro|intro _)
 all_goals (refine Dy false [] (fun k=>k) (fun _ _=>rfl) ?_ (by decide) ?_ hS ?_;(focus (simp only [go_sem,Az,Bv,Ay,F0,List.append_assoc,List.singleton_append]<;>first|done|rfl|(simp;done)|(simp [Aq];done)));(focus (first|(simp only [go_sem,Az,Bv,Ay,F0];done)|rfl|(simp [Kq,look];done))))
 all_goals (rintro v m ⟨hR,hm⟩;subst hR;subst hm)
 all_goals (refine And.intro ?_ (And.intro ?_ (And.intro ?_ ?_));iterate 3 (focus (first|rfl|(simp only [go_sem,Az,Bv,Ay,F0];done)|(simp [go_sem,look,Az,Bv,Ay,F0];done))))
 all_goals simp only [go_sem,Az,Bv,Ay,F0]
 all_goals repeat' (first|apply And.intro|intro _)
 refine zhK _ ?_
 refine Ck ?_
 refine zhZ _ _ ?_
 simp only [go_sem,Az,Bv,Ay,F0]
 all_goals (exact l0f (st:=false) (key:=z32) (n:=0) (ch:=ch) (h:=z))
end Go.Sy
namespace Go.Sy
open Go.Proofs
attribute [local irreducible] Fz HT Cw Oj onC onE onO onG goV goA goS Qv Ey
def y1e (c:List L) (l:List UInt8) (v:V) (m:List (Nat×Ob)):Prop:=v=.tup [.agg c,.one (.s 0 [] l.length 1),.one (.pl (.i 0))]∧m=[(0,⟨true,Aq l⟩)]
theorem g0w {st:Bool} {key:List UInt8} {n:UInt64} {ch h:List UInt8} {m:List (Nat×Ob)} {j k:Nat} {l:List UInt8} (hn:k=l.length) (h1:look m j=some ⟨true,Aq l⟩) (hj:j<500000:=by decide):Told (y1e (.pl (.b st)::(Aq key++.pl (.u64 n)::Aq (ch++h))) l) (.tup [.agg (.pl (.b st)::(Aq key++.pl (.u64 n)::Aq (ch++h))),.one (.s j [] k 1),.one (.pl (.i 0))]) m:=by
 refine Yz ⟨only j,.tup [.agg (.pl (.b st)::(Aq key++.pl (.u64 n)::Aq (ch++h))),.one (.s 0 [] l.length 1),.one (.pl (.i 0))],[(0,⟨true,Aq l⟩)],?_,b0e h1 hj,rfl,rfl⟩
 simp only [V.ren,List.map_cons,List.map_nil,List.map_append,W.ren,L.ren,j0p,hn];rfl
theorem z1v (key:List UInt8) (hk:key.length=32) (n:UInt64) (ch h b:List UInt8) (hc:ch.length=32) (hh:h.length=32) (ex:Bool) (hl:¬n=18446744073709551615) (out:List UInt8) (hb:out.length≤140737488351232) (hop:CtM Tryd.prog 14 [.w (.agg (Aq key)),.w (.agg (Aq (Ej n))),.w (.one (.pl (.R false 1 (Aw h)))),.w (.one (.pl (.R ex 1 (Aw b))))] [] (byO out 0)):
 CtM Tryd.prog 4 [.w (.agg (Bv true key n ch h)),.w (.one (.pl (.R ex 1 (Aw b))))] [(1000000,⟨false,[.pl (.u32 1779033703),.pl (.u32 3144134277),.pl (.u32 1013904242),.pl (.u32 2773480762),.pl (.u32 1359893119),.pl (.u32 2600822924),.pl (.u32 528734635),.pl (.u32 1541459225)]⟩),(1000002,⟨false,Bk.f0q⟩)] (Told (y1e (.pl (.b true)::(Aq key++.pl (.u64 (n+1))::Aq (ch++Bk.g0r (h++out)))) out)):=by
 obtain ⟨z,hz⟩: ∃ z,Bk.g0r (h++out)=z:=⟨_,rfl⟩
 have hzl:z.length=32:=by rw [←hz];exact Bk.Jk _
 have hc1:=Cz (has:=true) (n:=n) hk
 have hc2:=Cz (has:=true) (n:=n+1) hk
 have hch:chunks 1 32 (h.map PL.u8)=Aw h:=Ew hh
 have hch2:chunks 1 out.length (out.map PL.u8)=Aw out:=Ew rfl
 have hU:=(c2v key hk n h b false ex hl out hop).told
 have hS:=(l0e true key (n+1) ch h out hk hc hh hb false).told
 rw [hz] at hS ⊢
 have F0:=And.intro hc<|And.intro hh<|And.intro hk<|And.intro hzl<|And.intro hch<|hch2
 refine CtM.k Tryd.func4 rfl Tryd.ntmps4 (congrArg Array.toList Tryd.results4) (by simp) fun w0 ro may fx=>?_
 refine Dx fun zZ zhZ=>?_
 refine Dz fun zK zhK=>?_
 simp only [go_sem,Az,Bv,F0]
 repeat' (first|apply And.intro|intro _)
 refine zhK _ ?_
 refine Bq fun zN zM zhN zhM=>?_
 refine Zj (id:=1) mixed fun zE zhE=>?_
 refine Cj (p:=0) 13 [11,12,13,14,15,16,10,17,18,19,7,8] [0,1,0,4,0,31,63,127,127,127,0,1279,3583,8191] [(8,11),(9,11)] rfl (by kernel_rfl) rfl (by simp only [go_sem]) fun zR zK zhR zhK=>?_
 simp only [go_sem,Az,Bv,F0]
 repeat' (first|apply And.intro|intro _)
 all_goals (refine Fy (fun _=>16) (.tup [.agg (Az true key (n+1)),.one (.s 0 [] out.length 1),.one (.pl (.i 0))]) [(0,⟨true,Aq out⟩)] (fun _ _=>rfl) ?_ ?_ ?_ hU ?_ ?_;(iterate 2 (focus (first|rfl|(simp only [go_sem,Az,Bv,F0]<;>first|done|rfl|simp))));(first|kernel_rfl|rfl|simp [h0y,i0r,pls]))
 all_goals try (refine And.intro ?_ (And.intro ?_ (And.intro ?_ ?_))<;>(first|rfl|(simp only [go_sem,Az,Bv,F0];done)|(simp [go_sem,look,Az,Bv,F0];done)))
 all_goals (try simp only [go_sem,Az,Bv,F0])
 all_goals (try simp only [go_sem,Az,Bv,F0])
 all_goals repeat' (first|apply And.intro|intro _)
 refine zhK _ _ ?_ (zhR _ ?_)
 focus (first|trivial|(simp only [go_sem];done)|(simp only [go_sem];simp;done)|(simp only [go_sem];simp;simp only [go_sem]))
 refine Dw 1 14 rfl (by kernel_rfl) rfl rfl fun zR zhR=>?_
 simp only [go_sem,Az,Bv,F0]
 repeat' (first|apply And.intro|intro _)
 refine zhR _ ?_
 refine Hq rfl (zhE _ ?_)
 refine zhN _ ?_;clear zhN zhM
 refine Bq fun zN zM zhN zhM=>?_
 refine Dz fun zK zhK=>?_
 simp only [go_sem,Az,Bv,F0]
 repeat' (first|apply And.intro|intro _)
 refine zhK _ ?_
 (refine Bj ?_ ?_;focus (first|rfl|(simp [go_sem,Az,Bv,F0];done)))
 refine Cq ?_
 refine zhN _ ?_;clear zhN zhM
 refine Dz fun zK zhK=>?_
 simp only [go_sem,Az,Bv,F0]
 repeat' (first|apply And.intro|intro _)
 refine zhK _ ?_
 refine Dz fun zK zhK=>?_
 simp only [go_sem,Az,Bv,F0]
 repeat' (first|apply And.intro|intro _)
 all_goals (refine Dy true [] (fun k=>k) (fun _ _=>rfl) ?_ (by decide) ?_ hS ?_;(focus (simp only [go_sem,Az,Bv,hc,hh,decide_true,decide_false,Nw,hk,hzl,hch,hch2,List.append_assoc,List.singleton_append]<;>first|done|rfl|(simp;done)|(simp [Aq];done)));(focus (first|(simp only [go_sem,Az,Bv,hc,hh,decide_true,decide_false,Nw,hk,hzl,hch,hch2];done)|rfl|(simp [Kq,look];done))))
 all_goals (rintro v m ⟨hR,hm⟩;subst hR;subst hm)
 all_goals (refine And.intro ?_ (And.intro ?_ (And.intro ?_ ?_));iterate 3 (focus (first|rfl|(simp only [go_sem,Az,Bv,Ay,F0];done)|(simp [go_sem,look,Az,Bv,Ay,F0];done))))
 all_goals simp only [go_sem,Az,Bv,F0]
 all_goals repeat' (first|apply And.intro|intro _)
 refine zhK _ ?_
 refine Ck ?_
 refine zhZ _ _ ?_
 simp only [go_sem,Az,Bv,F0]
 all_goals (first|exact g0w (st:=true) (key:=key) (n:=n+1) (ch:=ch) (h:=z) (l:=out) rfl (by simp [look]))
theorem z1x (key:List UInt8) (hk:key.length=32) (n:UInt64) (ch h b:List UInt8) (hc:ch.length=32) (hh:h.length=32) (ex:Bool) (hl:¬n=18446744073709551615) (out:List UInt8) (hb:b.length≤140737488351232) (hop:CtM Tryd.prog 16 [.w (.agg (Aq key)),.w (.agg (Aq (Ej n))),.w (.one (.pl (.R false 1 (Aw h)))),.w (.one (.pl (.R ex 1 (Aw b))))] [] (byO out 0)):
 CtM Tryd.prog 5 [.w (.agg (Bv true key n ch h)),.w (.one (.pl (.R ex 1 (Aw b))))] [(1000000,⟨false,[.pl (.u32 1779033703),.pl (.u32 3144134277),.pl (.u32 1013904242),.pl (.u32 2773480762),.pl (.u32 1359893119),.pl (.u32 2600822924),.pl (.u32 528734635),.pl (.u32 1541459225)]⟩),(1000002,⟨false,Bk.f0q⟩)] (Told (y1e (.pl (.b true)::(Aq key++.pl (.u64 (n+1))::Aq (ch++Bk.g0r (h++b)))) out)):=by
 obtain ⟨z,hz⟩: ∃ z,Bk.g0r (h++b)=z:=⟨_,rfl⟩
 have hzl:z.length=32:=by rw [←hz];exact Bk.Jk _
 have hc1:=Cz (has:=true) (n:=n) hk
 have hc2:=Cz (has:=true) (n:=n+1) hk
 have hch:chunks 1 32 (h.map PL.u8)=Aw h:=Ew hh
 have hch2:chunks 1 out.length (out.map PL.u8)=Aw out:=Ew rfl
 have hU:=(c2y key hk n h b false ex hl out hop).told
 have hS:=(l0e true key (n+1) ch h b hk hc hh hb ex).told
 rw [hz] at hS ⊢
 have F0:=And.intro hc<|And.intro hh<|And.intro hk<|And.intro hzl<|And.intro hch<|hch2
 refine CtM.k Tryd.func5 rfl Tryd.ntmps5 (congrArg Array.toList Tryd.results5) (by simp) fun w0 ro may fx=>?_
 refine Dx fun zZ zhZ=>?_
 refine Dz fun zK zhK=>?_
 simp only [go_sem,Az,Bv,F0]
 repeat' (first|apply And.intro|intro _)
 refine zhK _ ?_
 refine Bq fun zN zM zhN zhM=>?_
 refine Zj (id:=1) mixed fun zE zhE=>?_
 refine Cj (p:=0) 13 [11,12,13,14,15,16,10,17,18,19,7,8] [0,1,0,4,0,31,63,127,127,127,0,1279,3583,8191] [(8,11),(9,11)] rfl (by kernel_rfl) rfl (by simp only [go_sem]) fun zR zK zhR zhK=>?_
 simp only [go_sem,Az,Bv,F0]
 repeat' (first|apply And.intro|intro _)
 all_goals (refine Fy (fun _=>16) (.tup [.agg (Az true key (n+1)),.one (.s 0 [] out.length 1),.one (.pl (.i 0))]) [(0,⟨true,Aq out⟩)] (fun _ _=>rfl) ?_ ?_ ?_ hU ?_ ?_;(iterate 2 (focus (first|rfl|(simp only [go_sem,Az,Bv,F0]<;>first|done|rfl|simp))));(first|kernel_rfl|rfl|simp [h0y,i0r,pls]))
 all_goals try (refine And.intro ?_ (And.intro ?_ (And.intro ?_ ?_))<;>(first|rfl|(simp only [go_sem,Az,Bv,F0];done)|(simp [go_sem,look,Az,Bv,F0];done)))
 all_goals (try simp only [go_sem,Az,Bv,F0])
 all_goals (try simp only [go_sem,Az,Bv,F0])
 all_goals repeat' (first|apply And.intro|intro _)
 refine zhK _ _ ?_ (zhR _ ?_)
 focus (first|trivial|(simp only [go_sem];done)|(simp only [go_sem];simp;done)|(simp only [go_sem];simp;simp only [go_sem]))
 refine Dw 1 14 rfl (by kernel_rfl) rfl rfl fun zR zhR=>?_
 simp only [go_sem,Az,Bv,F0]
 repeat' (first|apply And.intro|intro _)
 refine zhR _ ?_
 refine Hq rfl (zhE _ ?_)
 refine zhN _ ?_;clear zhN zhM
 refine Bq fun zN zM zhN zhM=>?_
 refine Dz fun zK zhK=>?_
 simp only [go_sem,Az,Bv,F0]
 repeat' (first|apply And.intro|intro _)
 refine zhK _ ?_
 (refine Bj ?_ ?_;focus (first|rfl|(simp [go_sem,Az,Bv,F0];done)))
 refine Cq ?_
 refine zhN _ ?_;clear zhN zhM
 refine Dz fun zK zhK=>?_
 simp only [go_sem,Az,Bv,F0]
 repeat' (first|apply And.intro|intro _)
 refine zhK _ ?_
 refine Dz fun zK zhK=>?_
 simp only [go_sem,Az,Bv,F0]
 repeat' (first|apply And.intro|intro _)
 all_goals (refine Dy true [] (fun k=>k) (fun _ _=>rfl) ?_ (by decide) ?_ hS ?_;(focus (simp only [go_sem,Az,Bv,hc,hh,decide_true,decide_false,Nw,hk,hzl,hch,hch2,List.append_assoc,List.singleton_append]<;>first|done|rfl|(simp;done)|(simp [Aq];done)));(focus (first|(simp only [go_sem,Az,Bv,hc,hh,decide_true,decide_false,Nw,hk,hzl,hch,hch2];done)|rfl|(simp [Kq,look];done))))
 all_goals (rintro v m ⟨hR,hm⟩;subst hR;subst hm)
 all_goals (refine And.intro ?_ (And.intro ?_ (And.intro ?_ ?_));iterate 3 (focus (first|rfl|(simp only [go_sem,Az,Bv,Ay,F0];done)|(simp [go_sem,look,Az,Bv,Ay,F0];done))))
 all_goals simp only [go_sem,Az,Bv,F0]
 all_goals repeat' (first|apply And.intro|intro _)
 refine zhK _ ?_
 refine Ck ?_
 refine zhZ _ _ ?_
 simp only [go_sem,Az,Bv,F0]
 all_goals (first|exact g0w (st:=true) (key:=key) (n:=n+1) (ch:=ch) (h:=z) (l:=out) rfl (by simp [look]))
end Go.Sy
namespace Go.Sy
open Go.Proofs
attribute [local irreducible] Fz HT Cw Oj onC onE onO onG goV goA goS Qv Ey
theorem s1x (key:List UInt8) (hk:key.length=32) (n:UInt64) (ch h b:List UInt8) (hc:ch.length=32) (hh:h.length=32) (ex:Bool) (e:Int) (he:¬e=0) (hU:CtM Tryd.prog 8 [.w (.agg (Az true key n)),.w (.one (.pl (.R false 1 (Aw h)))),.w (.one (.pl (.R ex 1 (Aw b))))] [] (n0p false z32 0 [] e)):
 CtM Tryd.prog 4 [.w (.agg (Bv true key n ch h)),.w (.one (.pl (.R ex 1 (Aw b))))] [(1000000,⟨false,[.pl (.u32 1779033703),.pl (.u32 3144134277),.pl (.u32 1013904242),.pl (.u32 2773480762),.pl (.u32 1359893119),.pl (.u32 2600822924),.pl (.u32 528734635),.pl (.u32 1541459225)]⟩),(1000002,⟨false,Bk.f0q⟩)] (Told (j0x (Bv false z32 0 z32 z32) [] e)):=by
 have hc1:=Cz (has:=true) (n:=n) hk
 have hc2:=Cz (has:=false) (n:=0) Ay
 have hch:chunks 1 32 (h.map PL.u8)=Aw h:=Ew hh
 have F0:=And.intro hc<|And.intro hh<|And.intro hk<|And.intro hch<|he
 refine CtM.k Tryd.func4 rfl Tryd.ntmps4 (congrArg Array.toList Tryd.results4) (by simp) fun w0 ro may fx=>?_
 refine Dx fun zZ zhZ=>?_
 refine Dz fun zK zhK=>?_
 simp only [go_sem,Az,Bv,Ay,F0]
 repeat' (first|apply And.intro|intro _)
 refine zhK _ ?_
 refine Bq fun zN zM zhN zhM=>?_
 refine Zj (id:=1) mixed fun zE zhE=>?_
 refine Cj (p:=0) 13 [11,12,13,14,15,16,10,17,18,19,7,8] [0,1,0,4,0,31,63,127,127,127,0,1279,3583,8191] [(8,11),(9,11)] rfl (by kernel_rfl) rfl (by simp only [go_sem]) fun zR zK zhR zhK=>?_
 simp only [go_sem,Az,Bv,Ay,F0]
 repeat' (first|apply And.intro|intro _)
 all_goals (refine Fy (fun k=>k) (.tup [.agg (Az false z32 0),.one (.pl (.R false 1 (Aw ([]:List UInt8)))),.one (.pl (.i e))]) [] (fun _ _=>rfl) ?_ ?_ ?_ hU ?_ ?_;(iterate 2 (focus (first|rfl|(simp only [go_sem,Az,Bv,Ay,F0]<;>first|done|rfl|simp))));(first|kernel_rfl|rfl|simp [h0y,i0r,pls]))
 all_goals try (refine And.intro ?_ (And.intro ?_ (And.intro ?_ ?_))<;>(first|rfl|(simp only [go_sem,Az,Bv,Ay,F0];done)|(simp [go_sem,look,Az,Bv,Ay,F0];done)))
 all_goals (try simp only [go_sem,Az,Bv,Ay,F0])
 all_goals (try simp only [go_sem,Az,Bv,Ay,F0])
 all_goals repeat' (first|apply And.intro|intro _)
 refine zhK _ _ ?_ (zhR _ ?_)
 focus (first|trivial|(simp only [go_sem];done)|(simp only [go_sem];simp;done)|(simp only [go_sem];simp;simp only [go_sem]))
 refine Dw 1 14 rfl (by kernel_rfl) rfl rfl fun zR zhR=>?_
 simp only [go_sem,Az,Bv,Ay,F0]
 repeat' (first|apply And.intro|intro _)
 refine zhR _ ?_
 refine Hq rfl (zhE _ ?_)
 refine zhN _ ?_;clear zhN zhM
 refine Bq fun zN zM zhN zhM=>?_
 refine Dz fun zK zhK=>?_
 simp only [go_sem,Az,Bv,Ay,F0]
 repeat' (first|apply And.intro|intro _)
 refine zhK _ ?_
 (refine Bz ?_ ?_;focus (first|rfl|(simp [go_sem,Az,Bv,Ay,F0];done)))
 refine Dz fun zK zhK=>?_
 simp only [go_sem,Az,Bv,Ay,F0]
 repeat' (first|apply And.intro|intro _)
 refine zhK _ ?_
 refine Ck ?_
 refine zhM _ _ ?_;clear zhN zhM
 refine zhZ _ _ ?_
 simp only [go_sem,Az,Bv,Ay,F0]
 all_goals (exact Xy (st:=false) (key:=z32) (n:=0) (ch:=z32) (h:=z32))
theorem t1e (key:List UInt8) (hk:key.length=32) (n:UInt64) (ch h b:List UInt8) (hc:ch.length=32) (hh:h.length=32) (ex:Bool) (e:Int) (he:¬e=0) (hU:CtM Tryd.prog 10 [.w (.agg (Az true key n)),.w (.one (.pl (.R false 1 (Aw h)))),.w (.one (.pl (.R ex 1 (Aw b))))] [] (n0p false z32 0 [] e)):
 CtM Tryd.prog 5 [.w (.agg (Bv true key n ch h)),.w (.one (.pl (.R ex 1 (Aw b))))] [(1000000,⟨false,[.pl (.u32 1779033703),.pl (.u32 3144134277),.pl (.u32 1013904242),.pl (.u32 2773480762),.pl (.u32 1359893119),.pl (.u32 2600822924),.pl (.u32 528734635),.pl (.u32 1541459225)]⟩),(1000002,⟨false,Bk.f0q⟩)] (Told (j0x (Bv false z32 0 z32 z32) [] e)):=by
 have hc1:=Cz (has:=true) (n:=n) hk
 have hc2:=Cz (has:=false) (n:=0) Ay
 have hch:chunks 1 32 (h.map PL.u8)=Aw h:=Ew hh
 have F0:=And.intro hc<|And.intro hh<|And.intro hk<|And.intro hch<|he
 refine CtM.k Tryd.func5 rfl Tryd.ntmps5 (congrArg Array.toList Tryd.results5) (by simp) fun w0 ro may fx=>?_
 refine Dx fun zZ zhZ=>?_
 refine Dz fun zK zhK=>?_
 simp only [go_sem,Az,Bv,Ay,F0]
 repeat' (first|apply And.intro|intro _)
 refine zhK _ ?_
 refine Bq fun zN zM zhN zhM=>?_
 refine Zj (id:=1) mixed fun zE zhE=>?_
 refine Cj (p:=0) 13 [11,12,13,14,15,16,10,17,18,19,7,8] [0,1,0,4,0,31,63,127,127,127,0,1279,3583,8191] [(8,11),(9,11)] rfl (by kernel_rfl) rfl (by simp only [go_sem]) fun zR zK zhR zhK=>?_
 simp only [go_sem,Az,Bv,Ay,F0]
 repeat' (first|apply And.intro|intro _)
 all_goals (refine Fy (fun k=>k) (.tup [.agg (Az false z32 0),.one (.pl (.R false 1 (Aw ([]:List UInt8)))),.one (.pl (.i e))]) [] (fun _ _=>rfl) ?_ ?_ ?_ hU ?_ ?_;(iterate 2 (focus (first|rfl|(simp only [go_sem,Az,Bv,Ay,F0]<;>first|done|rfl|simp))));(first|kernel_rfl|rfl|simp [h0y,i0r,pls]))
 all_goals try (refine And.intro ?_ (And.intro ?_ (And.intro ?_ ?_))<;>(first|rfl|(simp only [go_sem,Az,Bv,Ay,F0];done)|(simp [go_sem,look,Az,Bv,Ay,F0];done)))
 all_goals (try simp only [go_sem,Az,Bv,Ay,F0])
 all_goals (try simp only [go_sem,Az,Bv,Ay,F0])
 all_goals repeat' (first|apply And.intro|intro _)
 refine zhK _ _ ?_ (zhR _ ?_)
 focus (first|trivial|(simp only [go_sem];done)|(simp only [go_sem];simp;done)|(simp only [go_sem];simp;simp only [go_sem]))
 refine Dw 1 14 rfl (by kernel_rfl) rfl rfl fun zR zhR=>?_
 simp only [go_sem,Az,Bv,Ay,F0]
 repeat' (first|apply And.intro|intro _)
 refine zhR _ ?_
 refine Hq rfl (zhE _ ?_)
 refine zhN _ ?_;clear zhN zhM
 refine Bq fun zN zM zhN zhM=>?_
 refine Dz fun zK zhK=>?_
 simp only [go_sem,Az,Bv,Ay,F0]
 repeat' (first|apply And.intro|intro _)
 refine zhK _ ?_
 (refine Bz ?_ ?_;focus (first|rfl|(simp [go_sem,Az,Bv,Ay,F0];done)))
 refine Dz fun zK zhK=>?_
 simp only [go_sem,Az,Bv,Ay,F0]
 repeat' (first|apply And.intro|intro _)
 refine zhK _ ?_
 refine Ck ?_
 refine zhM _ _ ?_;clear zhN zhM
 refine zhZ _ _ ?_
 simp only [go_sem,Az,Bv,Ay,F0]
 all_goals (exact Xy (st:=false) (key:=z32) (n:=0) (ch:=z32) (h:=z32))
end Go.Sy
namespace Go.Sy
open Go.Proofs
attribute [local irreducible] Fz HT Cw Oj onC onE onO onG goV goA goS Qv Ey
theorem m1y (key:List UInt8) (hk:key.length=32) (n:UInt64) (ad b:List UInt8) (ex1 ex2:Bool) (h:¬n=18446744073709551615) (out:List UInt8) (hop:CtM Tryd.prog 20 [.w (.agg (Aq key)),.w (.agg (Aq (Ej n))),.w (.one (.pl (.R ex1 1 (Aw ad)))),.w (.one (.pl (.R ex2 1 (Aw b))))] [] (byO out 0)):
 CtM Tryd.prog 11 [.w (.one (.pl (.b false))),.w (.agg (Az true key n)),.w (.one (.pl (.R ex1 1 (Aw ad)))),.w (.one (.pl (.R ex2 1 (Aw b))))] [] (Told (s1e true key (n+1) out)):=by
 have h2:¬n+1=0:=fun q=>h (Vv.mp q)
 have hnl:=Gy n
 obtain ⟨nb,hnb⟩: ∃ q,Ej n=q:=⟨_,rfl⟩
 rw [hnb] at hnl hop
 have hN:=e0x n
 rw [hnb] at hN
 have F0:=And.intro hk<|And.intro h<|And.intro h2<|hnl
 refine CtM.k Tryd.func11 rfl Tryd.ntmps11 (congrArg Array.toList Tryd.results11) (by simp) fun w0 ro may fx=>?_
 refine Dx fun zZ zhZ=>?_
 iterate 43 first
  |(refine Dz fun zK zhK=>?_;simp only [go_sem,Az,Aj,F0];(repeat' (first|apply And.intro|intro _)))
  |refine zhK _ ?_
  |(refine zhN _ ?_;clear zhN zhM)
  |refine Cq ?_
  |refine Ck ?_
  |(refine zhZ _ _ ?_;simp only [go_sem,Az,Aj,F0];(all_goals (first|exact Tz rfl (by simp [look])|exact Tz (has:=true) (key:=key) (n:=n+1) (l:=out) rfl (by simp [look]))))
  |((all_goals (refine Cy (fun k=>k) (fun _ _=>rfl) ?_ ((Jv true key hk n).plain fun _ _ h=>h) ?_;focus (first|rfl|(simp only [go_sem,Az,Aj,F0]<;>rfl))));(all_goals (rintro v m ⟨hR,hm⟩;subst hR;subst hm));(all_goals refine And.intro (by first|rfl|simp only [go_sem,Az,Aj,F0]) (And.intro (by first|rfl|simp only [go_sem,Az,Aj,F0]) ?_));(all_goals simp only [go_sem,Az,Aj,F0]);(all_goals repeat' (first|apply And.intro|intro _)))
  |(refine Zj (id:=14) mixed fun zE zhE=>?_;refine Cj (p:=0) 7 [47,48,49,50,51,52,53] [0,1,0,4,12,0,0,127,255,511,511,1023,4095] [] rfl (by kernel_rfl) rfl (by simp only [go_sem]) fun zR zK zhR zhK=>?_;simp only [go_sem,Az,Aj,F0];(repeat' (first|apply And.intro|intro _));(all_goals (refine Dv (fun k=>k) (.w (.agg (Aq nb))) [] (fun _ _=>rfl) ?_ (hN.plain fun _ _ h=>h) ?_ ?_;focus (first|rfl|(simp only [go_sem,Az,Aj,F0]<;>rfl))));(all_goals try (refine And.intro ?_ (And.intro ?_ (And.intro ?_ ?_))<;>first|rfl|simp only [go_sem]));(all_goals simp only [go_sem,Az,Aj,F0]);(all_goals repeat' (first|apply And.intro|intro _));refine zhK _ _ trivial (zhR _ ?_);refine Dw 2 9 rfl (by kernel_rfl) rfl rfl fun zR zhR=>?_;simp only [go_sem,Az,Aj,F0];(repeat' (first|apply And.intro|intro _));(all_goals (refine Dy false [] (fun _=>90) (fun _ _=>rfl) ?_ (by decide) ?_ hop ?_;iterate 2 (focus (first|rfl|(simp only [go_sem,Az,Aj,F0]<;>first|done|rfl|simp)))));(all_goals (rintro v m ⟨hR,hm⟩;subst hR;subst hm));(all_goals (refine And.intro ?_ (And.intro ?_ (And.intro ?_ ?_));iterate 3 (focus (first|rfl|(simp only [go_sem,Az,Aj,F0];done)|(simp [go_sem,look,Az,Aj,F0];done)))));(all_goals (try simp only [go_sem,Az,Aj,F0]));(all_goals (try simp only [go_sem,Az,Aj,F0]));(all_goals repeat' (first|apply And.intro|intro _));refine zhR _ ?_;refine Cj (p:=9) 12 [55,56,12] [0,1,0,4,12,0,0,127,255,511,511,1023,4095] [] rfl (by kernel_rfl) rfl (by simp only [go_sem]) fun zR zK zhR zhK=>?_;simp only [go_sem,Az,Aj,F0];(repeat' (first|apply And.intro|intro _));refine zhK _ _ trivial (zhR _ ?_);refine Dw 1 13 rfl (by kernel_rfl) rfl rfl fun zR zhR=>?_;simp only [go_sem,Az,Aj,F0];(repeat' (first|apply And.intro|intro _));refine zhR _ ?_;refine Hq rfl (zhE _ ?_))
  |refine Bq fun zN zM zhN zhM=>?_
  |(refine Bj ?_ ?_;focus (first|rfl|(simp [go_sem,Az,Aj,F0];done)))
theorem m1z (key:List UInt8) (hk:key.length=32) (n:UInt64) (ad b:List UInt8) (ex1 ex2:Bool) (h:¬n=18446744073709551615) (out:List UInt8) (hop:CtM Tryd.prog 18 [.w (.agg (Aq key)),.w (.agg (Aq (Ej n))),.w (.one (.pl (.R ex1 1 (Aw ad)))),.w (.one (.pl (.R ex2 1 (Aw b))))] [] (byO out 0)):
 CtM Tryd.prog 11 [.w (.one (.pl (.b true))),.w (.agg (Az true key n)),.w (.one (.pl (.R ex1 1 (Aw ad)))),.w (.one (.pl (.R ex2 1 (Aw b))))] [] (Told (s1e true key (n+1) out)):=by
 have h2:¬n+1=0:=fun q=>h (Vv.mp q)
 have hnl:=Gy n
 obtain ⟨nb,hnb⟩: ∃ q,Ej n=q:=⟨_,rfl⟩
 rw [hnb] at hnl hop
 have hN:=e0x n
 rw [hnb] at hN
 have F0:=And.intro hk<|And.intro h<|And.intro h2<|hnl
 refine CtM.k Tryd.func11 rfl Tryd.ntmps11 (congrArg Array.toList Tryd.results11) (by simp) fun w0 ro may fx=>?_
 refine Dx fun zZ zhZ=>?_
 iterate 43 first
  |(refine Dz fun zK zhK=>?_;simp only [go_sem,Az,Aj,F0];(repeat' (first|apply And.intro|intro _)))
  |refine zhK _ ?_
  |(refine zhN _ ?_;clear zhN zhM)
  |refine Cq ?_
  |refine Ck ?_
  |(refine zhZ _ _ ?_;simp only [go_sem,Az,Aj,F0];(all_goals (first|exact Tz rfl (by simp [look])|exact Tz (has:=true) (key:=key) (n:=n+1) (l:=out) rfl (by simp [look]))))
  |((all_goals (refine Cy (fun k=>k) (fun _ _=>rfl) ?_ ((Jv true key hk n).plain fun _ _ h=>h) ?_;focus (first|rfl|(simp only [go_sem,Az,Aj,F0]<;>rfl))));(all_goals (rintro v m ⟨hR,hm⟩;subst hR;subst hm));(all_goals refine And.intro (by first|rfl|simp only [go_sem,Az,Aj,F0]) (And.intro (by first|rfl|simp only [go_sem,Az,Aj,F0]) ?_));(all_goals simp only [go_sem,Az,Aj,F0]);(all_goals repeat' (first|apply And.intro|intro _)))
  |(refine Zj (id:=13) mixed fun zE zhE=>?_;refine Cj (p:=0) 7 [36,37,38,39,40,41,42] [0,1,0,4,12,0,0,127,255,511,511,1023,4095] [] rfl (by kernel_rfl) rfl (by simp only [go_sem]) fun zR zK zhR zhK=>?_;simp only [go_sem,Az,Aj,F0];(repeat' (first|apply And.intro|intro _));(all_goals (refine Dv (fun k=>k) (.w (.agg (Aq nb))) [] (fun _ _=>rfl) ?_ (hN.plain fun _ _ h=>h) ?_ ?_;focus (first|rfl|(simp only [go_sem,Az,Aj,F0]<;>rfl))));(all_goals try (refine And.intro ?_ (And.intro ?_ (And.intro ?_ ?_))<;>first|rfl|simp only [go_sem]));(all_goals simp only [go_sem,Az,Aj,F0]);(all_goals repeat' (first|apply And.intro|intro _));refine zhK _ _ trivial (zhR _ ?_);refine Dw 2 9 rfl (by kernel_rfl) rfl rfl fun zR zhR=>?_;simp only [go_sem,Az,Aj,F0];(repeat' (first|apply And.intro|intro _));(all_goals (refine Dy false [] (fun _=>90) (fun _ _=>rfl) ?_ (by decide) ?_ hop ?_;iterate 2 (focus (first|rfl|(simp only [go_sem,Az,Aj,F0]<;>first|done|rfl|simp)))));(all_goals (rintro v m ⟨hR,hm⟩;subst hR;subst hm));(all_goals (refine And.intro ?_ (And.intro ?_ (And.intro ?_ ?_));iterate 3 (focus (first|rfl|(simp only [go_sem,Az,Aj,F0];done)|(simp [go_sem,look,Az,Aj,F0];done)))));(all_goals (try simp only [go_sem,Az,Aj,F0]));(all_goals (try simp only [go_sem,Az,Aj,F0]));(all_goals repeat' (first|apply And.intro|intro _));refine zhR _ ?_;refine Cj (p:=9) 12 [44,45,12] [0,1,0,4,12,0,0,127,255,511,511,1023,4095] [] rfl (by kernel_rfl) rfl (by simp only [go_sem]) fun zR zK zhR zhK=>?_;simp only [go_sem,Az,Aj,F0];(repeat' (first|apply And.intro|intro _));refine zhK _ _ trivial (zhR _ ?_);refine Dw 1 13 rfl (by kernel_rfl) rfl rfl fun zR zhR=>?_;simp only [go_sem,Az,Aj,F0];(repeat' (first|apply And.intro|intro _));refine zhR _ ?_;refine Hq rfl (zhE _ ?_))
  |refine Bq fun zN zM zhN zhM=>?_
  |(refine Bj ?_ ?_;focus (first|rfl|(simp [go_sem,Az,Aj,F0];done)))
  |(refine Bz ?_ ?_;focus (first|rfl|(simp [go_sem,Az,Aj,F0];done)))
end Go.Sy
namespace Go.Sy
open Go.Proofs
attribute [local irreducible] Fz HT Cw Oj onC onE onO onG goV goA goS Qv Ey
theorem g1b (has:Bool) (key:List UInt8) (hk:key.length=32) (n:UInt64) (ch h b:List UInt8) (hc:ch.length=32) (hh:h.length=32) (ex:Bool) (hf:Fv has key n=9):
 CtM Tryd.prog 6 [.w (.one (.pl (.b false))),.w (.agg (Bv has key n ch h)),.w (.one (.pl (.R ex 1 (Aw b))))] [(1000001,⟨false,[.pl (.u32 1779033703),.pl (.u32 3144134277),.pl (.u32 1013904242),.pl (.u32 2773480762),.pl (.u32 1359893119),.pl (.u32 2600822924),.pl (.u32 528734635),.pl (.u32 1541459225)]⟩)] (Told (j0x (Bv false z32 0 z32 z32) [] 9)):=by
 have hc1:=Cz (has:=has) (n:=n) hk
 have hc2:=Cz (has:=false) (n:=0) Ay
 have F0:=And.intro hc<|And.intro hh<|hk
 refine CtM.k Tryd.func6 rfl Tryd.ntmps6 (congrArg Array.toList Tryd.results6) (by simp) fun w0 ro may fx=>?_
 refine Dx fun zZ zhZ=>?_
 refine Dz fun zK zhK=>?_
 simp only [go_sem,Az,Bv,Ay,F0]
 repeat' (first|apply And.intro|intro _)
 refine zhK _ ?_
 refine Bq fun zN zM zhN zhM=>?_
 refine Zj (id:=1) mixed fun zE zhE=>?_
 refine Cj (p:=0) 14 [13,14,15,16,17,18,19,12,20,21,22,9,10] [0,0,2,0,8,0,63,127,255,255,255,0,2559,7167,16383] [(9,12),(10,12)] rfl (by kernel_rfl) rfl (by simp only [go_sem]) fun zR zK zhR zhK=>?_
 simp only [go_sem,Az,Bv,Ay,F0]
 repeat' (first|apply And.intro|intro _)
 all_goals (refine Lv [(500000,4)] (.tup [.agg (Az false z32 0),.one (.pl (.R false 1 (Aw ([]:List UInt8)))),.one (.pl (.i 9))]) (fun _ _=>rfl) ?_ (by decide) ?_ ?_ (by first|rfl|simp) (f1t false has key hk n ch h b hc hh ex hf).told ?_ ⟨Tx _,Tw⟩ ?_ (by rfl) ?_;(iterate 2 (focus (first|rfl|(simp only [go_sem,Az,Bv,Ay,F0]<;>first|done|rfl|simp))));(focus (first|rfl|(simp [h0u,go_sem,V.has,W.has,L.has,Az,Bv,Ay,F0];done)));(focus (first|rfl|(simp only [go_sem,Az,Bv,Ay,F0];done)|(simp [go_sem,look,Az,Bv,Ay,F0];done)));(focus (intro S1;first|rfl|(simp only [go_sem,Az,Bv,Ay,F0];done)|(simp [go_sem,look,Az,Bv,Ay,F0];done))))
 all_goals (refine And.intro ?_ ?_;focus (first|rfl|(simp only [go_sem,Az,Bv,Ay,F0];done)|(simp [go_sem,look,Az,Bv,Ay,F0];done)))
 all_goals (try simp only [go_sem,Az,Bv,Ay,F0])
 all_goals (try simp only [go_sem,Az,Bv,Ay,F0])
 all_goals repeat' (first|apply And.intro|intro _)
 refine zhK _ _ ?_ (zhR _ ?_)
 focus (first|trivial|(simp only [go_sem];done)|(simp only [go_sem];simp;done)|(simp only [go_sem];simp;simp only [go_sem]))
 refine Dw 1 15 rfl (by kernel_rfl) rfl rfl fun zR zhR=>?_
 simp only [go_sem,Az,Bv,Ay,F0]
 repeat' (first|apply And.intro|intro _)
 refine zhR _ ?_
 refine Hq rfl (zhE _ ?_)
 refine zhN _ ?_;clear zhN zhM
 refine Bq fun zN zM zhN zhM=>?_
 refine Dz fun zK zhK=>?_
 simp only [go_sem,Az,Bv,Ay,F0]
 repeat' (first|apply And.intro|intro _)
 refine zhK _ ?_
 (refine Bz ?_ ?_;focus (first|rfl|(simp [go_sem,Az,Bv,Ay,F0];done)))
 refine Dz fun zK zhK=>?_
 simp only [go_sem,Az,Bv,Ay,F0]
 repeat' (first|apply And.intro|intro _)
 refine zhK _ ?_
 refine Ck ?_
 refine zhM _ _ ?_;clear zhN zhM
 refine zhZ _ _ ?_
 simp only [go_sem,Az,Bv,Ay,F0]
 all_goals (exact Xy (st:=false) (key:=z32) (n:=0) (ch:=z32) (h:=z32))
theorem f1z (ch h b:List UInt8) (hc:ch.length=32) (hh:h.length=32) (ex:Bool) (hf:800<b.length):
 CtM Tryd.prog 6 [.w (.one (.pl (.b false))),.w (.agg (Bv false z32 0 ch h)),.w (.one (.pl (.R ex 1 (Aw b))))] [(1000001,⟨false,[.pl (.u32 1779033703),.pl (.u32 3144134277),.pl (.u32 1013904242),.pl (.u32 2773480762),.pl (.u32 1359893119),.pl (.u32 2600822924),.pl (.u32 528734635),.pl (.u32 1541459225)]⟩)] (Told (j0x (Bv false z32 0 z32 z32) [] 1)):=by
 have hc2:=Cz (has:=false) (n:=0) Ay
 refine CtM.k Tryd.func6 rfl Tryd.ntmps6 (congrArg Array.toList Tryd.results6) (by simp) fun w0 ro may fx=>?_
 refine Dx fun zZ zhZ=>?_
 refine Dz fun zK zhK=>?_
 simp only [go_sem,Az,Bv,hc,hh,Ay]
 repeat' (first|apply And.intro|intro _)
 refine zhK _ ?_
 refine Bq fun zN zM zhN zhM=>?_
 refine Zj (id:=1) mixed fun zE zhE=>?_
 refine Cj (p:=0) 14 [13,14,15,16,17,18,19,12,20,21,22,9,10] [0,0,2,0,8,0,63,127,255,255,255,0,2559,7167,16383] [(9,12),(10,12)] rfl (by kernel_rfl) rfl (by simp only [go_sem]) fun zR zK zhR zhK=>?_
 simp only [go_sem,Az,Bv,hc,hh,Ay]
 repeat' (first|apply And.intro|intro _)
 all_goals (refine Lv [(500000,4)] (.tup [.agg (Az false z32 0),.one (.pl (.R false 1 (Aw ([]:List UInt8)))),.one (.pl (.i 1))]) (fun _ _=>rfl) ?_ (by decide) ?_ ?_ (by first|rfl|simp) (f1s false ch h b hc hh ex hf).told ?_ ⟨Tx _,Tw⟩ ?_ (by rfl) ?_;(iterate 2 (focus (first|rfl|(simp only [go_sem,Az,Bv,hc,hh,Ay]<;>first|done|rfl|simp))));(focus (first|rfl|(simp [h0u,go_sem,V.has,W.has,L.has,Az,Bv,hc,hh,Ay];done)));(focus (first|rfl|(simp only [go_sem,Az,Bv,hc,hh,Ay];done)|(simp [go_sem,look,Az,Bv,hc,hh,Ay];done)));(focus (intro S1;first|rfl|(simp only [go_sem,Az,Bv,hc,hh,Ay];done)|(simp [go_sem,look,Az,Bv,hc,hh,Ay];done))))
 all_goals (refine And.intro ?_ ?_;focus (first|rfl|(simp only [go_sem,Az,Bv,hc,hh,Ay];done)|(simp [go_sem,look,Az,Bv,hc,hh,Ay];done)))
 all_goals (try simp only [go_sem,Az,Bv,hc,hh,Ay])
 all_goals (try simp only [go_sem,Az,Bv,hc,hh,Ay])
 all_goals repeat' (first|apply And.intro|intro _)
 refine zhK _ _ ?_ (zhR _ ?_)
 focus (first|trivial|(simp only [go_sem];done)|(simp only [go_sem];simp;done)|(simp only [go_sem];simp;simp only [go_sem]))
 refine Dw 1 15 rfl (by kernel_rfl) rfl rfl fun zR zhR=>?_
 simp only [go_sem,Az,Bv,hc,hh,Ay]
 repeat' (first|apply And.intro|intro _)
 refine zhR _ ?_
 refine Hq rfl (zhE _ ?_)
 refine zhN _ ?_;clear zhN zhM
 refine Bq fun zN zM zhN zhM=>?_
 refine Dz fun zK zhK=>?_
 simp only [go_sem,Az,Bv,hc,hh,Ay]
 repeat' (first|apply And.intro|intro _)
 refine zhK _ ?_
 (refine Bz ?_ ?_;focus (first|rfl|(simp [go_sem,Az,Bv,hc,hh,Ay];done)))
 refine Dz fun zK zhK=>?_
 simp only [go_sem,Az,Bv,hc,hh,Ay]
 repeat' (first|apply And.intro|intro _)
 refine zhK _ ?_
 refine Ck ?_
 refine zhM _ _ ?_;clear zhN zhM
 refine zhZ _ _ ?_
 simp only [go_sem,Az,Bv,hc,hh,Ay]
 all_goals (exact Xy (st:=false) (key:=z32) (n:=0) (ch:=z32) (h:=z32))
theorem b1l (ch h b:List UInt8) (hc:ch.length=32) (hh:h.length=32) (ex:Bool) (hf:¬800<b.length):
 CtM Tryd.prog 6 [.w (.one (.pl (.b false))),.w (.agg (Bv false z32 0 ch h)),.w (.one (.pl (.R ex 1 (Aw b))))] [(1000001,⟨false,[.pl (.u32 1779033703),.pl (.u32 3144134277),.pl (.u32 1013904242),.pl (.u32 2773480762),.pl (.u32 1359893119),.pl (.u32 2600822924),.pl (.u32 528734635),.pl (.u32 1541459225)]⟩)] (Told (j0x (Bv false z32 0 ch (Bk.g0r (h++b))) b 0)):=by
 have hc2:=Cz (has:=false) (n:=0) Ay
 have hb:b.length≤140737488351232:=by omega
 obtain ⟨z,hz⟩: ∃ z,Bk.g0r (h++b)=z:=⟨_,rfl⟩
 have hzl:z.length=32:=by rw [←hz];exact Bk.Jk _
 have hS:=(d0r false z32 0 ch h b Ay hc hh hb).told
 rw [hz] at hS ⊢
 have F0:=And.intro hc<|And.intro hh<|hzl
 refine CtM.k Tryd.func6 rfl Tryd.ntmps6 (congrArg Array.toList Tryd.results6) (by simp) fun w0 ro may fx=>?_
 refine Dx fun zZ zhZ=>?_
 iterate 24 first
  |(refine Dz fun zK zhK=>?_;simp only [go_sem,Az,Bv,Ay,F0];(repeat' (first|apply And.intro|intro _)))
  |refine zhK _ ?_
  |(refine zhN _ ?_;clear zhN zhM)
  |refine Cq ?_
  |refine Ck ?_
  |(refine zhZ _ _ ?_;simp only [go_sem,Az,Bv,Ay,F0];(all_goals (exact l0f (st:=false) (key:=z32) (n:=0) (ch:=ch) (h:=z))))
  |(refine Zj (id:=1) mixed fun zE zhE=>?_;refine Cj (p:=0) 14 [13,14,15,16,17,18,19,12,20,21,22,9,10] [0,0,2,0,8,0,63,127,255,255,255,0,2559,7167,16383] [(9,12),(10,12)] rfl (by kernel_rfl) rfl (by simp only [go_sem]) fun zR zK zhR zhK=>?_;simp only [go_sem,Az,Bv,Ay,F0];(repeat' (first|apply And.intro|intro _));(all_goals (refine Lv [(500000,4)] (.tup [.agg (Az false z32 0),.one (.pl (.R false 1 (Aw (b:List UInt8)))),.one (.pl (.i 0))]) (fun _ _=>rfl) ?_ (by decide) ?_ ?_ (by first|rfl|simp) (z0u false ch h b hc hh ex hf).told ?_ ⟨Tx _,Tw⟩ ?_ (by rfl) ?_;(iterate 2 (focus (first|rfl|(simp only [go_sem,Az,Bv,Ay,F0]<;>first|done|rfl|simp))));(focus (first|rfl|(simp [h0u,go_sem,V.has,W.has,L.has,Az,Bv,Ay,F0];done)));(focus (first|rfl|(simp only [go_sem,Az,Bv,Ay,F0];done)|(simp [go_sem,look,Az,Bv,Ay,F0];done)));(focus (intro S1;first|rfl|(simp only [go_sem,Az,Bv,Ay,F0];done)|(simp [go_sem,look,Az,Bv,Ay,F0];done)))));(all_goals (refine And.intro ?_ ?_;focus (first|rfl|(simp only [go_sem,Az,Bv,Ay,F0];done)|(simp [go_sem,look,Az,Bv,Ay,F0];done))));(all_goals (try simp only [go_sem,Az,Bv,Ay,F0]));(all_goals (try simp only [go_sem,Az,Bv,Ay,F0]));(all_goals repeat' (first|apply And.intro|intro _));refine zhK _ _ ?_ (zhR _ ?_);(focus (first|trivial|(simp only [go_sem];done)|(simp only [go_sem];simp;done)|(simp only [go_sem];simp;simp only [go_sem])));refine Dw 1 15 rfl (by kernel_rfl) rfl rfl fun zR zhR=>?_;simp only [go_sem,Az,Bv,Ay,F0];(repeat' (first|apply And.intro|intro _));refine zhR _ ?_;refine Hq rfl (zhE _ ?_))
  |((all_goals (refine Dy false [] (fun k=>k) (fun _ _=>rfl) ?_ (by decide) ?_ hS ?_;(focus (simp only [go_sem,Az,Bv,Ay,F0,List.append_assoc,List.singleton_append]<;>first|done|rfl|(simp;done)|(simp [Aq];done)));(focus (first|(simp only [go_sem,Az,Bv,Ay,F0];done)|rfl|(simp [Kq,look];done)))));(all_goals (rintro v m ⟨hR,hm⟩;subst hR;subst hm));(all_goals (refine And.intro ?_ (And.intro ?_ (And.intro ?_ ?_));iterate 3 (focus (first|rfl|(simp only [go_sem,Az,Bv,Ay,F0];done)|(simp [go_sem,look,Az,Bv,Ay,F0];done)))));(all_goals simp only [go_sem,Az,Bv,Ay,F0]);(all_goals repeat' (first|apply And.intro|intro _)))
  |refine Bq fun zN zM zhN zhM=>?_
  |(refine Bj ?_ ?_;focus (first|rfl|(simp [go_sem,Az,Bv,Ay,F0];done)))
theorem f1w (key:List UInt8) (hk:key.length=32) (n:UInt64) (ch h b:List UInt8) (hc:ch.length=32) (hh:h.length=32) (ex:Bool) (e:Int) (he:¬e=0) (hU:CtM Tryd.prog 11 [.w (.one (.pl (.b false))),.w (.agg (Az true key n)),.w (.one (.pl (.R false 1 (Aw h)))),.w (.one (.pl (.R ex 1 (Aw b))))] [] (n0p false z32 0 [] e)):
 CtM Tryd.prog 6 [.w (.one (.pl (.b false))),.w (.agg (Bv true key n ch h)),.w (.one (.pl (.R ex 1 (Aw b))))] [(1000001,⟨false,[.pl (.u32 1779033703),.pl (.u32 3144134277),.pl (.u32 1013904242),.pl (.u32 2773480762),.pl (.u32 1359893119),.pl (.u32 2600822924),.pl (.u32 528734635),.pl (.u32 1541459225)]⟩)] (Told (j0x (Bv false z32 0 z32 z32) [] e)):=by
 have hc1:=Cz (has:=true) (n:=n) hk
 have hc2:=Cz (has:=false) (n:=0) Ay
 have hch:chunks 1 32 (h.map PL.u8)=Aw h:=Ew hh
 have F0:=And.intro hc<|And.intro hh<|And.intro hk<|And.intro hch<|he
 refine CtM.k Tryd.func6 rfl Tryd.ntmps6 (congrArg Array.toList Tryd.results6) (by simp) fun w0 ro may fx=>?_
 refine Dx fun zZ zhZ=>?_
 refine Dz fun zK zhK=>?_
 simp only [go_sem,Az,Bv,Ay,F0]
 repeat' (first|apply And.intro|intro _)
 refine zhK _ ?_
 refine Bq fun zN zM zhN zhM=>?_
 refine Zj (id:=1) mixed fun zE zhE=>?_
 refine Cj (p:=0) 14 [13,14,15,16,17,18,19,12,20,21,22,9,10] [0,0,2,0,8,0,63,127,255,255,255,0,2559,7167,16383] [(9,12),(10,12)] rfl (by kernel_rfl) rfl (by simp only [go_sem]) fun zR zK zhR zhK=>?_
 simp only [go_sem,Az,Bv,Ay,F0]
 repeat' (first|apply And.intro|intro _)
 all_goals (refine Fy (fun k=>k) (.tup [.agg (Az false z32 0),.one (.pl (.R false 1 (Aw ([]:List UInt8)))),.one (.pl (.i e))]) [] (fun _ _=>rfl) ?_ ?_ ?_ hU ?_ ?_;(iterate 2 (focus (first|rfl|(simp only [go_sem,Az,Bv,Ay,F0]<;>first|done|rfl|simp))));(first|kernel_rfl|rfl|simp [h0y,i0r,pls]))
 all_goals try (refine And.intro ?_ (And.intro ?_ (And.intro ?_ ?_))<;>(first|rfl|(simp only [go_sem,Az,Bv,Ay,F0];done)|(simp [go_sem,look,Az,Bv,Ay,F0];done)))
 all_goals (try simp only [go_sem,Az,Bv,Ay,F0])
 all_goals (try simp only [go_sem,Az,Bv,Ay,F0])
 all_goals repeat' (first|apply And.intro|intro _)
 refine zhK _ _ ?_ (zhR _ ?_)
 focus (first|trivial|(simp only [go_sem];done)|(simp only [go_sem];simp;done)|(simp only [go_sem];simp;simp only [go_sem]))
 refine Dw 1 15 rfl (by kernel_rfl) rfl rfl fun zR zhR=>?_
 simp only [go_sem,Az,Bv,Ay,F0]
 repeat' (first|apply And.intro|intro _)
 refine zhR _ ?_
 refine Hq rfl (zhE _ ?_)
 refine zhN _ ?_;clear zhN zhM
 refine Bq fun zN zM zhN zhM=>?_
 refine Dz fun zK zhK=>?_
 simp only [go_sem,Az,Bv,Ay,F0]
 repeat' (first|apply And.intro|intro _)
 refine zhK _ ?_
 (refine Bz ?_ ?_;focus (first|rfl|(simp [go_sem,Az,Bv,Ay,F0];done)))
 refine Dz fun zK zhK=>?_
 simp only [go_sem,Az,Bv,Ay,F0]
 repeat' (first|apply And.intro|intro _)
 refine zhK _ ?_
 refine Ck ?_
 refine zhM _ _ ?_;clear zhN zhM
 refine zhZ _ _ ?_
 simp only [go_sem,Az,Bv,Ay,F0]
 all_goals (exact Xy (st:=false) (key:=z32) (n:=0) (ch:=z32) (h:=z32))
theorem n1d (key:List UInt8) (hk:key.length=32) (n:UInt64) (ch h b:List UInt8) (hc:ch.length=32) (hh:h.length=32) (ex:Bool) (out:List UInt8) (hb:out.length≤140737488351232) (hU:CtM Tryd.prog 11 [.w (.one (.pl (.b false))),.w (.agg (Az true key n)),.w (.one (.pl (.R false 1 (Aw h)))),.w (.one (.pl (.R ex 1 (Aw b))))] [] (s1e true key (n+1) out)):
 CtM Tryd.prog 6 [.w (.one (.pl (.b false))),.w (.agg (Bv true key n ch h)),.w (.one (.pl (.R ex 1 (Aw b))))] [(1000001,⟨false,[.pl (.u32 1779033703),.pl (.u32 3144134277),.pl (.u32 1013904242),.pl (.u32 2773480762),.pl (.u32 1359893119),.pl (.u32 2600822924),.pl (.u32 528734635),.pl (.u32 1541459225)]⟩)] (Told (y1e (.pl (.b true)::(Aq key++.pl (.u64 (n+1))::Aq (ch++Bk.g0r (h++out)))) out)):=by
 have hc1:=Cz (has:=true) (n:=n) hk
 have hc2:=Cz (has:=true) (n:=n+1) hk
 have hch:chunks 1 32 (h.map PL.u8)=Aw h:=Ew hh
 obtain ⟨z,hz⟩: ∃ z,Bk.g0r (h++out)=z:=⟨_,rfl⟩
 have hzl:z.length=32:=by rw [←hz];exact Bk.Jk _
 have hS:=(d0r true key (n+1) ch h out hk hc hh hb).told
 rw [hz] at hS ⊢
 have hch2:chunks 1 out.length (out.map PL.u8)=Aw out:=Ew rfl
 have F0:=And.intro hc<|And.intro hh<|And.intro hk<|And.intro hzl<|And.intro hch<|hch2
 refine CtM.k Tryd.func6 rfl Tryd.ntmps6 (congrArg Array.toList Tryd.results6) (by simp) fun w0 ro may fx=>?_
 refine Dx fun zZ zhZ=>?_
 iterate 24 first
  |(refine Dz fun zK zhK=>?_;simp only [go_sem,Az,Bv,Ay,F0];(repeat' (first|apply And.intro|intro _)))
  |refine zhK _ ?_
  |(refine zhN _ ?_;clear zhN zhM)
  |refine Cq ?_
  |refine Ck ?_
  |(refine zhZ _ _ ?_;simp only [go_sem,Az,Bv,Ay,F0];(all_goals (first|exact g0w (st:=true) (key:=key) (n:=n+1) (ch:=ch) (h:=z) (l:=out) rfl (by simp [look]))))
  |(refine Zj (id:=1) mixed fun zE zhE=>?_;refine Cj (p:=0) 14 [13,14,15,16,17,18,19,12,20,21,22,9,10] [0,0,2,0,8,0,63,127,255,255,255,0,2559,7167,16383] [(9,12),(10,12)] rfl (by kernel_rfl) rfl (by simp only [go_sem]) fun zR zK zhR zhK=>?_;simp only [go_sem,Az,Bv,Ay,F0];(repeat' (first|apply And.intro|intro _));(all_goals (refine Fy (fun _=>16) (.tup [.agg (Az true key (n+1)),.one (.s 0 [] out.length 1),.one (.pl (.i 0))]) [(0,⟨true,Aq out⟩)] (fun _ _=>rfl) ?_ ?_ ?_ hU ?_ ?_;(iterate 2 (focus (first|rfl|(simp only [go_sem,Az,Bv,Ay,F0]<;>first|done|rfl|simp))));(first|kernel_rfl|rfl|simp [h0y,i0r,pls])));(all_goals try (refine And.intro ?_ (And.intro ?_ (And.intro ?_ ?_))<;>(first|rfl|(simp only [go_sem,Az,Bv,Ay,F0];done)|(simp [go_sem,look,Az,Bv,Ay,F0];done))));(all_goals (try simp only [go_sem,Az,Bv,Ay,F0]));(all_goals (try simp only [go_sem,Az,Bv,Ay,F0]));(all_goals repeat' (first|apply And.intro|intro _));refine zhK _ _ ?_ (zhR _ ?_);(focus (first|trivial|(simp only [go_sem];done)|(simp only [go_sem];simp;done)|(simp only [go_sem];simp;simp only [go_sem])));refine Dw 1 15 rfl (by kernel_rfl) rfl rfl fun zR zhR=>?_;simp only [go_sem,Az,Bv,Ay,F0];(repeat' (first|apply And.intro|intro _));refine zhR _ ?_;refine Hq rfl (zhE _ ?_))
  |((all_goals (refine Dy false [] (fun k=>k) (fun _ _=>rfl) ?_ (by decide) ?_ hS ?_;(focus (simp only [go_sem,Az,Bv,Ay,F0,List.append_assoc,List.singleton_append]<;>first|done|rfl|(simp;done)|(simp [Aq];done)));(focus (first|(simp only [go_sem,Az,Bv,Ay,F0];done)|rfl|(simp [Kq,look];done)))));(all_goals (rintro v m ⟨hR,hm⟩;subst hR;subst hm));(all_goals (refine And.intro ?_ (And.intro ?_ (And.intro ?_ ?_));iterate 3 (focus (first|rfl|(simp only [go_sem,Az,Bv,Ay,F0];done)|(simp [go_sem,look,Az,Bv,Ay,F0];done)))));(all_goals simp only [go_sem,Az,Bv,Ay,F0]);(all_goals repeat' (first|apply And.intro|intro _)))
  |refine Bq fun zN zM zhN zhM=>?_
  |(refine Bj ?_ ?_;focus (first|rfl|(simp [go_sem,Az,Bv,Ay,F0];done)))
theorem g1c (has:Bool) (key:List UInt8) (hk:key.length=32) (n:UInt64) (ch h b:List UInt8) (hc:ch.length=32) (hh:h.length=32) (ex:Bool) (hf:Fv has key n=9):
 CtM Tryd.prog 6 [.w (.one (.pl (.b true))),.w (.agg (Bv has key n ch h)),.w (.one (.pl (.R ex 1 (Aw b))))] [(1000001,⟨false,[.pl (.u32 1779033703),.pl (.u32 3144134277),.pl (.u32 1013904242),.pl (.u32 2773480762),.pl (.u32 1359893119),.pl (.u32 2600822924),.pl (.u32 528734635),.pl (.u32 1541459225)]⟩)] (Told (j0x (Bv false z32 0 z32 z32) [] 9)):=by
 have hc1:=Cz (has:=has) (n:=n) hk
 have hc2:=Cz (has:=false) (n:=0) Ay
 have F0:=And.intro hc<|And.intro hh<|hk
 refine CtM.k Tryd.func6 rfl Tryd.ntmps6 (congrArg Array.toList Tryd.results6) (by simp) fun w0 ro may fx=>?_
 refine Dx fun zZ zhZ=>?_
 refine Dz fun zK zhK=>?_
 simp only [go_sem,Az,Bv,Ay,F0]
 repeat' (first|apply And.intro|intro _)
 refine zhK _ ?_
 refine Bq fun zN zM zhN zhM=>?_
 refine Zj (id:=1) mixed fun zE zhE=>?_
 refine Cj (p:=0) 14 [13,14,15,16,17,18,19,12,20,21,22,9,10] [0,0,2,0,8,0,63,127,255,255,255,0,2559,7167,16383] [(9,12),(10,12)] rfl (by kernel_rfl) rfl (by simp only [go_sem]) fun zR zK zhR zhK=>?_
 simp only [go_sem,Az,Bv,Ay,F0]
 repeat' (first|apply And.intro|intro _)
 all_goals (refine Lv [(500000,4)] (.tup [.agg (Az false z32 0),.one (.pl (.R false 1 (Aw ([]:List UInt8)))),.one (.pl (.i 9))]) (fun _ _=>rfl) ?_ (by decide) ?_ ?_ (by first|rfl|simp) (f1t true has key hk n ch h b hc hh ex hf).told ?_ ⟨Tx _,Tw⟩ ?_ (by rfl) ?_;(iterate 2 (focus (first|rfl|(simp only [go_sem,Az,Bv,Ay,F0]<;>first|done|rfl|simp))));(focus (first|rfl|(simp [h0u,go_sem,V.has,W.has,L.has,Az,Bv,Ay,F0];done)));(focus (first|rfl|(simp only [go_sem,Az,Bv,Ay,F0];done)|(simp [go_sem,look,Az,Bv,Ay,F0];done)));(focus (intro S1;first|rfl|(simp only [go_sem,Az,Bv,Ay,F0];done)|(simp [go_sem,look,Az,Bv,Ay,F0];done))))
 all_goals (refine And.intro ?_ ?_;focus (first|rfl|(simp only [go_sem,Az,Bv,Ay,F0];done)|(simp [go_sem,look,Az,Bv,Ay,F0];done)))
 all_goals (try simp only [go_sem,Az,Bv,Ay,F0])
 all_goals (try simp only [go_sem,Az,Bv,Ay,F0])
 all_goals repeat' (first|apply And.intro|intro _)
 refine zhK _ _ ?_ (zhR _ ?_)
 focus (first|trivial|(simp only [go_sem];done)|(simp only [go_sem];simp;done)|(simp only [go_sem];simp;simp only [go_sem]))
 refine Dw 1 15 rfl (by kernel_rfl) rfl rfl fun zR zhR=>?_
 simp only [go_sem,Az,Bv,Ay,F0]
 repeat' (first|apply And.intro|intro _)
 refine zhR _ ?_
 refine Hq rfl (zhE _ ?_)
 refine zhN _ ?_;clear zhN zhM
 refine Bq fun zN zM zhN zhM=>?_
 refine Dz fun zK zhK=>?_
 simp only [go_sem,Az,Bv,Ay,F0]
 repeat' (first|apply And.intro|intro _)
 refine zhK _ ?_
 (refine Bz ?_ ?_;focus (first|rfl|(simp [go_sem,Az,Bv,Ay,F0];done)))
 refine Dz fun zK zhK=>?_
 simp only [go_sem,Az,Bv,Ay,F0]
 repeat' (first|apply And.intro|intro _)
 refine zhK _ ?_
 refine Ck ?_
 refine zhM _ _ ?_;clear zhN zhM
 refine zhZ _ _ ?_
 simp only [go_sem,Az,Bv,Ay,F0]
 all_goals (exact Xy (st:=false) (key:=z32) (n:=0) (ch:=z32) (h:=z32))
theorem g1a (ch h b:List UInt8) (hc:ch.length=32) (hh:h.length=32) (ex:Bool) (hf:800<b.length):
 CtM Tryd.prog 6 [.w (.one (.pl (.b true))),.w (.agg (Bv false z32 0 ch h)),.w (.one (.pl (.R ex 1 (Aw b))))] [(1000001,⟨false,[.pl (.u32 1779033703),.pl (.u32 3144134277),.pl (.u32 1013904242),.pl (.u32 2773480762),.pl (.u32 1359893119),.pl (.u32 2600822924),.pl (.u32 528734635),.pl (.u32 1541459225)]⟩)] (Told (j0x (Bv false z32 0 z32 z32) [] 1)):=by
 have hc2:=Cz (has:=false) (n:=0) Ay
 refine CtM.k Tryd.func6 rfl Tryd.ntmps6 (congrArg Array.toList Tryd.results6) (by simp) fun w0 ro may fx=>?_
 refine Dx fun zZ zhZ=>?_
 refine Dz fun zK zhK=>?_
 simp only [go_sem,Az,Bv,hc,hh,Ay]
 repeat' (first|apply And.intro|intro _)
 refine zhK _ ?_
 refine Bq fun zN zM zhN zhM=>?_
 refine Zj (id:=1) mixed fun zE zhE=>?_
 refine Cj (p:=0) 14 [13,14,15,16,17,18,19,12,20,21,22,9,10] [0,0,2,0,8,0,63,127,255,255,255,0,2559,7167,16383] [(9,12),(10,12)] rfl (by kernel_rfl) rfl (by simp only [go_sem]) fun zR zK zhR zhK=>?_
 simp only [go_sem,Az,Bv,hc,hh,Ay]
 repeat' (first|apply And.intro|intro _)
 all_goals (refine Lv [(500000,4)] (.tup [.agg (Az false z32 0),.one (.pl (.R false 1 (Aw ([]:List UInt8)))),.one (.pl (.i 1))]) (fun _ _=>rfl) ?_ (by decide) ?_ ?_ (by first|rfl|simp) (f1s true ch h b hc hh ex hf).told ?_ ⟨Tx _,Tw⟩ ?_ (by rfl) ?_;(iterate 2 (focus (first|rfl|(simp only [go_sem,Az,Bv,hc,hh,Ay]<;>first|done|rfl|simp))));(focus (first|rfl|(simp [h0u,go_sem,V.has,W.has,L.has,Az,Bv,hc,hh,Ay];done)));(focus (first|rfl|(simp only [go_sem,Az,Bv,hc,hh,Ay];done)|(simp [go_sem,look,Az,Bv,hc,hh,Ay];done)));(focus (intro S1;first|rfl|(simp only [go_sem,Az,Bv,hc,hh,Ay];done)|(simp [go_sem,look,Az,Bv,hc,hh,Ay];done))))
 all_goals (refine And.intro ?_ ?_;focus (first|rfl|(simp only [go_sem,Az,Bv,hc,hh,Ay];done)|(simp [go_sem,look,Az,Bv,hc,hh,Ay];done)))
 all_goals (try simp only [go_sem,Az,Bv,hc,hh,Ay])
 all_goals (try simp only [go_sem,Az,Bv,hc,hh,Ay])
 all_goals repeat' (first|apply And.intro|intro _)
 refine zhK _ _ ?_ (zhR _ ?_)
 focus (first|trivial|(simp only [go_sem];done)|(simp only [go_sem];simp;done)|(simp only [go_sem];simp;simp only [go_sem]))
 refine Dw 1 15 rfl (by kernel_rfl) rfl rfl fun zR zhR=>?_
 simp only [go_sem,Az,Bv,hc,hh,Ay]
 repeat' (first|apply And.intro|intro _)
 refine zhR _ ?_
 refine Hq rfl (zhE _ ?_)
 refine zhN _ ?_;clear zhN zhM
 refine Bq fun zN zM zhN zhM=>?_
 refine Dz fun zK zhK=>?_
 simp only [go_sem,Az,Bv,hc,hh,Ay]
 repeat' (first|apply And.intro|intro _)
 refine zhK _ ?_
 (refine Bz ?_ ?_;focus (first|rfl|(simp [go_sem,Az,Bv,hc,hh,Ay];done)))
 refine Dz fun zK zhK=>?_
 simp only [go_sem,Az,Bv,hc,hh,Ay]
 repeat' (first|apply And.intro|intro _)
 refine zhK _ ?_
 refine Ck ?_
 refine zhM _ _ ?_;clear zhN zhM
 refine zhZ _ _ ?_
 simp only [go_sem,Az,Bv,hc,hh,Ay]
 all_goals (exact Xy (st:=false) (key:=z32) (n:=0) (ch:=z32) (h:=z32))
theorem b1m (ch h b:List UInt8) (hc:ch.length=32) (hh:h.length=32) (ex:Bool) (hf:¬800<b.length):
 CtM Tryd.prog 6 [.w (.one (.pl (.b true))),.w (.agg (Bv false z32 0 ch h)),.w (.one (.pl (.R ex 1 (Aw b))))] [(1000001,⟨false,[.pl (.u32 1779033703),.pl (.u32 3144134277),.pl (.u32 1013904242),.pl (.u32 2773480762),.pl (.u32 1359893119),.pl (.u32 2600822924),.pl (.u32 528734635),.pl (.u32 1541459225)]⟩)] (Told (j0x (Bv false z32 0 ch (Bk.g0r (h++b))) b 0)):=by
 have hc2:=Cz (has:=false) (n:=0) Ay
 have hb:b.length≤140737488351232:=by omega
 obtain ⟨z,hz⟩: ∃ z,Bk.g0r (h++b)=z:=⟨_,rfl⟩
 have hzl:z.length=32:=by rw [←hz];exact Bk.Jk _
 have hS:=(d0r false z32 0 ch h b Ay hc hh hb).told
 rw [hz] at hS ⊢
 have F0:=And.intro hc<|And.intro hh<|hzl
 refine CtM.k Tryd.func6 rfl Tryd.ntmps6 (congrArg Array.toList Tryd.results6) (by simp) fun w0 ro may fx=>?_
 refine Dx fun zZ zhZ=>?_
 iterate 23 first
  |(refine Dz fun zK zhK=>?_;simp only [go_sem,Az,Bv,Ay,F0];(repeat' (first|apply And.intro|intro _)))
  |refine zhK _ ?_
  |(refine zhN _ ?_;clear zhN zhM)
  |refine Cq ?_
  |refine Ck ?_
  |(refine zhM _ _ ?_;clear zhN zhM)
  |(refine zhZ _ _ ?_;simp only [go_sem,Az,Bv,Ay,F0];(all_goals (exact l0f (st:=false) (key:=z32) (n:=0) (ch:=ch) (h:=z))))
  |(refine Zj (id:=1) mixed fun zE zhE=>?_;refine Cj (p:=0) 14 [13,14,15,16,17,18,19,12,20,21,22,9,10] [0,0,2,0,8,0,63,127,255,255,255,0,2559,7167,16383] [(9,12),(10,12)] rfl (by kernel_rfl) rfl (by simp only [go_sem]) fun zR zK zhR zhK=>?_;simp only [go_sem,Az,Bv,Ay,F0];(repeat' (first|apply And.intro|intro _));(all_goals (refine Lv [(500000,4)] (.tup [.agg (Az false z32 0),.one (.pl (.R false 1 (Aw (b:List UInt8)))),.one (.pl (.i 0))]) (fun _ _=>rfl) ?_ (by decide) ?_ ?_ (by first|rfl|simp) (z0u true ch h b hc hh ex hf).told ?_ ⟨Tx _,Tw⟩ ?_ (by rfl) ?_;(iterate 2 (focus (first|rfl|(simp only [go_sem,Az,Bv,Ay,F0]<;>first|done|rfl|simp))));(focus (first|rfl|(simp [h0u,go_sem,V.has,W.has,L.has,Az,Bv,Ay,F0];done)));(focus (first|rfl|(simp only [go_sem,Az,Bv,Ay,F0];done)|(simp [go_sem,look,Az,Bv,Ay,F0];done)));(focus (intro S1;first|rfl|(simp only [go_sem,Az,Bv,Ay,F0];done)|(simp [go_sem,look,Az,Bv,Ay,F0];done)))));(all_goals (refine And.intro ?_ ?_;focus (first|rfl|(simp only [go_sem,Az,Bv,Ay,F0];done)|(simp [go_sem,look,Az,Bv,Ay,F0];done))));(all_goals (try simp only [go_sem,Az,Bv,Ay,F0]));(all_goals (try simp only [go_sem,Az,Bv,Ay,F0]));(all_goals repeat' (first|apply And.intro|intro _));refine zhK _ _ ?_ (zhR _ ?_);(focus (first|trivial|(simp only [go_sem];done)|(simp only [go_sem];simp;done)|(simp only [go_sem];simp;simp only [go_sem])));refine Dw 1 15 rfl (by kernel_rfl) rfl rfl fun zR zhR=>?_;simp only [go_sem,Az,Bv,Ay,F0];(repeat' (first|apply And.intro|intro _));refine zhR _ ?_;refine Hq rfl (zhE _ ?_))
  |((all_goals (refine Dy false [] (fun k=>k) (fun _ _=>rfl) ?_ (by decide) ?_ hS ?_;(focus (simp only [go_sem,Az,Bv,Ay,F0,List.append_assoc,List.singleton_append]<;>first|done|rfl|(simp;done)|(simp [Aq];done)));(focus (first|(simp only [go_sem,Az,Bv,Ay,F0];done)|rfl|(simp [Kq,look];done)))));(all_goals (rintro v m ⟨hR,hm⟩;subst hR;subst hm));(all_goals (refine And.intro ?_ (And.intro ?_ (And.intro ?_ ?_));iterate 3 (focus (first|rfl|(simp only [go_sem,Az,Bv,Ay,F0];done)|(simp [go_sem,look,Az,Bv,Ay,F0];done)))));(all_goals simp only [go_sem,Az,Bv,Ay,F0]);(all_goals repeat' (first|apply And.intro|intro _)))
  |refine Bq fun zN zM zhN zhM=>?_
  |(refine Bj ?_ ?_;focus (first|rfl|(simp [go_sem,Az,Bv,Ay,F0];done)))
  |(refine Bz ?_ ?_;focus (first|rfl|(simp [go_sem,Az,Bv,Ay,F0];done)))
theorem f1x (key:List UInt8) (hk:key.length=32) (n:UInt64) (ch h b:List UInt8) (hc:ch.length=32) (hh:h.length=32) (ex:Bool) (e:Int) (he:¬e=0) (hU:CtM Tryd.prog 11 [.w (.one (.pl (.b true))),.w (.agg (Az true key n)),.w (.one (.pl (.R false 1 (Aw h)))),.w (.one (.pl (.R ex 1 (Aw b))))] [] (n0p false z32 0 [] e)):
 CtM Tryd.prog 6 [.w (.one (.pl (.b true))),.w (.agg (Bv true key n ch h)),.w (.one (.pl (.R ex 1 (Aw b))))] [(1000001,⟨false,[.pl (.u32 1779033703),.pl (.u32 3144134277),.pl (.u32 1013904242),.pl (.u32 2773480762),.pl (.u32 1359893119),.pl (.u32 2600822924),.pl (.u32 528734635),.pl (.u32 1541459225)]⟩)] (Told (j0x (Bv false z32 0 z32 z32) [] e)):=by
 have hc1:=Cz (has:=true) (n:=n) hk
 have hc2:=Cz (has:=false) (n:=0) Ay
 have hch:chunks 1 32 (h.map PL.u8)=Aw h:=Ew hh
 have F0:=And.intro hc<|And.intro hh<|And.intro hk<|And.intro hch<|he
 refine CtM.k Tryd.func6 rfl Tryd.ntmps6 (congrArg Array.toList Tryd.results6) (by simp) fun w0 ro may fx=>?_
 refine Dx fun zZ zhZ=>?_
 refine Dz fun zK zhK=>?_
 simp only [go_sem,Az,Bv,Ay,F0]
 repeat' (first|apply And.intro|intro _)
 refine zhK _ ?_
 refine Bq fun zN zM zhN zhM=>?_
 refine Zj (id:=1) mixed fun zE zhE=>?_
 refine Cj (p:=0) 14 [13,14,15,16,17,18,19,12,20,21,22,9,10] [0,0,2,0,8,0,63,127,255,255,255,0,2559,7167,16383] [(9,12),(10,12)] rfl (by kernel_rfl) rfl (by simp only [go_sem]) fun zR zK zhR zhK=>?_
 simp only [go_sem,Az,Bv,Ay,F0]
 repeat' (first|apply And.intro|intro _)
 all_goals (refine Fy (fun k=>k) (.tup [.agg (Az false z32 0),.one (.pl (.R false 1 (Aw ([]:List UInt8)))),.one (.pl (.i e))]) [] (fun _ _=>rfl) ?_ ?_ ?_ hU ?_ ?_;(iterate 2 (focus (first|rfl|(simp only [go_sem,Az,Bv,Ay,F0]<;>first|done|rfl|simp))));(first|kernel_rfl|rfl|simp [h0y,i0r,pls]))
 all_goals try (refine And.intro ?_ (And.intro ?_ (And.intro ?_ ?_))<;>(first|rfl|(simp only [go_sem,Az,Bv,Ay,F0];done)|(simp [go_sem,look,Az,Bv,Ay,F0];done)))
 all_goals (try simp only [go_sem,Az,Bv,Ay,F0])
 all_goals (try simp only [go_sem,Az,Bv,Ay,F0])
 all_goals repeat' (first|apply And.intro|intro _)
 refine zhK _ _ ?_ (zhR _ ?_)
 focus (first|trivial|(simp only [go_sem];done)|(simp only [go_sem];simp;done)|(simp only [go_sem];simp;simp only [go_sem]))
 refine Dw 1 15 rfl (by kernel_rfl) rfl rfl fun zR zhR=>?_
 simp only [go_sem,Az,Bv,Ay,F0]
 repeat' (first|apply And.intro|intro _)
 refine zhR _ ?_
 refine Hq rfl (zhE _ ?_)
 refine zhN _ ?_;clear zhN zhM
 refine Bq fun zN zM zhN zhM=>?_
 refine Dz fun zK zhK=>?_
 simp only [go_sem,Az,Bv,Ay,F0]
 repeat' (first|apply And.intro|intro _)
 refine zhK _ ?_
 (refine Bz ?_ ?_;focus (first|rfl|(simp [go_sem,Az,Bv,Ay,F0];done)))
 refine Dz fun zK zhK=>?_
 simp only [go_sem,Az,Bv,Ay,F0]
 repeat' (first|apply And.intro|intro _)
 refine zhK _ ?_
 refine Ck ?_
 refine zhM _ _ ?_;clear zhN zhM
 refine zhZ _ _ ?_
 simp only [go_sem,Az,Bv,Ay,F0]
 all_goals (exact Xy (st:=false) (key:=z32) (n:=0) (ch:=z32) (h:=z32))
theorem n1e (key:List UInt8) (hk:key.length=32) (n:UInt64) (ch h b:List UInt8) (hc:ch.length=32) (hh:h.length=32) (ex:Bool) (out:List UInt8) (hb:b.length≤140737488351232) (hU:CtM Tryd.prog 11 [.w (.one (.pl (.b true))),.w (.agg (Az true key n)),.w (.one (.pl (.R false 1 (Aw h)))),.w (.one (.pl (.R ex 1 (Aw b))))] [] (s1e true key (n+1) out)):
 CtM Tryd.prog 6 [.w (.one (.pl (.b true))),.w (.agg (Bv true key n ch h)),.w (.one (.pl (.R ex 1 (Aw b))))] [(1000001,⟨false,[.pl (.u32 1779033703),.pl (.u32 3144134277),.pl (.u32 1013904242),.pl (.u32 2773480762),.pl (.u32 1359893119),.pl (.u32 2600822924),.pl (.u32 528734635),.pl (.u32 1541459225)]⟩)] (Told (y1e (.pl (.b true)::(Aq key++.pl (.u64 (n+1))::Aq (ch++Bk.g0r (h++b)))) out)):=by
 have hc1:=Cz (has:=true) (n:=n) hk
 have hc2:=Cz (has:=true) (n:=n+1) hk
 have hch:chunks 1 32 (h.map PL.u8)=Aw h:=Ew hh
 obtain ⟨z,hz⟩: ∃ z,Bk.g0r (h++b)=z:=⟨_,rfl⟩
 have hzl:z.length=32:=by rw [←hz];exact Bk.Jk _
 have hS:=(d0r true key (n+1) ch h b hk hc hh hb).told
 rw [hz] at hS ⊢
 have hch2:chunks 1 out.length (out.map PL.u8)=Aw out:=Ew rfl
 have F0:=And.intro hc<|And.intro hh<|And.intro hk<|And.intro hzl<|And.intro hch<|hch2
 refine CtM.k Tryd.func6 rfl Tryd.ntmps6 (congrArg Array.toList Tryd.results6) (by simp) fun w0 ro may fx=>?_
 refine Dx fun zZ zhZ=>?_
 iterate 23 first
  |(refine Dz fun zK zhK=>?_;simp only [go_sem,Az,Bv,Ay,F0];(repeat' (first|apply And.intro|intro _)))
  |refine zhK _ ?_
  |(refine zhN _ ?_;clear zhN zhM)
  |refine Cq ?_
  |refine Ck ?_
  |(refine zhM _ _ ?_;clear zhN zhM)
  |(refine zhZ _ _ ?_;simp only [go_sem,Az,Bv,Ay,F0];(all_goals (first|exact g0w (st:=true) (key:=key) (n:=n+1) (ch:=ch) (h:=z) (l:=out) rfl (by simp [look]))))
  |(refine Zj (id:=1) mixed fun zE zhE=>?_;refine Cj (p:=0) 14 [13,14,15,16,17,18,19,12,20,21,22,9,10] [0,0,2,0,8,0,63,127,255,255,255,0,2559,7167,16383] [(9,12),(10,12)] rfl (by kernel_rfl) rfl (by simp only [go_sem]) fun zR zK zhR zhK=>?_;simp only [go_sem,Az,Bv,Ay,F0];(repeat' (first|apply And.intro|intro _));(all_goals (refine Fy (fun _=>16) (.tup [.agg (Az true key (n+1)),.one (.s 0 [] out.length 1),.one (.pl (.i 0))]) [(0,⟨true,Aq out⟩)] (fun _ _=>rfl) ?_ ?_ ?_ hU ?_ ?_;(iterate 2 (focus (first|rfl|(simp only [go_sem,Az,Bv,Ay,F0]<;>first|done|rfl|simp))));(first|kernel_rfl|rfl|simp [h0y,i0r,pls])));(all_goals try (refine And.intro ?_ (And.intro ?_ (And.intro ?_ ?_))<;>(first|rfl|(simp only [go_sem,Az,Bv,Ay,F0];done)|(simp [go_sem,look,Az,Bv,Ay,F0];done))));(all_goals (try simp only [go_sem,Az,Bv,Ay,F0]));(all_goals (try simp only [go_sem,Az,Bv,Ay,F0]));(all_goals repeat' (first|apply And.intro|intro _));refine zhK _ _ ?_ (zhR _ ?_);(focus (first|trivial|(simp only [go_sem];done)|(simp only [go_sem];simp;done)|(simp only [go_sem];simp;simp only [go_sem])));refine Dw 1 15 rfl (by kernel_rfl) rfl rfl fun zR zhR=>?_;simp only [go_sem,Az,Bv,Ay,F0];(repeat' (first|apply And.intro|intro _));refine zhR _ ?_;refine Hq rfl (zhE _ ?_))
  |((all_goals (refine Dy false [] (fun k=>k) (fun _ _=>rfl) ?_ (by decide) ?_ hS ?_;(focus (simp only [go_sem,Az,Bv,Ay,F0,List.append_assoc,List.singleton_append]<;>first|done|rfl|(simp;done)|(simp [Aq];done)));(focus (first|(simp only [go_sem,Az,Bv,Ay,F0];done)|rfl|(simp [Kq,look];done)))));(all_goals (rintro v m ⟨hR,hm⟩;subst hR;subst hm));(all_goals (refine And.intro ?_ (And.intro ?_ (And.intro ?_ ?_));iterate 3 (focus (first|rfl|(simp only [go_sem,Az,Bv,Ay,F0];done)|(simp [go_sem,look,Az,Bv,Ay,F0];done)))));(all_goals simp only [go_sem,Az,Bv,Ay,F0]);(all_goals repeat' (first|apply And.intro|intro _)))
  |refine Bq fun zN zM zhN zhM=>?_
  |(refine Bj ?_ ?_;focus (first|rfl|(simp [go_sem,Az,Bv,Ay,F0];done)))
  |(refine Bz ?_ ?_;focus (first|rfl|(simp [go_sem,Az,Bv,Ay,F0];done)))
theorem f1y (key:List UInt8) (hk:key.length=32) (n:UInt64) (ch h b:List UInt8) (hc:ch.length=32) (hh:h.length=32) (ex:Bool) (hb:b.length≤140737488351232) (hU:CtM Tryd.prog 11 [.w (.one (.pl (.b true))),.w (.agg (Az true key n)),.w (.one (.pl (.R false 1 (Aw h)))),.w (.one (.pl (.R ex 1 (Aw b))))] [] (n0p true key (n+1) [] 0)):
 CtM Tryd.prog 6 [.w (.one (.pl (.b true))),.w (.agg (Bv true key n ch h)),.w (.one (.pl (.R ex 1 (Aw b))))] [(1000001,⟨false,[.pl (.u32 1779033703),.pl (.u32 3144134277),.pl (.u32 1013904242),.pl (.u32 2773480762),.pl (.u32 1359893119),.pl (.u32 2600822924),.pl (.u32 528734635),.pl (.u32 1541459225)]⟩)] (Told (j0x (Bv true key (n+1) ch (Bk.g0r (h++b))) [] 0)):=by
 have hc1:=Cz (has:=true) (n:=n) hk
 have hc2:=Cz (has:=true) (n:=n+1) hk
 have hch:chunks 1 32 (h.map PL.u8)=Aw h:=Ew hh
 obtain ⟨z,hz⟩: ∃ z,Bk.g0r (h++b)=z:=⟨_,rfl⟩
 have hzl:z.length=32:=by rw [←hz];exact Bk.Jk _
 have hS:=(d0r true key (n+1) ch h b hk hc hh hb).told
 rw [hz] at hS ⊢
 have F0:=And.intro hc<|And.intro hh<|And.intro hk<|And.intro hzl<|hch
 refine CtM.k Tryd.func6 rfl Tryd.ntmps6 (congrArg Array.toList Tryd.results6) (by simp) fun w0 ro may fx=>?_
 refine Dx fun zZ zhZ=>?_
 iterate 23 first
  |(refine Dz fun zK zhK=>?_;simp only [go_sem,Az,Bv,Ay,F0];(repeat' (first|apply And.intro|intro _)))
  |refine zhK _ ?_
  |(refine zhN _ ?_;clear zhN zhM)
  |refine Cq ?_
  |refine Ck ?_
  |(refine zhM _ _ ?_;clear zhN zhM)
  |(refine zhZ _ _ ?_;simp only [go_sem,Az,Bv,Ay,F0];(all_goals (first|exact Xy (st:=true) (key:=key) (n:=n+1) (ch:=ch) (h:=z))))
  |(refine Zj (id:=1) mixed fun zE zhE=>?_;refine Cj (p:=0) 14 [13,14,15,16,17,18,19,12,20,21,22,9,10] [0,0,2,0,8,0,63,127,255,255,255,0,2559,7167,16383] [(9,12),(10,12)] rfl (by kernel_rfl) rfl (by simp only [go_sem]) fun zR zK zhR zhK=>?_;simp only [go_sem,Az,Bv,Ay,F0];(repeat' (first|apply And.intro|intro _));(all_goals (refine Fy (fun k=>k) (.tup [.agg (Az true key (n+1)),.one (.pl (.R false 1 (Aw ([]:List UInt8)))),.one (.pl (.i 0))]) [] (fun _ _=>rfl) ?_ ?_ ?_ hU ?_ ?_;(iterate 2 (focus (first|rfl|(simp only [go_sem,Az,Bv,Ay,F0]<;>first|done|rfl|simp))));(first|kernel_rfl|rfl|simp [h0y,i0r,pls])));(all_goals try (refine And.intro ?_ (And.intro ?_ (And.intro ?_ ?_))<;>(first|rfl|(simp only [go_sem,Az,Bv,Ay,F0];done)|(simp [go_sem,look,Az,Bv,Ay,F0];done))));(all_goals (try simp only [go_sem,Az,Bv,Ay,F0]));(all_goals (try simp only [go_sem,Az,Bv,Ay,F0]));(all_goals repeat' (first|apply And.intro|intro _));refine zhK _ _ ?_ (zhR _ ?_);(focus (first|trivial|(simp only [go_sem];done)|(simp only [go_sem];simp;done)|(simp only [go_sem];simp;simp only [go_sem])));refine Dw 1 15 rfl (by kernel_rfl) rfl rfl fun zR zhR=>?_;simp only [go_sem,Az,Bv,Ay,F0];(repeat' (first|apply And.intro|intro _));refine zhR _ ?_;refine Hq rfl (zhE _ ?_))
  |((all_goals (refine Dy false [] (fun k=>k) (fun _ _=>rfl) ?_ (by decide) ?_ hS ?_;(focus (simp only [go_sem,Az,Bv,Ay,F0,List.append_assoc,List.singleton_append]<;>first|done|rfl|(simp;done)|(simp [Aq];done)));(focus (first|(simp only [go_sem,Az,Bv,Ay,F0];done)|rfl|(simp [Kq,look];done)))));(all_goals (rintro v m ⟨hR,hm⟩;subst hR;subst hm));(all_goals (refine And.intro ?_ (And.intro ?_ (And.intro ?_ ?_));iterate 3 (focus (first|rfl|(simp only [go_sem,Az,Bv,Ay,F0];done)|(simp [go_sem,look,Az,Bv,Ay,F0];done)))));(all_goals simp only [go_sem,Az,Bv,Ay,F0]);(all_goals repeat' (first|apply And.intro|intro _)))
  |refine Bq fun zN zM zhN zhM=>?_
  |(refine Bj ?_ ?_;focus (first|rfl|(simp [go_sem,Az,Bv,Ay,F0];done)))
  |(refine Bz ?_ ?_;focus (first|rfl|(simp [go_sem,Az,Bv,Ay,F0];done)))
end Go.Sy
namespace Go.Sy
open Go.Proofs
attribute [local irreducible] Fz HT Cw Oj onC onE onO onG goV goA goS Qv Ey
theorem f1r {k:Nat} {c:List PL} {st:Bool} {key:List UInt8} {n:UInt64} {ch h:List UInt8}:k0s k c (.agg (.pl (.b st)::(Aq key++.pl (.u64 n)::Aq (ch++h))))=.agg (.pl (.b st)::(Aq key++.pl (.u64 n)::Aq (ch++h))):=by
 rw [k0s,z0s]
theorem q0h {st:Bool} {key:List UInt8} {n:UInt64} {ch h l:List UInt8} (v:V) (m:List (Nat×Ob)) (hq:y1e (.pl (.b st)::(Aq key++.pl (.u64 n)::Aq (ch++h))) l v m):Told (j0x (.pl (.b st)::(Aq key++.pl (.u64 n)::Aq (ch++h))) l 0) v m:=by
 obtain ⟨rfl,rfl⟩:=hq
 have hk:look [(0,(⟨true,Aq l⟩:Ob))] 0=some ⟨true,Aq l⟩:=rfl
 refine b0f 0 (l.map .u8) (by rw [hk,Yy]) (by decide) ?_
 simp only [o0o,List.map_cons,List.map_nil,f1r]
 simp only [k0s,b0h rfl,l0h]
 exact told_plain j0e ⟨rfl,rfl⟩
abbrev f2l :=(Bool×List UInt8×UInt64×List UInt8×List UInt8)×List UInt8×Int
def s0b (ch h:List UInt8) (r:(Bool×List UInt8×UInt64)×List UInt8×Int) (m:List UInt8):f2l:=
 if r.2.2=0 then ((r.1.1,r.1.2.1,r.1.2.2,ch,Bk.g0r (h++m)),r.2.1,0) else ((false,z32,0,z32,z32),[],r.2.2)
def z1s (r:f2l):V→List (Nat×Ob)→Prop:=j0x (Bv r.1.1 r.1.2.1 r.1.2.2.1 r.1.2.2.2.1 r.1.2.2.2.2) r.2.1 r.2.2
theorem i0z {st:Bool} {key:List UInt8} {n:UInt64} {ch h:List UInt8}:Bv st key n ch h=(.pl (.b st)::(Aq key++.pl (.u64 n)::Aq (ch++h))):=by
 rw [Bv,i0f]
theorem z0p {ch h m:List UInt8} {r:(Bool×List UInt8×UInt64)×List UInt8×Int} (hc:ch.length=32) (hr:r.1.2.1.length=32):(s0b ch h r m).1.2.1.length=32∧(s0b ch h r m).1.2.2.2.1.length=32∧(s0b ch h r m).1.2.2.2.2.length=32:=by
 unfold s0b
 split
 · exact ⟨hr,hc,Bk.Jk _⟩
 · exact ⟨rfl,rfl,rfl⟩
theorem l0c {has:Bool} {key:List UInt8} {n:UInt64} {b out:List UInt8} {e:Int} (h:Fv has key n=9):c0e has key n b out e=((false,z32,0),[],9):=if_pos h
theorem l0b {b out:List UInt8} {e:Int} (h:800<b.length):c0e false z32 0 b out e=((false,z32,0),[],1):=by
 rw [c0e,if_neg (by rw [Dk];decide),if_pos rfl,if_pos h]
theorem g0t {b out:List UInt8} {e:Int} (h:¬800<b.length):c0e false z32 0 b out e=((false,z32,0),b,0):=by
 rw [c0e,if_neg (by rw [Dk];decide),if_pos rfl,if_neg h]
theorem l0v {key:List UInt8} {n:UInt64} {b out:List UInt8} (h:¬n=18446744073709551615):c0e true key n b out 0=((true,key,n+1),out,0):=by
 rw [c0e,if_neg (by rw [Aj];decide),if_neg (by decide),if_neg h,if_pos rfl]
theorem l0a {key:List UInt8} {n:UInt64} {b out:List UInt8} {e:Int} (h:n=18446744073709551615∨¬e=0): ∃ e2,¬e2=0∧c0e true key n b out e=((false,z32,0),[],e2):=by
 rw [c0e,if_neg (by rw [Aj];decide),if_neg (by decide)]
 by_cases g:n=18446744073709551615
 · rw [if_pos g];exact ⟨11,by decide,rfl⟩
 · rw [if_neg g,if_neg (h.resolve_left g)];exact ⟨e,h.resolve_left g,rfl⟩
theorem a1i {key nonce ad b:List UInt8} (h:Rq key nonce ad b=0):ad.length≤200∧b.length≤816∧¬b.length<16∧j0w key nonce ad (b.take (b.length-16))=b.drop (b.length-16):=by
 unfold Rq at h
 by_cases h1:200<ad.length
 · rw [if_pos h1] at h;cases h
 · by_cases h2:816<b.length
   · rw [if_neg h1,if_pos h2] at h;cases h
   · by_cases h3:b.length<16
     · rw [if_neg h1,if_neg h2,if_pos h3] at h;cases h
     · by_cases h4:j0w key nonce ad (b.take (b.length-16))=b.drop (b.length-16)
       · exact ⟨Nat.le_of_not_lt h1,Nat.le_of_not_lt h2,h3,h4⟩
       · rw [if_neg h1,if_neg h2,if_neg h3,if_neg h4] at h;cases h
theorem r1k {ad b:List UInt8} (h:slE ad b=0):ad.length≤200∧b.length≤800:=by
 unfold slE at h
 by_cases h1:200<ad.length
 · rw [if_pos h1] at h;cases h
 · by_cases h2:800<b.length
   · rw [if_neg h1,if_pos h2] at h;cases h
   · exact ⟨Nat.le_of_not_lt h1,Nat.le_of_not_lt h2⟩
theorem d2t (has:Bool) (key:List UInt8) (n:UInt64) (ch h b:List UInt8) (hk:key.length=32) (hc:ch.length=32) (hh:h.length=32) (ex:Bool) (hb:b.length≤140737488351232):CtM Tryd.prog 4 [.w (.agg (Bv has key n ch h)),.w (.one (.pl (.R ex 1 (Aw b))))] [(1000000,⟨false,[.pl (.u32 1779033703),.pl (.u32 3144134277),.pl (.u32 1013904242),.pl (.u32 2773480762),.pl (.u32 1359893119),.pl (.u32 2600822924),.pl (.u32 528734635),.pl (.u32 1541459225)]⟩),(1000002,⟨false,Bk.f0q⟩)] (z1s (s0b ch h (c0e has key n b (slB key (Ej n) h b) (slE h b)) (c0e has key n b (slB key (Ej n) h b) (slE h b)).2.1)):=by
 rcases Tk has key n with hf|⟨rfl,rfl,rfl⟩|rfl
 · rw [l0c hf]
   exact (s1z has key hk n ch h b hc hh ex hf).told
 · by_cases g:800<b.length
   · rw [l0b g]
     exact (s1y ch h b hc hh ex g).told
   · rw [g0t g]
     exact (m1n ch h b hc hh ex g).told
 · by_cases g:n=18446744073709551615∨¬slE h b=0
   · have hU:=c2w true key hk n h b false ex|>.told
     obtain ⟨e2,he,hq⟩:=l0a (b:=b) (key:=key) (out:=slB key (Ej n) h b) g
     rw [hq] at hU ⊢
     rw [s0b,if_neg he]
     exact (s1x key hk n ch h b hc hh ex e2 he hU).told
   · have g1:¬n=18446744073709551615:=fun q=>g (.inl q)
     have g2:slE h b=0:=Decidable.byContradiction fun q=>g (.inr q)
     obtain ⟨h1,h2⟩:=r1k g2
     rw [slB,if_pos g2,g2,l0v g1]
     have hl:(slV key (Ej n) h b).length≤140737488351232:=by rw [f1n];omega
     exact (((z1v key hk n ch h b hc hh ex g1 (slV key (Ej n) h b) hl (z0t key (Ej n) h b hk (Gy n) false ex h1 h2).told).told).mono fun v m q=>by rw [s0b,if_pos rfl];show Told (j0x (Bv _ _ _ _ _) _ _) v m;rw [i0z];exact q0h v m q).told
theorem d2u (has:Bool) (key:List UInt8) (n:UInt64) (ch h b:List UInt8) (hk:key.length=32) (hc:ch.length=32) (hh:h.length=32) (ex:Bool) (hb:b.length≤140737488351232):CtM Tryd.prog 5 [.w (.agg (Bv has key n ch h)),.w (.one (.pl (.R ex 1 (Aw b))))] [(1000000,⟨false,[.pl (.u32 1779033703),.pl (.u32 3144134277),.pl (.u32 1013904242),.pl (.u32 2773480762),.pl (.u32 1359893119),.pl (.u32 2600822924),.pl (.u32 528734635),.pl (.u32 1541459225)]⟩),(1000002,⟨false,Bk.f0q⟩)] (z1s (s0b ch h (c0e has key n b (Zq key (Ej n) h b) (Rq key (Ej n) h b)) b)):=by
 rcases Tk has key n with hf|⟨rfl,rfl,rfl⟩|rfl
 · rw [l0c hf]
   exact (t1g has key hk n ch h b hc hh ex hf).told
 · by_cases g:800<b.length
   · rw [l0b g]
     exact (t1f ch h b hc hh ex g).told
   · rw [g0t g]
     exact (m1p ch h b hc hh ex g).told
 · by_cases g:n=18446744073709551615∨¬Rq key (Ej n) h b=0
   · have hU:=c2x true key hk n h b false ex (by omega)|>.told
     obtain ⟨e2,he,hq⟩:=l0a (b:=b) (key:=key) (out:=Zq key (Ej n) h b) g
     rw [hq] at hU ⊢
     rw [s0b,if_neg he]
     exact (t1e key hk n ch h b hc hh ex e2 he hU).told
   · have g1:¬n=18446744073709551615:=fun q=>g (.inl q)
     have g2:Rq key (Ej n) h b=0:=Decidable.byContradiction fun q=>g (.inr q)
     obtain ⟨h1,h2,h3,h4⟩:=a1i g2
     have hcap:b.length≤9223372036854775807:=by omega
     rw [Zq,if_pos g2,g2,l0v g1]
     exact (((z1x key hk n ch h b hc hh ex g1 (d0b key 1 (Ej n) (b.take (b.length-16))) hb (a1g key (Ej n) h b hk (Gy n) false ex h1 h2 h3 h4).told).told).mono fun v m q=>by rw [s0b,if_pos rfl];show Told (j0x (Bv _ _ _ _ _) _ _) v m;rw [i0z];exact q0h v m q).told
theorem a2d (has:Bool) (key:List UInt8) (n:UInt64) (ch h b:List UInt8) (hk:key.length=32) (hc:ch.length=32) (hh:h.length=32) (ex:Bool) (hb:b.length≤140737488351232):CtM Tryd.prog 6 [.w (.one (.pl (.b false))),.w (.agg (Bv has key n ch h)),.w (.one (.pl (.R ex 1 (Aw b))))] [(1000001,⟨false,[.pl (.u32 1779033703),.pl (.u32 3144134277),.pl (.u32 1013904242),.pl (.u32 2773480762),.pl (.u32 1359893119),.pl (.u32 2600822924),.pl (.u32 528734635),.pl (.u32 1541459225)]⟩)] (z1s (s0b ch h (c0e has key n b (slB key (Ej n) h b) (slE h b)) (c0e has key n b (slB key (Ej n) h b) (slE h b)).2.1)):=by
 rcases Tk has key n with hf|⟨rfl,rfl,rfl⟩|rfl
 · rw [l0c hf]
   exact (g1b has key hk n ch h b hc hh ex hf).told
 · by_cases g:800<b.length
   · rw [l0b g]
     exact (f1z ch h b hc hh ex g).told
   · rw [g0t g]
     exact (b1l ch h b hc hh ex g).told
 · by_cases g:n=18446744073709551615∨¬slE h b=0
   · have hU:=a2p true key hk n h b false ex _ _ (a2c key (Ej n) h b hk (Gy n) false ex)
     obtain ⟨e2,he,hq⟩:=l0a (b:=b) (key:=key) (out:=slB key (Ej n) h b) g
     rw [hq] at hU ⊢
     rw [s0b,if_neg he]
     exact (f1w key hk n ch h b hc hh ex e2 he hU).told
   · have g1:¬n=18446744073709551615:=fun q=>g (.inl q)
     have g2:slE h b=0:=Decidable.byContradiction fun q=>g (.inr q)
     obtain ⟨h1,h2⟩:=r1k g2
     rw [slB,if_pos g2,g2,l0v g1]
     have hl:(slV key (Ej n) h b).length≤140737488351232:=by rw [f1n];omega
     exact (((n1d key hk n ch h b hc hh ex (slV key (Ej n) h b) hl (m1y key hk n h b false ex g1 _ (s0z key (Ej n) h b hk (Gy n) false ex h1 h2).told).told).told).mono fun v m q=>by rw [s0b,if_pos rfl];show Told (j0x (Bv _ _ _ _ _) _ _) v m;rw [i0z];exact q0h v m q).told
theorem a2e (has:Bool) (key:List UInt8) (n:UInt64) (ch h b:List UInt8) (hk:key.length=32) (hc:ch.length=32) (hh:h.length=32) (ex:Bool) (hb:b.length≤140737488351232):CtM Tryd.prog 6 [.w (.one (.pl (.b true))),.w (.agg (Bv has key n ch h)),.w (.one (.pl (.R ex 1 (Aw b))))] [(1000001,⟨false,[.pl (.u32 1779033703),.pl (.u32 3144134277),.pl (.u32 1013904242),.pl (.u32 2773480762),.pl (.u32 1359893119),.pl (.u32 2600822924),.pl (.u32 528734635),.pl (.u32 1541459225)]⟩)] (z1s (s0b ch h (c0e has key n b (Zq key (Ej n) h b) (Rq key (Ej n) h b)) b)):=by
 rcases Tk has key n with hf|⟨rfl,rfl,rfl⟩|rfl
 · rw [l0c hf]
   exact (g1c has key hk n ch h b hc hh ex hf).told
 · by_cases g:800<b.length
   · rw [l0b g]
     exact (g1a ch h b hc hh ex g).told
   · rw [g0t g]
     exact (b1m ch h b hc hh ex g).told
 · by_cases g:n=18446744073709551615∨¬Rq key (Ej n) h b=0
   · have hU:=r1q true key hk n h b false ex _ _ (z1d key (Ej n) h b hk (Gy n) false ex (by omega))
     obtain ⟨e2,he,hq⟩:=l0a (b:=b) (key:=key) (out:=Zq key (Ej n) h b) g
     rw [hq] at hU ⊢
     rw [s0b,if_neg he]
     exact (f1x key hk n ch h b hc hh ex e2 he hU).told
   · have g1:¬n=18446744073709551615:=fun q=>g (.inl q)
     have g2:Rq key (Ej n) h b=0:=Decidable.byContradiction fun q=>g (.inr q)
     obtain ⟨h1,h2,h3,h4⟩:=a1i g2
     have hcap:b.length≤9223372036854775807:=by omega
     rw [Zq,if_pos g2,g2,l0v g1]
     by_cases h0:16<b.length
     · exact (((n1e key hk n ch h b hc hh ex (d0b key 1 (Ej n) (b.take (b.length-16))) hb (m1z key hk n h b false ex g1 _ (m1b key (Ej n) h b hk (Gy n) false ex h1 h2 h3 h4 h0).told).told).told).mono fun v m q=>by rw [s0b,if_pos rfl];show Told (j0x (Bv _ _ _ _ _) _ _) v m;rw [i0z];exact q0h v m q).told
     · have hz:d0b key 1 (Ej n) (b.take (b.length-16))=[]:=List.eq_nil_of_length_eq_zero (by rw [Ny,List.length_take];omega)
       have hU:=r1q true key hk n h b false ex _ _ (z1d key (Ej n) h b hk (Gy n) false ex (by omega))
       rw [Zq,if_pos g2,g2,l0v g1,hz] at hU
       rw [hz]
       exact (f1y key hk n ch h b hc hh ex hb hU).told
theorem u0j {st:Bool} {key:List UInt8} {n:UInt64} {ch h:List UInt8} (hk:key.length=32) (hc:ch.length=32) (hh:h.length=32):(Bv st key n ch h).map Uj=((Kd.b::(List.replicate 32 (Kd.int .u8)++(Kd.int .u64::(List.replicate 32 (Kd.int .u8)++(List.replicate 32 (Kd.int .u8))))):List Kd)).map some:=by
 have e:=c0m hk
 have e1:=c0m hc
 have e2:=c0m hh
 rw [Bv,List.map_cons,List.map_append,List.map_cons,List.map_append,e,e1,e2];rfl
theorem r1n {st:Bool} {key:List UInt8} {n:UInt64} {ch h:List UInt8} (hk:key.length=32) (hc:ch.length=32) (hh:h.length=32):f0m Tryd.prog 28 (Bv st key n ch h) (Bv st key n ch h)=some true:=by
 rw [ae28 (u0j hk hc hh) (u0j hk hc hh),Bv,r0l,n0d rfl,r0l,n0d rfl,u0s rfl];simp [eqL]
theorem m1g (has:Bool) (key:List UInt8) (n:UInt64) (ch h b:List UInt8) (hk:key.length=32) (hc:ch.length=32) (hh:h.length=32) (ex:Bool) (hb:b.length≤140737488351232):
 CtM Tryd.prog 3 [.w (.agg (Bv has key n ch h)),.w (.one (.pl (.R ex 1 (Aw b))))] [(1000000,⟨false,[.pl (.u32 1779033703),.pl (.u32 3144134277),.pl (.u32 1013904242),.pl (.u32 2773480762),.pl (.u32 1359893119),.pl (.u32 2600822924),.pl (.u32 528734635),.pl (.u32 1541459225)]⟩),(1000001,⟨false,[.pl (.u32 1779033703),.pl (.u32 3144134277),.pl (.u32 1013904242),.pl (.u32 2773480762),.pl (.u32 1359893119),.pl (.u32 2600822924),.pl (.u32 528734635),.pl (.u32 1541459225)]⟩),(1000002,⟨false,Bk.f0q⟩)] (Told (fun v m=>v=.w (.one (.pl (.b true)))∧m=[])):=by
 have hA:=d2t has key n ch h b hk hc hh ex hb
 have hB:=d2u has key n ch h b hk hc hh ex hb
 have hC:=a2d has key n ch h b hk hc hh ex hb
 have hD:=a2e has key n ch h b hk hc hh ex hb
 have hl1:=z0p (h:=h) (m:=(c0e has key n b (slB key (Ej n) h b) (slE h b)).2.1) hc (k0z (has:=has) (n:=n) (b:=b) (out:=slB key (Ej n) h b) (e:=slE h b) hk)
 have hl2:=z0p (h:=h) (m:=b) hc (k0z (has:=has) (n:=n) (b:=b) (out:=Zq key (Ej n) h b) (e:=Rq key (Ej n) h b) hk)
 generalize s0b ch h (c0e has key n b (slB key (Ej n) h b) (slE h b)) (c0e has key n b (slB key (Ej n) h b) (slE h b)).2.1=r1 at hA hC hl1
 generalize s0b ch h (c0e has key n b (Zq key (Ej n) h b) (Rq key (Ej n) h b)) b=r2 at hB hD hl2
 obtain ⟨⟨s1,k1,n1,c1,z1⟩,o1,e1⟩:=r1
 obtain ⟨⟨s2,k2,n2,c2,z2⟩,o2,e2⟩:=r2
 simp only [z1s,j0x,i0z] at hA hB hC hD
 simp only at hl1 hl2
 obtain ⟨hk1,hc1,hz1⟩:=hl1
 obtain ⟨hk2,hc2,hz2⟩:=hl2
 have hs1:=r1n (st:=s1) (n:=n1) hk1 hc1 hz1
 have hs2:=r1n (st:=s2) (n:=n2) hk2 hc2 hz2
 rw [i0z] at hs1 hs2
 have F0:=And.intro hk<|And.intro hc<|And.intro hh<|And.intro hk1<|And.intro hc1<|And.intro hz1<|And.intro hk2<|And.intro hc2<|And.intro hz2<|And.intro hs1<|hs2
 refine CtM.k Tryd.func3 rfl Tryd.ntmps3 (congrArg Array.toList Tryd.results3) (by simp) fun w0 ro may fx=>?_
 refine Dx fun zZ zhZ=>?_
 iterate 20 first
  |(refine Dz fun zK zhK=>?_;simp only [go_sem,Bv,F0];(repeat' (first|apply And.intro|intro _)))
  |refine zhK _ ?_
  |refine Ck ?_
  |(refine zhZ _ _ ?_;simp only [go_sem,Bv,F0];(all_goals (exact told_plain rfl ⟨rfl,rfl⟩)))
  |((all_goals refine Cy (fun k=>k) (fun _ _=>rfl) (by first|rfl|(simp only [go_sem,Bv,F0]<;>rfl)) ((w0d false false _ _).plain fun _ _ h=>h) ?_);(all_goals (rintro v m ⟨hR,hm⟩;subst hR;subst hm));(all_goals refine And.intro (by first|rfl|simp only [go_sem,Bv,F0]) (And.intro (by first|rfl|simp only [go_sem,Bv,F0]) ?_));(all_goals simp only [go_sem,Bv,F0]);(all_goals repeat' (first|apply And.intro|intro _)))
  |((all_goals (refine Dy false [] (fun k=>k) (fun _ _=>rfl) ?_ (by decide) ?_ hA ?_;iterate 2 (focus (first|rfl|(simp only [go_sem,Bv,F0]<;>first|done|rfl|simp)))));(all_goals (rintro v m ⟨hR,hm⟩;subst hR;subst hm));(all_goals (refine And.intro ?_ (And.intro ?_ (And.intro ?_ ?_));iterate 3 (focus (first|rfl|(simp only [go_sem,Bv,F0];done)|(simp [go_sem,look,Bv,F0];done)))));(all_goals (try simp only [go_sem,Bv,F0]));(all_goals (try simp only [go_sem,Bv,F0]));(all_goals repeat' (first|apply And.intro|intro _)))
  |((all_goals (refine Dy false [] (fun k=>k) (fun _ _=>rfl) ?_ (by decide) ?_ hB ?_;iterate 2 (focus (first|rfl|(simp only [go_sem,Bv,F0]<;>first|done|rfl|simp)))));(all_goals (rintro v m ⟨hR,hm⟩;subst hR;subst hm));(all_goals (refine And.intro ?_ (And.intro ?_ (And.intro ?_ ?_));iterate 3 (focus (first|rfl|(simp only [go_sem,Bv,F0];done)|(simp [go_sem,look,Bv,F0];done)))));(all_goals (try simp only [go_sem,Bv,F0]));(all_goals (try simp only [go_sem,Bv,F0]));(all_goals repeat' (first|apply And.intro|intro _)))
  |((all_goals (refine Dy false [] (fun k=>k) (fun _ _=>rfl) ?_ (by decide) ?_ hC ?_;iterate 2 (focus (first|rfl|(simp only [go_sem,Bv,F0]<;>first|done|rfl|simp)))));(all_goals (rintro v m ⟨hR,hm⟩;subst hR;subst hm));(all_goals (refine And.intro ?_ (And.intro ?_ (And.intro ?_ ?_));iterate 3 (focus (first|rfl|(simp only [go_sem,Bv,F0];done)|(simp [go_sem,look,Bv,F0];done)))));(all_goals (try simp only [go_sem,Bv,F0]));(all_goals (try simp only [go_sem,Bv,F0]));(all_goals repeat' (first|apply And.intro|intro _)))
  |((all_goals (refine Dy false [] (fun k=>k) (fun _ _=>rfl) ?_ (by decide) ?_ hD ?_;iterate 2 (focus (first|rfl|(simp only [go_sem,Bv,F0]<;>first|done|rfl|simp)))));(all_goals (rintro v m ⟨hR,hm⟩;subst hR;subst hm));(all_goals (refine And.intro ?_ (And.intro ?_ (And.intro ?_ ?_));iterate 3 (focus (first|rfl|(simp only [go_sem,Bv,F0];done)|(simp [go_sem,look,Bv,F0];done)))));(all_goals (try simp only [go_sem,Bv,F0]));(all_goals (try simp only [go_sem,Bv,F0]));(all_goals repeat' (first|apply And.intro|intro _)))
theorem v0x (has:Bool) (key:List UInt8) (n:UInt64) (ch h b:List UInt8) (hk:key.length=32) (hc:ch.length=32) (hh:h.length=32) (ex:Bool) (hb:b.length≤140737488351232):CtM Tryd.prog 3 [.w (.agg (Bv has key n ch h)),.w (.one (.pl (.R ex 1 (Aw b))))] (u0p [(1000000,Bk.f0t.map PL.u32),(1000001,Bk.f0t.map PL.u32),(1000002,Bk.y1g.flatten.map PL.i)]) (Told (fun v m=>v=.w (.one (.pl (.b true)))∧m=[])):=m1g has key n ch h b hk hc hh ex hb
end Go.Sy
