/- Walks and what they compute. CONDITIONS: those that each theorem names. -/
import Derived.Test.YtlmbdhfkdhjcfaaDoorvS6
import Derived.Test.YtlmbdhfkdhjcfaaDoorvS7
import Derived.Test.YtlmbdhfkdhjcfaaDoorvS8
set_option linter.unusedVariables false
set_option linter.unusedSimpArgs false
set_option maxHeartbeats 1600000
set_option maxRecDepth 100000
namespace Go.Sy
namespace Bk
open Go.Proofs
attribute [local irreducible] Dv HT Cz Px onC onE onO onG goV goA goS Qx Dw
theorem t1t (h0 h1 h2 h3 h4 h5 h6 h7:UInt32) (held:List UInt8) (hh:held.length=64) (k l:Nat) (hok:HashOk held (k:Int) (l:Int)):
 CtM Tryd.prog 73 [.w (.agg (Ak ⟨h0,h1,h2,h3,h4,h5,h6,h7⟩ held (k:Int) (l:Int)))] [(1000003,⟨false,[.pl (.u32 1779033703),.pl (.u32 3144134277),.pl (.u32 1013904242),.pl (.u32 2773480762),.pl (.u32 1359893119),.pl (.u32 2600822924),.pl (.u32 528734635),.pl (.u32 1541459225)]⟩),(1000004,⟨false,i0r⟩)] (Told (fun v m=>v=.tup [.agg (Az (g1b (e0t ⟨h0,h1,h2,h3,h4,h5,h6,h7⟩ held l true).l)),.one (.pl (.i 0))]∧m=[])):=by
 have he:=c0y hok
 have hb:=b0o hok
 have hl3:l≤1073741824:=by have:=hok.mx;omega
 obtain ⟨s,hs⟩: ∃ s,e0t ⟨h0,h1,h2,h3,h4,h5,h6,h7⟩ held l true=s:=⟨_,rfl⟩
 have hlsl:=s.ls_l
 have hl8:=s.l_length
 have hul:=h0t s.l
 rw [hl8] at hul
 have hsq:=y0f h0 h1 h2 h3 h4 h5 h6 h7 held hh (k:Int) l hl3 true
 rw [hs,hlsl] at hsq
 have F0:=And.intro hh<|And.intro he<|hul
 refine CtM.k Tryd.func73 rfl Tryd.ntmps73 (congrArg Array.toList Tryd.results73) (by simp) fun w0 ro may fx=>?_
 refine Dj fun zZ zhZ=>?_
 iterate 20 first
  |(refine Cx fun zK zhK=>?_;simp only [go_sem,Ak,H8.ls,F0];(repeat' (first|apply And.intro|intro _)))
  |refine zhK _ ?_
  |refine Cw ?_
  |(refine zhN _ ?_;clear zhN zhM)
  |refine Aj fun zB zbn zbx zbr zbi=>?_
  |((all_goals (refine Cq (fun k=>k) (fun _ _=>rfl) ?_ ((i0c h0 h1 h2 h3 h4 h5 h6 h7 held hh (k:Int) (l:Int)).plain fun _ _ h=>h) ?_;focus (first|rfl|(simp only [go_sem,Ak,H8.ls,F0]<;>rfl))));(all_goals (rintro v m ⟨hR,hm⟩;subst hR;subst hm));(all_goals refine And.intro (by first|rfl|simp only [go_sem,Ak,H8.ls,F0]) (And.intro (by first|rfl|simp only [go_sem,Ak,H8.ls,F0]) ?_));(all_goals simp only [go_sem,Ak,H8.ls,F0]);(all_goals repeat' (first|apply And.intro|intro _)))
  |((all_goals (refine Bq false [] (fun k=>k) (fun _ _=>rfl) ?_ (by decide) ?_ hsq.told ?_;iterate 2 (focus (first|rfl|(simp only [go_sem,Ak,H8.ls,F0]<;>first|done|rfl|simp)))));(all_goals (rintro v m ⟨hR,hm⟩;subst hR;subst hm));(all_goals (refine And.intro ?_ (And.intro ?_ (And.intro ?_ ?_));iterate 3 (focus (first|rfl|(simp only [go_sem,Ak,H8.ls,F0];done)|(simp [go_sem,look,Ak,H8.ls,F0];done)))));(all_goals (try simp only [go_sem,Ak,H8.ls,F0]));(all_goals (try simp only [go_sem,Ak,H8.ls,F0]));(all_goals repeat' (first|apply And.intro|intro _)))
  |refine Bz fun zN zM zhN zhM=>?_
  |(refine Cy ?_ ?_;focus (first|rfl|(simp [go_sem,Ak,H8.ls,F0];done)))
 refine Gv [0,1,4,8,9,10,11,12,13,14,15] ?_
 simp only [Gj,Iq,Gq,List.contains_cons,List.contains_nil,Nat.reduceBEq,beq_self_eq_true,Bool.or_false,Bool.or_true,Bool.true_or,Bool.false_or,Bool.false_eq_true,reduceIte]
 refine Jz (fun y=>[(16,.w (.one (.pl (.i ((y.1.1:Nat):Int)))))]) (fun y=>[(6,⟨false,Az y.1.2⟩)]) (fun y=>32-y.1.1) (⟨(0,List.replicate 32 0),Nat.zero_le _,by simp,rfl⟩:{y:Nat×List UInt8//y.1≤32∧y.2.length=32∧y.2.take y.1=(g1b s.l).take y.1}) ?_ ?_ ?_
 · (simp only [go_sem,leX,List.cons_append,List.nil_append];try simp)
 · (simp only [go_sem,leX,List.cons_append,List.nil_append];try simp)
 intro yy zN zM zhN zhM
 simp only [List.cons_append,List.nil_append]
 obtain ⟨⟨i,q⟩,hi,hq,hv⟩:=yy
 simp only at hi hq hv
 rcases Nat.lt_or_ge i 32 with hlt|hge
 · have hcq:((i:Nat):Int)<32:=by omega
   have hc0:(0:Int)≤((i:Nat):Int)∧(0:Int)≤((i/4:Nat):Int)∧((i/4:Nat):Int)<8∧(0:Int)≤((8*(i%4):Nat):Int)∧i+1≤32∧i/4+1≤8:=by omega
   have hdv:((i:Nat):Int).tdiv 4=((i/4:Nat):Int):=rfl
   have hmv:((i:Nat):Int).tmod 4=((i%4:Nat):Int):=rfl
   have hu1:=k0k (l:=s.l) (i:=i/4) (by omega)
   have hke:=t1p s i hlt
   obtain ⟨x,hx⟩: ∃ x,(g1b s.l).getD i 0=x:=⟨_,rfl⟩
   have hst:=k1i hq (f0c s) hlt hv
   rw [hx] at hke hst
   obtain ⟨hwd,hw8,hs1⟩:Go.RowKit.wrap64 ((i/4:Nat):Int)=((i/4:Nat):Int)∧Go.RowKit.wrap64 (8*((i%4:Nat):Int))=((8*(i%4):Nat):Int)∧Go.RowKit.wrap64 (((i:Nat):Int)+1)=((i+1:Nat):Int):=⟨Ny rfl (by omega),Ny (by omega) (by omega),Ny (by omega) (by omega)⟩
   have hput:Az (List.take i q)++[L.pl (PL.u8 x)]++Az (List.drop (i+1) q)=Az (q.take i++x::q.drop (i+1)):=by simp [Az]
   have n2:=r1u hq hlt x
   have F10:=And.intro hq<|And.intro hcq<|And.intro hc0<|And.intro hdv<|And.intro hmv<|And.intro hwd<|And.intro hw8<|And.intro hs1<|And.intro hu1<|And.intro hke<|hput
   iterate 16 first
    |refine zhK _ ?_
    |(refine Cx fun zK zhK=>?_;simp only [go_sem,Ak,H8.ls,F0,F10];(repeat' (first|apply And.intro|intro _)))
    |(refine zhN _ ?_;clear zhN zhM)
    |(refine Av fun zK zhK=>?_;simp only [go_sem,Ak,H8.ls,F0,F10];(repeat' (first|apply And.intro|intro _)))
    |refine Cw ?_
    |refine Aj fun zB zbn zbx zbr zbi=>?_
    |(refine zbn _ ?_;clear zbn zbx zbr zbi)
    |refine Bz fun zN zM zhN zhM=>?_
    |(refine Bv ?_ ?_;focus (first|rfl|(simp [go_sem,Ak,H8.ls,F0,F10];done)))
   refine zhN ⟨(i+1,q.take i++x::q.drop (i+1)),hlt,n2,hst⟩ _ ?_ ?_ ?_
   · (exact Nat.sub_lt_sub_left hlt (Nat.lt_succ_self i))
   · (simp only [go_sem,leX,List.cons_append,List.nil_append];try simp)
   · (simp only [go_sem,leX,List.cons_append,List.nil_append];try simp)
 · obtain rfl:i=32:=by omega
   have hcq:¬((32:Nat):Int)<32:=by omega
   have hqe:q=g1b s.l:=by rw [List.take_of_length_le (by omega),List.take_of_length_le (by rw [f0c];omega)] at hv;exact hv
   iterate 13 first
    |(refine Cx fun zK zhK=>?_;simp only [go_sem,Ak,H8.ls,F0,hq,hcq];(repeat' (first|apply And.intro|intro _)))
    |refine zhK _ ?_
    |(refine zhM _ _ ?_;clear zhN zhM)
    |refine Ey ?_
    |(refine zbx _ ?_;clear zbn zbx zbr zbi)
    |(refine zhN _ ?_;clear zhN zhM)
    |refine Dx ?_
    |(refine zhZ _ _ ?_;simp only [go_sem,Ak,H8.ls,F0,hq,hcq];(all_goals (exact told_plain (s0j _ _) ⟨by rw [hqe,hs],rfl⟩)))
    |refine Bz fun zN zM zhN zhM=>?_
    |(refine Cy ?_ ?_;focus (first|rfl|(simp [go_sem,Ak,H8.ls,F0,hq,hcq];done)))
theorem g1g (h0 h1 h2 h3 h4 h5 h6 h7:UInt32) (held:List UInt8) (hh:held.length=64) (k l:Nat) (hok:HashOk held (k:Int) (l:Int)):
 CtM Tryd.prog 67 [.w (.agg (Ak ⟨h0,h1,h2,h3,h4,h5,h6,h7⟩ held (k:Int) (l:Int)))] [(1000002,⟨false,[.pl (.u32 1779033703),.pl (.u32 3144134277),.pl (.u32 1013904242),.pl (.u32 2773480762),.pl (.u32 1359893119),.pl (.u32 2600822924),.pl (.u32 528734635),.pl (.u32 1541459225)]⟩)] (Told (fun v m=>v=.tup [.agg (Az (g1b (e0t ⟨h0,h1,h2,h3,h4,h5,h6,h7⟩ held l true).l)),.one (.pl (.i 0))]∧m=[])):=by
 have he:=c0y hok
 have hb:=b0o hok
 have hl3:l≤1073741824:=by have:=hok.mx;omega
 obtain ⟨s,hs⟩: ∃ s,e0t ⟨h0,h1,h2,h3,h4,h5,h6,h7⟩ held l true=s:=⟨_,rfl⟩
 obtain ⟨s0,s1,s2,s3,s4,s5,s6,s7⟩:=s
 have F0:=And.intro hh<|And.intro hb<|hs
 refine CtM.k Tryd.func67 rfl Tryd.ntmps67 (congrArg Array.toList Tryd.results67) (by simp) fun w0 ro may fx=>?_
 refine Dj fun zZ zhZ=>?_
 iterate 186 first
  |(refine Cv (x:=.seq (.region 6 _ _) _) [7,21,22,23,24,25,26,27,28] ?_;simp only [go_sem,St.forget,fgt];refine Fq fun zN zM zhN zhM=>?_)
  |refine Fq fun zN zM zhN zhM=>?_
  |refine zhK _ ?_
  |(refine zhN _ ?_;clear zhN zhM)
  |(refine Cx fun zK zhK=>?_;simp only [go_sem,Ak,H8.ls,Dq,F0];(repeat' (first|apply And.intro|intro _)))
  |(refine Av fun zK zhK=>?_;simp only [go_sem,Ak,H8.ls,Dq,F0];(repeat' (first|apply And.intro|intro _)))
  |refine Cw ?_
  |refine Aj fun zB zbn zbx zbr zbi=>?_
  |(refine zbn _ ?_;clear zbn zbx zbr zbi)
  |(refine zhM _ _ ?_;clear zhN zhM)
  |refine Fx (x:=.seq (.region 6 _ _) _) 9 ?_
  |refine Ey ?_
  |(refine zbx _ ?_;clear zbn zbx zbr zbi)
  |refine Dx ?_
  |(refine zhZ _ _ ?_;simp only [go_sem,Ak,H8.ls,Dq,F0];(all_goals (exact told_plain (s0j _ _) ⟨by simp [g1b,H8.l,List.append_assoc],rfl⟩)))
  |((all_goals refine Cq (fun k=>k) (fun _ _=>rfl) (by first|rfl|(simp only [go_sem,Ak,H8.ls,Dq,F0]<;>rfl)) ((d2a _ 4 (by decide)).plain fun _ _ h=>h) ?_);(all_goals (rintro v m ⟨hR,hm⟩;subst hR;subst hm));(all_goals refine And.intro (by first|rfl|simp only [go_sem,Ak,H8.ls,Dq,F0]) (And.intro (by first|rfl|simp only [go_sem,Ak,H8.ls,Dq,F0]) ?_));(all_goals simp only [go_sem,Ak,H8.ls,Dq,F0]);(all_goals repeat' (first|apply And.intro|intro _)))
  |((all_goals (refine Cq (fun k=>k) (fun _ _=>rfl) ?_ ((q0a h0 h1 h2 h3 h4 h5 h6 h7 held hh (k:Int) (l:Int)).plain fun _ _ h=>h) ?_;focus (first|rfl|(simp only [go_sem,Ak,H8.ls,Dq,F0]<;>rfl))));(all_goals (rintro v m ⟨hR,hm⟩;subst hR;subst hm));(all_goals refine And.intro (by first|rfl|simp only [go_sem,Ak,H8.ls,Dq,F0]) (And.intro (by first|rfl|simp only [go_sem,Ak,H8.ls,Dq,F0]) ?_));(all_goals simp only [go_sem,Ak,H8.ls,Dq,F0]);(all_goals repeat' (first|apply And.intro|intro _)))
  |(refine b0s (id:=5) mixed fun zE zhE=>?_;refine Ck (p:=0) 8 [13,14,15,16,17,18,19,20] [0,1,0,4,0,16,63,0] [] rfl (by kernel_rfl) rfl (by simp only [go_sem]) fun zR zK zhR zhK=>?_;simp only [go_sem,Ak,H8.ls,Dq,F0];(repeat' (first|apply And.intro|intro _));(all_goals (refine Bw (fun k=>k) _ [] (fun _ _=>rfl) ?_ ?_ ?_ (r0k h0 h1 h2 h3 h4 h5 h6 h7 held hh l hl3 true).told ?_ ?_;(iterate 2 (focus (first|rfl|(simp only [go_sem,Ak,H8.ls,Dq,F0]<;>first|done|rfl|simp))));(first|kernel_rfl|rfl|simp [Qv,Qk,pls])));(all_goals try (refine And.intro ?_ (And.intro ?_ (And.intro ?_ ?_))<;>(first|rfl|(simp only [go_sem,Ak,H8.ls,Dq,F0];done)|(simp [go_sem,look,Ak,H8.ls,Dq,F0];done))));(all_goals (try simp only [go_sem,Ak,H8.ls,Dq,F0]));(all_goals (try simp only [go_sem,Ak,H8.ls,Dq,F0]));(all_goals repeat' (first|apply And.intro|intro _));refine zhK _ _ trivial (zhR _ ?_);refine Jy rfl (zhE _ ?_))
  |((all_goals refine Cq (fun k=>k) (fun _ _=>rfl) (by first|rfl|(simp only [go_sem,Ak,H8.ls,Dq,F0]<;>rfl)) ((key_ _ (by first|rfl|simp [Dq])).plain fun _ _ h=>h) ?_);(all_goals (rintro v m ⟨hR,hm⟩;subst hR;subst hm));(all_goals refine And.intro (by first|rfl|simp only [go_sem,Ak,H8.ls,Dq,F0]) (And.intro (by first|rfl|simp only [go_sem,Ak,H8.ls,Dq,F0]) ?_));(all_goals simp only [go_sem,Ak,H8.ls,Dq,F0]);(all_goals repeat' (first|apply And.intro|intro _)))
  |refine Bz fun zN zM zhN zhM=>?_
  |(refine Bv ?_ ?_;focus (first|rfl|(simp [go_sem,Ak,H8.ls,Dq,F0];done)))
  |(refine Cy ?_ ?_;focus (first|rfl|(simp [go_sem,Ak,H8.ls,Dq,F0];done)))
end Bk
end Go.Sy
namespace Go.Sy
namespace Bk
open Go.Proofs
attribute [local irreducible] Dv HT Cz Px onC onE onO onG goV goA goS Qx Dw
theorem k1c {s:HSt} (c:UInt8) (h:s.done%64=0):(a0d s c).done%64=0∧¬(a0d s c).rest.length=0:=by
 unfold a0d
 split
 · exact ⟨by show (s.done+64)%64=0;omega,by simp⟩
 · exact ⟨h,by simp⟩
theorem j1j : ∀ {l:List UInt8} {s:HSt},s.done%64=0→(s.rest.length=0→s.done=0)→(Zx s l).done%64=0∧((Zx s l).rest.length=0→(Zx s l).done=0)
 | [],_,h,h2=>⟨h,h2⟩
 |c::l,s,h,_=>by
  obtain ⟨h3,h4⟩:=k1c (s:=s) c h
  exact j1j (l:=l) h3 (fun e=>absurd e h4)
def w1n :HSt:=⟨⟨0,0,0,0,0,0,0,0⟩,0,[]⟩
def h0b :HSt:=⟨(⟨(1779033703^^^16842784),3144134277,1013904242,2773480762,1359893119,2600822924,528734635,1541459225⟩:H8),0,[]⟩
def r0h (b:List UInt8):HSt:=if 1073741824<b.length then w1n else Zx h0b b
theorem Sv (l:List UInt8):Fj (.w (.agg (Az l)))=true:=k0x l
def w1b (b:List UInt8):Int:=if 1073741824<b.length then 1 else 0
def Yk (b:List UInt8):List UInt8:=g1b (e0t (r0h b).h (Ov (r0h b).rest) (r0h b).len true).l
theorem Iz (b:List UInt8):(Yk b).length=32:=f0c _
theorem p0a (b:List UInt8):(r0h b).ok:=by
 unfold r0h
 split
 · exact ⟨by decide,by decide,by decide,fun _=>rfl⟩
 · obtain ⟨h1,h2⟩:=j1j (l:=b) (s:=h0b) rfl (fun _=>rfl)
   obtain ⟨h3,h4⟩:=h0h (l:=b) (s:=h0b) (by decide)
   have h5:h0b.done=0∧h0b.rest.length=0:=⟨rfl,rfl⟩
   exact ⟨h3,by show (Zx h0b b).done+(Zx h0b b).rest.length≤_;omega,h1,h2⟩
theorem y0e :stB w1n=Ak ⟨0,0,0,0,0,0,0,0⟩ (List.replicate 64 0) 0 0:=rfl
theorem m1u (b:List UInt8) (hbl:b.length≤9223372036854775807) (ex:Bool):CtM Tryd.prog 71 [.w (.agg (Ak (⟨(1779033703^^^16842784),3144134277,1013904242,2773480762,1359893119,2600822924,528734635,1541459225⟩:H8) (List.replicate 64 0) 0 0)),.w (.one (.pl (.R ex 1 (Ej b))))] [(1000003,⟨false,[.pl (.u32 1779033703),.pl (.u32 3144134277),.pl (.u32 1013904242),.pl (.u32 2773480762),.pl (.u32 1359893119),.pl (.u32 2600822924),.pl (.u32 528734635),.pl (.u32 1541459225)]⟩),(1000004,⟨false,i0r⟩)] (Told (fun v m=>v=.tup [.agg (stB (r0h b)),.one (.pl (.i (w1b b)))]∧m=[])):=by
 have hok:HashOk (List.replicate 64 0) ((0:Nat):Int) ((0:Nat):Int):=i0q (s:=h0b) ⟨by decide,by decide,by decide,fun _=>rfl⟩
 by_cases h:1073741824<b.length
 · rw [r0h,w1b,if_pos h,if_pos h,y0e]
   exact g1m (1779033703^^^16842784) 3144134277 1013904242 2773480762 1359893119 2600822924 528734635 1541459225 (List.replicate 64 0) (by simp) 0 0 hok b (by omega) ex (by omega)
 · rw [r0h,w1b,if_neg h,if_neg h]
   exact a1y (1779033703^^^16842784) 3144134277 1013904242 2773480762 1359893119 2600822924 528734635 1541459225 (List.replicate 64 0) (by simp) 0 0 hok b (by omega) ex (by omega)
theorem a1w (b:List UInt8) (hbl:b.length≤9223372036854775807) (ex:Bool):CtM Tryd.prog 65 [.w (.agg (Ak (⟨(1779033703^^^16842784),3144134277,1013904242,2773480762,1359893119,2600822924,528734635,1541459225⟩:H8) (List.replicate 64 0) 0 0)),.w (.one (.pl (.R ex 1 (Ej b))))] [(1000002,⟨false,[.pl (.u32 1779033703),.pl (.u32 3144134277),.pl (.u32 1013904242),.pl (.u32 2773480762),.pl (.u32 1359893119),.pl (.u32 2600822924),.pl (.u32 528734635),.pl (.u32 1541459225)]⟩)] (Told (fun v m=>v=.tup [.agg (stB (r0h b)),.one (.pl (.i (w1b b)))]∧m=[])):=by
 have hok:HashOk (List.replicate 64 0) ((0:Nat):Int) ((0:Nat):Int):=i0q (s:=h0b) ⟨by decide,by decide,by decide,fun _=>rfl⟩
 by_cases h:1073741824<b.length
 · rw [r0h,w1b,if_pos h,if_pos h,y0e]
   exact v0k (1779033703^^^16842784) 3144134277 1013904242 2773480762 1359893119 2600822924 528734635 1541459225 (List.replicate 64 0) (by simp) 0 0 hok b (by omega) ex (by omega)
 · rw [r0h,w1b,if_neg h,if_neg h]
   exact t0e (1779033703^^^16842784) 3144134277 1013904242 2773480762 1359893119 2600822924 528734635 1541459225 (List.replicate 64 0) (by simp) 0 0 hok b (by omega) ex (by omega)
theorem m1q (b:List UInt8):CtM Tryd.prog 73 [.w (.agg (stB (r0h b)))] [(1000003,⟨false,[.pl (.u32 1779033703),.pl (.u32 3144134277),.pl (.u32 1013904242),.pl (.u32 2773480762),.pl (.u32 1359893119),.pl (.u32 2600822924),.pl (.u32 528734635),.pl (.u32 1541459225)]⟩),(1000004,⟨false,i0r⟩)] (Told (fun v m=>v=.tup [.agg (Az (Yk b)),.one (.pl (.i 0))]∧m=[])):=by
 have h:=p0a b
 unfold Yk
 obtain ⟨⟨⟨h0,h1,h2,h3,h4,h5,h6,h7⟩,d,r⟩,hs⟩: ∃ s,r0h b=s:=⟨_,rfl⟩
 rw [hs] at h ⊢
 exact t1t h0 h1 h2 h3 h4 h5 h6 h7 (Ov r) (Gx h.1) r.length _ (i0q h)
theorem a1v (b:List UInt8):CtM Tryd.prog 67 [.w (.agg (stB (r0h b)))] [(1000002,⟨false,[.pl (.u32 1779033703),.pl (.u32 3144134277),.pl (.u32 1013904242),.pl (.u32 2773480762),.pl (.u32 1359893119),.pl (.u32 2600822924),.pl (.u32 528734635),.pl (.u32 1541459225)]⟩)] (Told (fun v m=>v=.tup [.agg (Az (Yk b)),.one (.pl (.i 0))]∧m=[])):=by
 have h:=p0a b
 unfold Yk
 obtain ⟨⟨⟨h0,h1,h2,h3,h4,h5,h6,h7⟩,d,r⟩,hs⟩: ∃ s,r0h b=s:=⟨_,rfl⟩
 rw [hs] at h ⊢
 exact g1g h0 h1 h2 h3 h4 h5 h6 h7 (Ov r) (Gx h.1) r.length _ (i0q h)
theorem y0b (b:List UInt8) (hbl:b.length≤9223372036854775807) (ex:Bool):
 CtM Tryd.prog 61 [.w (.one (.pl (.R ex 1 (Ej b))))] [(1000003,⟨false,[.pl (.u32 1779033703),.pl (.u32 3144134277),.pl (.u32 1013904242),.pl (.u32 2773480762),.pl (.u32 1359893119),.pl (.u32 2600822924),.pl (.u32 528734635),.pl (.u32 1541459225)]⟩),(1000004,⟨false,i0r⟩)] (Told (fun v m=>v=.w (.agg (Az (Yk b)))∧m=[])):=by
 obtain ⟨⟨⟨q0,q1,q2,q3,q4,q5,q6,q7⟩,d,q⟩,hs⟩: ∃ s,r0h b=s:=⟨_,rfl⟩
 have hok:=p0a b
 rw [hs] at hok
 have hpq:=Gx (r:=q) hok.1
 have hkl:=Iz b
 have hA:=m1u b hbl ex
 rw [hs] at hA
 have hE:=m1q b
 rw [hs] at hE
 refine CtM.k Tryd.func61 rfl Tryd.ntmps61 (congrArg Array.toList Tryd.results61) (by simp) fun w0 ro may fx=>?_
 refine Dj fun zZ zhZ=>?_
 refine Cx fun zK zhK=>?_
 simp only [go_sem,stB,Ak,H8.ls,hpq,hkl]
 repeat' (first|apply And.intro|intro _)
 refine zhK _ ?_
 refine Cx fun zK zhK=>?_
 simp only [go_sem,stB,Ak,H8.ls,hpq,hkl]
 repeat' (first|apply And.intro|intro _)
 all_goals (refine Bq false [] (fun k=>k) (fun _ _=>rfl) ?_ (by decide) ?_ a2i.told ?_;iterate 2 (focus (first|rfl|(simp only [go_sem,stB,Ak,H8.ls,hpq,hkl]<;>first|done|rfl|simp))))
 all_goals (rintro v m ⟨hR,hm⟩;subst hR;subst hm)
 all_goals (refine And.intro ?_ (And.intro ?_ (And.intro ?_ ?_));iterate 3 (focus (first|rfl|(simp only [go_sem,stB,Ak,H8.ls,hpq,hkl];done)|(simp [go_sem,look,stB,Ak,H8.ls,hpq,hkl];done))))
 all_goals (try simp only [go_sem,stB,Ak,H8.ls,hpq,hkl])
 all_goals (try simp only [go_sem,stB,Ak,H8.ls,hpq,hkl])
 all_goals repeat' (first|apply And.intro|intro _)
 all_goals (refine Bq false [] (fun k=>k) (fun _ _=>rfl) ?_ (by decide) ?_ hA.told ?_;iterate 2 (focus (first|rfl|(simp only [go_sem,stB,Ak,H8.ls,hpq,hkl]<;>first|done|rfl|simp))))
 all_goals (rintro v m ⟨hR,hm⟩;subst hR;subst hm)
 all_goals (refine And.intro ?_ (And.intro ?_ (And.intro ?_ ?_));iterate 3 (focus (first|rfl|(simp only [go_sem,stB,Ak,H8.ls,hpq,hkl];done)|(simp [go_sem,look,stB,Ak,H8.ls,hpq,hkl];done))))
 all_goals (try simp only [go_sem,stB,Ak,H8.ls,hpq,hkl])
 all_goals (try simp only [go_sem,stB,Ak,H8.ls,hpq,hkl])
 all_goals repeat' (first|apply And.intro|intro _)
 refine zhK _ ?_
 refine Cx fun zK zhK=>?_
 simp only [go_sem,stB,Ak,H8.ls,hpq,hkl]
 repeat' (first|apply And.intro|intro _)
 all_goals (refine Bq false [] (fun k=>k) (fun _ _=>rfl) ?_ (by decide) ?_ hE.told ?_;iterate 2 (focus (first|rfl|(simp only [go_sem,stB,Ak,H8.ls,hpq,hkl]<;>first|done|rfl|simp))))
 all_goals (rintro v m ⟨hR,hm⟩;subst hR;subst hm)
 all_goals (refine And.intro ?_ (And.intro ?_ (And.intro ?_ ?_));iterate 3 (focus (first|rfl|(simp only [go_sem,stB,Ak,H8.ls,hpq,hkl];done)|(simp [go_sem,look,stB,Ak,H8.ls,hpq,hkl];done))))
 all_goals (try simp only [go_sem,stB,Ak,H8.ls,hpq,hkl])
 all_goals (try simp only [go_sem,stB,Ak,H8.ls,hpq,hkl])
 all_goals repeat' (first|apply And.intro|intro _)
 refine zhK _ ?_
 refine Cx fun zK zhK=>?_
 simp only [go_sem,stB,Ak,H8.ls,hpq,hkl]
 repeat' (first|apply And.intro|intro _)
 refine zhK _ ?_
 refine Dx ?_
 refine zhZ _ _ ?_
 simp only [go_sem,stB,Ak,H8.ls,hpq,hkl]
 all_goals (exact told_plain (Sv _) ⟨rfl,rfl⟩)
theorem l0n (b:List UInt8) (hbl:b.length≤9223372036854775807):
 CtM Tryd.prog 51 [.w (.one (.pl (.str b)))] [(1000002,⟨false,[.pl (.u32 1779033703),.pl (.u32 3144134277),.pl (.u32 1013904242),.pl (.u32 2773480762),.pl (.u32 1359893119),.pl (.u32 2600822924),.pl (.u32 528734635),.pl (.u32 1541459225)]⟩)] (Told (fun v m=>v=.w (.agg (Az (Yk b)))∧m=[])):=by
 obtain ⟨⟨⟨q0,q1,q2,q3,q4,q5,q6,q7⟩,d,q⟩,hs⟩: ∃ s,r0h b=s:=⟨_,rfl⟩
 have hok:=p0a b
 rw [hs] at hok
 have hpq:=Gx (r:=q) hok.1
 have hkl:=Iz b
 have hA:=a1w b hbl false
 rw [hs] at hA
 have hE:=a1v b
 rw [hs] at hE
 have hbl2:b.length≤9223372036854775807:=by omega
 have F0:=And.intro hpq<|And.intro hkl<|hbl2
 refine CtM.k Tryd.func51 rfl Tryd.ntmps51 (congrArg Array.toList Tryd.results51) (by simp) fun w0 ro may fx=>?_
 refine Dj fun zZ zhZ=>?_
 refine Cx fun zK zhK=>?_
 simp only [go_sem,stB,Ak,H8.ls,F0]
 repeat' (first|apply And.intro|intro _)
 refine zhK _ ?_
 refine Cx fun zK zhK=>?_
 simp only [go_sem,stB,Ak,H8.ls,F0]
 repeat' (first|apply And.intro|intro _)
 all_goals (refine Bq false [] (fun k=>k) (fun _ _=>rfl) ?_ (by decide) ?_ a2h.told ?_;iterate 2 (focus (first|rfl|(simp only [go_sem,stB,Ak,H8.ls,F0]<;>first|done|rfl|simp))))
 all_goals (rintro v m ⟨hR,hm⟩;subst hR;subst hm)
 all_goals (refine And.intro ?_ (And.intro ?_ (And.intro ?_ ?_));iterate 3 (focus (first|rfl|(simp only [go_sem,stB,Ak,H8.ls,F0];done)|(simp [go_sem,look,stB,Ak,H8.ls,F0];done))))
 all_goals (try simp only [go_sem,stB,Ak,H8.ls,F0])
 all_goals (try simp only [go_sem,stB,Ak,H8.ls,F0])
 all_goals repeat' (first|apply And.intro|intro _)
 all_goals (refine Bq true [] (fun k=>k) (fun _ _=>rfl) ?_ (by decide) ?_ hA.told ?_;iterate 2 (focus (first|rfl|(simp only [go_sem,stB,Ak,H8.ls,F0]<;>first|done|rfl|simp))))
 all_goals (rintro v m ⟨hR,hm⟩;subst hR;subst hm)
 all_goals (refine And.intro ?_ (And.intro ?_ (And.intro ?_ ?_));iterate 3 (focus (first|rfl|(simp only [go_sem,stB,Ak,H8.ls,F0];done)|(simp [go_sem,look,stB,Ak,H8.ls,F0];done))))
 all_goals (try simp only [go_sem,stB,Ak,H8.ls,F0])
 all_goals (try simp only [go_sem,stB,Ak,H8.ls,F0])
 all_goals repeat' (first|apply And.intro|intro _)
 refine zhK _ ?_
 refine Cx fun zK zhK=>?_
 simp only [go_sem,stB,Ak,H8.ls,F0]
 repeat' (first|apply And.intro|intro _)
 all_goals (refine Bq false [] (fun k=>k) (fun _ _=>rfl) ?_ (by decide) ?_ hE.told ?_;iterate 2 (focus (first|rfl|(simp only [go_sem,stB,Ak,H8.ls,F0]<;>first|done|rfl|simp))))
 all_goals (rintro v m ⟨hR,hm⟩;subst hR;subst hm)
 all_goals (refine And.intro ?_ (And.intro ?_ (And.intro ?_ ?_));iterate 3 (focus (first|rfl|(simp only [go_sem,stB,Ak,H8.ls,F0];done)|(simp [go_sem,look,stB,Ak,H8.ls,F0];done))))
 all_goals (try simp only [go_sem,stB,Ak,H8.ls,F0])
 all_goals (try simp only [go_sem,stB,Ak,H8.ls,F0])
 all_goals repeat' (first|apply And.intro|intro _)
 refine zhK _ ?_
 refine Cx fun zK zhK=>?_
 simp only [go_sem,stB,Ak,H8.ls,F0]
 repeat' (first|apply And.intro|intro _)
 refine zhK _ ?_
 refine Dx ?_
 refine zhZ _ _ ?_
 simp only [go_sem,stB,Ak,H8.ls,F0]
 all_goals (exact told_plain (Sv _) ⟨rfl,rfl⟩)
end Bk
end Go.Sy
