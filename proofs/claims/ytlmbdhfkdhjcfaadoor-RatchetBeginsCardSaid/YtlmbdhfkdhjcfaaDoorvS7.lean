/- Walks and what they compute. CONDITIONS: those that each theorem names. -/
import Derived.Test.YtlmbdhfkdhjcfaaDoorvS5
import Derived.Test.YtlmbdhfkdhjcfaaDoorvS6
set_option linter.unusedVariables false
set_option linter.unusedSimpArgs false
set_option maxHeartbeats 3200000
set_option maxRecDepth 100000
namespace Go.Sy
namespace Bk
open Go.Proofs
attribute [local irreducible] Dv HT Cz Px onC onE onO onG goV goA goS Qx Dw
theorem y0f (h0 h1 h2 h3 h4 h5 h6 h7:UInt32) (held:List UInt8) (hh:held.length=64) (n:Int) (len:Nat) (hl:len≤1073741824) (last:Bool):
 CtM Tryd.prog 78 [.w (.agg ([.pl (.u32 h0),.pl (.u32 h1),.pl (.u32 h2),.pl (.u32 h3),.pl (.u32 h4),.pl (.u32 h5),.pl (.u32 h6),.pl (.u32 h7)]++(Az held++[.pl (.i n),.pl (.i ((len:Nat):Int))]))),.w (.one (.pl (.b last)))] [(1000003,⟨false,[.pl (.u32 1779033703),.pl (.u32 3144134277),.pl (.u32 1013904242),.pl (.u32 2773480762),.pl (.u32 1359893119),.pl (.u32 2600822924),.pl (.u32 528734635),.pl (.u32 1541459225)]⟩),(1000004,⟨false,i0r⟩)] (Told (fun v m=>v=.w (.agg (e0t ⟨h0,h1,h2,h3,h4,h5,h6,h7⟩ held len last).ls)∧m=[])):=by
 have hcv:UInt32.ofNat (((len:Nat):Int)%4294967296).toNat=UInt32.ofNat len:=by
  rw [show (((len:Nat):Int)%4294967296).toNat=len from by omega]
 have his:a2f ((len:Nat):Int) 32=0:=by
  rw [a2f,show (min 32 64:Nat)=32 from rfl,Int.fdiv_eq_ediv_of_nonneg _ (by decide)]
  have:((2:Int) ^ 32)=4294967296:=rfl
  rw [this];omega
 have hz0:UInt32.ofNat ((0:Int)%4294967296).toNat=0:=rfl
 have hx0:(2600822924:UInt32)^^^0=2600822924:=rfl
 have F0:=And.intro hh<|And.intro hcv<|And.intro his<|And.intro hz0<|And.intro hx0<|l0a
 refine CtM.k Tryd.func78 rfl Tryd.ntmps78 (congrArg Array.toList Tryd.results78) (by simp) fun w0 ro may fx=>?_
 refine Dj fun zZ zhZ=>?_
 iterate 8 first
  |(refine Cx fun zK zhK=>?_;simp only [go_sem,F0,Int.reduceTMod];(repeat' (first|apply And.intro|intro _)))
  |refine zhK _ ?_
  |refine Aj fun zB zbn zbx zbr zbi=>?_
  |refine Bz fun zN zM zhN zhM=>?_
 refine Gv [0] ?_
 simp only [Gj,Iq,Gq,List.contains_cons,List.contains_nil,Nat.reduceBEq,beq_self_eq_true,Bool.or_false,Bool.or_true,Bool.true_or,Bool.false_or,Bool.false_eq_true,reduceIte]
 refine Jz (fun y=>[(17,.w (.one (.pl (.i ((y.1.1:Nat):Int)))))]) (fun y=>[(5,⟨false,Lv y.1.2⟩)]) (fun y=>16-y.1.1) (⟨(0,List.replicate 16 0),Nat.zero_le _,by simp,fun j h=>(by omega),fun j _=>a1z 16 j⟩:{y:Nat×List UInt32//y.1≤16∧y.2.length=16∧(∀ j,j<y.1→y.2.getD j 0=q0v held j)∧(∀ j,y.1≤j→y.2.getD j 0=0)}) ?_ ?_ ?_
 · (simp only [go_sem,leX,List.cons_append,List.nil_append];try simp)
 · (simp only [go_sem,leX,List.cons_append,List.nil_append];first|done|rfl|(simp [Lv,leX,look];done))
 intro yy zN zM zhN zhM
 simp only [List.cons_append,List.nil_append]
 have yN0:=zhN
 obtain ⟨⟨i,q⟩,hi,hq,hz,hy⟩:=yy
 simp only at hi hq hz hy
 rcases Nat.lt_or_ge i 16 with hlt|hge
 · have hq0:=hy i (Nat.le_refl _)
   have hl0:=k0k (l:=q) (i:=i) (by omega)
   rw [hq0] at hl0
   obtain ⟨b0,hb0⟩: ∃ b,held.getD (4*i) 0=b:=⟨_,rfl⟩
   have g0:=Mj (q:=held) (i:=4*i) (by omega)
   rw [hb0] at g0
   obtain ⟨b1,hb1⟩: ∃ b,held.getD (4*i+1) 0=b:=⟨_,rfl⟩
   have g1:=Mj (q:=held) (i:=4*i+1) (by omega)
   rw [hb1] at g1
   obtain ⟨b2,hb2⟩: ∃ b,held.getD (4*i+2) 0=b:=⟨_,rfl⟩
   have g2:=Mj (q:=held) (i:=4*i+2) (by omega)
   rw [hb2] at g2
   obtain ⟨b3,hb3⟩: ∃ b,held.getD (4*i+3) 0=b:=⟨_,rfl⟩
   have g3:=Mj (q:=held) (i:=4*i+3) (by omega)
   rw [hb3] at g3
   have hacc:=j1p (b0:=b0) (b1:=b1) (b2:=b2) (b3:=b3)
   have ht4:=c2d (l:=held) (j:=4*i) (by omega)
   rw [hb0,hb1,hb2,hb3] at ht4
   rw [←ht4] at hacc
   have hacc2:_=q0v held i:=hacc
   obtain ⟨x1,hx1⟩: ∃ x,Zz 0 8|||b3.toUInt32=x:=⟨_,rfl⟩
   rw [hx1] at hacc2
   obtain ⟨x2,hx2⟩: ∃ x,Zz x1 8|||b2.toUInt32=x:=⟨_,rfl⟩
   rw [hx2] at hacc2
   obtain ⟨x3,hx3⟩: ∃ x,Zz x2 8|||b1.toUInt32=x:=⟨_,rfl⟩
   rw [hx3] at hacc2
   obtain ⟨x4,hx4⟩: ∃ x,Zz x3 8|||b0.toUInt32=x:=⟨_,rfl⟩
   rw [hx4] at hacc2
   obtain ⟨q1,hq1⟩: ∃ r,q.set i x1=r:=⟨_,rfl⟩
   obtain ⟨q2,hq2⟩: ∃ r,q1.set i x2=r:=⟨_,rfl⟩
   obtain ⟨q3,hq3⟩: ∃ r,q2.set i x3=r:=⟨_,rfl⟩
   obtain ⟨q4,hq4⟩: ∃ r,q3.set i x4=r:=⟨_,rfl⟩
   have e1:q1.length=16:=by rw [←hq1];simp [hq]
   have e2:q2.length=16:=by rw [←hq2];simp [e1]
   have e3:q3.length=16:=by rw [←hq3];simp [e2]
   have e4:q4.length=16:=by rw [←hq4];simp [e3]
   have p0:=f0t (q:=q) (j:=i) x1 (by omega)
   have p1:=f0t (q:=q1) (j:=i) x2 (by omega)
   have p2:=f0t (q:=q2) (j:=i) x3 (by omega)
   have p3:=f0t (q:=q3) (j:=i) x4 (by omega)
   rw [hq1] at p0
   rw [hq2] at p1
   rw [hq3] at p2
   rw [hq4] at p3
   have l1:=k0k (l:=q1) (i:=i) (by omega)
   have l2:=k0k (l:=q2) (i:=i) (by omega)
   have l3:=k0k (l:=q3) (i:=i) (by omega)
   have i1:q1.getD i 0=x1:=by rw [←hq1,Lj (by omega),if_pos rfl]
   have i2:q2.getD i 0=x2:=by rw [←hq2,Lj (by omega),if_pos rfl]
   have i3:q3.getD i 0=x3:=by rw [←hq3,Lj (by omega),if_pos rfl]
   rw [i1] at l1
   rw [i2] at l2
   rw [i3] at l3
   have k1: ∀ j,j<i+1→q4.getD j 0=q0v held j:=fun j hj=>by
    by_cases e:i=j
    · subst e;rw [←hq4,Lj (by omega),if_pos rfl,hacc2]
    · rw [←hq4,Lj (by omega),if_neg e,←hq3,Lj (by omega),if_neg e,←hq2,Lj (by omega),if_neg e,←hq1,Lj (by omega),if_neg e];exact hz j (by omega)
   have k2: ∀ j,i+1≤j→q4.getD j 0=0:=fun j hj=>by
    have e:¬i=j:=by omega
    rw [←hq4,Lj (by omega),if_neg e,←hq3,Lj (by omega),if_neg e,←hq2,Lj (by omega),if_neg e,←hq1,Lj (by omega),if_neg e];exact hy j (by omega)
   have n0:=h0t q
   have n1:=h0t q1
   have n2:=h0t q2
   have n3:=h0t q3
   rw [hq] at n0
   rw [e1] at n1
   rw [e2] at n2
   rw [e3] at n3
   have hcq:((i:Nat):Int)<16:=by omega
   have hc0:(0:Int)≤((i:Nat):Int):=by omega
   have hk2:i+1≤16:=by omega
   have d0:(0:Int)≤((4*i:Nat):Int)∧((4*i:Nat):Int)<64∧(0:Int)≤((4*i+1:Nat):Int)∧((4*i+1:Nat):Int)<64∧(0:Int)≤((4*i+2:Nat):Int)∧((4*i+2:Nat):Int)<64∧(0:Int)≤((4*i+3:Nat):Int)∧((4*i+3:Nat):Int)<64:=by omega
   have d1:4*i+1≤64∧4*i+1+1≤64∧4*i+2+1≤64∧4*i+3+1≤64:=by omega
   obtain ⟨hs1,hw8,hw4,hw5,hw6,hw7⟩:Go.RowKit.wrap64 (((i:Nat):Int)+1)=((i+1:Nat):Int)∧Go.RowKit.wrap64 (((4*i:Nat):Int)+0)=((4*i:Nat):Int)∧Go.RowKit.wrap64 (4*((i:Nat):Int))=((4*i:Nat):Int)∧Go.RowKit.wrap64 (((4*i:Nat):Int)+1)=((4*i+1:Nat):Int)∧Go.RowKit.wrap64 (((4*i:Nat):Int)+2)=((4*i+2:Nat):Int)∧Go.RowKit.wrap64 (((4*i:Nat):Int)+3)=((4*i+3:Nat):Int):=⟨Ny (by omega) (by omega),Ny (by omega) (by omega),Ny (by omega) (by omega),Ny (by omega) (by omega),Ny (by omega) (by omega),Ny (by omega) (by omega)⟩
   have F0:=And.intro hl0<|And.intro l1<|And.intro l2<|And.intro l3<|And.intro g0<|And.intro g1<|And.intro g2<|And.intro g3<|And.intro Ay<|And.intro n0<|And.intro n1<|And.intro n2<|And.intro n3<|And.intro hx1<|And.intro hx2<|And.intro hx3<|And.intro hx4<|And.intro p0<|And.intro p1<|And.intro p2<|And.intro p3<|And.intro hcq<|And.intro hc0<|And.intro hk2<|And.intro d0<|And.intro d1<|And.intro hs1<|And.intro hw4<|And.intro hw5<|And.intro hw6<|And.intro hw7<|And.intro hw8<|F0
   iterate 91 first
    |(refine Cv [20,21,22,23,24,25,26,27,28,29,30,31,32,33,34,35,36,37,38] ?_;simp only [go_sem,St.forget,fgt];refine Fq fun zN zM zhN zhM=>?_)
    |refine Fq fun zN zM zhN zhM=>?_
    |(refine zhN _ ?_;clear zhN zhM)
    |refine zhK _ ?_
    |(refine Cx fun zK zhK=>?_;simp only [go_sem,F0,Int.reduceTMod];(repeat' (first|apply And.intro|intro _)))
    |refine Aj fun zB zbn zbx zbr zbi=>?_
    |refine Cw ?_
    |(refine zbn _ ?_;clear zbn zbx zbr zbi)
    |(refine Av fun zK zhK=>?_;simp only [go_sem,F0,Int.reduceTMod];(repeat' (first|apply And.intro|intro _)))
    |(refine Vw (id:=8) [24,25,26,27,28,29,30,31,32,33,34,35,36,37,38] [0,0,2,6,14,0,32,0,224,0,992,2016,4064,8190,16383,32767] [] mixed (by kernel_rfl) (by simp only [go_sem]) fun zK zhK=>?_;simp only [go_sem,F0,Int.reduceTMod];(repeat' (first|apply And.intro|intro _)))
    |refine zhK _ _ trivial ?_
    |(refine zhM _ _ ?_;clear zhN zhM)
    |refine Fx 5 ?_
    |refine Ey ?_
    |(refine zbx _ ?_;clear zbn zbx zbr zbi)
    |refine Bz fun zN zM zhN zhM=>?_
    |(refine Bv ?_ ?_;focus (first|rfl|(simp [go_sem,F0,Int.reduceTMod];done)))
    |(refine Cy ?_ ?_;focus (first|rfl|(simp [go_sem,F0,Int.reduceTMod];done)))
   refine zhN ⟨(i+1,q4),hlt,e4,k1,k2⟩ _ ?_ ?_ ?_
   · (exact Nat.sub_lt_sub_left hlt (Nat.lt_succ_self i))
   · (simp only [go_sem,leX,List.cons_append,List.nil_append];try simp)
   · (simp only [go_sem,leX,List.cons_append,List.nil_append];try simp)
 · obtain rfl:i=16:=by omega
   have hcq:¬((16:Nat):Int)<16:=by omega
   have hql:=h0t q
   rw [hq] at hql
   have F0:=And.intro hcq<|And.intro hql<|F0
   iterate 174 first
    |(refine Cv (x:=.seq (.region 12 _ _) _) [9,41,42,43,44,45,46,47,48,49,50,51,52,53,54,55] ?_;simp only [go_sem,St.forget,fgt];refine Fq fun zN zM zhN zhM=>?_)
    |refine Fq fun zN zM zhN zhM=>?_
    |refine zhK _ ?_
    |(refine zhN _ ?_;clear zhN zhM)
    |(refine Cx fun zK zhK=>?_;simp only [go_sem,F0,Int.reduceTMod];(repeat' (first|apply And.intro|intro _)))
    |refine Aj fun zB zbn zbx zbr zbi=>?_
    |refine Cw ?_
    |(refine Vw (id:=14) [43,44,45,46,47,48,49,50,51,52,53,54] [0,0,2,0,0,24,56,0,128,384,121,1145,4095,8191] [(1,11),(2,11),(7,11),(8,11),(9,11)] mixed (by kernel_rfl) (by simp only [go_sem]) fun zK zhK=>?_;simp only [go_sem,F0,Int.reduceTMod];(repeat' (first|apply And.intro|intro _)))
    |(refine zhK _ _ ?_ ?_;(focus (first|trivial|(simp only [go_sem];done)|(simp only [go_sem];simp;done)|(simp only [go_sem];simp;simp only [go_sem]))))
    |(refine zbn _ ?_;clear zbn zbx zbr zbi)
    |(refine Av fun zK zhK=>?_;simp only [go_sem,F0,Int.reduceTMod];(repeat' (first|apply And.intro|intro _)))
    |(refine zhM _ _ ?_;clear zhN zhM)
    |refine Ey ?_
    |(refine zbx _ ?_;clear zbn zbx zbr zbi)
    |refine Fx (x:=.seq (.region 12 _ _) _) 9 ?_
    |refine Bz fun zN zM zhN zhM=>?_
    |(refine Bv ?_ ?_;focus (first|rfl|(simp [go_sem,F0,Int.reduceTMod];done)))
    |(refine Cy ?_ ?_;focus (first|rfl|(simp [go_sem,F0,Int.reduceTMod];done)))
   refine p1m [8,5,4,2] (fun w=>⟨[(8,.w (.one (.p 8 []))),(5,.w (.one (.p 5 []))),(4,.w (.one (.p 4 []))),(2,.w (.one (.p 2 [])))],[(8,⟨false,w.ls⟩),(5,⟨false,Lv q⟩),(5,⟨false,[.pl (.u32 0),.pl (.u32 0),.pl (.u32 0),.pl (.u32 0),.pl (.u32 0),.pl (.u32 0),.pl (.u32 0),.pl (.u32 0),.pl (.u32 0),.pl (.u32 0),.pl (.u32 0),.pl (.u32 0),.pl (.u32 0),.pl (.u32 0),.pl (.u32 0),.pl (.u32 0)]⟩),(4,⟨false,[.pl (.u32 0),.pl (.u32 0),.pl (.u32 0),.pl (.u32 0),.pl (.u32 0),.pl (.u32 0),.pl (.u32 0),.pl (.u32 0)]⟩),(2,⟨false,[.pl (.u32 h0),.pl (.u32 h1),.pl (.u32 h2),.pl (.u32 h3),.pl (.u32 h4),.pl (.u32 h5),.pl (.u32 h6),.pl (.u32 h7)]++(Az held++[.pl (.i n),.pl (.i ((len:Nat):Int))])⟩),(1000003,⟨false,[.pl (.u32 1779033703),.pl (.u32 3144134277),.pl (.u32 1013904242),.pl (.u32 2773480762),.pl (.u32 1359893119),.pl (.u32 2600822924),.pl (.u32 528734635),.pl (.u32 1541459225)]⟩),(1000004,⟨false,i0r⟩)]⟩) (fun w=>a2g ⟨h0,h1,h2,h3,h4,h5,h6,h7⟩ len last=w) (fun zN zM zhN zhM=>?_) (fun Wi hW=>?_)
   · skip
     refine Cx fun zK zhK=>?_
     simp only [go_sem,F0,Int.reduceTMod]
     repeat' (first|apply And.intro|intro _)
     refine zhK _ ?_
     refine z0l rfl (fun hc=>?_) (fun hc=>?_)
     · try simp only [go_sem,F0,Int.reduceTMod] at hc
       subst hc
       all_goals
        refine Av fun zK zhK=>?_
        simp only [go_sem,F0,Int.reduceTMod]
        repeat' (first|apply And.intro|intro _)
        refine zhK _ ?_
        refine zhN _ rfl _ ?_
        (simp only [j0z,j0y,g0h,List.contains_cons,List.contains_nil,Nat.reduceBEq,beq_self_eq_true,Bool.or_false,Bool.or_true,Bool.true_or,Bool.false_or,Bool.false_eq_true,reduceIte];rfl)
     · try simp only [go_sem,F0,Int.reduceTMod] at hc
       subst hc
       all_goals
        refine Cw ?_
        refine zhN _ rfl _ ?_
        (simp only [j0z,j0y,g0h,List.contains_cons,List.contains_nil,Nat.reduceBEq,beq_self_eq_true,Bool.or_false,Bool.or_true,Bool.true_or,Bool.false_or,Bool.false_eq_true,reduceIte];rfl)
   · skip
     iterate 6 first
      |(refine Cx fun zK zhK=>?_;simp only [go_sem,F0,Int.reduceTMod];(repeat' (first|apply And.intro|intro _)))
      |refine zhK _ ?_
      |refine Aj fun zB zbn zbx zbr zbi=>?_
      |refine Bz fun zN zM zhN zhM=>?_
     refine Gv [0,1,6,7,9,17,18,19,20,21,22,23,24,25,26,27,28,29,30,31,32,33,34,35,36,37,38,39,40,41,42,43,44,45,46,47,48,49,50,51,52,53,54,55,56,57,58,59,60,61,62,63,64,65,66,67,68,69,70,71,72,73,74,75,76] ?_
     simp only [Gj,Iq,Gq,List.contains_cons,List.contains_nil,Nat.reduceBEq,beq_self_eq_true,Bool.or_false,Bool.or_true,Bool.true_or,Bool.false_or,Bool.false_eq_true,reduceIte]
     refine Jz (fun y=>[(78,.w (.one (.pl (.i ((y.1:Nat):Int)))))]) (fun y=>[(8,⟨false,(Wx held y.1 Wi).ls⟩)]) (fun y=>10-y.1) (⟨0,Nat.zero_le _⟩:{y:Nat//y≤10}) ?_ ?_ ?_
     · (simp only [go_sem,leX,List.cons_append,List.nil_append];try simp)
     · (simp only [Wx,go_sem,leX,List.cons_append,List.nil_append];first|done|rfl|(rw [←hW];simp [Wx,a2g,W16.ls,leX,look];done))
     intro ⟨k,hk9⟩ zN zM zhN zhM
     simp only [List.cons_append,List.nil_append]
     have yN1:=zhN
     rcases Nat.lt_or_ge k 10 with hlt|hge
     · have hcq:((k:Nat):Int)<10:=by omega
       have hc0:(0:Int)≤((k:Nat):Int):=by omega
       have hk2:k*16+16≤160:=by omega
       have hs1:Go.RowKit.wrap64 (((k:Nat):Int)+1)=((k+1:Nat):Int):=Ny (by omega) (by omega)
       have hrow:=l1h hlt
       have hoc:=l0a
       obtain ⟨w,hw⟩: ∃ w,Wx held k Wi=w:=⟨_,rfl⟩
       simp only [hw,W16.ls_l]
       have F0:=And.intro hcq<|And.intro hc0<|And.intro hk2<|And.intro hs1<|And.intro hrow<|And.intro hoc<|And.intro hq<|And.intro j0v<|F0
       iterate 14 first
        |(refine Cx fun zK zhK=>?_;simp only [go_sem,F0,Int.reduceTMod];(repeat' (first|apply And.intro|intro _)))
        |refine zhK _ ?_
        |refine Aj fun zB zbn zbx zbr zbi=>?_
        |refine Cw ?_
        |(refine zhN _ ?_;clear zhN zhM)
        |refine Bz fun zN zM zhN zhM=>?_
        |(refine Bv ?_ ?_;focus (first|rfl|(simp [go_sem,F0,Int.reduceTMod];done)))
       refine Jz (fun y=>[(81,.w (.one (.pl (.i ((y.1:Nat):Int)))))]) (fun y=>[(8,⟨false,Lv (e0e held k w.l y.1)⟩)]) (fun y=>4-y.1) (⟨0,Nat.zero_le _⟩:{y:Nat//y≤4}) ?_ ?_ ?_
       · (simp only [go_sem,leX,List.cons_append,List.nil_append,F0];try simp)
       · (simp only [go_sem,leX,e0e,List.cons_append,List.nil_append,F0];try simp)
       intro yy zN zM zhN zhM
       simp only [List.cons_append,List.nil_append]
       have yN2:=zhN
       obtain ⟨i,hi4⟩:=yy
       rcases Nat.lt_or_eq_of_le hi4 with hli|rfl
       · have hcq:((i:Nat):Int)<4:=by omega
         have hi16:i<16:=by omega
         obtain ⟨s,hs⟩: ∃ s,e0e held k w.l i=s:=⟨_,rfl⟩
         have hsl:s.length=16:=by rw [←hs,g0t];exact rfl
         obtain ⟨o1,ho1⟩: ∃ o,e0d k (2*i)=o:=⟨_,rfl⟩
         obtain ⟨o2,ho2⟩: ∃ o,e0d k (2*i+1)=o:=⟨_,rfl⟩
         have hb1:o1<16:=ho1▸s0m hlt (by omega)
         have hb2:o2<16:=ho2▸s0m hlt (by omega)
         have hv1:q.getD o1 0=b0h held k (2*i):=by rw [hz o1 hb1,b0h,ho1]
         have hv2:q.getD o2 0=b0h held k (2*i+1):=by rw [hz o2 hb2,b0h,ho2]
         have hr1:=row_one k (i:=2*i) (by omega)
         have hr2:=row_one k (i:=2*i+1) (by omega)
         rw [ho1] at hr1
         rw [ho2] at hr2
         have hu1:=n0l (l:=q) (i:=o1) (by omega)
         have hu2:=n0l (l:=q) (i:=o2) (by omega)
         rw [hv1] at hu1
         rw [hv2] at hu2
         have hfin:e0e held k w.l (i+1)=m0t s i (4+i) (8+i) (12+i) (b0h held k (2*i)) (b0h held k (2*i+1)):=by rw [e0e,hs]
         have hmx:=z1u s hsl i (4+i) (8+i) (12+i) (by omega) (by omega) (by omega) (by omega) (b0h held k (2*i)) (b0h held k (2*i+1))
         have hd1:((2*i:Nat):Int)<16∧2*i+1≤16∧((2*i+1:Nat):Int)<16∧2*i+1+1≤16∧((o1:Nat):Int)<16∧o1+1≤16∧((o2:Nat):Int)<16∧o2+1≤16:=by omega
         simp only [hs]
         have F0:=And.intro hcq<|And.intro g1f<|And.intro hfin<|And.intro hsl<|And.intro hr1<|And.intro hr2<|And.intro hu1<|And.intro hu2<|And.intro hd1<|And.intro j0v<|And.intro (wt2 hi16)<|And.intro (wl4 hi16)<|And.intro (wl8 hi16)<|And.intro (d2n hi16)<|And.intro (wp1 hi16)<|And.intro (wp1 (i:=2*i) (by omega))<|F0
         iterate 15 first
          |refine zhK _ ?_
          |(refine Cx fun zK zhK=>?_;simp only [go_sem,F0,Int.reduceTMod];(repeat' (first|apply And.intro|intro _)))
          |(refine zhN _ ?_;clear zhN zhM)
          |refine Cw ?_
          |refine Aj fun zB zbn zbx zbr zbi=>?_
          |(refine zbn _ ?_;clear zbn zbx zbr zbi)
          |(refine Av fun zK zhK=>?_;simp only [go_sem,F0,Int.reduceTMod];(repeat' (first|apply And.intro|intro _)))
          |(refine b0s (id:=27) mixed fun zE zhE=>?_;refine Ck (p:=0) 21 [84,85,86,87,88,89,90,91,92,93,94,95,96,97,98,99,100,101,102,103,104] [0,0,0,4,0,16,0,64,0,256,768,1792,3840,7936,0,16384,49152,114688,245760,507904,1032192,2097151] [] rfl (by kernel_rfl) rfl (by simp only [go_sem]) fun zR zK zhR zhK=>?_;simp only [go_sem,F0,Int.reduceTMod];(repeat' (first|apply And.intro|intro _));refine zhK _ _ trivial (zhR _ ?_);refine Dk 1 22 rfl (by kernel_rfl) rfl rfl fun zR zhR=>?_;simp only [go_sem,F0,Int.reduceTMod];(repeat' (first|apply And.intro|intro _));(all_goals (refine f0i (caps:=[8]) false [(500000,8)] (fun k=>k) ?_ ?_ (fun _ _=>rfl) ?_ (by decide) ?_ hmx ?_;iterate 4 (focus (first|rfl|(simp only [go_sem,F0,Int.reduceTMod]<;>first|done|rfl|simp)))));(all_goals (rintro v m ⟨hR,hm⟩;subst hR;subst hm));(all_goals (refine And.intro ?_ (And.intro ?_ (And.intro ?_ ?_));iterate 3 (focus (first|rfl|(simp only [go_sem,F0,Int.reduceTMod];done)|(simp [go_sem,look,F0,Int.reduceTMod];done)))));(all_goals (try simp only [go_sem,F0,Int.reduceTMod]));(all_goals (try simp only [go_sem,F0,Int.reduceTMod]));(all_goals repeat' (first|apply And.intro|intro _));refine zhR _ ?_;refine Jy rfl (zhE _ ?_))
          |refine Bz fun zN zM zhN zhM=>?_
          |(refine Bv ?_ ?_;focus (first|rfl|(simp [go_sem,F0,Int.reduceTMod];done)))
         refine zhN ⟨i+1,hli⟩ _ ?_ ?_ ?_
         · exact Nat.sub_lt_sub_left hli (Nat.lt_succ_self i)
         · (simp only [go_sem,leX,List.cons_append,List.nil_append,F0];try simp)
         · (simp only [go_sem,leX,List.cons_append,List.nil_append,F0];try simp)
       · obtain ⟨c,hc⟩: ∃ c,e0e held k w.l 4=c:=⟨_,rfl⟩
         have hcl:c.length=16:=by rw [←hc,g0t];rfl
         have hcc:=(z0m held k w).symm.trans hc
         simp only [hc]
         iterate 12 first
          |(refine Cx fun zK zhK=>?_;simp only [go_sem,F0,Int.reduceTMod];(repeat' (first|apply And.intro|intro _)))
          |refine zhK _ ?_
          |(refine zhM _ _ ?_;clear zhN zhM)
          |refine Ey ?_
          |(refine zbx _ ?_;clear zbn zbx zbr zbi)
          |(refine zhN _ ?_;clear zhN zhM)
          |refine Aj fun zB zbn zbx zbr zbi=>?_
          |refine Bz fun zN zM zhN zhM=>?_
          |(refine Cy ?_ ?_;focus (first|rfl|(simp [go_sem,F0,Int.reduceTMod];done)))
         refine Jz (fun y=>[(107,.w (.one (.pl (.i ((y.1:Nat):Int)))))]) (fun y=>[(8,⟨false,Lv (l0z held k c y.1)⟩)]) (fun y=>4-y.1) (⟨0,Nat.zero_le _⟩:{y:Nat//y≤4}) ?_ ?_ ?_
         · (simp only [go_sem,leX,List.cons_append,List.nil_append,F0];try simp)
         · (simp only [go_sem,leX,l0z,List.cons_append,List.nil_append,F0];try simp)
         intro yy zN zM zhN zhM
         simp only [List.cons_append,List.nil_append]
         have yN3:=zhN
         obtain ⟨i,hi4⟩:=yy
         rcases Nat.lt_or_eq_of_le hi4 with hli|rfl
         · have hcq:((i:Nat):Int)<4:=by omega
           have hi16:i<16:=by omega
           obtain ⟨s,hs⟩: ∃ s,l0z held k c i=s:=⟨_,rfl⟩
           have hsl:s.length=16:=by rw [←hs,t0n];exact hcl
           obtain ⟨o1,ho1⟩: ∃ o,e0d k (8+2*i)=o:=⟨_,rfl⟩
           obtain ⟨o2,ho2⟩: ∃ o,e0d k (9+2*i)=o:=⟨_,rfl⟩
           have hb1:o1<16:=ho1▸s0m hlt (by omega)
           have hb2:o2<16:=ho2▸s0m hlt (by omega)
           have hv1:q.getD o1 0=b0h held k (8+2*i):=by rw [hz o1 hb1,b0h,ho1]
           have hv2:q.getD o2 0=b0h held k (9+2*i):=by rw [hz o2 hb2,b0h,ho2]
           have hr1:=row_one k (i:=8+2*i) (by omega)
           have hr2:=row_one k (i:=9+2*i) (by omega)
           rw [ho1] at hr1
           rw [ho2] at hr2
           have hu1:=n0l (l:=q) (i:=o1) (by omega)
           have hu2:=n0l (l:=q) (i:=o2) (by omega)
           rw [hv1] at hu1
           rw [hv2] at hu2
           have hfin:l0z held k c (i+1)=m0t s i (4+(i+1)%4) (8+(i+2)%4) (12+(i+3)%4) (b0h held k (8+2*i)) (b0h held k (9+2*i)):=by rw [l0z,hs]
           have hmx:=z1u s hsl i (4+(i+1)%4) (8+(i+2)%4) (12+(i+3)%4) (by omega) (by omega) (by omega) (by omega) (b0h held k (8+2*i)) (b0h held k (9+2*i))
           have hd1:((8+2*i:Nat):Int)<16∧8+2*i+1≤16∧((9+2*i:Nat):Int)<16∧9+2*i+1≤16∧((o1:Nat):Int)<16∧o1+1≤16∧((o2:Nat):Int)<16∧o2+1≤16:=by omega
           simp only [hs]
           have F0:=And.intro hcq<|And.intro g1f<|And.intro hfin<|And.intro hsl<|And.intro hr1<|And.intro hr2<|And.intro hu1<|And.intro hu2<|And.intro hd1<|And.intro j0v<|And.intro (wt2 hi16)<|And.intro (wp1 hi16)<|And.intro (wp2 hi16)<|And.intro (wp3 hi16)<|And.intro tm4<|And.intro (wl4 (lt4 (n:=i+1)))<|And.intro (wl8 (lt4 (n:=i+2)))<|And.intro (d2n (lt4 (n:=i+3)))<|And.intro (wl8 (i:=2*i) (by omega))<|And.intro (wl9 (i:=2*i) (by omega))<|F0
           iterate 15 first
            |refine zhK _ ?_
            |(refine Cx fun zK zhK=>?_;simp only [go_sem,F0,Int.reduceTMod];(repeat' (first|apply And.intro|intro _)))
            |(refine zhN _ ?_;clear zhN zhM)
            |refine Cw ?_
            |refine Aj fun zB zbn zbx zbr zbi=>?_
            |(refine zbn _ ?_;clear zbn zbx zbr zbi)
            |(refine Av fun zK zhK=>?_;simp only [go_sem,F0,Int.reduceTMod];(repeat' (first|apply And.intro|intro _)))
            |(refine b0s (id:=32) mixed fun zE zhE=>?_;refine Ck (p:=0) 28 [110,111,112,113,114,115,116,117,118,119,120,121,122,123,124,125,126,127,128,129,130,131,132,133,134,135,136,137] [0,0,0,4,12,28,0,64,192,448,0,1024,3072,7168,0,16384,49152,114688,245760,507904,1032192,0,2097152,6291456,14680064,31457280,65011712,132120576,268435455] [] rfl (by kernel_rfl) rfl (by simp only [go_sem]) fun zR zK zhR zhK=>?_;simp only [go_sem,F0,Int.reduceTMod];(repeat' (first|apply And.intro|intro _));refine zhK _ _ trivial (zhR _ ?_);refine Dk 1 29 rfl (by kernel_rfl) rfl rfl fun zR zhR=>?_;simp only [go_sem,F0,Int.reduceTMod];(repeat' (first|apply And.intro|intro _));(all_goals (refine f0i (caps:=[8]) false [(500000,8)] (fun k=>k) ?_ ?_ (fun _ _=>rfl) ?_ (by decide) ?_ hmx ?_;iterate 4 (focus (first|rfl|(simp only [go_sem,F0,Int.reduceTMod]<;>first|done|rfl|simp)))));(all_goals (rintro v m ⟨hR,hm⟩;subst hR;subst hm));(all_goals (refine And.intro ?_ (And.intro ?_ (And.intro ?_ ?_));iterate 3 (focus (first|rfl|(simp only [go_sem,F0,Int.reduceTMod];done)|(simp [go_sem,look,F0,Int.reduceTMod];done)))));(all_goals (try simp only [go_sem,F0,Int.reduceTMod]));(all_goals (try simp only [go_sem,F0,Int.reduceTMod]));(all_goals repeat' (first|apply And.intro|intro _));refine zhR _ ?_;refine Jy rfl (zhE _ ?_))
            |refine Bz fun zN zM zhN zhM=>?_
            |(refine Bv ?_ ?_;focus (first|rfl|(simp [go_sem,F0,Int.reduceTMod];done)))
           refine zhN ⟨i+1,hli⟩ _ ?_ ?_ ?_
           · exact Nat.sub_lt_sub_left hli (Nat.lt_succ_self i)
           · (simp only [go_sem,leX,List.cons_append,List.nil_append,F0];try simp)
           · (simp only [go_sem,leX,List.cons_append,List.nil_append,F0];try simp)
         · have hfin:(Wx held (k+1) Wi).ls=Lv (l0z held k c 4):=by rw [Wx,hw,W16.ls_l,←h1t,hcc]
           have F0:=And.intro hfin<|F0
           have zL:=fun S2=>yN1 ⟨k+1,hlt⟩ S2 (by (exact Nat.sub_lt_sub_left hlt (Nat.lt_succ_self k)))
           exact HT.w
     · obtain rfl:k=10:=by omega
       have hcq:¬((10:Nat):Int)<10:=by omega
       obtain ⟨w,hw⟩: ∃ w,Wx held 10 Wi=w:=⟨_,rfl⟩
       have hsk:e0t ⟨h0,h1,h2,h3,h4,h5,h6,h7⟩ held len last=c2t ⟨h0,h1,h2,h3,h4,h5,h6,h7⟩ w:=by rw [e0t,hW,hw]
       simp only [hw]
       obtain ⟨x0,x1,x2,x3,x4,x5,x6,x7,x8,x9,x10,x11,x12,x13,x14,x15⟩:=w
       simp only [W16.ls]
       have F0:=And.intro hcq<|F0
       iterate 174 first
        |(refine Cv (x:=.seq (.region 37 _ _) _) [16,144,145,146,147,148,149,150,151,152,153,154,155,156,157,158,159] ?_;simp only [go_sem,St.forget,fgt];refine Fq fun zN zM zhN zhM=>?_)
        |refine Fq fun zN zM zhN zhM=>?_
        |refine zhK _ ?_
        |(refine zhN _ ?_;clear zhN zhM)
        |(refine Cx fun zK zhK=>?_;simp only [go_sem,F0,Int.reduceTMod];(repeat' (first|apply And.intro|intro _)))
        |refine Aj fun zB zbn zbx zbr zbi=>?_
        |refine Cw ?_
        |(refine Vw (id:=39) [146,147,148,149,150,151,152,153,154,155,156,157,158] [0,1,3,0,8,24,0,64,192,448,1016,2047,4095,8191] [] mixed (by kernel_rfl) (by simp only [go_sem]) fun zK zhK=>?_;simp only [go_sem,F0,Int.reduceTMod];(repeat' (first|apply And.intro|intro _)))
        |refine zhK _ _ trivial ?_
        |(refine zbn _ ?_;clear zbn zbx zbr zbi)
        |(refine Av fun zK zhK=>?_;simp only [go_sem,F0,Int.reduceTMod];(repeat' (first|apply And.intro|intro _)))
        |(refine zhM _ _ ?_;clear zhN zhM)
        |refine Ey ?_
        |(refine zbx _ ?_;clear zbn zbx zbr zbi)
        |refine Fx (x:=.seq (.region 37 _ _) _) 9 ?_
        |refine Dx ?_
        |(refine zhZ _ _ ?_;simp only [go_sem,F0,Int.reduceTMod];(all_goals (exact told_plain rfl ⟨by rw [hsk];rfl,rfl⟩)))
        |refine Bz fun zN zM zhN zhM=>?_
        |(refine Bv ?_ ?_;focus (first|rfl|(simp [go_sem,F0,Int.reduceTMod];done)))
        |(refine Cy ?_ ?_;focus (first|rfl|(simp [go_sem,F0,Int.reduceTMod];done)))
end Bk
end Go.Sy
namespace Go.Sy
namespace Bk
open Go.Proofs
attribute [local irreducible] Dv HT Cz Px onC onE onO onG goV goA goS Qx Dw
theorem a2i :
 CtM Tryd.prog 72 [] [(1000003,⟨false,[.pl (.u32 1779033703),.pl (.u32 3144134277),.pl (.u32 1013904242),.pl (.u32 2773480762),.pl (.u32 1359893119),.pl (.u32 2600822924),.pl (.u32 528734635),.pl (.u32 1541459225)]⟩),(1000004,⟨false,i0r⟩)] (Told (fun v m=>v=.w (.agg (Ak (⟨(1779033703^^^16842784),3144134277,1013904242,2773480762,1359893119,2600822924,528734635,1541459225⟩:H8) (List.replicate 64 0) 0 0))∧m=[])):=by
 refine CtM.k Tryd.func72 rfl Tryd.ntmps72 (congrArg Array.toList Tryd.results72) (by simp) fun w0 ro may fx=>?_
 refine Dj fun zZ zhZ=>?_
 iterate 10 first
  |(refine Cx fun zK zhK=>?_;simp only [go_sem,Ak,H8.ls];(repeat' (first|apply And.intro|intro _)))
  |refine zhK _ ?_
  |refine Dx ?_
  |(refine zhZ _ _ ?_;simp only [go_sem,Ak,H8.ls];(all_goals (exact told_plain (by simp [Fj,Hz,Az]) ⟨rfl,rfl⟩)))
theorem a2h :
 CtM Tryd.prog 66 [] [(1000002,⟨false,[.pl (.u32 1779033703),.pl (.u32 3144134277),.pl (.u32 1013904242),.pl (.u32 2773480762),.pl (.u32 1359893119),.pl (.u32 2600822924),.pl (.u32 528734635),.pl (.u32 1541459225)]⟩)] (Told (fun v m=>v=.w (.agg (Ak (⟨(1779033703^^^16842784),3144134277,1013904242,2773480762,1359893119,2600822924,528734635,1541459225⟩:H8) (List.replicate 64 0) 0 0))∧m=[])):=by
 refine CtM.k Tryd.func66 rfl Tryd.ntmps66 (congrArg Array.toList Tryd.results66) (by simp) fun w0 ro may fx=>?_
 refine Dj fun zZ zhZ=>?_
 iterate 10 first
  |(refine Cx fun zK zhK=>?_;simp only [go_sem,Ak,H8.ls];(repeat' (first|apply And.intro|intro _)))
  |refine zhK _ ?_
  |refine Dx ?_
  |(refine zhZ _ _ ?_;simp only [go_sem,Ak,H8.ls];(all_goals (exact told_plain (by simp [Fj,Hz,Az]) ⟨rfl,rfl⟩)))
theorem m1v (h0 h1 h2 h3 h4 h5 h6 h7:UInt32) (d:Nat) (r:List UInt8) (hs:HSt.ok ⟨⟨h0,h1,h2,h3,h4,h5,h6,h7⟩,d,r⟩) (b:List UInt8) (hbl:d+r.length+b.length≤9223372036854775807) (ex:Bool) (hbig:1073741824<d+r.length+b.length):
 CtM Tryd.prog 71 [.w (.agg (stB ⟨⟨h0,h1,h2,h3,h4,h5,h6,h7⟩,d,r⟩)),.w (.one (.pl (.R ex 1 (Ej b))))] [(1000003,⟨false,[.pl (.u32 1779033703),.pl (.u32 3144134277),.pl (.u32 1013904242),.pl (.u32 2773480762),.pl (.u32 1359893119),.pl (.u32 2600822924),.pl (.u32 528734635),.pl (.u32 1541459225)]⟩),(1000004,⟨false,i0r⟩)] (Told (fun v m=>v=.tup [.agg (Ak ⟨0,0,0,0,0,0,0,0⟩ (List.replicate 64 0) 0 0),.one (.pl (.i 1))]∧m=[])):=by
 have hr:r.length≤64:=hs.1
 have hd:d+r.length≤1073741824:=hs.2.1
 have hpl:=Gx hr
 have hok:=i0q hs
 obtain ⟨l,hl⟩: ∃ l,d+r.length=l:=⟨_,rfl⟩
 have hlen:HSt.len ⟨⟨h0,h1,h2,h3,h4,h5,h6,h7⟩,d,r⟩=l:=hl
 rw [hlen] at hok
 have he:=c0y hok
 have hb:=b0o hok
 have hw:Go.RowKit.wrap64 (1073741824-((l:Nat):Int))=1073741824-((l:Nat):Int):=w64 (by omega)
 have hc:1073741824-((l:Nat):Int)<((b.length:Nat):Int):=by clear hw;omega
 have F0:=And.intro hlen<|And.intro hpl<|And.intro he<|And.intro hw<|hc
 refine CtM.k Tryd.func71 rfl Tryd.ntmps71 (congrArg Array.toList Tryd.results71) (by simp) fun w0 ro may fx=>?_
 refine Dj fun zZ zhZ=>?_
 iterate 20 first
  |(refine Cx fun zK zhK=>?_;simp only [go_sem,stB,Ak,H8.ls,F0];(repeat' (first|apply And.intro|intro _)))
  |refine zhK _ ?_
  |refine Cw ?_
  |(refine zhN _ ?_;clear zhN zhM)
  |refine Dx ?_
  |(refine zhM _ _ ?_;clear zhN zhM)
  |(refine zhZ _ _ ?_;simp only [go_sem,stB,Ak,H8.ls,F0];(all_goals (exact told_plain (by simp [Fj,Hz,Az]) ⟨rfl,rfl⟩)))
  |((all_goals (refine Cq (fun k=>k) (fun _ _=>rfl) ?_ ((i0c h0 h1 h2 h3 h4 h5 h6 h7 (Ov r) hpl ((r.length:Nat):Int) ((l:Nat):Int)).plain fun _ _ h=>h) ?_;focus (first|rfl|(simp only [go_sem,stB,Ak,H8.ls,F0]<;>rfl))));(all_goals (rintro v m ⟨hR,hm⟩;subst hR;subst hm));(all_goals refine And.intro (by first|rfl|simp only [go_sem,stB,Ak,H8.ls,F0]) (And.intro (by first|rfl|simp only [go_sem,stB,Ak,H8.ls,F0]) ?_));(all_goals simp only [go_sem,stB,Ak,H8.ls,F0]);(all_goals repeat' (first|apply And.intro|intro _)))
  |refine Bz fun zN zM zhN zhM=>?_
  |(refine Cy ?_ ?_;focus (first|rfl|(simp [go_sem,stB,Ak,H8.ls,F0];done)))
  |(refine Bv ?_ ?_;focus (first|rfl|(simp [go_sem,stB,Ak,H8.ls,F0];done)))
theorem a1x (h0 h1 h2 h3 h4 h5 h6 h7:UInt32) (d:Nat) (r:List UInt8) (hs:HSt.ok ⟨⟨h0,h1,h2,h3,h4,h5,h6,h7⟩,d,r⟩) (b:List UInt8) (hbl:d+r.length+b.length≤9223372036854775807) (ex:Bool) (hbig:1073741824<d+r.length+b.length):
 CtM Tryd.prog 65 [.w (.agg (stB ⟨⟨h0,h1,h2,h3,h4,h5,h6,h7⟩,d,r⟩)),.w (.one (.pl (.R ex 1 (Ej b))))] [(1000002,⟨false,[.pl (.u32 1779033703),.pl (.u32 3144134277),.pl (.u32 1013904242),.pl (.u32 2773480762),.pl (.u32 1359893119),.pl (.u32 2600822924),.pl (.u32 528734635),.pl (.u32 1541459225)]⟩)] (Told (fun v m=>v=.tup [.agg (Ak ⟨0,0,0,0,0,0,0,0⟩ (List.replicate 64 0) 0 0),.one (.pl (.i 1))]∧m=[])):=by
 have hr:r.length≤64:=hs.1
 have hd:d+r.length≤1073741824:=hs.2.1
 have hpl:=Gx hr
 have hok:=i0q hs
 obtain ⟨l,hl⟩: ∃ l,d+r.length=l:=⟨_,rfl⟩
 have hlen:HSt.len ⟨⟨h0,h1,h2,h3,h4,h5,h6,h7⟩,d,r⟩=l:=hl
 rw [hlen] at hok
 have he:=c0y hok
 have hb:=b0o hok
 have hc:(1073741824:Int)<((l+b.length:Nat):Int):=by omega
 have hw:Go.RowKit.wrap64 (((l:Nat):Int)+((b.length:Nat):Int))=((l+b.length:Nat):Int):=Ny (by omega) (by omega)
 have F0:=And.intro hlen<|And.intro hpl<|And.intro hb<|And.intro hw<|hc
 refine CtM.k Tryd.func65 rfl Tryd.ntmps65 (congrArg Array.toList Tryd.results65) (by simp) fun w0 ro may fx=>?_
 refine Dj fun zZ zhZ=>?_
 iterate 18 first
  |(refine Cx fun zK zhK=>?_;simp only [go_sem,stB,Ak,H8.ls,F0];(repeat' (first|apply And.intro|intro _)))
  |refine zhK _ ?_
  |refine Cw ?_
  |(refine zhN _ ?_;clear zhN zhM)
  |refine Dx ?_
  |(refine zhM _ _ ?_;clear zhN zhM)
  |(refine zhZ _ _ ?_;simp only [go_sem,stB,Ak,H8.ls,F0];(all_goals (exact told_plain (by simp [Fj,Hz,Az]) ⟨rfl,rfl⟩)))
  |((all_goals (refine Cq (fun k=>k) (fun _ _=>rfl) ?_ ((q0a h0 h1 h2 h3 h4 h5 h6 h7 (Ov r) hpl ((r.length:Nat):Int) ((l:Nat):Int)).plain fun _ _ h=>h) ?_;focus (first|rfl|(simp only [go_sem,stB,Ak,H8.ls,F0]<;>rfl))));(all_goals (rintro v m ⟨hR,hm⟩;subst hR;subst hm));(all_goals refine And.intro (by first|rfl|simp only [go_sem,stB,Ak,H8.ls,F0]) (And.intro (by first|rfl|simp only [go_sem,stB,Ak,H8.ls,F0]) ?_));(all_goals simp only [go_sem,stB,Ak,H8.ls,F0]);(all_goals repeat' (first|apply And.intro|intro _)))
  |refine Bz fun zN zM zhN zhM=>?_
  |(refine Cy ?_ ?_;focus (first|rfl|(simp [go_sem,stB,Ak,H8.ls,F0];done)))
  |(refine Bv ?_ ?_;focus (first|rfl|(simp [go_sem,stB,Ak,H8.ls,F0];done)))
end Bk
end Go.Sy
namespace Go.Sy
namespace Bk
open Go.Proofs
attribute [local irreducible] Dv HT Cz Px onC onE onO onG goV goA goS Qx Dw
theorem u1e (h0 h1 h2 h3 h4 h5 h6 h7:UInt32) (d:Nat) (r:List UInt8) (hs:HSt.ok ⟨⟨h0,h1,h2,h3,h4,h5,h6,h7⟩,d,r⟩) (b:List UInt8) (hbl:d+r.length+b.length≤9223372036854775807) (ex:Bool) (hnb:¬1073741824<d+r.length+b.length):
 CtM Tryd.prog 71 [.w (.agg (stB ⟨⟨h0,h1,h2,h3,h4,h5,h6,h7⟩,d,r⟩)),.w (.one (.pl (.R ex 1 (Ej b))))] [(1000003,⟨false,[.pl (.u32 1779033703),.pl (.u32 3144134277),.pl (.u32 1013904242),.pl (.u32 2773480762),.pl (.u32 1359893119),.pl (.u32 2600822924),.pl (.u32 528734635),.pl (.u32 1541459225)]⟩),(1000004,⟨false,i0r⟩)] (Told (fun v m=>v=.tup [.agg (stB (Zx ⟨⟨h0,h1,h2,h3,h4,h5,h6,h7⟩,d,r⟩ b)),.one (.pl (.i 0))]∧m=[])):=by
 have hr:r.length≤64:=hs.1
 have hd:d+r.length≤1073741824:=hs.2.1
 have hpl:=Gx hr
 have hok:=i0q hs
 obtain ⟨l,hl⟩: ∃ l,d+r.length=l:=⟨_,rfl⟩
 have hlen:HSt.len ⟨⟨h0,h1,h2,h3,h4,h5,h6,h7⟩,d,r⟩=l:=hl
 rw [hlen] at hok
 have he:=c0y hok
 have hb:=b0o hok
 have hw:Go.RowKit.wrap64 (1073741824-((l:Nat):Int))=1073741824-((l:Nat):Int):=w64 (by omega)
 have hc:¬1073741824-((l:Nat):Int)<((b.length:Nat):Int):=by clear hw;omega
 have F0:=And.intro hlen<|And.intro hpl<|And.intro he<|And.intro hw<|hc
 refine CtM.k Tryd.func71 rfl Tryd.ntmps71 (congrArg Array.toList Tryd.results71) (by simp) fun w0 ro may fx=>?_
 refine Dj fun zZ zhZ=>?_
 iterate 21 first
  |(refine Cx fun zK zhK=>?_;simp only [go_sem,stB,Ak,H8.ls,F0];(repeat' (first|apply And.intro|intro _)))
  |refine zhK _ ?_
  |refine Cw ?_
  |(refine zhN _ ?_;clear zhN zhM)
  |refine Aj fun zB zbn zbx zbr zbi=>?_
  |((all_goals (refine Cq (fun k=>k) (fun _ _=>rfl) ?_ ((i0c h0 h1 h2 h3 h4 h5 h6 h7 (Ov r) hpl ((r.length:Nat):Int) ((l:Nat):Int)).plain fun _ _ h=>h) ?_;focus (first|rfl|(simp only [go_sem,stB,Ak,H8.ls,F0]<;>rfl))));(all_goals (rintro v m ⟨hR,hm⟩;subst hR;subst hm));(all_goals refine And.intro (by first|rfl|simp only [go_sem,stB,Ak,H8.ls,F0]) (And.intro (by first|rfl|simp only [go_sem,stB,Ak,H8.ls,F0]) ?_));(all_goals simp only [go_sem,stB,Ak,H8.ls,F0]);(all_goals repeat' (first|apply And.intro|intro _)))
  |refine Bz fun zN zM zhN zhM=>?_
  |(refine Cy ?_ ?_;focus (first|rfl|(simp [go_sem,stB,Ak,H8.ls,F0];done)))
 refine Gv [0,1,6,9,10,11,12,13,14,15,16,17,18,19,20,21] ?_
 simp only [Gj,Iq,Gq,List.contains_cons,List.contains_nil,Nat.reduceBEq,beq_self_eq_true,Bool.or_false,Bool.or_true,Bool.true_or,Bool.false_or,Bool.false_eq_true,reduceIte]
 refine Jz (fun y=>[(24,.w (.one (.pl (.i ((y.1:Nat):Int)))))]) (fun y=>[(2,⟨false,stB (Zx ⟨⟨h0,h1,h2,h3,h4,h5,h6,h7⟩,d,r⟩ (b.take y.1))⟩)]) (fun y=>b.length-y.1) (⟨0,Nat.zero_le _⟩:{y:Nat//y≤b.length}) ?_ ?_ ?_
 · (simp only [go_sem,leX,List.cons_append,List.nil_append];try simp)
 · (simp only [stB,Ak,H8.ls,Zx,List.take_zero,List.foldl_nil,hlen,go_sem,leX,List.cons_append,List.nil_append];try simp [stB,hlen,Zx,leX,look])
 intro ⟨i,hi⟩ zN zM zhN zhM
 simp only [List.cons_append,List.nil_append]
 have hd:(i<b.length∧(Zx ⟨⟨h0,h1,h2,h3,h4,h5,h6,h7⟩,d,r⟩ (b.take i)).rest.length=64)∨(i<b.length∧¬(Zx ⟨⟨h0,h1,h2,h3,h4,h5,h6,h7⟩,d,r⟩ (b.take i)).rest.length=64)∨i=b.length:=by
  by_cases e1:i=b.length
  · exact .inr (.inr e1)
  · by_cases e2:(Zx ⟨⟨h0,h1,h2,h3,h4,h5,h6,h7⟩,d,r⟩ (b.take i)).rest.length=64
    · exact .inl ⟨by omega,e2⟩
    · exact .inr (.inl ⟨by omega,e2⟩)
 rcases hd with ⟨hlt,h15⟩|⟨hlt,h15⟩|rfl
 · obtain ⟨⟨⟨q0,q1,q2,q3,q4,q5,q6,q7⟩,d1,q⟩,hq⟩: ∃ q,Zx ⟨⟨h0,h1,h2,h3,h4,h5,h6,h7⟩,d,r⟩ (b.take i)=q:=⟨_,rfl⟩
   have hal:=h0h (l:=b.take i) (s:=⟨⟨h0,h1,h2,h3,h4,h5,h6,h7⟩,d,r⟩) hr
   rw [hq,List.length_take] at hal
   simp only at hal
   obtain ⟨hq64,hqd⟩:=hal
   have hsn:=u0k (s:=⟨⟨h0,h1,h2,h3,h4,h5,h6,h7⟩,d,r⟩) hlt
   rw [hq] at hsn
   have hpq:=Gx (r:=q) hq64
   simp only [hq,stB]
   have hcq:((i:Nat):Int)<((b.length:Nat):Int):=by omega
   have hc0:(0:Int)≤((i:Nat):Int):=by omega
   have hg0:=d0k hlt
   obtain ⟨c,hc⟩: ∃ c,b.getD i 0=c:=⟨_,rfl⟩
   rw [hc] at hsn hg0
   obtain ⟨l1,hl1⟩: ∃ l,d1+q.length=l:=⟨_,rfl⟩
   have hlen1:HSt.len ⟨⟨q0,q1,q2,q3,q4,q5,q6,q7⟩,d1,q⟩=l1:=hl1
   have hlb:l1+1≤1073741824:=by omega
   have hmi:min i b.length=i:=by omega
   rw [hmi] at hqd
   rw [hq] at h15
   simp only at h15
   have hpf:=a1p h15
   have hce:((q.length:Nat):Int)=64:=by omega
   obtain ⟨⟨z0,z1,z2,z3,z4,z5,z6,z7⟩,hz⟩: ∃ z,e0t ⟨q0,q1,q2,q3,q4,q5,q6,q7⟩ q (d1+64) false=z:=⟨_,rfl⟩
   have hst:a0d ⟨⟨q0,q1,q2,q3,q4,q5,q6,q7⟩,d1,q⟩ c=⟨⟨z0,z1,z2,z3,z4,z5,z6,z7⟩,d1+64,[c]⟩:=by unfold a0d;rw [if_pos h15];simp only [hz]
   rw [hst] at hsn
   have hl64:d1+64=l1:=by omega
   rw [hl64] at hz
   have hsq:=y0f q0 q1 q2 q3 q4 q5 q6 q7 q h15 64 l1 (by omega) false
   rw [hz] at hsq
   have hlen2:HSt.len ⟨⟨z0,z1,z2,z3,z4,z5,z6,z7⟩,d1+64,[c]⟩=l1+1:=by show d1+64+1=_;omega
   have hput:List.drop 1 (List.replicate 64 (0:UInt8))=List.replicate 63 0:=rfl
   have hp1:Az (c::List.replicate 63 0)=L.pl (PL.u8 c)::Az (List.replicate 63 0):=rfl
   obtain ⟨hs1,hs2,hs3⟩:Go.RowKit.wrap64 (((i:Nat):Int)+1)=((i+1:Nat):Int)∧Go.RowKit.wrap64 (((l1:Nat):Int)+1)=((l1+1:Nat):Int)∧Go.RowKit.wrap64 1=1:=⟨Ny (by omega) (by omega),Ny (by omega) (by omega),w64 (by decide)⟩
   have F10:=And.intro hlen1<|And.intro hcq<|And.intro hc0<|And.intro hg0<|And.intro hpf<|And.intro h15<|And.intro hce<|And.intro hput<|And.intro hs1<|And.intro hs2<|hs3
   iterate 30 first
    |refine zhK _ ?_
    |(refine Cx fun zK zhK=>?_;simp only [go_sem,stB,Ak,H8.ls,F0,F10];(repeat' (first|apply And.intro|intro _)))
    |(refine zhN _ ?_;clear zhN zhM)
    |(refine Av fun zK zhK=>?_;simp only [go_sem,stB,Ak,H8.ls,F0,F10];(repeat' (first|apply And.intro|intro _)))
    |refine Cw ?_
    |refine Aj fun zB zbn zbx zbr zbi=>?_
    |(refine zbn _ ?_;clear zbn zbx zbr zbi)
    |((all_goals (refine Bq false [] (fun k=>k) (fun _ _=>rfl) ?_ (by decide) ?_ hsq.told ?_;iterate 2 (focus (first|rfl|(simp only [go_sem,stB,Ak,H8.ls,F0,F10]<;>first|done|rfl|simp)))));(all_goals (rintro v m ⟨hR,hm⟩;subst hR;subst hm));(all_goals (refine And.intro ?_ (And.intro ?_ (And.intro ?_ ?_));iterate 3 (focus (first|rfl|(simp only [go_sem,stB,Ak,H8.ls,F0,F10];done)|(simp [go_sem,look,stB,Ak,H8.ls,F0,F10];done)))));(all_goals (try simp only [go_sem,stB,Ak,H8.ls,F0,F10]));(all_goals (try simp only [go_sem,stB,Ak,H8.ls,F0,F10]));(all_goals repeat' (first|apply And.intro|intro _)))
    |refine Bz fun zN zM zhN zhM=>?_
    |(refine Bv ?_ ?_;focus (first|rfl|(simp [go_sem,stB,Ak,H8.ls,F0,F10];done)))
   refine zhN ⟨i+1,hlt⟩ _ ?_ ?_ ?_
   · (exact Nat.sub_lt_sub_left hlt (Nat.lt_succ_self i))
   · (simp only [go_sem,leX,List.cons_append,List.nil_append];try simp)
   · (simp only [hsn,stB,hlen2,s0l,hp1,Ak,H8.ls,go_sem,leX,List.cons_append,List.nil_append];first|done|(simp [hsn,stB,hlen2,s0l,Ak,H8.ls,leX,look];done)|rfl)
 · obtain ⟨⟨⟨q0,q1,q2,q3,q4,q5,q6,q7⟩,d1,q⟩,hq⟩: ∃ q,Zx ⟨⟨h0,h1,h2,h3,h4,h5,h6,h7⟩,d,r⟩ (b.take i)=q:=⟨_,rfl⟩
   have hal:=h0h (l:=b.take i) (s:=⟨⟨h0,h1,h2,h3,h4,h5,h6,h7⟩,d,r⟩) hr
   rw [hq,List.length_take] at hal
   simp only at hal
   obtain ⟨hq64,hqd⟩:=hal
   have hsn:=u0k (s:=⟨⟨h0,h1,h2,h3,h4,h5,h6,h7⟩,d,r⟩) hlt
   rw [hq] at hsn
   have hpq:=Gx (r:=q) hq64
   simp only [hq,stB]
   have hcq:((i:Nat):Int)<((b.length:Nat):Int):=by omega
   have hc0:(0:Int)≤((i:Nat):Int):=by omega
   have hg0:=d0k hlt
   obtain ⟨c,hc⟩: ∃ c,b.getD i 0=c:=⟨_,rfl⟩
   rw [hc] at hsn hg0
   obtain ⟨l1,hl1⟩: ∃ l,d1+q.length=l:=⟨_,rfl⟩
   have hlen1:HSt.len ⟨⟨q0,q1,q2,q3,q4,q5,q6,q7⟩,d1,q⟩=l1:=hl1
   have hlb:l1+1≤1073741824:=by omega
   have hmi:min i b.length=i:=by omega
   rw [hmi] at hqd
   rw [hq] at h15
   simp only at h15
   have hce:(((q.length:Nat):Int)=64)=False:=eq_false (by omega)
   have hst:a0d ⟨⟨q0,q1,q2,q3,q4,q5,q6,q7⟩,d1,q⟩ c=⟨⟨q0,q1,q2,q3,q4,q5,q6,q7⟩,d1,q++[c]⟩:=by unfold a0d;rw [if_neg h15]
   rw [hst] at hsn
   have hc1:(0:Int)≤((q.length:Nat):Int)∧((q.length:Nat):Int)<64∧q.length+1≤64∧q.length<64:=by omega
   have hpt:=n0x q
   have hps:=e1w (r:=q) (by omega) c
   have hput:Az q++[L.pl (PL.u8 c)]++Az (List.drop (q.length+1) (Ov q))=Az (Ov (q++[c])):=by rw [←hps];simp [Az]
   have hpl2:=Gx (r:=q++[c]) (by simp;omega)
   have hle3:(64≤q.length+1+(List.drop (q.length+1) (Ov q)).length)=True:=eq_true (by rw [List.length_drop,hpq];omega)
   have hlen2:HSt.len ⟨⟨q0,q1,q2,q3,q4,q5,q6,q7⟩,d1,q++[c]⟩=l1+1:=by show d1+(q++[c]).length=_;rw [List.length_append,List.length_cons,List.length_nil];omega
   obtain ⟨hs1,hs2,hs3⟩:Go.RowKit.wrap64 (((i:Nat):Int)+1)=((i+1:Nat):Int)∧Go.RowKit.wrap64 (((l1:Nat):Int)+1)=((l1+1:Nat):Int)∧Go.RowKit.wrap64 (((q.length:Nat):Int)+1)=((q.length+1:Nat):Int):=⟨Ny (by omega) (by omega),Ny (by omega) (by omega),Ny (by omega) (by omega)⟩
   have F23:=And.intro hlen1<|And.intro hcq<|And.intro hc0<|And.intro hg0<|And.intro hput<|And.intro hpl2<|And.intro hle3<|And.intro hpq<|And.intro hpt<|And.intro hce<|And.intro hc1<|And.intro hs1<|And.intro hs2<|hs3
   iterate 26 first
    |refine zhK _ ?_
    |(refine Cx fun zK zhK=>?_;simp only [go_sem,stB,Ak,H8.ls,F0,F23];(repeat' (first|apply And.intro|intro _)))
    |(refine zhN _ ?_;clear zhN zhM)
    |refine Cw ?_
    |(refine Av fun zK zhK=>?_;simp only [go_sem,stB,Ak,H8.ls,F0,F23];(repeat' (first|apply And.intro|intro _)))
    |refine Aj fun zB zbn zbx zbr zbi=>?_
    |(refine zbn _ ?_;clear zbn zbx zbr zbi)
    |refine Bz fun zN zM zhN zhM=>?_
    |(refine Bv ?_ ?_;focus (first|rfl|(simp [go_sem,stB,Ak,H8.ls,F0,F23];done)))
    |(refine Cy ?_ ?_;focus (first|rfl|(simp [go_sem,stB,Ak,H8.ls,F0,F23];done)))
   refine zhN ⟨i+1,hlt⟩ _ ?_ ?_ ?_
   · (exact Nat.sub_lt_sub_left hlt (Nat.lt_succ_self i))
   · (simp only [go_sem,leX,List.cons_append,List.nil_append];try simp)
   · (simp only [hsn,stB,hlen2,Ak,H8.ls,go_sem,leX,List.cons_append,List.nil_append];first|done|(simp [hsn,stB,hlen2,Ak,H8.ls,leX,look];done)|rfl)
 · obtain ⟨⟨⟨q0,q1,q2,q3,q4,q5,q6,q7⟩,d1,q⟩,hq⟩: ∃ q,Zx ⟨⟨h0,h1,h2,h3,h4,h5,h6,h7⟩,d,r⟩ (b.take b.length)=q:=⟨_,rfl⟩
   simp only [hq,stB]
   rw [List.take_length] at hq
   have hal:=h0h (l:=b) (s:=⟨⟨h0,h1,h2,h3,h4,h5,h6,h7⟩,d,r⟩) hr
   rw [hq] at hal
   have hpq:=Gx (r:=q) hal.1
   have hcq:¬((b.length:Nat):Int)<((b.length:Nat):Int):=by omega
   iterate 13 first
    |(refine Cx fun zK zhK=>?_;simp only [go_sem,stB,Ak,H8.ls,F0,hcq,hpq];(repeat' (first|apply And.intro|intro _)))
    |refine zhK _ ?_
    |(refine zhM _ _ ?_;clear zhN zhM)
    |refine Ey ?_
    |(refine zbx _ ?_;clear zbn zbx zbr zbi)
    |(refine zhN _ ?_;clear zhN zhM)
    |refine Dx ?_
    |(refine zhZ _ _ ?_;simp only [go_sem,stB,Ak,H8.ls,F0,hcq,hpq];(all_goals (exact told_plain (by simp [Fj,Hz,Az]) ⟨by rw [hq],rfl⟩)))
    |refine Bz fun zN zM zhN zhM=>?_
    |(refine Cy ?_ ?_;focus (first|rfl|(simp [go_sem,stB,Ak,H8.ls,F0,hcq,hpq];done)))
end Bk
end Go.Sy
