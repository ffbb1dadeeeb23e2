/- Walks and what they compute. CONDITIONS: those that each theorem names. -/
import Derived.Test.YtlmbdhfkdhjcfaaDoorvS5
import Derived.Test.YtlmbdhfkdhjcfaaDoorvE3
import Derived.Test.YtlmbdhfkdhjcfaaDoorvS7
set_option linter.unusedVariables false
set_option linter.unusedSimpArgs false
set_option maxHeartbeats 8000000
set_option maxRecDepth 100000
namespace Go.Sy
namespace Bk
open Go.Proofs
attribute [local irreducible] Dv HT Cz Px onC onE onO onG goV goA goS Qx Dw
def n0e (b:List UInt8) (k:Nat) (q:List UInt32):Nat→List UInt32
 |0=>q
 |i+1=>m0t (n0e b k q i) i (4+i) (8+i) (12+i) (b0h b k (8+2*i)) (b0h b k (8+2*i+1))
theorem t0t (b:List UInt8) (k:Nat) (q:List UInt32): ∀ i,(n0e b k q i).length=q.length
 |0=>rfl
 |i+1=>by rw [n0e,p0u,t0t b k q i]
theorem i1c (b:List UInt8) (k:Nat) (w:W16):n0e b k w.l 4=(w.col fun i=>b0h b k (8+i)).l:=by
 simp only [n0e,W16.l,Nat.zero_add,Nat.mul_zero,Nat.add_zero,Nat.mul_one,Nat.reduceAdd,Nat.reduceMul,p1k,p1j,p1i,p1h];rfl
theorem r1a (b:List UInt8) (k:Nat) (w:W16):(w.sh.col fun i=>b0h b k (8+i)).unsh=w.diag (b0h b k):=rfl
theorem o1u (w:W16):Ct Tryd.prog 82 [.w (.agg (Lv w.l)),.w (.one (.pl (.i 0)))] (fun v m=>v=.w (.agg (Lv w.l))):=d1y w.x0 w.x1 w.x2 w.x3 w.x4 w.x5 w.x6 w.x7 w.x8 w.x9 w.x10 w.x11 w.x12 w.x13 w.x14 w.x15
theorem x1v (w:W16):Ct Tryd.prog 82 [.w (.agg (Lv w.l)),.w (.one (.pl (.i 1)))] (fun v m=>v=.w (.agg (Lv w.sh.l))):=d1x w.x0 w.x1 w.x2 w.x3 w.x4 w.x5 w.x6 w.x7 w.x8 w.x9 w.x10 w.x11 w.x12 w.x13 w.x14 w.x15
theorem x1u (w:W16):Ct Tryd.prog 82 [.w (.agg (Lv w.l)),.w (.one (.pl (.i (-1))))] (fun v m=>v=.w (.agg (Lv w.unsh.l))):=d1w w.x0 w.x1 w.x2 w.x3 w.x4 w.x5 w.x6 w.x7 w.x8 w.x9 w.x10 w.x11 w.x12 w.x13 w.x14 w.x15
theorem r0k (h0 h1 h2 h3 h4 h5 h6 h7:UInt32) (b:List UInt8) (hb:b.length=64) (len:Nat) (hl:len≤1073741824) (last:Bool):
 CtM Tryd.prog 75 [.w (.agg [.pl (.u32 h0),.pl (.u32 h1),.pl (.u32 h2),.pl (.u32 h3),.pl (.u32 h4),.pl (.u32 h5),.pl (.u32 h6),.pl (.u32 h7)]),.w (.one (.pl (.str b))),.w (.one (.pl (.i ((len:Nat):Int)))),.w (.one (.pl (.b last)))] [(1000002,⟨false,[.pl (.u32 1779033703),.pl (.u32 3144134277),.pl (.u32 1013904242),.pl (.u32 2773480762),.pl (.u32 1359893119),.pl (.u32 2600822924),.pl (.u32 528734635),.pl (.u32 1541459225)]⟩)] (Told (fun v m=>v=.w (.agg (e0t ⟨h0,h1,h2,h3,h4,h5,h6,h7⟩ b len last).ls)∧m=[])):=by
 have hcv:UInt32.ofNat (((len:Nat):Int)%4294967296).toNat=UInt32.ofNat len:=by
  rw [show (((len:Nat):Int)%4294967296).toNat=len from by omega]
 have F0:=And.intro hb<|And.intro hcv<|Int.mul_zero
 refine CtM.k Tryd.func75 rfl Tryd.ntmps75 (congrArg Array.toList Tryd.results75) (by simp) fun w0 ro may fx=>?_
 refine Dj fun zZ zhZ=>?_
 iterate 165 first
  |(refine Cv (x:=.seq (.region 3 _ _) _) [10,19,20,21,22,23,24,25,26,27,28,29,30,31,32,33,34,35,36,37,38,39,40] ?_;simp only [go_sem,St.forget,fgt];refine Fq fun zN zM zhN zhM=>?_)
  |refine Fq fun zN zM zhN zhM=>?_
  |refine zhK _ ?_
  |(refine zhN _ ?_;clear zhN zhM)
  |(refine Cx fun zK zhK=>?_;simp only [go_sem,F0,Int.reduceTMod,Int.reduceTDiv];(repeat' (first|apply And.intro|intro _)))
  |refine Aj fun zB zbn zbx zbr zbi=>?_
  |refine Cw ?_
  |(refine Vw (id:=5) [21,22,23,24,25,26,27,28,29,30,31,32,33,34,35,36,37,38,39] [0,1,0,4,0,16,48,0,128,0,512,1536,0,4096,12288,3,36367,101903,112,524287,1048575] [(4,17),(5,17),(6,17),(7,17),(8,17),(12,17),(13,17),(14,17),(17,18)] mixed (by kernel_rfl) (by simp only [go_sem]) fun zK zhK=>?_;simp only [go_sem,F0,Int.reduceTMod,Int.reduceTDiv];(repeat' (first|apply And.intro|intro _)))
  |(refine zhK _ _ ?_ ?_;(focus (first|trivial|(simp only [go_sem];done)|(simp only [go_sem];simp;done)|(simp only [go_sem];simp;simp only [go_sem]))))
  |(refine zbn _ ?_;clear zbn zbx zbr zbi)
  |(refine Av fun zK zhK=>?_;simp only [go_sem,F0,Int.reduceTMod,Int.reduceTDiv];(repeat' (first|apply And.intro|intro _)))
  |(refine zhM _ _ ?_;clear zhN zhM)
  |refine Fx (x:=.seq (.region 3 _ _) _) 9 ?_
  |refine Ey ?_
  |(refine zbx _ ?_;clear zbn zbx zbr zbi)
  |refine Bz fun zN zM zhN zhM=>?_
  |(refine Bv ?_ ?_;focus (first|rfl|(simp [go_sem,F0,Int.reduceTMod,Int.reduceTDiv];done)))
  |(refine Cy ?_ ?_;focus (first|rfl|(simp [go_sem,F0,Int.reduceTMod,Int.reduceTDiv];done)))
 refine p1m [9,8,5,4] (fun w=>⟨[(9,.w (.one (.p 9 []))),(8,.w (.one (.p 8 []))),(5,.w (.one (.p 5 []))),(4,.w (.one (.p 4 [])))],[(9,⟨false,w.ls⟩),(8,⟨false,[.pl (.u32 0),.pl (.u32 0),.pl (.u32 0),.pl (.u32 0),.pl (.u32 0),.pl (.u32 0),.pl (.u32 0),.pl (.u32 0)]⟩),(5,⟨false,[.pl (.str b)]⟩),(4,⟨false,[.pl (.u32 h0),.pl (.u32 h1),.pl (.u32 h2),.pl (.u32 h3),.pl (.u32 h4),.pl (.u32 h5),.pl (.u32 h6),.pl (.u32 h7)]⟩),(1000002,⟨false,[.pl (.u32 1779033703),.pl (.u32 3144134277),.pl (.u32 1013904242),.pl (.u32 2773480762),.pl (.u32 1359893119),.pl (.u32 2600822924),.pl (.u32 528734635),.pl (.u32 1541459225)]⟩)]⟩) (fun w=>a2g ⟨h0,h1,h2,h3,h4,h5,h6,h7⟩ len last=w) (fun zN zM zhN zhM=>?_) (fun Wi hW=>?_)
 · skip
   refine Cx fun zK zhK=>?_
   simp only [go_sem,F0,Int.reduceTMod,Int.reduceTDiv]
   repeat' (first|apply And.intro|intro _)
   refine zhK _ ?_
   refine z0l rfl (fun hc=>?_) (fun hc=>?_)
   · try simp only [go_sem,F0,Int.reduceTMod,Int.reduceTDiv] at hc
     subst hc
     all_goals
      refine Av fun zK zhK=>?_
      simp only [go_sem,F0,Int.reduceTMod,Int.reduceTDiv]
      repeat' (first|apply And.intro|intro _)
      refine zhK _ ?_
      refine zhN _ rfl _ ?_
      (simp only [j0z,j0y,g0h,List.contains_cons,List.contains_nil,Nat.reduceBEq,beq_self_eq_true,Bool.or_false,Bool.or_true,Bool.true_or,Bool.false_or,Bool.false_eq_true,reduceIte];rfl)
   · try simp only [go_sem,F0,Int.reduceTMod,Int.reduceTDiv] at hc
     subst hc
     all_goals
      refine Cw ?_
      refine zhN _ rfl _ ?_
      (simp only [j0z,j0y,g0h,List.contains_cons,List.contains_nil,Nat.reduceBEq,beq_self_eq_true,Bool.or_false,Bool.or_true,Bool.true_or,Bool.false_or,Bool.false_eq_true,reduceIte];rfl)
 · skip
   iterate 6 first
    |(refine Cx fun zK zhK=>?_;simp only [go_sem,F0,Int.reduceTMod,Int.reduceTDiv];(repeat' (first|apply And.intro|intro _)))
    |refine zhK _ ?_
    |refine Aj fun zB zbn zbx zbr zbi=>?_
    |refine Bz fun zN zM zhN zhM=>?_
   refine Gv [0,1,2,3,5,10,18,19,20,21,22,23,24,25,26,27,28,29,30,31,32,33,34,35,36,37,38,39,40,41,42,43,44,45,46,47,48,49,50,51,52,53,54,55,56] ?_
   simp only [Gj,Iq,Gq,List.contains_cons,List.contains_nil,Nat.reduceBEq,beq_self_eq_true,Bool.or_false,Bool.or_true,Bool.true_or,Bool.false_or,Bool.false_eq_true,reduceIte]
   refine Jz (fun y=>[(57,.w (.one (.pl (.i ((y.1:Nat):Int)))))]) (fun y=>[(9,⟨false,(Wx b y.1 Wi).ls⟩)]) (fun y=>10-y.1) (⟨0,Nat.zero_le _⟩:{y:Nat//y≤10}) ?_ ?_ ?_
   · (simp only [go_sem,leX,List.cons_append,List.nil_append];try simp)
   · (simp only [Wx,go_sem,leX,List.cons_append,List.nil_append];first|done|rfl|(rw [←hW];simp [Wx,a2g,W16.ls,leX,look];done))
   intro ⟨k,hk9⟩ zN zM zhN zhM
   simp only [List.cons_append,List.nil_append]
   have yN0:=zhN
   rcases Nat.lt_or_ge k 10 with hlt|hge
   · have hcq:((k:Nat):Int)<10:=by omega
     have hs1:Go.RowKit.wrap64 (((k:Nat):Int)+1)=((k+1:Nat):Int):=Ny (by omega) (by omega)
     obtain ⟨w,hw⟩: ∃ w,Wx b k Wi=w:=⟨_,rfl⟩
     simp only [hw,W16.ls_l]
     have F0:=And.intro hcq<|And.intro hs1<|And.intro W16.l_len<|F0
     iterate 32 first
      |refine Fq fun zN zM zhN zhM=>?_
      |(refine Cx fun zK zhK=>?_;simp only [go_sem,F0,Int.reduceTMod,Int.reduceTDiv];(repeat' (first|apply And.intro|intro _)))
      |refine zhK _ ?_
      |refine Aj fun zB zbn zbx zbr zbi=>?_
      |refine Cw ?_
      |(refine zhN _ ?_;clear zhN zhM)
      |refine Fx (x:=.seq (.region 15 _ _) _) 3 ?_
      |((all_goals (refine Cq (fun k=>k) (fun _ _=>rfl) ?_ ((o1u w).plain fun _ _ h=>h) ?_;focus (first|rfl|(simp only [go_sem,F0,Int.reduceTMod,Int.reduceTDiv]<;>rfl))));(all_goals (rintro v m ⟨hR,hm⟩;subst hR;subst hm));(all_goals refine And.intro (by first|rfl|simp only [go_sem,F0,Int.reduceTMod,Int.reduceTDiv]) (And.intro (by first|rfl|simp only [go_sem,F0,Int.reduceTMod,Int.reduceTDiv]) ?_));(all_goals simp only [go_sem,F0,Int.reduceTMod,Int.reduceTDiv]);(all_goals repeat' (first|apply And.intro|intro _)))
      |refine Bz fun zN zM zhN zhM=>?_
      |(refine Bv ?_ ?_;focus (first|rfl|(simp [go_sem,F0,Int.reduceTMod,Int.reduceTDiv];done)))
     refine Jz (fun y=>[(66,.w (.one (.pl (.i ((y.1:Nat):Int)))))]) (fun y=>[(9,⟨false,Lv (e0e b k w.l y.1)⟩)]) (fun y=>4-y.1) (⟨0,Nat.zero_le _⟩:{y:Nat//y≤4}) ?_ ?_ ?_
     · (simp only [go_sem,leX,List.cons_append,List.nil_append,F0];try simp)
     · (simp only [go_sem,leX,e0e,List.cons_append,List.nil_append,F0];try simp)
     intro cc zN zM zhN zhM
     simp only [List.cons_append,List.nil_append]
     have yN1:=zhN
     obtain ⟨c,hc4⟩:=cc
     rcases Nat.lt_or_eq_of_le hc4 with hlc|rfl
     · have hcq:((c:Nat):Int)<4:=by omega
       have hc16:c<16:=by omega
       have hc41:c+1≤4:=hlc
       obtain ⟨s,hs⟩: ∃ s,e0e b k w.l c=s:=⟨_,rfl⟩
       have hsl:s.length=16:=by rw [←hs,g0t];rfl
       have hfin:e0e b k w.l (c+1)=m0t s c (4+c) (8+c) (12+c) (b0h b k (2*c)) (b0h b k (2*c+1)):=by rw [e0e,hs]
       have hz0:=x0p b hb k (2*c) hlt (by omega)
       have hz1:=x0p b hb k (2*c+1) hlt (by omega)
       simp only [hs]
       have F0:=And.intro hcq<|And.intro hlc<|And.intro hc41<|And.intro g1f<|And.intro hfin<|And.intro hsl<|And.intro (wt2 hc16)<|And.intro (wp1 hc16)<|And.intro (wp1 (i:=2*c) (by omega))<|And.intro (wz0 (i:=2*c) (by omega))<|And.intro @d2t<|And.intro @d2s<|And.intro @d2r<|And.intro @w1r<|And.intro @d2q<|And.intro @d2p<|And.intro @d2o<|And.intro @w1q<|And.intro fold_add<|And.intro g1w<|And.intro (g1v Ow)<|And.intro h0f<|And.intro k0g<|And.intro j0q<|And.intro m0t.eq_1<|F0
       have cq:=And.intro (And.intro (CF.mk [5] [(500000,5)]) (hz0))<|And.intro (And.intro (CF.mk [5] [(500000,5)]) (hz1))<|And.intro (fun x=>Ct.cv (f1u x))<|And.intro (fun x=>Ct.cv (f1t x))<|And.intro (fun x=>Ct.cv (f1s x))<|And.intro (fun x=>Ct.cv (f1r x))<|trivial
       have zd0:DR 22 [86,87,88,89,90,91,92,93,94,95,96,97,98] [0,0,3,7,0,0,48,112,0,496,1023,0,4095,8191] []:=trivial
       have zd1:DR 23 [99,100,101,102,103,104,105,106,107,108,109,110,111] [0,0,0,6,14,0,0,96,224,510,1022,0,4095,8191] []:=trivial
       have zd2:DR 24 [112,113,114,115,116,117,118,119,120,121,122] [0,0,3,7,0,0,48,112,255,0,1023,2047] []:=trivial
       have zd3:DR 25 [123,124,125,126,127,128,129,130,131,132,133,134,135] [0,0,0,6,14,0,0,96,224,510,1022,0,4095,8191] []:=trivial
       have zd4:DR 26 [136,137,138,139,140,141,142,143,144,145,146,147,148] [0,0,3,7,0,0,48,112,0,496,1023,0,4095,8191] []:=trivial
       have zd5:DR 27 [149,150,151,152,153,154,155,156,157,158,159,160,161] [0,0,0,6,14,0,0,96,224,510,1022,0,4095,8191] []:=trivial
       have zd6:DR 28 [162,163,164,165,166,167,168,169,170,171,172] [0,0,3,7,0,0,48,112,255,0,1023,2047] []:=trivial
       have zd7:DR 29 [173,174,175,176,177,178,179,180,181,182,183,184,185] [0,0,0,6,14,0,0,96,224,510,1022,0,4095,8191] []:=trivial
       have zL:=fun S2=>yN1 ⟨c+1,hlc⟩ S2 (by exact Nat.sub_lt_sub_left hlc (Nat.lt_succ_self c))
       exact HT.run2
     · have hcc:=z0m b k w
       obtain ⟨w1,hw1⟩: ∃ w1,w.col (b0h b k)=w1:=⟨_,rfl⟩
       rw [hw1] at hcc
       simp only [hcc]
       iterate 35 first
        |(refine Cv (x:=.seq (.region 15 _ _) _) [13,14,15,16,61,62,63,64,65,66,67,68,69,70,71,72,73,74,75,76,77,78,79,80,81,82,83,84,85,86,87,88,89,90,91,92,93,94,95,96,97,98,99,100,101,102,103,104,105,106,107,108,109,110,111,112,113,114,115,116,117,118,119,120,121,122,123,124,125,126,127,128,129,130,131,132,133,134,135,136,137,138,139,140,141,142,143,144,145,146,147,148,149,150,151,152,153,154,155,156,157,158,159,160,161,162,163,164,165,166,167,168,169,170,171,172,173,174,175,176,177,178,179,180,181,182,183,184,185,186,187,188,189,190,191] ?_;simp only [go_sem,St.forget,fgt];refine Fq fun zN zM zhN zhM=>?_)
        |refine zhK _ ?_
        |(refine Cx fun zK zhK=>?_;simp only [go_sem,F0,Int.reduceTMod,Int.reduceTDiv];(repeat' (first|apply And.intro|intro _)))
        |(refine zhN _ ?_;clear zhN zhM)
        |(refine zhM _ _ ?_;clear zhN zhM)
        |(refine Av fun zK zhK=>?_;simp only [go_sem,F0,Int.reduceTMod,Int.reduceTDiv];(repeat' (first|apply And.intro|intro _)))
        |refine Aj fun zB zbn zbx zbr zbi=>?_
        |refine Ey ?_
        |(refine zbx _ ?_;clear zbn zbx zbr zbi)
        |(refine zbn _ ?_;clear zbn zbx zbr zbi)
        |refine Cw ?_
        |((all_goals (refine Cq (fun k=>k) (fun _ _=>rfl) ?_ ((o1u w1).plain fun _ _ h=>h) ?_;focus (first|rfl|(simp only [go_sem,F0,Int.reduceTMod,Int.reduceTDiv]<;>rfl))));(all_goals (rintro v m ⟨hR,hm⟩;subst hR;subst hm));(all_goals refine And.intro (by first|rfl|simp only [go_sem,F0,Int.reduceTMod,Int.reduceTDiv]) (And.intro (by first|rfl|simp only [go_sem,F0,Int.reduceTMod,Int.reduceTDiv]) ?_));(all_goals simp only [go_sem,F0,Int.reduceTMod,Int.reduceTDiv]);(all_goals repeat' (first|apply And.intro|intro _)))
        |((all_goals (refine Cq (fun k=>k) (fun _ _=>rfl) ?_ ((x1v w1).plain fun _ _ h=>h) ?_;focus (first|rfl|(simp only [go_sem,F0,Int.reduceTMod,Int.reduceTDiv]<;>rfl))));(all_goals (rintro v m ⟨hR,hm⟩;subst hR;subst hm));(all_goals refine And.intro (by first|rfl|simp only [go_sem,F0,Int.reduceTMod,Int.reduceTDiv]) (And.intro (by first|rfl|simp only [go_sem,F0,Int.reduceTMod,Int.reduceTDiv]) ?_));(all_goals simp only [go_sem,F0,Int.reduceTMod,Int.reduceTDiv]);(all_goals repeat' (first|apply And.intro|intro _)))
        |refine Bz fun zN zM zhN zhM=>?_
        |(refine Cy ?_ ?_;focus (first|rfl|(simp [go_sem,F0,Int.reduceTMod,Int.reduceTDiv];done)))
        |(refine Bv ?_ ?_;focus (first|rfl|(simp [go_sem,F0,Int.reduceTMod,Int.reduceTDiv];done)))
       refine Jz (fun y=>[(66,.w (.one (.pl (.i ((y.1:Nat):Int)))))]) (fun y=>[(9,⟨false,Lv (n0e b k w1.sh.l y.1)⟩)]) (fun y=>4-y.1) (⟨0,Nat.zero_le _⟩:{y:Nat//y≤4}) ?_ ?_ ?_
       · (simp only [go_sem,leX,List.cons_append,List.nil_append,F0];try simp)
       · (simp only [go_sem,leX,n0e,List.cons_append,List.nil_append,F0];try simp)
       intro cc zN zM zhN zhM
       simp only [List.cons_append,List.nil_append]
       have yN2:=zhN
       obtain ⟨c,hc4⟩:=cc
       rcases Nat.lt_or_eq_of_le hc4 with hlc|rfl
       · have hcq:((c:Nat):Int)<4:=by omega
         have hc16:c<16:=by omega
         have hc41:c+1≤4:=hlc
         obtain ⟨s,hs⟩: ∃ s,n0e b k w1.sh.l c=s:=⟨_,rfl⟩
         have hsl:s.length=16:=by rw [←hs,t0t];rfl
         have hfin:n0e b k w1.sh.l (c+1)=m0t s c (4+c) (8+c) (12+c) (b0h b k (8+2*c)) (b0h b k (8+2*c+1)):=by rw [n0e,hs]
         have hz0:=x0p b hb k (8+2*c) hlt (by omega)
         have hz1:=x0p b hb k (8+2*c+1) hlt (by omega)
         simp only [hs]
         have F0:=And.intro hcq<|And.intro hlc<|And.intro hc41<|And.intro g1f<|And.intro hfin<|And.intro hsl<|And.intro (wt2 hc16)<|And.intro (wp1 hc16)<|And.intro (wp1 (i:=2*c) (by omega))<|And.intro (wl8 (i:=2*c) (by omega))<|And.intro (wp1 (i:=8+2*c) (by omega))<|And.intro @d2t<|And.intro @d2s<|And.intro @d2r<|And.intro @w1r<|And.intro @d2q<|And.intro @d2p<|And.intro @d2o<|And.intro @w1q<|And.intro fold_add<|And.intro g1w<|And.intro (g1v Ow)<|And.intro h0f<|And.intro k0g<|And.intro j0q<|And.intro m0t.eq_1<|F0
         have cq:=And.intro (And.intro (CF.mk [5] [(500000,5)]) (hz0))<|And.intro (And.intro (CF.mk [5] [(500000,5)]) (hz1))<|And.intro (fun x=>Ct.cv (f1u x))<|And.intro (fun x=>Ct.cv (f1t x))<|And.intro (fun x=>Ct.cv (f1s x))<|And.intro (fun x=>Ct.cv (f1r x))<|trivial
         have zd0:DR 22 [86,87,88,89,90,91,92,93,94,95,96,97,98] [0,0,3,7,0,0,48,112,0,496,1023,0,4095,8191] []:=trivial
         have zd1:DR 23 [99,100,101,102,103,104,105,106,107,108,109,110,111] [0,0,0,6,14,0,0,96,224,510,1022,0,4095,8191] []:=trivial
         have zd2:DR 24 [112,113,114,115,116,117,118,119,120,121,122] [0,0,3,7,0,0,48,112,255,0,1023,2047] []:=trivial
         have zd3:DR 25 [123,124,125,126,127,128,129,130,131,132,133,134,135] [0,0,0,6,14,0,0,96,224,510,1022,0,4095,8191] []:=trivial
         have zd4:DR 26 [136,137,138,139,140,141,142,143,144,145,146,147,148] [0,0,3,7,0,0,48,112,0,496,1023,0,4095,8191] []:=trivial
         have zd5:DR 27 [149,150,151,152,153,154,155,156,157,158,159,160,161] [0,0,0,6,14,0,0,96,224,510,1022,0,4095,8191] []:=trivial
         have zd6:DR 28 [162,163,164,165,166,167,168,169,170,171,172] [0,0,3,7,0,0,48,112,255,0,1023,2047] []:=trivial
         have zd7:DR 29 [173,174,175,176,177,178,179,180,181,182,183,184,185] [0,0,0,6,14,0,0,96,224,510,1022,0,4095,8191] []:=trivial
         have zL:=fun S2=>yN2 ⟨c+1,hlc⟩ S2 (by exact Nat.sub_lt_sub_left hlc (Nat.lt_succ_self c))
         exact HT.run2
       · have hcc:=i1c b k w1.sh
         have hdd:=r1a b k w1
         obtain ⟨w2,hw2⟩: ∃ w2,(w1.sh.col fun i=>b0h b k (8+i))=w2:=⟨_,rfl⟩
         rw [hw2] at hcc hdd
         have hfin:(Wx b (k+1) Wi).ls=Lv w2.unsh.l:=by rw [Wx,hw,hw1,W16.ls_l,hdd]
         simp only [hcc]
         have F0:=And.intro hfin<|F0
         iterate 30 first
          |(refine Cv (x:=.seq (.region 15 _ _) _) [13,14,15,16,61,62,63,64,65,66,67,68,69,70,71,72,73,74,75,76,77,78,79,80,81,82,83,84,85,86,87,88,89,90,91,92,93,94,95,96,97,98,99,100,101,102,103,104,105,106,107,108,109,110,111,112,113,114,115,116,117,118,119,120,121,122,123,124,125,126,127,128,129,130,131,132,133,134,135,136,137,138,139,140,141,142,143,144,145,146,147,148,149,150,151,152,153,154,155,156,157,158,159,160,161,162,163,164,165,166,167,168,169,170,171,172,173,174,175,176,177,178,179,180,181,182,183,184,185,186,187,188,189,190,191] ?_;simp only [go_sem,St.forget,fgt];refine Fq fun zN zM zhN zhM=>?_)
          |refine zhK _ ?_
          |(refine zhM _ _ ?_;clear zhN zhM)
          |(refine zhN _ ?_;clear zhN zhM)
          |(refine Av fun zK zhK=>?_;simp only [go_sem,F0,Int.reduceTMod,Int.reduceTDiv];(repeat' (first|apply And.intro|intro _)))
          |(refine Cx fun zK zhK=>?_;simp only [go_sem,F0,Int.reduceTMod,Int.reduceTDiv];(repeat' (first|apply And.intro|intro _)))
          |refine Ey ?_
          |(refine zbx _ ?_;clear zbn zbx zbr zbi)
          |(refine zbn _ ?_;clear zbn zbx zbr zbi)
          |((all_goals (refine Cq (fun k=>k) (fun _ _=>rfl) ?_ ((x1u w2).plain fun _ _ h=>h) ?_;focus (first|rfl|(simp only [go_sem,F0,Int.reduceTMod,Int.reduceTDiv]<;>rfl))));(all_goals (rintro v m ⟨hR,hm⟩;subst hR;subst hm));(all_goals refine And.intro (by first|rfl|simp only [go_sem,F0,Int.reduceTMod,Int.reduceTDiv]) (And.intro (by first|rfl|simp only [go_sem,F0,Int.reduceTMod,Int.reduceTDiv]) ?_));(all_goals simp only [go_sem,F0,Int.reduceTMod,Int.reduceTDiv]);(all_goals repeat' (first|apply And.intro|intro _)))
          |refine Bz fun zN zM zhN zhM=>?_
          |(refine Cy ?_ ?_;focus (first|rfl|(simp [go_sem,F0,Int.reduceTMod,Int.reduceTDiv];done)))
         refine zhN ⟨k+1,hlt⟩ _ ?_ ?_ ?_
         · (exact Nat.sub_lt_sub_left hlt (Nat.lt_succ_self k))
         · (simp only [go_sem,leX,List.cons_append,List.nil_append];try simp)
         · (simp only [go_sem,leX,List.cons_append,List.nil_append,F0];try simp)
   · obtain rfl:k=10:=by omega
     have hcq:¬((10:Nat):Int)<10:=by omega
     obtain ⟨w,hw⟩: ∃ w,Wx b 10 Wi=w:=⟨_,rfl⟩
     have hsk:e0t ⟨h0,h1,h2,h3,h4,h5,h6,h7⟩ b len last=c2t ⟨h0,h1,h2,h3,h4,h5,h6,h7⟩ w:=by rw [e0t,hW,hw]
     simp only [hw]
     obtain ⟨x0,x1,x2,x3,x4,x5,x6,x7,x8,x9,x10,x11,x12,x13,x14,x15⟩:=w
     simp only [W16.ls]
     have F0:=And.intro hcq<|F0
     iterate 172 first
      |(refine Cv (x:=.seq (.region 35 _ _) _) [17,194,195,196,197,198,199,200,201,202,203,204,205,206,207,208,209,210,211,212,213,214,215,216,217] ?_;simp only [go_sem,St.forget,fgt];refine Fq fun zN zM zhN zhM=>?_)
      |refine Fq fun zN zM zhN zhM=>?_
      |refine zhK _ ?_
      |(refine zhN _ ?_;clear zhN zhM)
      |(refine Cx fun zK zhK=>?_;simp only [go_sem,F0,Int.reduceTMod,Int.reduceTDiv];(repeat' (first|apply And.intro|intro _)))
      |refine Aj fun zB zbn zbx zbr zbi=>?_
      |refine Cw ?_
      |(refine Vw (id:=37) [196,197,198,199,200,201,202,203,204,205,206,207,208,209,210,211,212,213,214,215,216] [0,1,3,0,8,0,32,24,248,504,0,1024,3072,0,8192,7168,64512,130048,262136,524287,1048575,2097151] [] mixed (by kernel_rfl) (by simp only [go_sem]) fun zK zhK=>?_;simp only [go_sem,F0,Int.reduceTMod,Int.reduceTDiv];(repeat' (first|apply And.intro|intro _)))
      |refine zhK _ _ trivial ?_
      |(refine zbn _ ?_;clear zbn zbx zbr zbi)
      |(refine Av fun zK zhK=>?_;simp only [go_sem,F0,Int.reduceTMod,Int.reduceTDiv];(repeat' (first|apply And.intro|intro _)))
      |(refine zhM _ _ ?_;clear zhN zhM)
      |refine Ey ?_
      |(refine zbx _ ?_;clear zbn zbx zbr zbi)
      |refine Fx (x:=.seq (.region 35 _ _) _) 9 ?_
      |refine Dx ?_
      |(refine zhZ _ _ ?_;simp only [go_sem,F0,Int.reduceTMod,Int.reduceTDiv];(all_goals (exact told_plain rfl ⟨by rw [hsk];rfl,rfl⟩)))
      |refine Bz fun zN zM zhN zhM=>?_
      |(refine Bv ?_ ?_;focus (first|rfl|(simp [go_sem,F0,Int.reduceTMod,Int.reduceTDiv];done)))
      |(refine Cy ?_ ?_;focus (first|rfl|(simp [go_sem,F0,Int.reduceTMod,Int.reduceTDiv];done)))
end Bk
end Go.Sy
namespace Go.Sy
namespace Bk
open Go.Proofs
attribute [local irreducible] Dv HT Cz Px onC onE onO onG goV goA goS Qx Dw
theorem g1l (h0 h1 h2 h3 h4 h5 h6 h7:UInt32) (d:Nat) (r:List UInt8) (hs:HSt.ok ⟨⟨h0,h1,h2,h3,h4,h5,h6,h7⟩,d,r⟩) (b:List UInt8) (hbl:d+r.length+b.length≤9223372036854775807) (ex:Bool) (hnb:¬1073741824<d+r.length+b.length):
 CtM Tryd.prog 65 [.w (.agg (stB ⟨⟨h0,h1,h2,h3,h4,h5,h6,h7⟩,d,r⟩)),.w (.one (.pl (.R ex 1 (Ej b))))] [(1000002,⟨false,[.pl (.u32 1779033703),.pl (.u32 3144134277),.pl (.u32 1013904242),.pl (.u32 2773480762),.pl (.u32 1359893119),.pl (.u32 2600822924),.pl (.u32 528734635),.pl (.u32 1541459225)]⟩)] (Told (fun v m=>v=.tup [.agg (stB (Zx ⟨⟨h0,h1,h2,h3,h4,h5,h6,h7⟩,d,r⟩ b)),.one (.pl (.i 0))]∧m=[])):=by
 have hr:r.length≤64:=hs.1
 have hd:d+r.length≤1073741824:=hs.2.1
 have hpl:=Gx hr
 have hok:=i0q hs
 obtain ⟨l,hl⟩: ∃ l,d+r.length=l:=⟨_,rfl⟩
 have hlen:HSt.len ⟨⟨h0,h1,h2,h3,h4,h5,h6,h7⟩,d,r⟩=l:=hl
 rw [hlen] at hok
 have he:=c0y hok
 have hb:=b0o hok
 have n00:(r++b).length≤r.length+b.length:=by rw [List.length_append];omega
 have n0:d+(r++b).length=l+b.length:=by rw [List.length_append];omega
 have hc:¬(1073741824:Int)<((l+b.length:Nat):Int):=by omega
 have hc1:(0:Int)≤((r.length:Nat):Int):=by omega
 have hc2:((r.length:Nat):Int)≤64:=by omega
 have hpt:=n0x r
 have hml:r.length+b.length≤9223372036854775807:=by omega
 obtain ⟨hw,hw2⟩:Go.RowKit.wrap64 (((l:Nat):Int)+((b.length:Nat):Int))=((l+b.length:Nat):Int)∧Go.RowKit.wrap64 (((l:Nat):Int)-((r.length:Nat):Int))=((d:Nat):Int):=⟨Ny (by omega) (by omega),Ny (by omega) (by omega)⟩
 have F0:=And.intro hlen<|And.intro hpl<|And.intro hb<|And.intro hw<|And.intro hw2<|And.intro hc<|And.intro hc1<|And.intro hc2<|And.intro hpt<|And.intro hml<|hr
 refine CtM.k Tryd.func65 rfl Tryd.ntmps65 (congrArg Array.toList Tryd.results65) (by simp) fun w0 ro may fx=>?_
 refine Dj fun zZ zhZ=>?_
 iterate 23 first
  |(refine Cx fun zK zhK=>?_;simp only [go_sem,stB,Ak,H8.ls,Nat.sub_zero,Nat.zero_add,F0];(repeat' (first|apply And.intro|intro _)))
  |refine zhK _ ?_
  |refine Cw ?_
  |(refine zhN _ ?_;clear zhN zhM)
  |(refine r0v (id:=6) [22,23,24,25,26,27,28,7] [0,1,3,7,0,16,63,127] [] mixed (by kernel_rfl) (by simp only [go_sem]) fun zK zhK=>?_;simp only [go_sem,stB,Ak,H8.ls,Nat.sub_zero,Nat.zero_add,F0];(repeat' (first|apply And.intro|intro _)))
  |refine zhK _ _ trivial ?_
  |refine Aj fun zB zbn zbx zbr zbi=>?_
  |((all_goals (refine Cq (fun k=>k) (fun _ _=>rfl) ?_ ((q0a h0 h1 h2 h3 h4 h5 h6 h7 (Ov r) hpl ((r.length:Nat):Int) ((l:Nat):Int)).plain fun _ _ h=>h) ?_;focus (first|rfl|(simp only [go_sem,stB,Ak,H8.ls,Nat.sub_zero,Nat.zero_add,F0]<;>rfl))));(all_goals (rintro v m ⟨hR,hm⟩;subst hR;subst hm));(all_goals refine And.intro (by first|rfl|simp only [go_sem,stB,Ak,H8.ls,Nat.sub_zero,Nat.zero_add,F0]) (And.intro (by first|rfl|simp only [go_sem,stB,Ak,H8.ls,Nat.sub_zero,Nat.zero_add,F0]) ?_));(all_goals simp only [go_sem,stB,Ak,H8.ls,Nat.sub_zero,Nat.zero_add,F0]);(all_goals repeat' (first|apply And.intro|intro _)))
  |refine Bz fun zN zM zhN zhM=>?_
  |(refine Cy ?_ ?_;focus (first|rfl|(simp [go_sem,stB,Ak,H8.ls,Nat.sub_zero,Nat.zero_add,F0];done)))
 refine Gv [0,6,10,11,12,13,14,15,16,17,18,19,20,21,22,23,24,25,26,27,28,29,30,31,32,33] ?_
 simp only [Gj,Iq,Gq,List.contains_cons,List.contains_nil,Nat.reduceBEq,beq_self_eq_true,Bool.or_false,Bool.or_true,Bool.true_or,Bool.false_or,Bool.false_eq_true,reduceIte]
 refine Jz (fun y=>[(7,.w (.one (.pl (.str y.1.2.2)))),(8,.w (.one (.pl (.i ((y.1.2.1:Nat):Int)))))]) (fun y=>[(2,⟨false,Ak y.1.1 (Ov r) ((r.length:Nat):Int) ((l:Nat):Int)⟩)]) (fun y=>y.1.2.2.length) (⟨(⟨h0,h1,h2,h3,h4,h5,h6,h7⟩,d,r++b),rfl,n00,n0⟩:{y:H8×Nat×List UInt8//Zx ⟨y.1,y.2.1,[]⟩ y.2.2=Zx ⟨⟨h0,h1,h2,h3,h4,h5,h6,h7⟩,d,[]⟩ (r++b)∧y.2.2.length≤r.length+b.length∧y.2.1+y.2.2.length=l+b.length}) ?_ ?_ ?_
 · (simp only [go_sem,leX,List.cons_append,List.nil_append];try simp)
 · (simp only [Ak,H8.ls,go_sem,leX,List.cons_append,List.nil_append];try simp [Ak,H8.ls,leX,look])
 intro yy zN zM zhN zhM
 simp only [List.cons_append,List.nil_append]
 obtain ⟨⟨⟨q0,q1,q2,q3,q4,q5,q6,q7⟩,k,t⟩,hv,ht,hkt⟩:=yy
 simp only at hv ht hkt
 rcases Nat.lt_or_ge 64 t.length with hlt|hge
 · have hcq:(64:Int)<((t.length:Nat):Int):=by omega
   have hc0:(64:Int)≤((t.length:Nat):Int):=by omega
   have hc1:((t.length:Nat):Int).toNat=t.length:=Int.toNat_natCast _
   have htd:List.take (t.length-64) (List.drop 64 t)=List.drop 64 t:=List.take_of_length_le (by simp)
   have hbk:=c1o (l:=t) (h:=⟨q0,q1,q2,q3,q4,q5,q6,q7⟩) (d:=k) hlt
   obtain ⟨z,hz⟩: ∃ z,e0t ⟨q0,q1,q2,q3,q4,q5,q6,q7⟩ (t.take 64) (k+64) false=z:=⟨_,rfl⟩
   obtain ⟨z0,z1,z2,z3,z4,z5,z6,z7⟩:=z
   have hsq:=r0k q0 q1 q2 q3 q4 q5 q6 q7 (t.take 64) (by rw [List.length_take];omega) (k+64) (by omega) false
   rw [hz] at hsq hbk
   have n1:Zx ⟨⟨z0,z1,z2,z3,z4,z5,z6,z7⟩,k+64,[]⟩ (t.drop 64)=Zx ⟨⟨h0,h1,h2,h3,h4,h5,h6,h7⟩,d,[]⟩ (r++b):=by rw [←hbk,hv]
   have n2:(t.drop 64).length≤r.length+b.length:=by rw [List.length_drop];omega
   have n3:k+64+(t.drop 64).length=l+b.length:=by rw [List.length_drop];omega
   have n4:(t.drop 64).length<t.length:=by rw [List.length_drop];omega
   have hs1:Go.RowKit.wrap64 (((k:Nat):Int)+64)=((k+64:Nat):Int):=Ny (by omega) (by omega)
   have F11:=And.intro hcq<|And.intro hc0<|And.intro hc1<|And.intro htd<|hs1
   refine Bz fun zN zM zhN zhM=>?_
   refine Cx fun zK zhK=>?_
   simp only [go_sem,stB,Ak,H8.ls,Nat.sub_zero,Nat.zero_add,F0,F11]
   repeat' (first|apply And.intro|intro _)
   refine zhK _ ?_
   (refine Bv ?_ ?_;focus (first|rfl|(simp [go_sem,stB,Ak,H8.ls,Nat.sub_zero,Nat.zero_add,F0,F11];done)))
   refine Cw ?_
   refine zhN _ ?_;clear zhN zhM
   refine Aj fun zB zbn zbx zbr zbi=>?_
   refine Cx fun zK zhK=>?_
   simp only [go_sem,stB,Ak,H8.ls,Nat.sub_zero,Nat.zero_add,F0,F11]
   repeat' (first|apply And.intro|intro _)
   refine zhK _ ?_
   refine Bz fun zN zM zhN zhM=>?_
   refine b0s (id:=10) mixed fun zE zhE=>?_
   refine Ck (p:=0) 5 [39,40,41,42,43] [0,1,0,4,0,31,63,127] [] rfl (by kernel_rfl) rfl (by simp only [go_sem]) fun zR zK zhR zhK=>?_
   simp only [go_sem,stB,Ak,H8.ls,Nat.sub_zero,Nat.zero_add,F0,F11]
   repeat' (first|apply And.intro|intro _)
   refine zhK _ _ trivial (zhR _ ?_)
   refine Dk 3 8 rfl (by kernel_rfl) rfl rfl fun zR zhR=>?_
   simp only [go_sem,stB,Ak,H8.ls,Nat.sub_zero,Nat.zero_add,F0,F11]
   repeat' (first|apply And.intro|intro _)
   all_goals (refine Bq false [] (fun k=>k) (fun _ _=>rfl) ?_ (by decide) ?_ hsq.told ?_;iterate 2 (focus (first|rfl|(simp only [go_sem,stB,Ak,H8.ls,Nat.sub_zero,Nat.zero_add,F0,F11]<;>first|done|rfl|simp))))
   all_goals (rintro v m ⟨hR,hm⟩;subst hR;subst hm)
   all_goals (refine And.intro ?_ (And.intro ?_ (And.intro ?_ ?_));iterate 3 (focus (first|rfl|(simp only [go_sem,stB,Ak,H8.ls,Nat.sub_zero,Nat.zero_add,F0,F11];done)|(simp [go_sem,look,stB,Ak,H8.ls,Nat.sub_zero,Nat.zero_add,F0,F11];done))))
   all_goals (try simp only [go_sem,stB,Ak,H8.ls,Nat.sub_zero,Nat.zero_add,F0,F11])
   all_goals (try simp only [go_sem,stB,Ak,H8.ls,Nat.sub_zero,Nat.zero_add,F0,F11])
   all_goals repeat' (first|apply And.intro|intro _)
   refine zhR _ ?_
   refine Jy rfl (zhE _ ?_)
   refine zhN _ ?_;clear zhN zhM
   refine Av fun zK zhK=>?_
   simp only [go_sem,stB,Ak,H8.ls,Nat.sub_zero,Nat.zero_add,F0,F11]
   repeat' (first|apply And.intro|intro _)
   refine zhK _ ?_
   refine zbn _ ?_;clear zbn zbx zbr zbi
   refine zhN ⟨(⟨z0,z1,z2,z3,z4,z5,z6,z7⟩,k+64,t.drop 64),n1,n2,n3⟩ _ ?_ ?_ ?_
   · (exact n4)
   · (simp only [go_sem,leX,List.cons_append,List.nil_append];try simp)
   · (simp only [Ak,H8.ls,go_sem,leX,List.cons_append,List.nil_append];first|done|(simp [Ak,H8.ls,leX,look];done)|rfl)
 · have hcq:¬(64:Int)<((t.length:Nat):Int):=by omega
   have hsh:=d0z (h:=⟨q0,q1,q2,q3,q4,q5,q6,q7⟩) (d:=k) (r:=[]) (l:=t) (by simp;omega)
   rw [List.nil_append,hv,←j1i hr] at hsh
   have hlen2:HSt.len ⟨⟨q0,q1,q2,q3,q4,q5,q6,q7⟩,k,t⟩=l+b.length:=hkt
   have hmi:min t.length 64=t.length:=by omega
   have hmi2:min 64 t.length=t.length:=by omega
   have htk:List.take t.length t=t:=List.take_length
   have hdr:List.drop t.length (List.replicate 64 (0:UInt8))=List.replicate (64-t.length) 0:=List.drop_replicate
   have hpt:t++List.replicate (64-t.length) 0=Ov t:=rfl
   have hpl2:=Gx (r:=t) (by omega)
   have F20:=And.intro hcq<|And.intro hmi<|And.intro hmi2<|And.intro htk<|And.intro hdr<|And.intro hpt<|hpl2
   refine Bz fun zN zM zhN zhM=>?_
   iterate 10 first
    |(refine Cx fun zK zhK=>?_;simp only [go_sem,stB,Ak,H8.ls,Nat.sub_zero,Nat.zero_add,F0,F20];(repeat' (first|apply And.intro|intro _)))
    |refine zhK _ ?_
    |(refine zhM _ _ ?_;clear zhN zhM)
    |refine Ey ?_
    |(refine zbx _ ?_;clear zbn zbx zbr zbi)
    |(refine zhN _ ?_;clear zhN zhM)
    |(refine Cy ?_ ?_;focus (first|rfl|(simp [go_sem,stB,Ak,H8.ls,Nat.sub_zero,Nat.zero_add,F0,F20];done)))
   refine Bz fun zN zM zhN zhM=>?_
   refine n0o (id:=13) [58,59,60,61] (by simp only [go_sem]) fun zK zhK=>?_
   simp only [go_sem,stB,Ak,H8.ls,Nat.sub_zero,Nat.zero_add,F0,F20]
   repeat' (first|apply And.intro|intro _)
   refine zhK _ _ ?_
   refine zhN _ ?_;clear zhN zhM
   refine Cx fun zK zhK=>?_
   simp only [go_sem,stB,Ak,H8.ls,Nat.sub_zero,Nat.zero_add,F0,F20]
   repeat' (first|apply And.intro|intro _)
   refine zhK _ ?_
   refine Dx ?_
   refine zhZ _ _ ?_
   simp only [go_sem,stB,Ak,H8.ls,Nat.sub_zero,Nat.zero_add,F0,F20]
   all_goals (exact told_plain (by simp [Fj,Hz,Az]) ⟨by rw [hsh];first|rfl|(simp only [stB,hlen2,Ak,H8.ls];rfl)|simp only [stB,hlen2,Ak,H8.ls],rfl⟩)
end Bk
end Go.Sy
namespace Go.Sy
namespace Bk
open Go.Proofs
attribute [local irreducible] Dv HT Cz Px onC onE onO onG goV goA goS Qx Dw
theorem g1m (h0 h1 h2 h3 h4 h5 h6 h7:UInt32) (held:List UInt8) (hh:held.length=64) (k l:Nat) (hok:HashOk held (k:Int) (l:Int)) (b:List UInt8) (hbl:l+b.length≤9223372036854775807) (ex:Bool) (hbig:1073741824<l+b.length):CtM Tryd.prog 71 [.w (.agg (Ak ⟨h0,h1,h2,h3,h4,h5,h6,h7⟩ held (k:Int) (l:Int))),.w (.one (.pl (.R ex 1 (Ej b))))] [(1000003,⟨false,[.pl (.u32 1779033703),.pl (.u32 3144134277),.pl (.u32 1013904242),.pl (.u32 2773480762),.pl (.u32 1359893119),.pl (.u32 2600822924),.pl (.u32 528734635),.pl (.u32 1541459225)]⟩),(1000004,⟨false,i0r⟩)] (Told (fun v m=>v=.tup [.agg (Ak ⟨0,0,0,0,0,0,0,0⟩ (List.replicate 64 0) 0 0),.one (.pl (.i 1))]∧m=[])):=by
 obtain ⟨e1,e2⟩:=k1d hh hok ⟨h0,h1,h2,h3,h4,h5,h6,h7⟩
 have e3:(held.take k).length=k:=by rw [List.length_take];have:=hok.hi;omega
 have e4:k≤l:=by have:=hok.le;omega
 rw [←e2]
 exact m1v h0 h1 h2 h3 h4 h5 h6 h7 (l-k) (held.take k) e1 b (by rw [e3];omega) ex (by rw [e3];omega)
theorem a1y (h0 h1 h2 h3 h4 h5 h6 h7:UInt32) (held:List UInt8) (hh:held.length=64) (k l:Nat) (hok:HashOk held (k:Int) (l:Int)) (b:List UInt8) (hbl:l+b.length≤9223372036854775807) (ex:Bool) (hnb:¬1073741824<l+b.length):CtM Tryd.prog 71 [.w (.agg (Ak ⟨h0,h1,h2,h3,h4,h5,h6,h7⟩ held (k:Int) (l:Int))),.w (.one (.pl (.R ex 1 (Ej b))))] [(1000003,⟨false,[.pl (.u32 1779033703),.pl (.u32 3144134277),.pl (.u32 1013904242),.pl (.u32 2773480762),.pl (.u32 1359893119),.pl (.u32 2600822924),.pl (.u32 528734635),.pl (.u32 1541459225)]⟩),(1000004,⟨false,i0r⟩)] (Told (fun v m=>v=.tup [.agg (stB (Zx ⟨⟨h0,h1,h2,h3,h4,h5,h6,h7⟩,l-k,held.take k⟩ b)),.one (.pl (.i 0))]∧m=[])):=by
 obtain ⟨e1,e2⟩:=k1d hh hok ⟨h0,h1,h2,h3,h4,h5,h6,h7⟩
 have e3:(held.take k).length=k:=by rw [List.length_take];have:=hok.hi;omega
 have e4:k≤l:=by have:=hok.le;omega
 rw [←e2]
 exact u1e h0 h1 h2 h3 h4 h5 h6 h7 (l-k) (held.take k) e1 b (by rw [e3];omega) ex (by rw [e3];omega)
theorem v0k (h0 h1 h2 h3 h4 h5 h6 h7:UInt32) (held:List UInt8) (hh:held.length=64) (k l:Nat) (hok:HashOk held (k:Int) (l:Int)) (b:List UInt8) (hbl:l+b.length≤9223372036854775807) (ex:Bool) (hbig:1073741824<l+b.length):CtM Tryd.prog 65 [.w (.agg (Ak ⟨h0,h1,h2,h3,h4,h5,h6,h7⟩ held (k:Int) (l:Int))),.w (.one (.pl (.R ex 1 (Ej b))))] [(1000002,⟨false,[.pl (.u32 1779033703),.pl (.u32 3144134277),.pl (.u32 1013904242),.pl (.u32 2773480762),.pl (.u32 1359893119),.pl (.u32 2600822924),.pl (.u32 528734635),.pl (.u32 1541459225)]⟩)] (Told (fun v m=>v=.tup [.agg (Ak ⟨0,0,0,0,0,0,0,0⟩ (List.replicate 64 0) 0 0),.one (.pl (.i 1))]∧m=[])):=by
 obtain ⟨e1,e2⟩:=k1d hh hok ⟨h0,h1,h2,h3,h4,h5,h6,h7⟩
 have e3:(held.take k).length=k:=by rw [List.length_take];have:=hok.hi;omega
 have e4:k≤l:=by have:=hok.le;omega
 rw [←e2]
 exact a1x h0 h1 h2 h3 h4 h5 h6 h7 (l-k) (held.take k) e1 b (by rw [e3];omega) ex (by rw [e3];omega)
theorem t0e (h0 h1 h2 h3 h4 h5 h6 h7:UInt32) (held:List UInt8) (hh:held.length=64) (k l:Nat) (hok:HashOk held (k:Int) (l:Int)) (b:List UInt8) (hbl:l+b.length≤9223372036854775807) (ex:Bool) (hnb:¬1073741824<l+b.length):CtM Tryd.prog 65 [.w (.agg (Ak ⟨h0,h1,h2,h3,h4,h5,h6,h7⟩ held (k:Int) (l:Int))),.w (.one (.pl (.R ex 1 (Ej b))))] [(1000002,⟨false,[.pl (.u32 1779033703),.pl (.u32 3144134277),.pl (.u32 1013904242),.pl (.u32 2773480762),.pl (.u32 1359893119),.pl (.u32 2600822924),.pl (.u32 528734635),.pl (.u32 1541459225)]⟩)] (Told (fun v m=>v=.tup [.agg (stB (Zx ⟨⟨h0,h1,h2,h3,h4,h5,h6,h7⟩,l-k,held.take k⟩ b)),.one (.pl (.i 0))]∧m=[])):=by
 obtain ⟨e1,e2⟩:=k1d hh hok ⟨h0,h1,h2,h3,h4,h5,h6,h7⟩
 have e3:(held.take k).length=k:=by rw [List.length_take];have:=hok.hi;omega
 have e4:k≤l:=by have:=hok.le;omega
 rw [←e2]
 exact g1l h0 h1 h2 h3 h4 h5 h6 h7 (l-k) (held.take k) e1 b (by rw [e3];omega) ex (by rw [e3];omega)
end Bk
end Go.Sy
