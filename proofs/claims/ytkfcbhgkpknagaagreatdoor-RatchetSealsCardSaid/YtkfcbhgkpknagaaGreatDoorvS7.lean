/- Walks and what they compute. CONDITIONS: those that each theorem names. -/
import Derived.Test.YtkfcbhgkpknagaaGreatDoorvS4
import Derived.Test.YtkfcbhgkpknagaaGreatDoorvE3
import Derived.Test.YtkfcbhgkpknagaaGreatDoorvS6
set_option linter.unusedVariables false
set_option linter.unusedSimpArgs false
set_option maxHeartbeats 8000000
set_option maxRecDepth 100000
namespace Go.Sy
namespace Bk
open Go.Proofs
attribute [local irreducible] Bw HT Aj Jk onC onE onO onG goV goA goS Lx Bz
def s0a (b:List UInt8) (k:Nat) (q:List UInt32):Nat→List UInt32
 |0=>q
 |i+1=>r0i (s0a b k q i) i (4+i) (8+i) (12+i) (d0j b k (8+2*i)) (d0j b k (8+2*i+1))
theorem a1h (b:List UInt8) (k:Nat) (q:List UInt32): ∀ i,(s0a b k q i).length=q.length
 |0=>rfl
 |i+1=>by rw [s0a,v0e,a1h b k q i]
theorem r1w (b:List UInt8) (k:Nat) (w:W16):s0a b k w.l 4=(w.col fun i=>d0j b k (8+i)).l:=by
 simp only [s0a,W16.l,xV,Nat.mul_zero,vB,Nat.mul_one,Nat.reduceAdd,Nat.reduceMul,a2w,a2v,a2u,a2t];rfl
theorem b1n (b:List UInt8) (k:Nat) (w:W16):(w.sh.col fun i=>d0j b k (8+i)).unsh=w.diag (d0j b k):=rfl
theorem a2g (w:W16):Ct Tryz.prog 97 [.w (.agg (Jy w.l)),.w (.one (.pl (.i 0)))] (fun v m=>v=.w (.agg (Jy w.l))):=n1e w.x0 w.x1 w.x2 w.x3 w.x4 w.x5 w.x6 w.x7 w.x8 w.x9 w.x10 w.x11 w.x12 w.x13 w.x14 w.x15
theorem k2s (w:W16):Ct Tryz.prog 97 [.w (.agg (Jy w.l)),.w (.one (.pl (.i 1)))] (fun v m=>v=.w (.agg (Jy w.sh.l))):=o0u w.x0 w.x1 w.x2 w.x3 w.x4 w.x5 w.x6 w.x7 w.x8 w.x9 w.x10 w.x11 w.x12 w.x13 w.x14 w.x15
theorem k2r (w:W16):Ct Tryz.prog 97 [.w (.agg (Jy w.l)),.w (.one (.pl (.i (-1))))] (fun v m=>v=.w (.agg (Jy w.unsh.l))):=o0t w.x0 w.x1 w.x2 w.x3 w.x4 w.x5 w.x6 w.x7 w.x8 w.x9 w.x10 w.x11 w.x12 w.x13 w.x14 w.x15
theorem x0l (h0 h1 h2 h3 h4 h5 h6 h7:UInt32) (b:List UInt8) (hb:b.length=64) (len:Nat) (hl:len≤1073741824) (last:Bool):
 CtM Tryz.prog 127 [.w (.agg [.pl (.u32 h0),.pl (.u32 h1),.pl (.u32 h2),.pl (.u32 h3),.pl (.u32 h4),.pl (.u32 h5),.pl (.u32 h6),.pl (.u32 h7)]),.w (.one (.pl (.str b))),.w (.one (.pl (.i ((len:Nat):Int)))),.w (.one (.pl (.b last)))] [(1000003,⟨false,gFi⟩)] (Told (fun v m=>v=.w (.agg (h0v ⟨h0,h1,h2,h3,h4,h5,h6,h7⟩ b len last).ls)∧m=[])):=by
 have hcv:UInt32.ofNat (((len:Nat):Int)%4294967296).toNat=UInt32.ofNat len:=by
  rw [show (((len:Nat):Int)%4294967296).toNat=len from by omega]
 have F0:=yA hb<|yA hcv<|xB
 refine CtM.k Tryz.func127 rfl Tryz.ntmps127 (congrArg Array.toList Tryz.results127) (by simp) fun w0 ro may fx=>?_
 refine b0q fun zZ zhZ=>?_
 iterate 165 first
  |(refine Ez (x:=.seq (.region 3 _ _) _) [10,19,20,21,22,23,24,25,26,27,28,29,30,31,32,33,34,35,36,37,38,39,40] ?_;simp only [go_sem,St.forget,fgt];refine Oz fun zN zM zhN zhM=>?_)
  |refine Oz fun zN zM zhN zhM=>?_
  |refine zhK _ ?_
  |(refine zhN _ ?_;clear zhN zhM)
  |(refine Lj fun zK zhK=>?_;simp only [go_sem,F0,Int.reduceTMod,Int.reduceTDiv];(repeat' (first|apply yA|intro _)))
  |refine Cj fun zB zbn zbx zbr zbi=>?_
  |refine Gq ?_
  |(refine Sk (id:=5) [21,22,23,24,25,26,27,28,29,30,31,32,33,34,35,36,37,38,39] [0,1,0,4,0,16,48,0,128,0,512,1536,0,4096,12288,3,36367,101903,112,524287,1048575] [(4,17),(5,17),(6,17),(7,17),(8,17),(12,17),(13,17),(14,17),(17,18)] mixed (by kernel_rfl) (by simp only [go_sem]) fun zK zhK=>?_;simp only [go_sem,F0,Int.reduceTMod,Int.reduceTDiv];(repeat' (first|apply yA|intro _)))
  |(refine zhK _ _ ?_ ?_;(focus (first|trivial|(simp only [go_sem];done)|(simp only [go_sem];simp;done)|(simp only [go_sem];simp;simp only [go_sem]))))
  |(refine zbn _ ?_;clear zbn zbx zbr zbi)
  |(refine Cw fun zK zhK=>?_;simp only [go_sem,F0,Int.reduceTMod,Int.reduceTDiv];(repeat' (first|apply yA|intro _)))
  |(refine zhM _ _ ?_;clear zhN zhM)
  |refine Jz (x:=.seq (.region 3 _ _) _) 9 ?_
  |refine Jv ?_
  |(refine zbx _ ?_;clear zbn zbx zbr zbi)
  |refine Fw fun zN zM zhN zhM=>?_
  |(refine Dw ?_ ?_;focus (first|rfl|(simp [go_sem,F0,Int.reduceTMod,Int.reduceTDiv];done)))
  |(refine Dk ?_ ?_;focus (first|rfl|(simp [go_sem,F0,Int.reduceTMod,Int.reduceTDiv];done)))
 refine b2a [9,8,5,4] (fun w=>⟨[(9,.w (.one (.p 9 []))),(8,.w (.one (.p 8 []))),(5,.w (.one (.p 5 []))),(4,.w (.one (.p 4 [])))],[(9,⟨false,w.ls⟩),(8,⟨false,[.pl (.u32 0),.pl (.u32 0),.pl (.u32 0),.pl (.u32 0),.pl (.u32 0),.pl (.u32 0),.pl (.u32 0),.pl (.u32 0)]⟩),(5,⟨false,[.pl (.str b)]⟩),(4,⟨false,[.pl (.u32 h0),.pl (.u32 h1),.pl (.u32 h2),.pl (.u32 h3),.pl (.u32 h4),.pl (.u32 h5),.pl (.u32 h6),.pl (.u32 h7)]⟩),(1000003,⟨false,gFi⟩)]⟩) (fun w=>n2s ⟨h0,h1,h2,h3,h4,h5,h6,h7⟩ len last=w) (fun zN zM zhN zhM=>?_) (fun Wi hW=>?_)
 ·skip
  refine Lj fun zK zhK=>?_
  simp only [go_sem,F0,Int.reduceTMod,Int.reduceTDiv]
  repeat' (first|apply yA|intro _)
  refine zhK _ ?_
  refine h1h rfl (fun hc=>?_) (fun hc=>?_)
  ·try simp only [go_sem,F0,Int.reduceTMod,Int.reduceTDiv] at hc
   subst hc
   all_goals
    refine Cw fun zK zhK=>?_
    simp only [go_sem,F0,Int.reduceTMod,Int.reduceTDiv]
    repeat' (first|apply yA|intro _)
    refine zhK _ ?_
    refine zhN _ rfl _ ?_
    (simp only [o0a,n0z,j0s,yI,yK,Nat.reduceBEq,beq_self_eq_true,yS,yV,yY,yT,yE,reduceIte];rfl)
  try simp only [go_sem,F0,Int.reduceTMod,Int.reduceTDiv] at hc
  subst hc
  all_goals
   refine Gq ?_
   refine zhN _ rfl _ ?_
   (simp only [o0a,n0z,j0s,yI,yK,Nat.reduceBEq,beq_self_eq_true,yS,yV,yY,yT,yE,reduceIte];rfl)
 skip
 iterate 6 first
  |(refine Lj fun zK zhK=>?_;simp only [go_sem,F0,Int.reduceTMod,Int.reduceTDiv];(repeat' (first|apply yA|intro _)))
  |refine zhK _ ?_
  |refine Cj fun zB zbn zbx zbr zbi=>?_
  |refine Fw fun zN zM zhN zhM=>?_
 refine Bv [0,1,2,3,5,10,18,19,20,21,22,23,24,25,26,27,28,29,30,31,32,33,34,35,36,37,38,39,40,41,42,43,44,45,46,47,48,49,50,51,52,53,54,55,56] ?_
 simp only [Bj,Cx,Bq,yI,yK,Nat.reduceBEq,beq_self_eq_true,yS,yV,yY,yT,yE,reduceIte]
 refine Uw (fun y=>[(57,.w (.one (.pl (.i ((y.1:Nat):Int)))))]) (fun y=>[(9,⟨false,(a0k b y.1 Wi).ls⟩)]) (fun y=>10-y.1) (⟨0,xA _⟩:{y:Nat//y≤10}) ?_ ?_ ?_
 ·(simp only [go_sem,leX,yB,yC];try simp)
 ·(simp only [a0k,go_sem,leX,yB,yC];first|done|rfl|(rw [←hW];simp [a0k,n2s,W16.ls,leX,look];done))
 intro ⟨k,hk9⟩ zN zM zhN zhM
 simp only [yB,yC]
 have yN0:=zhN
 rcases yZ k 10 with hlt|hge
 ·have hcq:((k:Nat):Int)<10:=by omega
  have hs1:Go.RowKit.wrap64 (((k:Nat):Int)+1)=((k+1:Nat):Int):=Gy (by omega) (by omega)
  obtain ⟨w,hw⟩: ∃ w,a0k b k Wi=w:=⟨_,rfl⟩
  simp only [hw,W16.ls_l]
  have F0:=yA hcq<|yA hs1<|yA W16.l_len<|F0
  iterate 32 first
   |refine Oz fun zN zM zhN zhM=>?_
   |(refine Lj fun zK zhK=>?_;simp only [go_sem,F0,Int.reduceTMod,Int.reduceTDiv];(repeat' (first|apply yA|intro _)))
   |refine zhK _ ?_
   |refine Cj fun zB zbn zbx zbr zbi=>?_
   |refine Gq ?_
   |(refine zhN _ ?_;clear zhN zhM)
   |refine Jz (x:=.seq (.region 15 _ _) _) 3 ?_
   |((all_goals (refine Cv (fun k=>k) (fun _ _=>rfl) ?_ ((a2g w).plain fun _ _ h=>h) ?_;focus (first|rfl|(simp only [go_sem,F0,Int.reduceTMod,Int.reduceTDiv]<;>rfl))));(all_goals (rintro v m ⟨hR,hm⟩;subst hR;subst hm));(all_goals refine yA (by first|rfl|simp only [go_sem,F0,Int.reduceTMod,Int.reduceTDiv]) (yA (by first|rfl|simp only [go_sem,F0,Int.reduceTMod,Int.reduceTDiv]) ?_));(all_goals simp only [go_sem,F0,Int.reduceTMod,Int.reduceTDiv]);(all_goals repeat' (first|apply yA|intro _)))
   |refine Fw fun zN zM zhN zhM=>?_
   |(refine Dw ?_ ?_;focus (first|rfl|(simp [go_sem,F0,Int.reduceTMod,Int.reduceTDiv];done)))
  refine Uw (fun y=>[(66,.w (.one (.pl (.i ((y.1:Nat):Int)))))]) (fun y=>[(9,⟨false,Jy (g0w b k w.l y.1)⟩)]) (fun y=>4-y.1) (⟨0,xA _⟩:{y:Nat//y≤4}) ?_ ?_ ?_
  ·(simp only [go_sem,leX,yB,yC,F0];try simp)
  ·(simp only [go_sem,leX,g0w,yB,yC,F0];try simp)
  intro cc zN zM zhN zhM
  simp only [yB,yC]
  have yN1:=zhN
  obtain ⟨c,hc4⟩:=cc
  rcases Nat.lt_or_eq_of_le hc4 with hlc|rfl
  ·have hcq:((c:Nat):Int)<4:=by omega
   have hc16:c<16:=by omega
   have hc41:c+1≤4:=hlc
   obtain ⟨s,hs⟩: ∃ s,g0w b k w.l c=s:=⟨_,rfl⟩
   have hsl:s.length=16:=by rw [←hs,k0f];rfl
   have hfin:g0w b k w.l (c+1)=r0i s c (4+c) (8+c) (12+c) (d0j b k (2*c)) (d0j b k (2*c+1)):=by rw [g0w,hs]
   have hz0:=e1z b hb k (2*c) hlt (by omega)
   have hz1:=e1z b hb k (2*c+1) hlt (by omega)
   simp only [hs]
   have F0:=yA hcq<|yA hlc<|yA hc41<|yA z0o<|yA hfin<|yA hsl<|yA (wt2 hc16)<|yA (wp1 hc16)<|yA (wp1 (i:=2*c) (by omega))<|yA (wz0 (i:=2*c) (by omega))<|yA @r2v<|yA @r2u<|yA @r2t<|yA @j2n<|yA @r2s<|yA @r2r<|yA @r2q<|yA @j2m<|yA fold_add<|yA q1t<|yA (q1s Kq)<|yA k0s<|yA g0q<|yA f0x<|yA r0i.eq_1<|F0
   have cq:=yA (yA (CF.mk [5] [(500000,5)]) (hz0))<|yA (yA (CF.mk [5] [(500000,5)]) (hz1))<|yA (fun x=>Ct.cv (p0q x))<|yA (fun x=>Ct.cv (p1r x))<|yA (fun x=>Ct.cv (p1q x))<|yA (fun x=>Ct.cv (p1p x))<|trivial
   have zd0:DR 22 [86,87,88,89,90,91,92,93,94,95,96,97,98] [0,0,3,7,0,0,48,112,0,496,1023,0,4095,8191] []:=trivial
   have zd1:DR 23 [99,100,101,102,103,104,105,106,107,108,109,110,111] [0,0,0,6,14,0,0,96,224,510,1022,0,4095,8191] []:=trivial
   have zd2:DR 24 [112,113,114,115,116,117,118,119,120,121,122] [0,0,3,7,0,0,48,112,255,0,1023,2047] []:=trivial
   have zd3:DR 25 [123,124,125,126,127,128,129,130,131,132,133,134,135] [0,0,0,6,14,0,0,96,224,510,1022,0,4095,8191] []:=trivial
   have zd4:DR 26 [136,137,138,139,140,141,142,143,144,145,146,147,148] [0,0,3,7,0,0,48,112,0,496,1023,0,4095,8191] []:=trivial
   have zd5:DR 27 [149,150,151,152,153,154,155,156,157,158,159,160,161] [0,0,0,6,14,0,0,96,224,510,1022,0,4095,8191] []:=trivial
   have zd6:DR 28 [162,163,164,165,166,167,168,169,170,171,172] [0,0,3,7,0,0,48,112,255,0,1023,2047] []:=trivial
   have zd7:DR 29 [173,174,175,176,177,178,179,180,181,182,183,184,185] [0,0,0,6,14,0,0,96,224,510,1022,0,4095,8191] []:=trivial
   have zL:=fun S2=>yN1 ⟨c+1,hlc⟩ S2 (by exact yP hlc (yQ c))
   exact HT.run2
  have hcc:=o0g b k w
  obtain ⟨w1,hw1⟩: ∃ w1,w.col (d0j b k)=w1:=⟨_,rfl⟩
  rw [hw1] at hcc
  simp only [hcc]
  iterate 35 first
   |(refine Ez (x:=.seq (.region 15 _ _) _) [13,14,15,16,61,62,63,64,65,66,67,68,69,70,71,72,73,74,75,76,77,78,79,80,81,82,83,84,85,86,87,88,89,90,91,92,93,94,95,96,97,98,99,100,101,102,103,104,105,106,107,108,109,110,111,112,113,114,115,116,117,118,119,120,121,122,123,124,125,126,127,128,129,130,131,132,133,134,135,136,137,138,139,140,141,142,143,144,145,146,147,148,149,150,151,152,153,154,155,156,157,158,159,160,161,162,163,164,165,166,167,168,169,170,171,172,173,174,175,176,177,178,179,180,181,182,183,184,185,186,187,188,189,190,191] ?_;simp only [go_sem,St.forget,fgt];refine Oz fun zN zM zhN zhM=>?_)
   |refine zhK _ ?_
   |(refine Lj fun zK zhK=>?_;simp only [go_sem,F0,Int.reduceTMod,Int.reduceTDiv];(repeat' (first|apply yA|intro _)))
   |(refine zhN _ ?_;clear zhN zhM)
   |(refine zhM _ _ ?_;clear zhN zhM)
   |(refine Cw fun zK zhK=>?_;simp only [go_sem,F0,Int.reduceTMod,Int.reduceTDiv];(repeat' (first|apply yA|intro _)))
   |refine Cj fun zB zbn zbx zbr zbi=>?_
   |refine Jv ?_
   |(refine zbx _ ?_;clear zbn zbx zbr zbi)
   |(refine zbn _ ?_;clear zbn zbx zbr zbi)
   |refine Gq ?_
   |((all_goals (refine Cv (fun k=>k) (fun _ _=>rfl) ?_ ((a2g w1).plain fun _ _ h=>h) ?_;focus (first|rfl|(simp only [go_sem,F0,Int.reduceTMod,Int.reduceTDiv]<;>rfl))));(all_goals (rintro v m ⟨hR,hm⟩;subst hR;subst hm));(all_goals refine yA (by first|rfl|simp only [go_sem,F0,Int.reduceTMod,Int.reduceTDiv]) (yA (by first|rfl|simp only [go_sem,F0,Int.reduceTMod,Int.reduceTDiv]) ?_));(all_goals simp only [go_sem,F0,Int.reduceTMod,Int.reduceTDiv]);(all_goals repeat' (first|apply yA|intro _)))
   |((all_goals (refine Cv (fun k=>k) (fun _ _=>rfl) ?_ ((k2s w1).plain fun _ _ h=>h) ?_;focus (first|rfl|(simp only [go_sem,F0,Int.reduceTMod,Int.reduceTDiv]<;>rfl))));(all_goals (rintro v m ⟨hR,hm⟩;subst hR;subst hm));(all_goals refine yA (by first|rfl|simp only [go_sem,F0,Int.reduceTMod,Int.reduceTDiv]) (yA (by first|rfl|simp only [go_sem,F0,Int.reduceTMod,Int.reduceTDiv]) ?_));(all_goals simp only [go_sem,F0,Int.reduceTMod,Int.reduceTDiv]);(all_goals repeat' (first|apply yA|intro _)))
   |refine Fw fun zN zM zhN zhM=>?_
   |(refine Dk ?_ ?_;focus (first|rfl|(simp [go_sem,F0,Int.reduceTMod,Int.reduceTDiv];done)))
   |(refine Dw ?_ ?_;focus (first|rfl|(simp [go_sem,F0,Int.reduceTMod,Int.reduceTDiv];done)))
  refine Uw (fun y=>[(66,.w (.one (.pl (.i ((y.1:Nat):Int)))))]) (fun y=>[(9,⟨false,Jy (s0a b k w1.sh.l y.1)⟩)]) (fun y=>4-y.1) (⟨0,xA _⟩:{y:Nat//y≤4}) ?_ ?_ ?_
  ·(simp only [go_sem,leX,yB,yC,F0];try simp)
  ·(simp only [go_sem,leX,s0a,yB,yC,F0];try simp)
  intro cc zN zM zhN zhM
  simp only [yB,yC]
  have yN2:=zhN
  obtain ⟨c,hc4⟩:=cc
  rcases Nat.lt_or_eq_of_le hc4 with hlc|rfl
  ·have hcq:((c:Nat):Int)<4:=by omega
   have hc16:c<16:=by omega
   have hc41:c+1≤4:=hlc
   obtain ⟨s,hs⟩: ∃ s,s0a b k w1.sh.l c=s:=⟨_,rfl⟩
   have hsl:s.length=16:=by rw [←hs,a1h];rfl
   have hfin:s0a b k w1.sh.l (c+1)=r0i s c (4+c) (8+c) (12+c) (d0j b k (8+2*c)) (d0j b k (8+2*c+1)):=by rw [s0a,hs]
   have hz0:=e1z b hb k (8+2*c) hlt (by omega)
   have hz1:=e1z b hb k (8+2*c+1) hlt (by omega)
   simp only [hs]
   have F0:=yA hcq<|yA hlc<|yA hc41<|yA z0o<|yA hfin<|yA hsl<|yA (wt2 hc16)<|yA (wp1 hc16)<|yA (wp1 (i:=2*c) (by omega))<|yA (wl8 (i:=2*c) (by omega))<|yA (wp1 (i:=8+2*c) (by omega))<|yA @r2v<|yA @r2u<|yA @r2t<|yA @j2n<|yA @r2s<|yA @r2r<|yA @r2q<|yA @j2m<|yA fold_add<|yA q1t<|yA (q1s Kq)<|yA k0s<|yA g0q<|yA f0x<|yA r0i.eq_1<|F0
   have cq:=yA (yA (CF.mk [5] [(500000,5)]) (hz0))<|yA (yA (CF.mk [5] [(500000,5)]) (hz1))<|yA (fun x=>Ct.cv (p0q x))<|yA (fun x=>Ct.cv (p1r x))<|yA (fun x=>Ct.cv (p1q x))<|yA (fun x=>Ct.cv (p1p x))<|trivial
   have zd0:DR 22 [86,87,88,89,90,91,92,93,94,95,96,97,98] [0,0,3,7,0,0,48,112,0,496,1023,0,4095,8191] []:=trivial
   have zd1:DR 23 [99,100,101,102,103,104,105,106,107,108,109,110,111] [0,0,0,6,14,0,0,96,224,510,1022,0,4095,8191] []:=trivial
   have zd2:DR 24 [112,113,114,115,116,117,118,119,120,121,122] [0,0,3,7,0,0,48,112,255,0,1023,2047] []:=trivial
   have zd3:DR 25 [123,124,125,126,127,128,129,130,131,132,133,134,135] [0,0,0,6,14,0,0,96,224,510,1022,0,4095,8191] []:=trivial
   have zd4:DR 26 [136,137,138,139,140,141,142,143,144,145,146,147,148] [0,0,3,7,0,0,48,112,0,496,1023,0,4095,8191] []:=trivial
   have zd5:DR 27 [149,150,151,152,153,154,155,156,157,158,159,160,161] [0,0,0,6,14,0,0,96,224,510,1022,0,4095,8191] []:=trivial
   have zd6:DR 28 [162,163,164,165,166,167,168,169,170,171,172] [0,0,3,7,0,0,48,112,255,0,1023,2047] []:=trivial
   have zd7:DR 29 [173,174,175,176,177,178,179,180,181,182,183,184,185] [0,0,0,6,14,0,0,96,224,510,1022,0,4095,8191] []:=trivial
   have zL:=fun S2=>yN2 ⟨c+1,hlc⟩ S2 (by exact yP hlc (yQ c))
   exact HT.run2
  have hcc:=r1w b k w1.sh
  have hdd:=b1n b k w1
  obtain ⟨w2,hw2⟩: ∃ w2,(w1.sh.col fun i=>d0j b k (8+i))=w2:=⟨_,rfl⟩
  rw [hw2] at hcc hdd
  have hfin:(a0k b (k+1) Wi).ls=Jy w2.unsh.l:=by rw [a0k,hw,hw1,W16.ls_l,hdd]
  simp only [hcc]
  have F0:=yA hfin<|F0
  iterate 30 first
   |(refine Ez (x:=.seq (.region 15 _ _) _) [13,14,15,16,61,62,63,64,65,66,67,68,69,70,71,72,73,74,75,76,77,78,79,80,81,82,83,84,85,86,87,88,89,90,91,92,93,94,95,96,97,98,99,100,101,102,103,104,105,106,107,108,109,110,111,112,113,114,115,116,117,118,119,120,121,122,123,124,125,126,127,128,129,130,131,132,133,134,135,136,137,138,139,140,141,142,143,144,145,146,147,148,149,150,151,152,153,154,155,156,157,158,159,160,161,162,163,164,165,166,167,168,169,170,171,172,173,174,175,176,177,178,179,180,181,182,183,184,185,186,187,188,189,190,191] ?_;simp only [go_sem,St.forget,fgt];refine Oz fun zN zM zhN zhM=>?_)
   |refine zhK _ ?_
   |(refine zhM _ _ ?_;clear zhN zhM)
   |(refine zhN _ ?_;clear zhN zhM)
   |(refine Cw fun zK zhK=>?_;simp only [go_sem,F0,Int.reduceTMod,Int.reduceTDiv];(repeat' (first|apply yA|intro _)))
   |(refine Lj fun zK zhK=>?_;simp only [go_sem,F0,Int.reduceTMod,Int.reduceTDiv];(repeat' (first|apply yA|intro _)))
   |refine Jv ?_
   |(refine zbx _ ?_;clear zbn zbx zbr zbi)
   |(refine zbn _ ?_;clear zbn zbx zbr zbi)
   |((all_goals (refine Cv (fun k=>k) (fun _ _=>rfl) ?_ ((k2r w2).plain fun _ _ h=>h) ?_;focus (first|rfl|(simp only [go_sem,F0,Int.reduceTMod,Int.reduceTDiv]<;>rfl))));(all_goals (rintro v m ⟨hR,hm⟩;subst hR;subst hm));(all_goals refine yA (by first|rfl|simp only [go_sem,F0,Int.reduceTMod,Int.reduceTDiv]) (yA (by first|rfl|simp only [go_sem,F0,Int.reduceTMod,Int.reduceTDiv]) ?_));(all_goals simp only [go_sem,F0,Int.reduceTMod,Int.reduceTDiv]);(all_goals repeat' (first|apply yA|intro _)))
   |refine Fw fun zN zM zhN zhM=>?_
   |(refine Dk ?_ ?_;focus (first|rfl|(simp [go_sem,F0,Int.reduceTMod,Int.reduceTDiv];done)))
  refine zhN ⟨k+1,hlt⟩ _ ?_ ?_ ?_
  ·(exact yP hlt (yQ k))
  ·(simp only [go_sem,leX,yB,yC];try simp)
  (simp only [go_sem,leX,yB,yC,F0];try simp)
 obtain rfl:k=10:=by omega
 have hcq:¬((10:Nat):Int)<10:=by omega
 obtain ⟨w,hw⟩: ∃ w,a0k b 10 Wi=w:=⟨_,rfl⟩
 have hsk:h0v ⟨h0,h1,h2,h3,h4,h5,h6,h7⟩ b len last=q2k ⟨h0,h1,h2,h3,h4,h5,h6,h7⟩ w:=by rw [h0v,hW,hw]
 simp only [hw]
 obtain ⟨x0,x1,x2,x3,x4,x5,x6,x7,x8,x9,x10,x11,x12,x13,x14,x15⟩:=w
 simp only [W16.ls]
 have F0:=yA hcq<|F0
 iterate 172 first
  |(refine Ez (x:=.seq (.region 35 _ _) _) [17,194,195,196,197,198,199,200,201,202,203,204,205,206,207,208,209,210,211,212,213,214,215,216,217] ?_;simp only [go_sem,St.forget,fgt];refine Oz fun zN zM zhN zhM=>?_)
  |refine Oz fun zN zM zhN zhM=>?_
  |refine zhK _ ?_
  |(refine zhN _ ?_;clear zhN zhM)
  |(refine Lj fun zK zhK=>?_;simp only [go_sem,F0,Int.reduceTMod,Int.reduceTDiv];(repeat' (first|apply yA|intro _)))
  |refine Cj fun zB zbn zbx zbr zbi=>?_
  |refine Gq ?_
  |(refine Sk (id:=37) [196,197,198,199,200,201,202,203,204,205,206,207,208,209,210,211,212,213,214,215,216] [0,1,3,0,8,0,32,24,248,504,0,1024,3072,0,8192,7168,64512,130048,262136,524287,1048575,2097151] [] mixed (by kernel_rfl) (by simp only [go_sem]) fun zK zhK=>?_;simp only [go_sem,F0,Int.reduceTMod,Int.reduceTDiv];(repeat' (first|apply yA|intro _)))
  |refine zhK _ _ trivial ?_
  |(refine zbn _ ?_;clear zbn zbx zbr zbi)
  |(refine Cw fun zK zhK=>?_;simp only [go_sem,F0,Int.reduceTMod,Int.reduceTDiv];(repeat' (first|apply yA|intro _)))
  |(refine zhM _ _ ?_;clear zhN zhM)
  |refine Jv ?_
  |(refine zbx _ ?_;clear zbn zbx zbr zbi)
  |refine Jz (x:=.seq (.region 35 _ _) _) 9 ?_
  |refine Tk ?_
  |(refine zhZ _ _ ?_;simp only [go_sem,F0,Int.reduceTMod,Int.reduceTDiv];(all_goals (exact told_plain rfl ⟨by rw [hsk];rfl,rfl⟩)))
  |refine Fw fun zN zM zhN zhM=>?_
  |(refine Dw ?_ ?_;focus (first|rfl|(simp [go_sem,F0,Int.reduceTMod,Int.reduceTDiv];done)))
  |(refine Dk ?_ ?_;focus (first|rfl|(simp [go_sem,F0,Int.reduceTMod,Int.reduceTDiv];done)))
end Bk
end Go.Sy
namespace Go.Sy
namespace Bk
open Go.Proofs
attribute [local irreducible] Bw HT Aj Jk onC onE onO onG goV goA goS Lx Bz
theorem q1k (h0 h1 h2 h3 h4 h5 h6 h7:UInt32) (d:Nat) (r:List UInt8) (hs:HSt.ok ⟨⟨h0,h1,h2,h3,h4,h5,h6,h7⟩,d,r⟩) (b:List UInt8) (hbl:d+r.length+b.length≤9223372036854775807) (ex:Bool) (hnb:¬1073741824<d+r.length+b.length):
 CtM Tryz.prog 102 [.w (.agg (stB ⟨⟨h0,h1,h2,h3,h4,h5,h6,h7⟩,d,r⟩)),.w (.one (.pl (.R ex 1 (Av b))))] [(1000003,⟨false,gFi⟩)] (Told (fun v m=>v=.tup [.agg (stB (b0g ⟨⟨h0,h1,h2,h3,h4,h5,h6,h7⟩,d,r⟩ b)),.one (.pl (.i 0))]∧m=[])):=by
 have hr:r.length≤64:=hs.1
 have hd:d+r.length≤1073741824:=hs.2.1
 have hpl:=Fy hr
 have hok:=m0g hs
 obtain ⟨l,hl⟩: ∃ l,d+r.length=l:=⟨_,rfl⟩
 have hlen:HSt.len ⟨⟨h0,h1,h2,h3,h4,h5,h6,h7⟩,d,r⟩=l:=hl
 rw [hlen] at hok
 have he:=f0g hok
 have hb:=d0p hok
 have n00:(r++b).length≤r.length+b.length:=by rw [yG];omega
 have n0:d+(r++b).length=l+b.length:=by rw [yG];omega
 have hc:¬(1073741824:Int)<((l+b.length:Nat):Int):=by omega
 have hc1:(0:Int)≤((r.length:Nat):Int):=by omega
 have hc2:((r.length:Nat):Int)≤64:=by omega
 have hpt:=s0u r
 have hml:r.length+b.length≤9223372036854775807:=by omega
 obtain ⟨hw,hw2⟩:Go.RowKit.wrap64 (((l:Nat):Int)+((b.length:Nat):Int))=((l+b.length:Nat):Int)∧Go.RowKit.wrap64 (((l:Nat):Int)-((r.length:Nat):Int))=((d:Nat):Int):=⟨Gy (by omega) (by omega),Gy (by omega) (by omega)⟩
 have F0:=yA stB.eq_1<|yA Dx.eq_1<|yA H8.ls.eq_1<|yA hlen<|yA hpl<|yA hb<|yA hw<|yA hw2<|yA hc<|yA @xJ<|yA @xV<|yA hc1<|yA hc2<|yA hpt<|yA hml<|hr
 refine CtM.go Tryz.func102 rfl Tryz.ntmps102 Tryz.results102 fun w0 ro may fx zZ zhY=>?_
 have cq:=yA (Ct.cv (v0m h0 h1 h2 h3 h4 h5 h6 h7 (Qx r) hpl ((r.length:Nat):Int) ((l:Nat):Int)))<|trivial
 have zd0:DQ 6 [22,23,24,25,26,27,28,7] [0,1,3,7,0,16,63,127] []:=⟨⟩
 refine (fun zX=>goW) ?_
 refine Bv [0,6,10,11,12,13,14,15,16,17,18,19,20,21,22,23,24,25,26,27,28,29,30,31,32,33] ?_
 simp only [Bj,Cx,Bq,yI,yK,Nat.reduceBEq,beq_self_eq_true,yS,yV,yY,yT,yE,reduceIte]
 refine Gx (fun y=>[(7,.w (.one (.pl (.str y.1.2.2)))),(8,.w (.one (.pl (.i ((y.1.2.1:Nat):Int)))))]) (fun y=>[(2,⟨false,Dx y.1.1 (Qx r) ((r.length:Nat):Int) ((l:Nat):Int)⟩)]) (fun y=>y.1.2.2.length) (⟨(⟨h0,h1,h2,h3,h4,h5,h6,h7⟩,d,r++b),rfl,n00,n0⟩:{y:H8×Nat×List UInt8//b0g ⟨y.1,y.2.1,[]⟩ y.2.2=b0g ⟨⟨h0,h1,h2,h3,h4,h5,h6,h7⟩,d,[]⟩ (r++b)∧y.2.2.length≤r.length+b.length∧y.2.1+y.2.2.length=l+b.length}) ?_ (by (simp only [go_sem,leX,yB,yC];try simp)) (by (simp only [Dx,H8.ls,go_sem,leX,yB,yC];try simp [Dx,H8.ls,leX,look]))
 intro yy xN0 xM0 xhN0 xhM0
 simp only [yB,yC]
 obtain ⟨⟨⟨q0,q1,q2,q3,q4,q5,q6,q7⟩,k,t⟩,hv,ht,hkt⟩:=yy
 simp only at hv ht hkt
 rcases yZ 64 t.length with hlt|hge
 ·have hcq:(64:Int)<((t.length:Nat):Int):=by omega
  have hc0:(64:Int)≤((t.length:Nat):Int):=by omega
  have hc1:((t.length:Nat):Int).toNat=t.length:=Int.toNat_natCast _
  have htd:List.take (t.length-64) (List.drop 64 t)=List.drop 64 t:=xE (by simp)
  have hbk:=l1h (l:=t) (h:=⟨q0,q1,q2,q3,q4,q5,q6,q7⟩) (d:=k) hlt
  obtain ⟨z,hz⟩: ∃ z,h0v ⟨q0,q1,q2,q3,q4,q5,q6,q7⟩ (t.take 64) (k+64) false=z:=⟨_,rfl⟩
  obtain ⟨z0,z1,z2,z3,z4,z5,z6,z7⟩:=z
  have hsq:=x0l q0 q1 q2 q3 q4 q5 q6 q7 (t.take 64) (by rw [yH];omega) (k+64) (by omega) false
  rw [hz] at hsq hbk
  have n1:b0g ⟨⟨z0,z1,z2,z3,z4,z5,z6,z7⟩,k+64,[]⟩ (t.drop 64)=b0g ⟨⟨h0,h1,h2,h3,h4,h5,h6,h7⟩,d,[]⟩ (r++b):=by rw [←hbk,hv]
  have n2:(t.drop 64).length≤r.length+b.length:=by rw [yU];omega
  have n3:k+64+(t.drop 64).length=l+b.length:=by rw [yU];omega
  have n4:(t.drop 64).length<t.length:=by rw [yU];omega
  have hs1:Go.RowKit.wrap64 (((k:Nat):Int)+64)=((k+64:Nat):Int):=Gy (by omega) (by omega)
  have F0:=yA hcq<|yA hc0<|yA hc1<|yA htd<|yA hs1<|F0
  have cq:=yA (CtM.ch [] (hsq.told))<|trivial
  have zr0:DS 10:=⟨⟩
  have zq:DP 0 5 [39,40,41,42,43] [0,1,0,4,0,31,63,127] []∧DN 3 8∧True:=⟨⟨⟩,⟨⟩,trivial⟩
  refine (fun zX=>goW) ?_
  refine xhN0 ⟨(⟨z0,z1,z2,z3,z4,z5,z6,z7⟩,k+64,t.drop 64),n1,n2,n3⟩ _ ?_ ?_ ?_
  ·(exact n4)
  ·(simp only [go_sem,leX,yB,yC];try simp)
  (simp only [Dx,H8.ls,go_sem,leX,yB,yC];first|done|(simp [Dx,H8.ls,leX,look];done)|rfl)
 have hcq:¬(64:Int)<((t.length:Nat):Int):=by omega
 have hsh:=g0r (h:=⟨q0,q1,q2,q3,q4,q5,q6,q7⟩) (d:=k) (r:=[]) (l:=t) (by simp;omega)
 rw [yC,hv,←t1l hr] at hsh
 have hlen2:HSt.len ⟨⟨q0,q1,q2,q3,q4,q5,q6,q7⟩,k,t⟩=l+b.length:=hkt
 have hmi:min t.length 64=t.length:=by omega
 have hmi2:min 64 t.length=t.length:=by omega
 have htk:List.take t.length t=t:=wK
 have hdr:List.drop t.length (List.replicate 64 (0:UInt8))=List.replicate (64-t.length) 0:=List.drop_replicate
 have hpt:t++List.replicate (64-t.length) 0=Qx t:=rfl
 have hpl2:=Fy (r:=t) (by omega)
 have F0:=yA hcq<|yA hmi<|yA hmi2<|yA htk<|yA hdr<|yA hpt<|yA hpl2<|F0
 have zS:ZS 13:=⟨⟩
 refine (fun zX=>goW) ?_
 refine ⟨?_⟩;clear zS
 try refine x0s ?_
 refine m0e (id:=13) [58,59,60,61] (by simp only [go_sem]) fun zK zhK=>?_
 simp only [go_sem,F0]
 repeat' (first|apply yA|intro _)
 refine zhK _ _ ?_
 refine (fun zX=>goW) ?_
 refine zhY _ _ ?_
 simp only [go_sem,F0]
 all_goals (exact told_plain (by simp [Dv,Ew,Az]) ⟨by rw [hsh];first|rfl|(simp only [stB,hlen2,Dx,H8.ls];rfl)|simp only [stB,hlen2,Dx,H8.ls],rfl⟩)
end Bk
end Go.Sy
namespace Go.Sy
namespace Bk
open Go.Proofs
attribute [local irreducible] Bw HT Aj Jk onC onE onO onG goV goA goS Lx Bz
theorem q1l (h0 h1 h2 h3 h4 h5 h6 h7:UInt32) (held:List UInt8) (hh:held.length=64) (k l:Nat) (hok:HashOk held (k:Int) (l:Int)) (b:List UInt8) (hbl:l+b.length≤9223372036854775807) (ex:Bool) (hbig:1073741824<l+b.length):CtM Tryz.prog 83 [.w (.agg (Dx ⟨h0,h1,h2,h3,h4,h5,h6,h7⟩ held (k:Int) (l:Int))),.w (.one (.pl (.R ex 1 (Av b))))] [(1000002,⟨false,gFi⟩),(1000004,⟨false,j0h⟩)] (Told (fun v m=>v=.tup [.agg (Dx ⟨0,0,0,0,0,0,0,0⟩ (List.replicate 64 0) 0 0),.one (.pl (.i 1))]∧m=[])):=by
 obtain ⟨e1,e2⟩:=u1k hh hok ⟨h0,h1,h2,h3,h4,h5,h6,h7⟩
 have e3:(held.take k).length=k:=by rw [yH];have:=hok.hi;omega
 have e4:k≤l:=by have:=hok.le;omega
 rw [←e2]
 exact y1c h0 h1 h2 h3 h4 h5 h6 h7 (l-k) (held.take k) e1 b (by rw [e3];omega) ex (by rw [e3];omega)
theorem j1s (h0 h1 h2 h3 h4 h5 h6 h7:UInt32) (held:List UInt8) (hh:held.length=64) (k l:Nat) (hok:HashOk held (k:Int) (l:Int)) (b:List UInt8) (hbl:l+b.length≤9223372036854775807) (ex:Bool) (hnb:¬1073741824<l+b.length):CtM Tryz.prog 83 [.w (.agg (Dx ⟨h0,h1,h2,h3,h4,h5,h6,h7⟩ held (k:Int) (l:Int))),.w (.one (.pl (.R ex 1 (Av b))))] [(1000002,⟨false,gFi⟩),(1000004,⟨false,j0h⟩)] (Told (fun v m=>v=.tup [.agg (stB (b0g ⟨⟨h0,h1,h2,h3,h4,h5,h6,h7⟩,l-k,held.take k⟩ b)),.one (.pl (.i 0))]∧m=[])):=by
 obtain ⟨e1,e2⟩:=u1k hh hok ⟨h0,h1,h2,h3,h4,h5,h6,h7⟩
 have e3:(held.take k).length=k:=by rw [yH];have:=hok.hi;omega
 have e4:k≤l:=by have:=hok.le;omega
 rw [←e2]
 exact g2h h0 h1 h2 h3 h4 h5 h6 h7 (l-k) (held.take k) e1 b (by rw [e3];omega) ex (by rw [e3];omega)
theorem c1q (h0 h1 h2 h3 h4 h5 h6 h7:UInt32) (held:List UInt8) (hh:held.length=64) (k l:Nat) (hok:HashOk held (k:Int) (l:Int)) (b:List UInt8) (hbl:l+b.length≤9223372036854775807) (ex:Bool) (hbig:1073741824<l+b.length):CtM Tryz.prog 102 [.w (.agg (Dx ⟨h0,h1,h2,h3,h4,h5,h6,h7⟩ held (k:Int) (l:Int))),.w (.one (.pl (.R ex 1 (Av b))))] [(1000003,⟨false,gFi⟩)] (Told (fun v m=>v=.tup [.agg (Dx ⟨0,0,0,0,0,0,0,0⟩ (List.replicate 64 0) 0 0),.one (.pl (.i 1))]∧m=[])):=by
 obtain ⟨e1,e2⟩:=u1k hh hok ⟨h0,h1,h2,h3,h4,h5,h6,h7⟩
 have e3:(held.take k).length=k:=by rw [yH];have:=hok.hi;omega
 have e4:k≤l:=by have:=hok.le;omega
 rw [←e2]
 exact j1r h0 h1 h2 h3 h4 h5 h6 h7 (l-k) (held.take k) e1 b (by rw [e3];omega) ex (by rw [e3];omega)
theorem z0r (h0 h1 h2 h3 h4 h5 h6 h7:UInt32) (held:List UInt8) (hh:held.length=64) (k l:Nat) (hok:HashOk held (k:Int) (l:Int)) (b:List UInt8) (hbl:l+b.length≤9223372036854775807) (ex:Bool) (hnb:¬1073741824<l+b.length):CtM Tryz.prog 102 [.w (.agg (Dx ⟨h0,h1,h2,h3,h4,h5,h6,h7⟩ held (k:Int) (l:Int))),.w (.one (.pl (.R ex 1 (Av b))))] [(1000003,⟨false,gFi⟩)] (Told (fun v m=>v=.tup [.agg (stB (b0g ⟨⟨h0,h1,h2,h3,h4,h5,h6,h7⟩,l-k,held.take k⟩ b)),.one (.pl (.i 0))]∧m=[])):=by
 obtain ⟨e1,e2⟩:=u1k hh hok ⟨h0,h1,h2,h3,h4,h5,h6,h7⟩
 have e3:(held.take k).length=k:=by rw [yH];have:=hok.hi;omega
 have e4:k≤l:=by have:=hok.le;omega
 rw [←e2]
 exact q1k h0 h1 h2 h3 h4 h5 h6 h7 (l-k) (held.take k) e1 b (by rw [e3];omega) ex (by rw [e3];omega)
end Bk
end Go.Sy
