/- Walks and what they compute. CONDITIONS: those that each theorem names. -/
import Derived.Test.YtlngaojnfcaagaaDoorvS13
set_option linter.unusedVariables false
set_option linter.unusedSimpArgs false
set_option maxHeartbeats 1600000
set_option maxRecDepth 100000
namespace Go.Sy
namespace Bk
open Go.Proofs
attribute [local irreducible] Fz HT Cw Oj onC onE onO onG goV goA goS Qv Ey
theorem m0l (l:List UInt8) (hl:l.length≤4096):
 Ct Tryd.prog 56 [.w (.one (.pl (.str l)))] (fun v m=>v=.w (.one (.pl (.u64 (lev l))))):=by
 have hw0:Go.RowKit.wrap64 (((l.length:Nat):Int)-1)=((l.length:Nat):Int)-1:=w64 (by omega)
 refine Ct.k Tryd.func56 rfl Tryd.ntmps56 (congrArg Array.toList Tryd.results56) (by simp) fun w0 ro=>?_
 refine Dx fun zZ zhZ=>?_
 iterate 8 first
  |(refine Dz fun zK zhK=>?_;simp only [go_sem,hw0];(repeat' (first|apply And.intro|intro _)))
  |refine zhK _ ?_
  |refine Cx fun zB zbn zbx zbr zbi=>?_
  |refine Bq fun zN zM zhN zhM=>?_
 refine Fq [5,6,7] ?_
 simp only [Gz,Gj,Fj,List.contains_cons,List.contains_nil,Nat.reduceBEq,beq_self_eq_true,Bool.or_false,Bool.or_true,Bool.true_or,Bool.false_or,Bool.false_eq_true,reduceIte]
 refine Ik (fun y=>[(3,.w (.one (.pl (.u64 (lev (l.drop y.1)))))),(4,.w (.one (.pl (.i (((y.1:Nat):Int)-1)))))]) (fun _=>[]) (fun y=>y.1) (⟨l.length,Nat.le_refl _⟩:{y:Nat//y≤l.length}) ?_ ?_ ?_
 · (simp only [go_sem,List.drop_length,leX,List.cons_append,List.nil_append];first|rfl|simp [lev,leN])
 · (simp only [go_sem,leX,List.cons_append,List.nil_append];try simp)
 intro yy zN zM zhN zhM
 simp only [List.cons_append,List.nil_append]
 obtain ⟨j,hj⟩:=yy
 rcases j with _|j
 · have hc:¬(0:Int)≤((0:Nat):Int)-1:=by omega
   iterate 13 first
    |(refine Dz fun zK zhK=>?_;simp only [go_sem,hw0,hc];(repeat' (first|apply And.intro|intro _)))
    |refine zhK _ ?_
    |(refine zhM _ _ ?_;clear zhN zhM)
    |refine Fx ?_
    |(refine zbx _ ?_;clear zbn zbx zbr zbi)
    |(refine zhN _ ?_;clear zhN zhM)
    |refine Ck ?_
    |(refine zhZ _ _ ?_;simp only [go_sem,hw0,hc];(all_goals (simp only [List.drop_zero])))
    |refine Bq fun zN zM zhN zhM=>?_
    |(refine Bj ?_ ?_;focus (first|rfl|(simp [go_sem,hw0,hc];done)))
 · have hlt:j<l.length:=by omega
   have hd:=drop_cons hlt
   have hc:(0:Int)≤((j+1:Nat):Int)-1:=by omega
   have hij:((j+1:Nat):Int)-1=((j:Nat):Int):=by omega
   have hc1:(0:Int)≤((j:Nat):Int):=by omega
   have hc2:((j:Nat):Int)<((l.length:Nat):Int):=by omega
   have hg0:=Iw hlt
   have hw:Go.RowKit.wrap64 (((j:Nat):Int)-1)=((j:Nat):Int)-1:=w64 (by omega)
   have hle:lev (l.drop j)=lev (l.drop (j+1))*256+UInt64.ofNat (l.getD j 0).toNat:=by rw [hd];exact (i1c (l.drop (j+1)) _).symm
   have F9:=And.intro hc<|And.intro hij<|And.intro hc1<|And.intro hc2<|And.intro hg0<|hw
   iterate 14 first
    |refine zhK _ ?_
    |(refine zhN _ ?_;clear zhN zhM)
    |(refine Cv fun zK zhK=>?_;simp only [go_sem,hw0,F9];(repeat' (first|apply And.intro|intro _)))
    |(refine Dz fun zK zhK=>?_;simp only [go_sem,hw0,F9];(repeat' (first|apply And.intro|intro _)))
    |refine Cq ?_
    |refine Cx fun zB zbn zbx zbr zbi=>?_
    |(refine zbn _ ?_;clear zbn zbx zbr zbi)
    |refine Bq fun zN zM zhN zhM=>?_
    |(refine Bz ?_ ?_;focus (first|rfl|(simp [go_sem,hw0,F9];done)))
   refine zhN ⟨j,by omega⟩ _ ?_ ?_ ?_
   · (show j<j+1;omega)
   · (rw [hle];simp only [go_sem,leX,List.cons_append,List.nil_append];try simp)
   · (simp only [go_sem,leX,List.cons_append,List.nil_append];try simp)
theorem e1e (n:UInt64) (k:Nat) (hk:k≤4096):
 Ct Tryd.prog 32 [.w (.one (.pl (.u64 n))),.w (.one (.pl (.i (k:Int))))] (fun v m=>v=.w (.one (.pl (.str (Mk n k))))):=by
 refine Ct.k Tryd.func32 rfl Tryd.ntmps32 (congrArg Array.toList Tryd.results32) (by simp) fun w0 ro=>?_
 refine Dx fun zZ zhZ=>?_
 iterate 8 first
  |(refine Dz fun zK zhK=>?_;simp only [go_sem];(repeat' (first|apply And.intro|intro _)))
  |refine zhK _ ?_
  |refine Cx fun zB zbn zbx zbr zbi=>?_
  |refine Bq fun zN zM zhN zhM=>?_
 refine Fq [1] ?_
 simp only [Gz,Gj,Fj,List.contains_cons,List.contains_nil,Nat.reduceBEq,beq_self_eq_true,Bool.or_false,Bool.or_true,Bool.true_or,Bool.false_or,Bool.false_eq_true,reduceIte]
 refine Ik (fun y=>[(0,.w (.one (.pl (.u64 y.1.2.2)))),(5,.w (.one (.pl (.str y.1.2.1)))),(7,.w (.one (.pl (.i ((y.1.1:Nat):Int)))))]) (fun _=>[]) (fun y=>k-y.1.1) (⟨(0,[],n),Nat.zero_le _,rfl,rfl⟩:{y:Nat×List UInt8×UInt64//y.1≤k∧y.2.1.length=y.1∧y.2.1++Mk y.2.2 (k-y.1)=Mk n k}) ?_ ?_ ?_
 · (simp only [go_sem,leX,List.cons_append,List.nil_append];try simp)
 · (simp only [go_sem,leX,List.cons_append,List.nil_append];try simp)
 intro yy zN zM zhN zhM
 simp only [List.cons_append,List.nil_append]
 obtain ⟨⟨i,s,x⟩,hi,hs,hx⟩:=yy
 rcases Nat.lt_or_ge i k with hlt|hge
 · simp only at hi hs hx
   have hc:((i:Nat):Int)<((k:Nat):Int):=by omega
   have hsl:s.length+1≤9223372036854775807:=by omega
   have hz:¬(256:UInt64)=0:=by decide
   have hk1:k-i=(k-(i+1))+1:=by omega
   rw [hk1,Mk] at hx
   have hs1:Go.RowKit.wrap64 (((i:Nat):Int)+1)=((i+1:Nat):Int):=Kv (by omega) (by omega)
   have F6:=And.intro hc<|And.intro hsl<|And.intro hz<|hs1
   iterate 16 first
    |refine zhK _ ?_
    |(refine Dz fun zK zhK=>?_;simp only [go_sem,F6];(repeat' (first|apply And.intro|intro _)))
    |(refine zhN _ ?_;clear zhN zhM)
    |(refine Cv fun zK zhK=>?_;simp only [go_sem,F6];(repeat' (first|apply And.intro|intro _)))
    |refine Cq ?_
    |refine Cx fun zB zbn zbx zbr zbi=>?_
    |(refine zbn _ ?_;clear zbn zbx zbr zbi)
    |refine Bq fun zN zM zhN zhM=>?_
    |(refine Bz ?_ ?_;focus (first|rfl|(simp [go_sem,F6];done)))
   refine zhN ⟨(i+1,s++[UInt8.ofNat x.toNat],x/256),hlt,by simp [hs],by rw [←hx];simp⟩ _ ?_ ?_ ?_
   · (clear hs1;show k-(i+1)<k-i;omega)
   · (simp only [go_sem,leX,List.cons_append,List.nil_append];try simp)
   · (simp only [go_sem,leX,List.cons_append,List.nil_append];try simp)
 · simp only at hi hs hx
   have hik:i=k:=by omega
   subst hik
   rw [Nat.sub_self,Mk,List.append_nil] at hx
   have hc:¬((i:Nat):Int)<((i:Nat):Int):=by omega
   iterate 13 first
    |(refine Dz fun zK zhK=>?_;simp only [go_sem,hc];(repeat' (first|apply And.intro|intro _)))
    |refine zhK _ ?_
    |(refine zhM _ _ ?_;clear zhN zhM)
    |refine Fx ?_
    |(refine zbx _ ?_;clear zbn zbx zbr zbi)
    |(refine zhN _ ?_;clear zhN zhM)
    |refine Ck ?_
    |(refine zhZ _ _ ?_;simp only [go_sem,hc];(all_goals (rw [hx])))
    |refine Bq fun zN zM zhN zhM=>?_
    |(refine Bj ?_ ?_;focus (first|rfl|(simp [go_sem,hc];done)))
theorem y1r (b:List UInt8) (hb:b.length=64) (r i:Nat) (hr:r<10) (hi:i<16):
 CtM Tryd.prog 63 [.w (.one (.pl (.i (r:Int)))),.w (.one (.pl (.i (i:Int)))),.w (.one (.p 500000 []))] [(500000,⟨false,[.pl (.str b)]⟩)] (fun v m=>v=.w (.one (.pl (.u32 (c0h b r i))))∧m=[(500000,⟨false,[.pl (.str b)]⟩)]):=by
 obtain ⟨k,hk⟩: ∃ k,f0k r i=k:=⟨_,rfl⟩
 have hkl:=t0v hr hi
 rw [hk] at hkl
 have hu:c0h b r i=(lev ((b.drop (4*k)).take 4)).toUInt32:=by rw [c0h,hk,s0g]
 have hw:Go.RowKit.wrap64 (4*((k:Nat):Int))=((4*k:Nat):Int):=Kv (by omega) (by omega)
 have hw2:Go.RowKit.wrap64 (((4*k:Nat):Int)+4)=((4*k+4:Nat):Int):=Kv (by omega) (by omega)
 have d0:(0:Int)≤((4*k+4:Nat):Int)∧(0:Int)≤((4*k:Nat):Int)∧((4*k:Nat):Int)≤((4*k+4:Nat):Int)∧((4*k+4:Nat):Int)≤64:=by omega
 have d1:4*k≤4*k+4∧4*k+4≤64∧4*k+4-4*k=4:=by omega
 have F0:=And.intro hb<|And.intro hk<|And.intro hw<|And.intro hw2<|And.intro d0<|d1
 refine CtM.k Tryd.func63 rfl Tryd.ntmps63 (congrArg Array.toList Tryd.results63) (by simp) fun w0 ro may fx=>?_
 refine Dx fun zZ zhZ=>?_
 refine Dz fun zK zhK=>?_
 simp only [go_sem,F0]
 repeat' (first|apply And.intro|intro _)
 refine zhK _ ?_
 refine Dz fun zK zhK=>?_
 simp only [go_sem,F0]
 repeat' (first|apply And.intro|intro _)
 all_goals (refine Cy (fun k=>k) (fun _ _=>rfl) ?_ ((a2z r i hr hi).plain fun _ _ h=>h) ?_;focus (first|rfl|(simp only [go_sem,F0]<;>rfl)))
 all_goals (rintro v m ⟨hR,hm⟩;subst hR;subst hm)
 all_goals refine And.intro (by first|rfl|simp only [go_sem,F0]) (And.intro (by first|rfl|simp only [go_sem,F0]) ?_)
 all_goals simp only [go_sem,F0]
 all_goals repeat' (first|apply And.intro|intro _)
 refine zhK _ ?_
 refine Dz fun zK zhK=>?_
 simp only [go_sem,F0]
 repeat' (first|apply And.intro|intro _)
 all_goals refine Cy (fun k=>k) (fun _ _=>rfl) (by first|rfl|(simp only [go_sem,F0]<;>rfl)) ((m0l _ (by first|(simp [List.length_take,List.length_drop];done)|(simp only [List.length_take,List.length_drop];omega))).plain fun _ _ h=>h) ?_
 all_goals (rintro v m ⟨hR,hm⟩;subst hR;subst hm)
 all_goals refine And.intro (by first|rfl|simp only [go_sem,F0]) (And.intro (by first|rfl|simp only [go_sem,F0]) ?_)
 all_goals simp only [go_sem,F0]
 all_goals repeat' (first|apply And.intro|intro _)
 refine zhK _ ?_
 refine Ck ?_
 refine zhZ _ _ ?_
 simp only [go_sem,F0]
 all_goals (first|exact ⟨by rw [hu],rfl⟩|rw [hu]|(rw [hu];rfl))
theorem z0e (b:List UInt8) (hb:b.length=64) (r i:Nat) (hr:r<10) (hi:i<16):CtM Tryd.prog 63 ([.w (.one (.pl (.i (r:Int)))),.w (.one (.pl (.i (i:Int))))]++[500000].map fun k=>.w (.one (.p k []))) [(500000,⟨false,[.pl (.str b)]⟩)] (fun v m=>v=.w (.one (.pl (.u32 (c0h b r i))))∧m=[(500000,⟨false,[.pl (.str b)]⟩)]):=y1r b hb r i hr hi
def W16.sh (w:W16):W16:=⟨w.x0,w.x1,w.x2,w.x3,w.x5,w.x6,w.x7,w.x4,w.x10,w.x11,w.x8,w.x9,w.x15,w.x12,w.x13,w.x14⟩
def W16.unsh (w:W16):W16:=⟨w.x0,w.x1,w.x2,w.x3,w.x7,w.x4,w.x5,w.x6,w.x10,w.x11,w.x8,w.x9,w.x13,w.x14,w.x15,w.x12⟩
theorem f1o (x0 x1 x2 x3 x4 x5 x6 x7 x8 x9 x10 x11 x12 x13 x14 x15:UInt32):
 Ct Tryd.prog 57 [.w (.agg [.pl (.u32 x0),.pl (.u32 x1),.pl (.u32 x2),.pl (.u32 x3),.pl (.u32 x4),.pl (.u32 x5),.pl (.u32 x6),.pl (.u32 x7),.pl (.u32 x8),.pl (.u32 x9),.pl (.u32 x10),.pl (.u32 x11),.pl (.u32 x12),.pl (.u32 x13),.pl (.u32 x14),.pl (.u32 x15)]),.w (.one (.pl (.i 0)))] (fun v m=>v=.w (.agg (⟨x0,x1,x2,x3,x4,x5,x6,x7,x8,x9,x10,x11,x12,x13,x14,x15⟩:W16).ls)):=by
 refine Ct.k Tryd.func57 rfl Tryd.ntmps57 (congrArg Array.toList Tryd.results57) (by simp) fun w0 ro=>?_
 refine Dx fun zZ zhZ=>?_
 iterate 427 first
  |(refine Dj (x:=.seq (.region 6 _ _) _) [7,12,13,14,15,16,17,18,19,20,21,22,23,24,25,26,27,28,29] ?_;simp only [go_sem,St.forget,fgt];refine Hw fun zN zM zhN zhM=>?_)
  |(refine Dj (x:=.seq (.region 3 _ _) _) [6,7,9,10,11,12,13,14,15,16,17,18,19,20,21,22,23,24,25,26,27,28,29,30] ?_;simp only [go_sem,St.forget,fgt];refine Hw fun zN zM zhN zhM=>?_)
  |refine Hw fun zN zM zhN zhM=>?_
  |refine zhK _ ?_
  |(refine zhN _ ?_;clear zhN zhM)
  |(refine Dz fun zK zhK=>?_;simp only [go_sem,Int.reduceTMod,Int.toNat_one,Int.mul_zero,Int.zero_mul];(repeat' (first|apply And.intro|intro _)))
  |refine Cx fun zB zbn zbx zbr zbi=>?_
  |refine Cq ?_
  |(refine zbn _ ?_;clear zbn zbx zbr zbi)
  |(refine Cv fun zK zhK=>?_;simp only [go_sem,Int.reduceTMod,Int.toNat_one,Int.mul_zero,Int.zero_mul];(repeat' (first|apply And.intro|intro _)))
  |(refine Kk (id:=8) [14,15,16,17,18,19,20,21,22,23,24,25,26,27,28] [0,0,0,0,8,0,0,96,248,504,4,2044,4092,1,16383,32767] [] mixed (by kernel_rfl) (by simp only [go_sem]) fun zK zhK=>?_;simp only [go_sem,Int.reduceTMod,Int.toNat_one,Int.mul_zero,Int.zero_mul];(repeat' (first|apply And.intro|intro _)))
  |refine zhK _ _ trivial ?_
  |(refine zhM _ _ ?_;clear zhN zhM)
  |refine Fx ?_
  |(refine zbx _ ?_;clear zbn zbx zbr zbi)
  |refine Fw (x:=.seq (.region 6 _ _) _) 5 ?_
  |refine Fw (x:=.seq (.region 3 _ _) _) 5 ?_
  |refine Ck ?_
  |(refine zhZ _ _ ?_;simp only [go_sem,Int.reduceTMod,Int.toNat_one,Int.mul_zero,Int.zero_mul];(all_goals (rfl)))
  |refine Bq fun zN zM zhN zhM=>?_
  |(refine Bz ?_ ?_;focus (first|rfl|(simp [go_sem,Int.reduceTMod,Int.toNat_one,Int.mul_zero,Int.zero_mul];done)))
  |(refine Bj ?_ ?_;focus (first|rfl|(simp [go_sem,Int.reduceTMod,Int.toNat_one,Int.mul_zero,Int.zero_mul];done)))
theorem m0b (x0 x1 x2 x3 x4 x5 x6 x7 x8 x9 x10 x11 x12 x13 x14 x15:UInt32):
 Ct Tryd.prog 57 [.w (.agg [.pl (.u32 x0),.pl (.u32 x1),.pl (.u32 x2),.pl (.u32 x3),.pl (.u32 x4),.pl (.u32 x5),.pl (.u32 x6),.pl (.u32 x7),.pl (.u32 x8),.pl (.u32 x9),.pl (.u32 x10),.pl (.u32 x11),.pl (.u32 x12),.pl (.u32 x13),.pl (.u32 x14),.pl (.u32 x15)]),.w (.one (.pl (.i 1)))] (fun v m=>v=.w (.agg (⟨x0,x1,x2,x3,x4,x5,x6,x7,x8,x9,x10,x11,x12,x13,x14,x15⟩:W16).sh.ls)):=by
 refine Ct.k Tryd.func57 rfl Tryd.ntmps57 (congrArg Array.toList Tryd.results57) (by simp) fun w0 ro=>?_
 refine Dx fun zZ zhZ=>?_
 iterate 427 first
  |(refine Dj (x:=.seq (.region 6 _ _) _) [7,12,13,14,15,16,17,18,19,20,21,22,23,24,25,26,27,28,29] ?_;simp only [go_sem,St.forget,fgt];refine Hw fun zN zM zhN zhM=>?_)
  |(refine Dj (x:=.seq (.region 3 _ _) _) [6,7,9,10,11,12,13,14,15,16,17,18,19,20,21,22,23,24,25,26,27,28,29,30] ?_;simp only [go_sem,St.forget,fgt];refine Hw fun zN zM zhN zhM=>?_)
  |refine Hw fun zN zM zhN zhM=>?_
  |refine zhK _ ?_
  |(refine zhN _ ?_;clear zhN zhM)
  |(refine Dz fun zK zhK=>?_;simp only [go_sem,Int.reduceTMod,Int.toNat_one,Int.mul_zero,Int.zero_mul];(repeat' (first|apply And.intro|intro _)))
  |refine Cx fun zB zbn zbx zbr zbi=>?_
  |refine Cq ?_
  |(refine zbn _ ?_;clear zbn zbx zbr zbi)
  |(refine Cv fun zK zhK=>?_;simp only [go_sem,Int.reduceTMod,Int.toNat_one,Int.mul_zero,Int.zero_mul];(repeat' (first|apply And.intro|intro _)))
  |(refine Kk (id:=8) [14,15,16,17,18,19,20,21,22,23,24,25,26,27,28] [0,0,0,0,8,0,0,96,248,504,4,2044,4092,1,16383,32767] [] mixed (by kernel_rfl) (by simp only [go_sem]) fun zK zhK=>?_;simp only [go_sem,Int.reduceTMod,Int.toNat_one,Int.mul_zero,Int.zero_mul];(repeat' (first|apply And.intro|intro _)))
  |refine zhK _ _ trivial ?_
  |(refine zhM _ _ ?_;clear zhN zhM)
  |refine Fx ?_
  |(refine zbx _ ?_;clear zbn zbx zbr zbi)
  |refine Fw (x:=.seq (.region 6 _ _) _) 5 ?_
  |refine Fw (x:=.seq (.region 3 _ _) _) 5 ?_
  |refine Ck ?_
  |(refine zhZ _ _ ?_;simp only [go_sem,Int.reduceTMod,Int.toNat_one,Int.mul_zero,Int.zero_mul];(all_goals (rfl)))
  |refine Bq fun zN zM zhN zhM=>?_
  |(refine Bz ?_ ?_;focus (first|rfl|(simp [go_sem,Int.reduceTMod,Int.toNat_one,Int.mul_zero,Int.zero_mul];done)))
  |(refine Bj ?_ ?_;focus (first|rfl|(simp [go_sem,Int.reduceTMod,Int.toNat_one,Int.mul_zero,Int.zero_mul];done)))
theorem m0a (x0 x1 x2 x3 x4 x5 x6 x7 x8 x9 x10 x11 x12 x13 x14 x15:UInt32):
 Ct Tryd.prog 57 [.w (.agg [.pl (.u32 x0),.pl (.u32 x1),.pl (.u32 x2),.pl (.u32 x3),.pl (.u32 x4),.pl (.u32 x5),.pl (.u32 x6),.pl (.u32 x7),.pl (.u32 x8),.pl (.u32 x9),.pl (.u32 x10),.pl (.u32 x11),.pl (.u32 x12),.pl (.u32 x13),.pl (.u32 x14),.pl (.u32 x15)]),.w (.one (.pl (.i (-1))))] (fun v m=>v=.w (.agg (⟨x0,x1,x2,x3,x4,x5,x6,x7,x8,x9,x10,x11,x12,x13,x14,x15⟩:W16).unsh.ls)):=by
 refine Ct.k Tryd.func57 rfl Tryd.ntmps57 (congrArg Array.toList Tryd.results57) (by simp) fun w0 ro=>?_
 refine Dx fun zZ zhZ=>?_
 iterate 427 first
  |(refine Dj (x:=.seq (.region 6 _ _) _) [7,12,13,14,15,16,17,18,19,20,21,22,23,24,25,26,27,28,29] ?_;simp only [go_sem,St.forget,fgt];refine Hw fun zN zM zhN zhM=>?_)
  |(refine Dj (x:=.seq (.region 3 _ _) _) [6,7,9,10,11,12,13,14,15,16,17,18,19,20,21,22,23,24,25,26,27,28,29,30] ?_;simp only [go_sem,St.forget,fgt];refine Hw fun zN zM zhN zhM=>?_)
  |refine Hw fun zN zM zhN zhM=>?_
  |refine zhK _ ?_
  |(refine zhN _ ?_;clear zhN zhM)
  |(refine Dz fun zK zhK=>?_;simp only [go_sem,Int.reduceTMod,Int.toNat_one,Int.mul_zero,Int.zero_mul];(repeat' (first|apply And.intro|intro _)))
  |refine Cx fun zB zbn zbx zbr zbi=>?_
  |refine Cq ?_
  |(refine zbn _ ?_;clear zbn zbx zbr zbi)
  |(refine Cv fun zK zhK=>?_;simp only [go_sem,Int.reduceTMod,Int.toNat_one,Int.mul_zero,Int.zero_mul];(repeat' (first|apply And.intro|intro _)))
  |(refine Kk (id:=8) [14,15,16,17,18,19,20,21,22,23,24,25,26,27,28] [0,0,0,0,8,0,0,96,248,504,4,2044,4092,1,16383,32767] [] mixed (by kernel_rfl) (by simp only [go_sem]) fun zK zhK=>?_;simp only [go_sem,Int.reduceTMod,Int.toNat_one,Int.mul_zero,Int.zero_mul];(repeat' (first|apply And.intro|intro _)))
  |refine zhK _ _ trivial ?_
  |(refine zhM _ _ ?_;clear zhN zhM)
  |refine Fx ?_
  |(refine zbx _ ?_;clear zbn zbx zbr zbi)
  |refine Fw (x:=.seq (.region 6 _ _) _) 5 ?_
  |refine Fw (x:=.seq (.region 3 _ _) _) 5 ?_
  |refine Ck ?_
  |(refine zhZ _ _ ?_;simp only [go_sem,Int.reduceTMod,Int.toNat_one,Int.mul_zero,Int.zero_mul];(all_goals (rfl)))
  |refine Bq fun zN zM zhN zhM=>?_
  |(refine Bz ?_ ?_;focus (first|rfl|(simp [go_sem,Int.reduceTMod,Int.toNat_one,Int.mul_zero,Int.zero_mul];done)))
  |(refine Bj ?_ ?_;focus (first|rfl|(simp [go_sem,Int.reduceTMod,Int.toNat_one,Int.mul_zero,Int.zero_mul];done)))
end Bk
end Go.Sy
namespace Go.Sy
namespace Bk
open Go.Proofs
attribute [local irreducible] Fz HT Cw Oj onC onE onO onG goV goA goS Qv Ey
def i1n (ws:List UInt32):List UInt8:=ws.flatMap fun x=>Mk x.toUInt64 4
theorem low4 (x:UInt32):Mk x.toUInt64 4=[(a0f x 0).toUInt8,(a0f x 8).toUInt8,(a0f x 16).toUInt8,(a0f x 24).toUInt8]:=by
 have e: ∀ y:UInt64,(y/256).toNat=y.toNat/256:=fun y=>by rw [UInt64.toNat_div];rfl
 have hx:=x.toNat_lt
 have g: ∀ (y:UInt32) (n:Nat),y.toNat=n→UInt8.ofNat n=y.toUInt8:=fun y n h=>by
  apply UInt8.toNat_inj.mp
  rw [←h,UInt8.toNat_ofNat',UInt32.toNat_toUInt8]
 have t: ∀ c,(a0f x c).toNat=x.toNat/2 ^ c:=fun c=>by
  rw [a0f,UInt32.toNat_ofNat']
  exact Nat.mod_eq_of_lt (Nat.lt_of_le_of_lt (Nat.div_le_self _ _) hx)
 simp only [Mk,List.cons.injEq,and_true]
 refine ⟨?_,?_,?_,?_⟩
 all_goals refine g _ _ ?_
 all_goals simp only [t,e,UInt32.toNat_toUInt64,Nat.div_div_eq_div_mul]
 all_goals simp
theorem u1c {q:List UInt8} {i:Nat} (hq:q.length=32) (hi:i<32) (x:UInt8):(q.take i++x::q.drop (i+1)).length=32:=by
 rw [List.length_append,List.length_cons,List.length_take,List.length_drop];omega
theorem m0i (l:List UInt8):Uw (.agg (Aq l))=true:=by
 simp [Uw,Aq]
theorem t0q (l:List UInt8) (e:Int):Pw (.tup [.agg (Aq l),.one (.pl (.i e))])=true:=by
 simp only [Pw,List.all_cons,m0i];rfl
theorem c2l (e:Nat→Nat) (h:H8):h.ls.map (L.ren e)=h.ls:=rfl
attribute [go_sem] c2l
def H8.l (h:H8):List UInt32:=[h.h0,h.h1,h.h2,h.h3,h.h4,h.h5,h.h6,h.h7]
theorem H8.ls_l (h:H8):h.ls=Jq h.l:=rfl
theorem H8.l_length (h:H8):h.l.length=8:=rfl
theorem g0j (h:H8):(i1n h.l).length=32:=by simp [i1n,H8.l,Av]
theorem v1t (h:H8) (i:Nat) (hi:i<32):(a0f (h.l.getD (i/4) 0) (8*(i%4))).toUInt8=(i1n h.l).getD i 0:=by
 simp only [i1n,H8.l,List.flatMap_cons,List.flatMap_nil,low4,List.cons_append,List.nil_append]
 match i,hi with
 |0,_=>rfl
 |1,_=>rfl
 |2,_=>rfl
 |3,_=>rfl
 |4,_=>rfl
 |5,_=>rfl
 |6,_=>rfl
 |7,_=>rfl
 |8,_=>rfl
 |9,_=>rfl
 |10,_=>rfl
 |11,_=>rfl
 |12,_=>rfl
 |13,_=>rfl
 |14,_=>rfl
 |15,_=>rfl
 |16,_=>rfl
 |17,_=>rfl
 |18,_=>rfl
 |19,_=>rfl
 |20,_=>rfl
 |21,_=>rfl
 |22,_=>rfl
 |23,_=>rfl
 |24,_=>rfl
 |25,_=>rfl
 |26,_=>rfl
 |27,_=>rfl
 |28,_=>rfl
 |29,_=>rfl
 |30,_=>rfl
 |31,_=>rfl
 |n+32,h=>exact absurd h (by omega)
theorem m1t {q r:List UInt8} {i:Nat} (hq:q.length=32) (hr:r.length=32) (hi:i<32) (h:q.take i=r.take i):(q.take i++r.getD i 0::q.drop (i+1)).take (i+1)=r.take (i+1):=by
 have l:(q.take i).length=i:=by rw [List.length_take];omega
 rw [List.take_append,l,List.take_of_length_le (by omega),show i+1-i=1 from by omega,List.take_succ_cons,List.take_zero,h]
 rw [List.take_add_one,List.getElem?_eq_getElem (by omega)]
 simp [List.getD,List.getElem?_eq_getElem (show i<r.length by omega)]
theorem f2f (l:List UInt8) (hl:l.length=32):
 Ct Tryd.prog 48 [.w (.one (.pl (.str l)))] (fun v m=>v=.w (.agg (Aq l))):=by
 have h1:List.take 32 l=l:=List.take_of_length_le (by omega)
 have h2:List.drop 32 (List.replicate 32 (0:UInt8))=[]:=rfl
 have F0:=And.intro hl<|And.intro h1<|h2
 refine Ct.k Tryd.func48 rfl Tryd.ntmps48 (congrArg Array.toList Tryd.results48) (by simp) fun w0 ro=>?_
 refine Dx fun zZ zhZ=>?_
 iterate 11 first
  |(refine Bq fun zN zM zhN zhM=>?_;refine s0n (id:=2) [4,5,6] (by simp only [go_sem]) fun zK zhK=>?_;simp only [go_sem,Nat.min_self,F0];(repeat' (first|apply And.intro|intro _)))
  |(refine Dz fun zK zhK=>?_;simp only [go_sem,Nat.min_self,F0];(repeat' (first|apply And.intro|intro _)))
  |refine zhK _ ?_
  |refine zhK _ _ ?_
  |(refine zhN _ ?_;clear zhN zhM)
  |refine Ck ?_
  |(refine zhZ _ _ ?_;simp only [go_sem,Nat.min_self,F0];(all_goals (rfl)))
theorem z1i (l:List UInt8) (hl:l.length=32):
 Ct Tryd.prog 22 [.w (.agg (Aq l))] (fun v m=>v=.w (.one (.pl (.str l)))):=by
 refine Ct.k Tryd.func22 rfl Tryd.ntmps22 (congrArg Array.toList Tryd.results22) (by simp) fun w0 ro=>?_
 refine Dx fun zZ zhZ=>?_
 iterate 6 first
  |(refine Dz fun zK zhK=>?_;simp only [go_sem,hl];(repeat' (first|apply And.intro|intro _)))
  |refine zhK _ ?_
  |refine Ck ?_
  |(refine zhZ _ _ ?_;simp only [go_sem,hl];(all_goals rfl))
def f0t :List UInt32:=[1779033703,3144134277,1013904242,2773480762,1359893119,2600822924,528734635,1541459225]
def y1g :List (List Int):=[[0,1,2,3,4,5,6,7,8,9,10,11,12,13,14,15],[14,10,4,8,9,15,13,6,1,12,0,2,11,7,5,3],[11,8,12,0,5,2,15,13,10,14,3,6,7,1,9,4],[7,9,3,1,13,12,11,14,2,6,5,10,4,0,15,8],[9,0,5,7,2,4,10,15,14,1,11,12,6,8,3,13],[2,12,6,10,0,11,8,3,4,13,7,5,15,14,1,9],[12,5,1,15,14,13,4,10,0,7,6,3,9,2,8,11],[13,11,7,14,12,1,3,9,5,0,15,4,8,6,2,10],[6,15,14,9,11,3,0,8,12,2,13,7,1,4,10,5],[10,2,8,4,7,6,1,5,15,11,9,14,3,12,13,0]]
end Bk
end Go.Sy
namespace Go.Sy
namespace Bk
open Go.Proofs
attribute [local irreducible] Fz HT Cw Oj onC onE onO onG goV goA goS Qv Ey
structure HSt where
 h:H8
 done:Nat
 rest:List UInt8
def a0y (s:HSt) (c:UInt8):HSt:=if s.rest.length=64 then ⟨g0d s.h s.rest (s.done+64) false,s.done+64,[c]⟩ else ⟨s.h,s.done,s.rest++[c]⟩
def a0q (s:HSt) (l:List UInt8):HSt:=l.foldl a0y s
section
variable {s:HSt} {l:List UInt8}
theorem f1g (c:UInt8) (h:s.rest.length≤64):(a0y s c).rest.length≤64∧(a0y s c).done+(a0y s c).rest.length=s.done+s.rest.length+1:=by
 unfold a0y
 split
 · rename_i h1;simp only [List.length_cons,List.length_nil];omega
 · simp only [List.length_append,List.length_cons,List.length_nil];omega
theorem i0p : ∀ {l:List UInt8} {s:HSt},s.rest.length≤64→(a0q s l).rest.length≤64∧(a0q s l).done+(a0q s l).rest.length=s.done+s.rest.length+l.length
 | [],_,h=>⟨h,rfl⟩
 |c::l,s,h=>by
  obtain ⟨h1,h2⟩:=f1g c h
  obtain ⟨h3,h4⟩:=i0p (l:=l) h1
  exact ⟨h3,by show (a0q (a0y s c) l).done+(a0q (a0y s c) l).rest.length=_;rw [h4,h2,List.length_cons];omega⟩
theorem v0q {i:Nat} (h:i<l.length):a0q s (l.take (i+1))=a0y (a0q s (l.take i)) (l.getD i 0):=by
 have e:l.take (i+1)=l.take i++[l.getD i 0]:=by
  rw [List.take_succ_eq_append_getElem h];simp [List.getD,List.getElem?_eq_getElem h]
 rw [e,a0q,List.foldl_append];rfl
theorem o0d (a b:List UInt8):a0q s (a++b)=a0q (a0q s a) b:=List.foldl_append
theorem f0j : ∀ {l:List UInt8} {h:H8} {d:Nat} {r:List UInt8},r.length+l.length≤64→a0q ⟨h,d,r⟩ l=⟨h,d,r++l⟩
 | [],h,d,r,_=>by simp [a0q]
 |c::l,h,d,r,hl=>by
  simp only [List.length_cons] at hl
  show a0q (a0y ⟨h,d,r⟩ c) l=_
  have e:a0y ⟨h,d,r⟩ c=⟨h,d,r++[c]⟩:=by unfold a0y;rw [if_neg (by show ¬r.length=64;omega)]
  rw [e,f0j (by simp only [List.length_append,List.length_cons,List.length_nil];omega)]
  simp
theorem l1l {h:H8} {d:Nat} {r:List UInt8} (hr:r.length≤64) (b:List UInt8):a0q ⟨h,d,r⟩ b=a0q ⟨h,d,[]⟩ (r++b):=by
 have e:a0q ⟨h,d,[]⟩ r=⟨h,d,r⟩:=by rw [f0j (by simpa using hr)];rfl
 rw [o0d,e]
theorem e1b {h:H8} {d:Nat} (hl:64<l.length):a0q ⟨h,d,[]⟩ l=a0q ⟨g0d h (l.take 64) (d+64) false,d+64,[]⟩ (l.drop 64):=by
 have e:l.drop 64=l.getD 64 0::l.drop 65:=by
  rw [List.drop_eq_getElem_cons hl];simp [List.getD,List.getElem?_eq_getElem hl]
 have l64:(l.take 64).length=64:=by rw [List.length_take];omega
 have key:a0q ⟨h,d,[]⟩ (l.take 64)=⟨h,d,l.take 64⟩:=by rw [f0j (by simp;omega)];rfl
 conv=>lhs;rw [←List.take_append_drop 64 l]
 rw [o0d,key,e]
 show a0q (a0y _ _) _=a0q (a0y _ _) _
 congr 1
 unfold a0y
 rw [if_pos l64,if_neg (by show ¬([]:List UInt8).length=64;simp)]
 rfl
end
def Vx (r:List UInt8):List UInt8:=r++List.replicate (64-r.length) 0
theorem Jw {r:List UInt8} (h:r.length≤64):(Vx r).length=64:=by simp [Vx];omega
theorem o1j {held:List UInt8} {k:Nat} (hh:held.length=64) (hk:k≤64) (hz: ∀ j,k≤j→j<64→held.getD j 0=0):Vx (held.take k)=held:=by
 have hlk:(held.take k).length=k:=by rw [List.length_take];omega
 have hd:held.drop k=List.replicate (64-k) 0:=by
  apply List.ext_getElem
  · rw [List.length_drop,List.length_replicate];omega
  · intro i h1 h2
    rw [List.length_replicate] at h2
    have:=hz (k+i) (by omega) (by omega)
    rw [List.getElem_drop,List.getElem_replicate]
    simpa [List.getD,List.getElem?_eq_getElem (show k+i<held.length by omega)] using this
 rw [Vx,hlk,←hd,List.take_append_drop]
theorem c1i {r:List UInt8} (h:r.length≤64): ∀ j,r.length≤j→j<64→(Vx r).getD j 0=0:=by
 intro j h1 h2
 rw [Vx,List.getD,List.getElem?_append_right h1,List.getElem?_replicate]
 split<;>rfl
theorem p0g (r:List UInt8):(Vx r).take r.length=r:=List.take_left' rfl
theorem c1j {r:List UInt8} (h:r.length=64):Vx r=r:=by rw [Vx,h];simp
theorem g1z {r:List UInt8} (h:r.length<64) (c:UInt8):r++(c::(Vx r).drop (r.length+1))=Vx (r++[c]):=by
 rw [Vx,Vx,List.drop_append,List.drop_of_length_le (by omega),List.drop_replicate,List.nil_append,List.append_assoc]
 simp only [List.length_append,List.length_cons,List.length_nil,List.cons_append,List.nil_append]
 congr 3;omega
theorem t0t (c:UInt8):Vx [c]=c::List.replicate 63 0:=rfl
def HSt.len (s:HSt):Nat:=s.done+s.rest.length
def stB (s:HSt):List L:=Bw s.h (Vx s.rest) (s.rest.length:Nat) ((s.len:Nat):Int)
def HSt.ok (s:HSt):Prop:=s.rest.length≤64∧s.len≤1073741824∧s.done%64=0∧(s.rest.length=0→s.done=0)
theorem j0z {s:HSt} (hs:s.ok):HashOk (Vx s.rest) (s.rest.length:Nat) ((s.len:Nat):Int):=by
 obtain ⟨h1,h2,h3,h4⟩:=hs
 have h5:s.len=s.done+s.rest.length:=rfl
 refine ⟨by omega,by omega,by omega,by omega,by omega,fun h=>?_,fun j hj hl=>c1i h1 j (by simpa using hj) hl⟩
 have:=h4 (by omega);omega
theorem m1l {held:List UInt8} {k l:Nat} (hh:held.length=64) (hok:HashOk held (k:Int) (l:Int)) (h:H8):(HSt.ok ⟨h,l-k,held.take k⟩)∧stB ⟨h,l-k,held.take k⟩=Bw h held (k:Int) (l:Int):=by
 obtain ⟨h1,h2,h3,h4,h5,h6,h7⟩:=hok
 have hl:(held.take k).length=k:=by rw [List.length_take];omega
 have hp:=o1j (k:=k) hh (by omega) (fun j hj hl=>h7 j (by simpa using hj) hl)
 refine ⟨⟨by simp only [hl];omega,by show l-k+(held.take k).length≤_;rw [hl];omega,by show (l-k)%64=0;omega,fun h=>?_⟩,?_⟩
 · simp only [hl] at h;show l-k=0;have:=h6 (by omega);omega
 · show Bw h (Vx (held.take k)) ((held.take k).length:Nat) ((l-k+(held.take k).length:Nat):Int)=_
   rw [hp,hl,show l-k+k=l from by omega]
end Bk
end Go.Sy
