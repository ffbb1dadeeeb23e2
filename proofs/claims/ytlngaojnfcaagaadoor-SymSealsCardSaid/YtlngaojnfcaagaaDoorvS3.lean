/- Walks and what they compute. CONDITIONS: those that each theorem names. -/
import Derived.Test.YtlngaojnfcaagaaDoorvS1
import Derived.Test.YtlngaojnfcaagaaDoorvS2
set_option linter.unusedVariables false
set_option linter.unusedSimpArgs false
set_option maxHeartbeats 800000
set_option maxRecDepth 100000
namespace Go.Sy
open Go.Proofs
attribute [local irreducible] Fz HT Cw Oj onC onE onO onG goV goA goS Qv Ey
theorem s1v :UInt64.toNat 2=2:=rfl
theorem s1t :UInt64.toNat 4=4:=rfl
theorem s1s :UInt64.toNat 5=5:=rfl
theorem s1r :UInt64.toNat 7=7:=rfl
theorem s1q :UInt64.toNat 8=8:=rfl
theorem f1f :UInt64.toNat 12=12:=rfl
theorem f1e :UInt64.toNat 14=14:=rfl
theorem f1d :UInt64.toNat 15=15:=rfl
theorem f1c :UInt64.toNat 16=16:=rfl
theorem f1b :UInt64.toNat 24=24:=rfl
theorem e1z :UInt64.toNat 26=26:=rfl
theorem e1y :UInt64.toNat 32=32:=rfl
theorem e1x :UInt64.toNat 40=40:=rfl
theorem e1w :UInt64.toNat 52=52:=rfl
theorem e1v :UInt64.toNat 62=62:=rfl
attribute [go_sem] s1v s1t s1s s1r s1q f1f f1e f1d f1c f1b e1z e1y e1x e1w e1v
theorem drop_cons {l:List UInt8} {j:Nat} (h:j<l.length):l.drop j=l.getD j 0::l.drop (j+1):=by
 rw [List.drop_eq_getElem_cons h];congr 1;simp [List.getD,List.getElem?_eq_getElem h]
theorem p1n (l:List UInt8) (hl:l.length=8) (ex:Bool):
 Ct Tryd.prog 69 [.w (.one (.pl (.R ex 1 (Aw l))))] (fun v m=>v=.w (.one (.pl (.u64 (lev l))))):=by
 have hd0:l.drop 8=[]:=by rw [←hl];exact List.drop_length
 refine Ct.k Tryd.func69 rfl Tryd.ntmps69 (congrArg Array.toList Tryd.results69) (by simp) fun w0 ro=>?_
 refine Dx fun zZ zhZ=>?_
 iterate 8 first
  |(refine Dz fun zK zhK=>?_;simp only [go_sem];(repeat' (first|apply And.intro|intro _)))
  |refine zhK _ ?_
  |refine Cx fun zB zbn zbx zbr zbi=>?_
  |refine Bq fun zN zM zhN zhM=>?_
 refine Ik (fun y=>[(3,.w (.one (.pl (.u64 (lev (l.drop y.1)))))),(4,.w (.one (.pl (.i (((y.1:Nat):Int)-1)))))]) (fun _=>[]) (fun y=>y.1) (⟨l.length,Nat.le_refl _⟩:{y:Nat//y≤l.length}) ?_ ?_ ?_
 · (simp only [go_sem,hl,List.drop_length,leX,List.cons_append,List.nil_append];first|rfl|simp [lev,leN])
 · (simp only [go_sem,leX,List.cons_append,List.nil_append];try simp)
 intro yy zN zM zhN zhM
 simp only [List.cons_append,List.nil_append]
 obtain ⟨j,hj⟩:=yy
 rcases j with _|j
 · have hc:¬(0:Int)≤((0:Nat):Int)-1:=by omega
   iterate 13 first
    |(refine Dz fun zK zhK=>?_;simp only [go_sem,hc];(repeat' (first|apply And.intro|intro _)))
    |refine zhK _ ?_
    |(refine zhM _ _ ?_;clear zhN zhM)
    |refine Fx ?_
    |(refine zbx _ ?_;clear zbn zbx zbr zbi)
    |(refine zhN _ ?_;clear zhN zhM)
    |refine Ck ?_
    |(refine zhZ _ _ ?_;simp only [go_sem,hc];(all_goals (simp only [List.drop_zero])))
    |refine Bq fun zN zM zhN zhM=>?_
    |(refine Bj ?_ ?_;focus (first|rfl|(simp [go_sem,hc];done)))
 · have hlt:j<l.length:=by omega
   have hd:=drop_cons hlt
   have hc:(0:Int)≤((j+1:Nat):Int)-1:=by omega
   have hij:((j+1:Nat):Int)-1=((j:Nat):Int):=by omega
   have hc1:(0:Int)≤((j:Nat):Int):=by omega
   have hc2:((j:Nat):Int)<((l.length:Nat):Int):=by omega
   have hg0:=Iw hlt
   have hw:Go.RowKit.wrap64 (((j:Nat):Int)-1)=((j:Nat):Int)-1:=w64 (by omega)
   have hle:lev (l.drop j)=Qz (lev (l.drop (j+1))) 8|||UInt64.ofNat (l.getD j 0).toNat:=by rw [hd];exact (v1n (r:=l.drop (j+1)) _ (by rw [List.length_drop];omega)).symm
   have F9:=And.intro hc<|And.intro hij<|And.intro hc1<|And.intro hc2<|And.intro hg0<|hw
   iterate 14 first
    |refine zhK _ ?_
    |(refine zhN _ ?_;clear zhN zhM)
    |(refine Cv fun zK zhK=>?_;simp only [go_sem,F9];(repeat' (first|apply And.intro|intro _)))
    |(refine Dz fun zK zhK=>?_;simp only [go_sem,F9];(repeat' (first|apply And.intro|intro _)))
    |refine Cq ?_
    |refine Cx fun zB zbn zbx zbr zbi=>?_
    |(refine zbn _ ?_;clear zbn zbx zbr zbi)
    |refine Bq fun zN zM zhN zhM=>?_
    |(refine Bz ?_ ?_;focus (first|rfl|(simp [go_sem,F9];done)))
   refine zhN ⟨j,by omega⟩ _ ?_ ?_ ?_
   · (show j<j+1;omega)
   · (rw [hle];simp only [go_sem,leX,List.cons_append,List.nil_append];try simp)
   · (simp only [go_sem,leX,List.cons_append,List.nil_append];try simp)
theorem m0l (l:List UInt8) (hl:l.length≤4096):
 Ct Tryd.prog 56 [.w (.one (.pl (.str l)))] (fun v m=>v=.w (.one (.pl (.u64 (lev l))))):=by
 have hw0:Go.RowKit.wrap64 (((l.length:Nat):Int)-1)=((l.length:Nat):Int)-1:=w64 (by omega)
 refine Ct.k Tryd.func56 rfl Tryd.ntmps56 (congrArg Array.toList Tryd.results56) (by simp) fun w0 ro=>?_
 refine Dx fun zZ zhZ=>?_
 iterate 8 first
  |(refine Dz fun zK zhK=>?_;simp only [go_sem,hw0];(repeat' (first|apply And.intro|intro _)))
  |refine zhK _ ?_
  |refine Cx fun zB zbn zbx zbr zbi=>?_
  |refine Bq fun zN zM zhN zhM=>?_
 refine Fq [5,6,7] ?_
 simp only [Gz,Gj,Fj,List.contains_cons,List.contains_nil,Nat.reduceBEq,beq_self_eq_true,Bool.or_false,Bool.or_true,Bool.true_or,Bool.false_or,Bool.false_eq_true,reduceIte]
 refine Ik (fun y=>[(3,.w (.one (.pl (.u64 (lev (l.drop y.1)))))),(4,.w (.one (.pl (.i (((y.1:Nat):Int)-1)))))]) (fun _=>[]) (fun y=>y.1) (⟨l.length,Nat.le_refl _⟩:{y:Nat//y≤l.length}) ?_ ?_ ?_
 · (simp only [go_sem,hl,List.drop_length,leX,List.cons_append,List.nil_append];first|rfl|simp [lev,leN])
 · (simp only [go_sem,leX,List.cons_append,List.nil_append];try simp)
 intro yy zN zM zhN zhM
 simp only [List.cons_append,List.nil_append]
 obtain ⟨j,hj⟩:=yy
 rcases j with _|j
 · have hc:¬(0:Int)≤((0:Nat):Int)-1:=by omega
   iterate 13 first
    |(refine Dz fun zK zhK=>?_;simp only [go_sem,hw0,hc];(repeat' (first|apply And.intro|intro _)))
    |refine zhK _ ?_
    |(refine zhM _ _ ?_;clear zhN zhM)
    |refine Fx ?_
    |(refine zbx _ ?_;clear zbn zbx zbr zbi)
    |(refine zhN _ ?_;clear zhN zhM)
    |refine Ck ?_
    |(refine zhZ _ _ ?_;simp only [go_sem,hw0,hc];(all_goals (simp only [List.drop_zero])))
    |refine Bq fun zN zM zhN zhM=>?_
    |(refine Bj ?_ ?_;focus (first|rfl|(simp [go_sem,hw0,hc];done)))
 · have hlt:j<l.length:=by omega
   have hd:=drop_cons hlt
   have hc:(0:Int)≤((j+1:Nat):Int)-1:=by omega
   have hij:((j+1:Nat):Int)-1=((j:Nat):Int):=by omega
   have hc1:(0:Int)≤((j:Nat):Int):=by omega
   have hc2:((j:Nat):Int)<((l.length:Nat):Int):=by omega
   have hg0:=Iw hlt
   have hw:Go.RowKit.wrap64 (((j:Nat):Int)-1)=((j:Nat):Int)-1:=w64 (by omega)
   have hle:lev (l.drop j)=lev (l.drop (j+1))*256+UInt64.ofNat (l.getD j 0).toNat:=by rw [hd];exact (i1c (l.drop (j+1)) _).symm
   have F9:=And.intro hc<|And.intro hij<|And.intro hc1<|And.intro hc2<|And.intro hg0<|hw
   iterate 14 first
    |refine zhK _ ?_
    |(refine zhN _ ?_;clear zhN zhM)
    |(refine Cv fun zK zhK=>?_;simp only [go_sem,hw0,F9];(repeat' (first|apply And.intro|intro _)))
    |(refine Dz fun zK zhK=>?_;simp only [go_sem,hw0,F9];(repeat' (first|apply And.intro|intro _)))
    |refine Cq ?_
    |refine Cx fun zB zbn zbx zbr zbi=>?_
    |(refine zbn _ ?_;clear zbn zbx zbr zbi)
    |refine Bq fun zN zM zhN zhM=>?_
    |(refine Bz ?_ ?_;focus (first|rfl|(simp [go_sem,hw0,F9];done)))
   refine zhN ⟨j,by omega⟩ _ ?_ ?_ ?_
   · (show j<j+1;omega)
   · (rw [hle];simp only [go_sem,leX,List.cons_append,List.nil_append];try simp)
   · (simp only [go_sem,leX,List.cons_append,List.nil_append];try simp)
theorem e1e (n:UInt64) (k:Nat) (hk:k≤4096):
 Ct Tryd.prog 32 [.w (.one (.pl (.u64 n))),.w (.one (.pl (.i (k:Int))))] (fun v m=>v=.w (.one (.pl (.str (Mk n k))))):=by
 refine Ct.k Tryd.func32 rfl Tryd.ntmps32 (congrArg Array.toList Tryd.results32) (by simp) fun w0 ro=>?_
 refine Dx fun zZ zhZ=>?_
 iterate 8 first
  |(refine Dz fun zK zhK=>?_;simp only [go_sem];(repeat' (first|apply And.intro|intro _)))
  |refine zhK _ ?_
  |refine Cx fun zB zbn zbx zbr zbi=>?_
  |refine Bq fun zN zM zhN zhM=>?_
 refine Fq [1] ?_
 simp only [Gz,Gj,Fj,List.contains_cons,List.contains_nil,Nat.reduceBEq,beq_self_eq_true,Bool.or_false,Bool.or_true,Bool.true_or,Bool.false_or,Bool.false_eq_true,reduceIte]
 refine Ik (fun y=>[(0,.w (.one (.pl (.u64 y.1.2.2)))),(5,.w (.one (.pl (.str y.1.2.1)))),(7,.w (.one (.pl (.i ((y.1.1:Nat):Int)))))]) (fun _=>[]) (fun y=>k-y.1.1) (⟨(0,[],n),Nat.zero_le _,rfl,rfl⟩:{y:Nat×List UInt8×UInt64//y.1≤k∧y.2.1.length=y.1∧y.2.1++Mk y.2.2 (k-y.1)=Mk n k}) ?_ ?_ ?_
 · (simp only [go_sem,leX,List.cons_append,List.nil_append];try simp)
 · (simp only [go_sem,leX,List.cons_append,List.nil_append];try simp)
 intro yy zN zM zhN zhM
 simp only [List.cons_append,List.nil_append]
 obtain ⟨⟨i,s,x⟩,hi,hs,hx⟩:=yy
 rcases Nat.lt_or_ge i k with hlt|hge
 · simp only at hi hs hx
   have hc:((i:Nat):Int)<((k:Nat):Int):=by omega
   have hsl:s.length+1≤9223372036854775807:=by omega
   have hz:¬(256:UInt64)=0:=by decide
   have hk1:k-i=(k-(i+1))+1:=by omega
   rw [hk1,Mk] at hx
   have hs1:Go.RowKit.wrap64 (((i:Nat):Int)+1)=((i+1:Nat):Int):=Kv (by omega) (by omega)
   have F6:=And.intro hc<|And.intro hsl<|And.intro hz<|hs1
   iterate 16 first
    |refine zhK _ ?_
    |(refine Dz fun zK zhK=>?_;simp only [go_sem,F6];(repeat' (first|apply And.intro|intro _)))
    |(refine zhN _ ?_;clear zhN zhM)
    |(refine Cv fun zK zhK=>?_;simp only [go_sem,F6];(repeat' (first|apply And.intro|intro _)))
    |refine Cq ?_
    |refine Cx fun zB zbn zbx zbr zbi=>?_
    |(refine zbn _ ?_;clear zbn zbx zbr zbi)
    |refine Bq fun zN zM zhN zhM=>?_
    |(refine Bz ?_ ?_;focus (first|rfl|(simp [go_sem,F6];done)))
   refine zhN ⟨(i+1,s++[UInt8.ofNat x.toNat],x/256),hlt,by simp [hs],by rw [←hx];simp⟩ _ ?_ ?_ ?_
   · (clear hs1;show k-(i+1)<k-i;omega)
   · (simp only [go_sem,leX,List.cons_append,List.nil_append];try simp)
   · (simp only [go_sem,leX,List.cons_append,List.nil_append];try simp)
 · simp only at hi hs hx
   have hik:i=k:=by omega
   subst hik
   rw [Nat.sub_self,Mk,List.append_nil] at hx
   have hc:¬((i:Nat):Int)<((i:Nat):Int):=by omega
   iterate 13 first
    |(refine Dz fun zK zhK=>?_;simp only [go_sem,hc];(repeat' (first|apply And.intro|intro _)))
    |refine zhK _ ?_
    |(refine zhM _ _ ?_;clear zhN zhM)
    |refine Fx ?_
    |(refine zbx _ ?_;clear zbn zbx zbr zbi)
    |(refine zhN _ ?_;clear zhN zhM)
    |refine Ck ?_
    |(refine zhZ _ _ ?_;simp only [go_sem,hc];(all_goals (rw [hx])))
    |refine Bq fun zN zM zhN zhM=>?_
    |(refine Bj ?_ ?_;focus (first|rfl|(simp [go_sem,hc];done)))
end Go.Sy
namespace Go.Sy
open Go.Proofs
attribute [local irreducible] Fz HT Cw Oj onC onE onO onG goV goA goS Qv Ey
def Hy (x:UInt32) (k:Nat):UInt32:=Qq x k|||a0f x (32-k)
theorem w0e (x:UInt32):
 Ct Tryd.prog 55 [.w (.one (.pl (.u32 x))),.w (.one (.pl (.i 16)))] (fun v m=>v=.w (.one (.pl (.u32 (Hy x 16))))):=by
 have h1:UInt64.ofNat ((16:Int)%18446744073709551616).toNat&&&31=16:=rfl
 have h2:(32:UInt64)-16=16:=rfl
 have h3:UInt64.toNat 16=16:=rfl
 have h4:UInt64.toNat 16=16:=rfl
 have F0:=And.intro h1<|And.intro h2<|And.intro h3<|h4
 refine Ct.k Tryd.func55 rfl Tryd.ntmps55 (congrArg Array.toList Tryd.results55) (by simp) fun w0 ro=>?_
 refine Dx fun zZ zhZ=>?_
 iterate 8 first
  |(refine Dz fun zK zhK=>?_;simp only [go_sem,Hy,F0];(repeat' (first|apply And.intro|intro _)))
  |refine zhK _ ?_
  |refine Ck ?_
  |(refine zhZ _ _ ?_;simp only [go_sem,Hy,F0];(all_goals rfl))
theorem m0q (x:UInt32):
 Ct Tryd.prog 65 [.w (.one (.pl (.u32 x))),.w (.one (.pl (.i 16)))] (fun v m=>v=.w (.one (.pl (.u32 (Hy x 16))))):=by
 have h1:Go.RowKit.wrap64 16=16:=w64 (by decide)
 refine Ct.k Tryd.func65 rfl Tryd.ntmps65 (congrArg Array.toList Tryd.results65) (by simp) fun w0 ro=>?_
 refine Dx fun zZ zhZ=>?_
 refine Dz fun zK zhK=>?_
 simp only [go_sem,h1,Hy]
 repeat' (first|apply And.intro|intro _)
 refine zhK _ ?_
 refine d0c (id:=1) [5,6,7,8,9,10,11,12,4] [0,0,3,0,0,16,56,127,255] [] mixed (by kernel_rfl) (by simp only [go_sem]) fun zK zhK=>?_
 simp only [go_sem,h1,Hy]
 repeat' (first|apply And.intro|intro _)
 refine zhK _ _ trivial ?_
 refine Ck ?_
 refine zhZ _ _ ?_
 simp only [go_sem,h1,Hy]
 all_goals rfl
theorem t1r (x:UInt32):
 Ct Tryd.prog 55 [.w (.one (.pl (.u32 x))),.w (.one (.pl (.i 12)))] (fun v m=>v=.w (.one (.pl (.u32 (Hy x 12))))):=by
 have h1:UInt64.ofNat ((12:Int)%18446744073709551616).toNat&&&31=12:=rfl
 have h2:(32:UInt64)-12=20:=rfl
 have h3:UInt64.toNat 12=12:=rfl
 have h4:UInt64.toNat 20=20:=rfl
 have F0:=And.intro h1<|And.intro h2<|And.intro h3<|h4
 refine Ct.k Tryd.func55 rfl Tryd.ntmps55 (congrArg Array.toList Tryd.results55) (by simp) fun w0 ro=>?_
 refine Dx fun zZ zhZ=>?_
 iterate 8 first
  |(refine Dz fun zK zhK=>?_;simp only [go_sem,Hy,F0];(repeat' (first|apply And.intro|intro _)))
  |refine zhK _ ?_
  |refine Ck ?_
  |(refine zhZ _ _ ?_;simp only [go_sem,Hy,F0];(all_goals rfl))
theorem i1h (x:UInt32):
 Ct Tryd.prog 65 [.w (.one (.pl (.u32 x))),.w (.one (.pl (.i 12)))] (fun v m=>v=.w (.one (.pl (.u32 (Hy x 12))))):=by
 have h1:Go.RowKit.wrap64 20=20:=w64 (by decide)
 refine Ct.k Tryd.func65 rfl Tryd.ntmps65 (congrArg Array.toList Tryd.results65) (by simp) fun w0 ro=>?_
 refine Dx fun zZ zhZ=>?_
 refine Dz fun zK zhK=>?_
 simp only [go_sem,h1,Hy]
 repeat' (first|apply And.intro|intro _)
 refine zhK _ ?_
 refine d0c (id:=1) [5,6,7,8,9,10,11,12,4] [0,0,3,0,0,16,56,127,255] [] mixed (by kernel_rfl) (by simp only [go_sem]) fun zK zhK=>?_
 simp only [go_sem,h1,Hy]
 repeat' (first|apply And.intro|intro _)
 refine zhK _ _ trivial ?_
 refine Ck ?_
 refine zhZ _ _ ?_
 simp only [go_sem,h1,Hy]
 all_goals rfl
theorem a2g (x:UInt32):
 Ct Tryd.prog 55 [.w (.one (.pl (.u32 x))),.w (.one (.pl (.i 8)))] (fun v m=>v=.w (.one (.pl (.u32 (Hy x 8))))):=by
 have h1:UInt64.ofNat ((8:Int)%18446744073709551616).toNat&&&31=8:=rfl
 have h2:(32:UInt64)-8=24:=rfl
 have h3:UInt64.toNat 8=8:=rfl
 have h4:UInt64.toNat 24=24:=rfl
 have F0:=And.intro h1<|And.intro h2<|And.intro h3<|h4
 refine Ct.k Tryd.func55 rfl Tryd.ntmps55 (congrArg Array.toList Tryd.results55) (by simp) fun w0 ro=>?_
 refine Dx fun zZ zhZ=>?_
 iterate 8 first
  |(refine Dz fun zK zhK=>?_;simp only [go_sem,Hy,F0];(repeat' (first|apply And.intro|intro _)))
  |refine zhK _ ?_
  |refine Ck ?_
  |(refine zhZ _ _ ?_;simp only [go_sem,Hy,F0];(all_goals rfl))
theorem r1x (x:UInt32):
 Ct Tryd.prog 65 [.w (.one (.pl (.u32 x))),.w (.one (.pl (.i 8)))] (fun v m=>v=.w (.one (.pl (.u32 (Hy x 8))))):=by
 have h1:Go.RowKit.wrap64 24=24:=w64 (by decide)
 refine Ct.k Tryd.func65 rfl Tryd.ntmps65 (congrArg Array.toList Tryd.results65) (by simp) fun w0 ro=>?_
 refine Dx fun zZ zhZ=>?_
 refine Dz fun zK zhK=>?_
 simp only [go_sem,h1,Hy]
 repeat' (first|apply And.intro|intro _)
 refine zhK _ ?_
 refine d0c (id:=1) [5,6,7,8,9,10,11,12,4] [0,0,3,0,0,16,56,127,255] [] mixed (by kernel_rfl) (by simp only [go_sem]) fun zK zhK=>?_
 simp only [go_sem,h1,Hy]
 repeat' (first|apply And.intro|intro _)
 refine zhK _ _ trivial ?_
 refine Ck ?_
 refine zhZ _ _ ?_
 simp only [go_sem,h1,Hy]
 all_goals rfl
theorem a2h (x:UInt32):
 Ct Tryd.prog 55 [.w (.one (.pl (.u32 x))),.w (.one (.pl (.i 7)))] (fun v m=>v=.w (.one (.pl (.u32 (Hy x 7))))):=by
 have h1:UInt64.ofNat ((7:Int)%18446744073709551616).toNat&&&31=7:=rfl
 have h2:(32:UInt64)-7=25:=rfl
 have h3:UInt64.toNat 7=7:=rfl
 have h4:UInt64.toNat 25=25:=rfl
 have F0:=And.intro h1<|And.intro h2<|And.intro h3<|h4
 refine Ct.k Tryd.func55 rfl Tryd.ntmps55 (congrArg Array.toList Tryd.results55) (by simp) fun w0 ro=>?_
 refine Dx fun zZ zhZ=>?_
 iterate 8 first
  |(refine Dz fun zK zhK=>?_;simp only [go_sem,Hy,F0];(repeat' (first|apply And.intro|intro _)))
  |refine zhK _ ?_
  |refine Ck ?_
  |(refine zhZ _ _ ?_;simp only [go_sem,Hy,F0];(all_goals rfl))
theorem r1y (x:UInt32):
 Ct Tryd.prog 65 [.w (.one (.pl (.u32 x))),.w (.one (.pl (.i 7)))] (fun v m=>v=.w (.one (.pl (.u32 (Hy x 7))))):=by
 have h1:Go.RowKit.wrap64 25=25:=w64 (by decide)
 refine Ct.k Tryd.func65 rfl Tryd.ntmps65 (congrArg Array.toList Tryd.results65) (by simp) fun w0 ro=>?_
 refine Dx fun zZ zhZ=>?_
 refine Dz fun zK zhK=>?_
 simp only [go_sem,h1,Hy]
 repeat' (first|apply And.intro|intro _)
 refine zhK _ ?_
 refine d0c (id:=1) [5,6,7,8,9,10,11,12,4] [0,0,3,0,0,16,56,127,255] [] mixed (by kernel_rfl) (by simp only [go_sem]) fun zK zhK=>?_
 simp only [go_sem,h1,Hy]
 repeat' (first|apply And.intro|intro _)
 refine zhK _ _ trivial ?_
 refine Ck ?_
 refine zhZ _ _ ?_
 simp only [go_sem,h1,Hy]
 all_goals rfl
theorem rotl (x:UInt32) (k:Nat) (hk:k=16∨k=12∨k=8∨k=7):Ct Tryd.prog 55 [.w (.one (.pl (.u32 x))),.w (.one (.pl (.i (k:Int))))] (fun v m=>v=.w (.one (.pl (.u32 (Hy x k))))):=by
 rcases hk with rfl|rfl|rfl|rfl
 · exact w0e x
 · exact t1r x
 · exact a2g x
 · exact a2h x
theorem left (x:UInt32) (k:Nat) (hk:k=16∨k=12∨k=8∨k=7):Ct Tryd.prog 65 [.w (.one (.pl (.u32 x))),.w (.one (.pl (.i (k:Int))))] (fun v m=>v=.w (.one (.pl (.u32 (Hy x k))))):=by
 rcases hk with rfl|rfl|rfl|rfl
 · exact m0q x
 · exact i1h x
 · exact r1x x
 · exact r1y x
def d0g (l:List UInt8):UInt32:=(l.getD 0 0).toUInt32|||Qq (l.getD 1 0).toUInt32 8|||Qq (l.getD 2 0).toUInt32 16|||Qq (l.getD 3 0).toUInt32 24
theorem d2n (l:List UInt8) (hl:4≤l.length) (ex:Bool):
 Ct Tryd.prog 49 [.w (.one (.pl (.R ex 1 (Aw l))))] (fun v m=>v=.w (.one (.pl (.u32 (d0g l))))):=by
 skip
 have g0:(Aw l).getD 0 []=[.u8 (l.getD 0 0)]:=Iw (by omega)
 have c0:(0:Int)<((l.length:Nat):Int):=by omega
 have g1:(Aw l).getD 1 []=[.u8 (l.getD 1 0)]:=Iw (by omega)
 have c1:(1:Int)<((l.length:Nat):Int):=by omega
 have g2:(Aw l).getD 2 []=[.u8 (l.getD 2 0)]:=Iw (by omega)
 have c2:(2:Int)<((l.length:Nat):Int):=by omega
 have g3:(Aw l).getD 3 []=[.u8 (l.getD 3 0)]:=Iw (by omega)
 have c3:(3:Int)<((l.length:Nat):Int):=by omega
 have F0:=And.intro g0<|And.intro g1<|And.intro g2<|And.intro g3<|And.intro c0<|And.intro c1<|And.intro c2<|c3
 refine Ct.k Tryd.func49 rfl Tryd.ntmps49 (congrArg Array.toList Tryd.results49) (by simp) fun w0 ro=>?_
 refine Dx fun zZ zhZ=>?_
 refine Dz fun zK zhK=>?_
 simp only [go_sem,Int.toNat_one,d0g,F0]
 repeat' (first|apply And.intro|intro _)
 refine zhK _ ?_
 refine d0c (id:=1) [3,4,5,6,7,8,9,10,11,12,13,14,15,16,17,18,19,20,21,22,23,24,2] [0,1,3,7,0,16,48,112,240,511,0,1024,3072,7168,15360,32767,0,65536,196608,458752,983040,2097151,4194303] [] mixed (by kernel_rfl) (by simp only [go_sem]) fun zK zhK=>?_
 simp only [go_sem,Int.toNat_one,d0g,F0]
 repeat' (first|apply And.intro|intro _)
 refine zhK _ _ trivial ?_
 refine Ck ?_
 refine zhZ _ _ ?_
 simp only [go_sem,Int.toNat_one,d0g,F0]
 all_goals rfl
end Go.Sy
