/- Walks and what they compute. CONDITIONS: those that each theorem names. -/
import Derived.Test.YtlmbdhfkdhjcfaaDoorvS5
set_option linter.unusedVariables false
set_option linter.unusedSimpArgs false
set_option maxHeartbeats 1600000
set_option maxRecDepth 100000
namespace Go.Sy
namespace Bk
open Go.Proofs
attribute [local irreducible] Dv HT Cz Px onC onE onO onG goV goA goS Qx Dw
def Ak (h:H8) (held:List UInt8) (n len:Int):List L:=h.ls++(Az held++[.pl (.i n),.pl (.i len)])
structure HashOk (held:List UInt8) (n len:Int):Prop where
 lo:0≤n
 hi:n≤64
 le:n≤len
 mx:len≤1073741824
 md:(len-n)%64=0
 nz:n=0→len=0
 rest: ∀ j,n.toNat≤j→j<64→held.getD j 0=0
noncomputable def Uj (held:List UInt8) (n len:Int):Int:=if Classical.propDecidable (HashOk held n len)|>.decide then 0 else 9
noncomputable def Rk (held:List UInt8) (n len:Int):Bool:=!(Classical.propDecidable (HashOk held n len)|>.decide)
section
variable {held:List UInt8} {n len:Int}
theorem c0y (h:HashOk held n len):Uj held n len=0:=by unfold Uj;simp [h]
theorem c0z (h:¬HashOk held n len):Uj held n len=9:=by unfold Uj;simp [h]
theorem b0o (h:HashOk held n len):Rk held n len=false:=by unfold Rk;simp [h]
theorem a0h (h:¬HashOk held n len):Rk held n len=true:=by unfold Rk;simp [h]
theorem y0n {l:List UInt8} {o m i:Nat} (h:o+i<l.length) (hi:i<m):List.take 1 (List.drop i (List.take m (List.drop o l)))=[l.getD (o+i) 0]:=by
 have hl:i<(List.take m (List.drop o l)).length:=by rw [List.length_take,List.length_drop];omega
 rw [List.drop_eq_getElem_cons hl,List.take_succ_cons,List.take_zero]
 simp [List.getElem_take,List.getElem_drop,List.getD,List.getElem?_eq_getElem h]
end
theorem t1z (h0 h1 h2 h3 h4 h5 h6 h7:UInt32) (held:List UInt8) (hh:held.length=64) (n len:Int) (g1:n<0):
 Ct Tryd.prog 77 [.w (.agg (Ak ⟨h0,h1,h2,h3,h4,h5,h6,h7⟩ held n len))] (fun v m=>v=.w (.one (.pl (.i (Uj held n len))))):=by
 refine Ct.k Tryd.func77 rfl Tryd.ntmps77 (congrArg Array.toList Tryd.results77) (by simp) fun w0 ro=>?_
 refine Dj fun zZ zhZ=>?_
 iterate 11 first
  |(refine Cx fun zK zhK=>?_;simp only [go_sem,Ak,H8.ls,hh,g1];(repeat' (first|apply And.intro|intro _)))
  |refine zhK _ ?_
  |refine Dx ?_
  |(refine zhM _ _ ?_;clear zhN zhM)
  |(refine zhZ _ _ ?_;simp only [go_sem,Ak,H8.ls,hh,g1];(all_goals (rw [c0z (fun h=>absurd h.lo (by omega))])))
  |refine Bz fun zN zM zhN zhM=>?_
  |(refine Bv ?_ ?_;focus (first|rfl|(simp [go_sem,Ak,H8.ls,hh,g1];done)))
theorem t1y (h0 h1 h2 h3 h4 h5 h6 h7:UInt32) (held:List UInt8) (hh:held.length=64) (n len:Int) (g1:¬n<0) (g2:64<n):
 Ct Tryd.prog 77 [.w (.agg (Ak ⟨h0,h1,h2,h3,h4,h5,h6,h7⟩ held n len))] (fun v m=>v=.w (.one (.pl (.i (Uj held n len))))):=by
 have F0:=And.intro hh<|And.intro g1<|g2
 refine Ct.k Tryd.func77 rfl Tryd.ntmps77 (congrArg Array.toList Tryd.results77) (by simp) fun w0 ro=>?_
 refine Dj fun zZ zhZ=>?_
 iterate 11 first
  |(refine Cx fun zK zhK=>?_;simp only [go_sem,Ak,H8.ls,F0];(repeat' (first|apply And.intro|intro _)))
  |refine zhK _ ?_
  |refine Dx ?_
  |(refine zhM _ _ ?_;clear zhN zhM)
  |(refine zhZ _ _ ?_;simp only [go_sem,Ak,H8.ls,F0];(all_goals (rw [c0z (fun h=>absurd h.hi (by omega))])))
  |refine Bz fun zN zM zhN zhM=>?_
  |(refine Bv ?_ ?_;focus (first|rfl|(simp [go_sem,Ak,H8.ls,F0];done)))
theorem t1x (h0 h1 h2 h3 h4 h5 h6 h7:UInt32) (held:List UInt8) (hh:held.length=64) (n len:Int) (g1:¬n<0) (g2:¬64<n) (g3:len<n):
 Ct Tryd.prog 77 [.w (.agg (Ak ⟨h0,h1,h2,h3,h4,h5,h6,h7⟩ held n len))] (fun v m=>v=.w (.one (.pl (.i (Uj held n len))))):=by
 have F0:=And.intro hh<|And.intro g1<|And.intro g2<|g3
 refine Ct.k Tryd.func77 rfl Tryd.ntmps77 (congrArg Array.toList Tryd.results77) (by simp) fun w0 ro=>?_
 refine Dj fun zZ zhZ=>?_
 iterate 11 first
  |(refine Cx fun zK zhK=>?_;simp only [go_sem,Ak,H8.ls,F0];(repeat' (first|apply And.intro|intro _)))
  |refine zhK _ ?_
  |refine Dx ?_
  |(refine zhM _ _ ?_;clear zhN zhM)
  |(refine zhZ _ _ ?_;simp only [go_sem,Ak,H8.ls,F0];(all_goals (rw [c0z (fun h=>absurd h.le (by omega))])))
  |refine Bz fun zN zM zhN zhM=>?_
  |(refine Bv ?_ ?_;focus (first|rfl|(simp [go_sem,Ak,H8.ls,F0];done)))
theorem t1w (h0 h1 h2 h3 h4 h5 h6 h7:UInt32) (held:List UInt8) (hh:held.length=64) (n len:Int) (g1:¬n<0) (g2:¬64<n) (g3:¬len<n) (g4:1073741824<len):
 Ct Tryd.prog 77 [.w (.agg (Ak ⟨h0,h1,h2,h3,h4,h5,h6,h7⟩ held n len))] (fun v m=>v=.w (.one (.pl (.i (Uj held n len))))):=by
 have F0:=And.intro hh<|And.intro g1<|And.intro g2<|And.intro g3<|g4
 refine Ct.k Tryd.func77 rfl Tryd.ntmps77 (congrArg Array.toList Tryd.results77) (by simp) fun w0 ro=>?_
 refine Dj fun zZ zhZ=>?_
 iterate 11 first
  |(refine Cx fun zK zhK=>?_;simp only [go_sem,Ak,H8.ls,F0];(repeat' (first|apply And.intro|intro _)))
  |refine zhK _ ?_
  |refine Dx ?_
  |(refine zhM _ _ ?_;clear zhN zhM)
  |(refine zhZ _ _ ?_;simp only [go_sem,Ak,H8.ls,F0];(all_goals (rw [c0z (fun h=>absurd h.mx (by omega))])))
  |refine Bz fun zN zM zhN zhM=>?_
  |(refine Bv ?_ ?_;focus (first|rfl|(simp [go_sem,Ak,H8.ls,F0];done)))
theorem t1v (h0 h1 h2 h3 h4 h5 h6 h7:UInt32) (held:List UInt8) (hh:held.length=64) (k l:Nat) (e1:k≤64) (e2:k≤l) (e3:l≤1073741824) (e4:¬(l-k)%64=0):
 Ct Tryd.prog 77 [.w (.agg (Ak ⟨h0,h1,h2,h3,h4,h5,h6,h7⟩ held (k:Int) (l:Int)))] (fun v m=>v=.w (.one (.pl (.i (Uj held (k:Int) (l:Int)))))):=by
 have g1:¬((k:Nat):Int)<0:=by omega
 have g2:¬(64:Int)<((k:Nat):Int):=by omega
 have g3:¬((l:Nat):Int)<((k:Nat):Int):=by omega
 have g4:¬(1073741824:Int)<((l:Nat):Int):=by omega
 have gs:Go.RowKit.wrap64 (((l:Nat):Int)-((k:Nat):Int))=((l-k:Nat):Int):=Ny (by omega) (by omega)
 have gm:(((l-k:Nat):Int)).tmod 64=(((l-k)%64:Nat):Int):=rfl
 have h9:(0:Int)≤((k:Nat):Int):=by omega
 have h10:((k:Nat):Int)≤64:=by omega
 have g5:¬(((l-k)%64:Nat):Int)=0:=by omega
 have F0:=And.intro hh<|And.intro g1<|And.intro g2<|And.intro g3<|And.intro g4<|And.intro gs<|And.intro gm<|And.intro h9<|And.intro h10<|g5
 refine Ct.k Tryd.func77 rfl Tryd.ntmps77 (congrArg Array.toList Tryd.results77) (by simp) fun w0 ro=>?_
 refine Dj fun zZ zhZ=>?_
 iterate 11 first
  |(refine Cx fun zK zhK=>?_;simp only [go_sem,Ak,H8.ls,F0];(repeat' (first|apply And.intro|intro _)))
  |refine zhK _ ?_
  |refine Dx ?_
  |(refine zhM _ _ ?_;clear zhN zhM)
  |(refine zhZ _ _ ?_;simp only [go_sem,Ak,H8.ls,F0];(all_goals (rw [c0z (fun h=>absurd h.md (by omega))])))
  |refine Bz fun zN zM zhN zhM=>?_
  |(refine Bv ?_ ?_;focus (first|rfl|(simp [go_sem,Ak,H8.ls,F0];done)))
theorem t1u (h0 h1 h2 h3 h4 h5 h6 h7:UInt32) (held:List UInt8) (hh:held.length=64) (k l:Nat) (e1:k≤64) (e2:k≤l) (e3:l≤1073741824) (e4:(l-k)%64=0) (e5:k=0) (e6:0<l):
 Ct Tryd.prog 77 [.w (.agg (Ak ⟨h0,h1,h2,h3,h4,h5,h6,h7⟩ held (k:Int) (l:Int)))] (fun v m=>v=.w (.one (.pl (.i (Uj held (k:Int) (l:Int)))))):=by
 have g1:¬((k:Nat):Int)<0:=by omega
 have g2:¬(64:Int)<((k:Nat):Int):=by omega
 have g3:¬((l:Nat):Int)<((k:Nat):Int):=by omega
 have g4:¬(1073741824:Int)<((l:Nat):Int):=by omega
 have gs:Go.RowKit.wrap64 (((l:Nat):Int)-((k:Nat):Int))=((l-k:Nat):Int):=Ny (by omega) (by omega)
 have gm:(((l-k:Nat):Int)).tmod 64=(((l-k)%64:Nat):Int):=rfl
 have h9:(0:Int)≤((k:Nat):Int):=by omega
 have h10:((k:Nat):Int)≤64:=by omega
 have g5:(((l-k)%64:Nat):Int)=0:=by omega
 have g6:((k:Nat):Int)=0:=by omega
 have g7:(0:Int)<((l:Nat):Int):=by omega
 have g8:=eq_true g6
 have F0:=And.intro hh<|And.intro g1<|And.intro g2<|And.intro g3<|And.intro g4<|And.intro gs<|And.intro gm<|And.intro h9<|And.intro h10<|And.intro g5<|And.intro g8<|g7
 refine Ct.k Tryd.func77 rfl Tryd.ntmps77 (congrArg Array.toList Tryd.results77) (by simp) fun w0 ro=>?_
 refine Dj fun zZ zhZ=>?_
 iterate 11 first
  |(refine Cx fun zK zhK=>?_;simp only [go_sem,Ak,H8.ls,F0];(repeat' (first|apply And.intro|intro _)))
  |refine zhK _ ?_
  |refine Dx ?_
  |(refine zhM _ _ ?_;clear zhN zhM)
  |(refine zhZ _ _ ?_;simp only [go_sem,Ak,H8.ls,F0];(all_goals (rw [c0z (fun h=>absurd (h.nz g6) (by omega))])))
  |refine Bz fun zN zM zhN zhM=>?_
  |(refine Bv ?_ ?_;focus (first|rfl|(simp [go_sem,Ak,H8.ls,F0];done)))
theorem m1t (h0 h1 h2 h3 h4 h5 h6 h7:UInt32) (held:List UInt8) (hh:held.length=64) (k l:Nat) (e1:k≤64) (e2:k≤l) (e3:l≤1073741824) (e4:(l-k)%64=0) (e5:¬k=0):
 Ct Tryd.prog 77 [.w (.agg (Ak ⟨h0,h1,h2,h3,h4,h5,h6,h7⟩ held (k:Int) (l:Int)))] (fun v m=>v=.w (.one (.pl (.i (Uj held (k:Int) (l:Int)))))):=by
 have g1:¬((k:Nat):Int)<0:=by omega
 have g2:¬(64:Int)<((k:Nat):Int):=by omega
 have g3:¬((l:Nat):Int)<((k:Nat):Int):=by omega
 have g4:¬(1073741824:Int)<((l:Nat):Int):=by omega
 have gs:Go.RowKit.wrap64 (((l:Nat):Int)-((k:Nat):Int))=((l-k:Nat):Int):=Ny (by omega) (by omega)
 have gm:(((l-k:Nat):Int)).tmod 64=(((l-k)%64:Nat):Int):=rfl
 have h9:(0:Int)≤((k:Nat):Int):=by omega
 have h10:((k:Nat):Int)≤64:=by omega
 have g5:(((l-k)%64:Nat):Int)=0:=by omega
 have g6:¬((k:Nat):Int)=0:=by omega
 have F0:=And.intro hh<|And.intro g1<|And.intro g2<|And.intro g3<|And.intro g4<|And.intro gs<|And.intro gm<|And.intro h9<|And.intro h10<|And.intro g5<|g6
 refine Ct.k Tryd.func77 rfl Tryd.ntmps77 (congrArg Array.toList Tryd.results77) (by simp) fun w0 ro=>?_
 refine Dj fun zZ zhZ=>?_
 iterate 12 first
  |(refine Cx fun zK zhK=>?_;simp only [go_sem,Ak,H8.ls,F0];(repeat' (first|apply And.intro|intro _)))
  |refine zhK _ ?_
  |refine Cw ?_
  |(refine zhN _ ?_;clear zhN zhM)
  |refine Aj fun zB zbn zbx zbr zbi=>?_
  |refine Bz fun zN zM zhN zhM=>?_
  |(refine Cy ?_ ?_;focus (first|rfl|(simp [go_sem,Ak,H8.ls,F0];done)))
 refine Gv [0,1,5,6,7,8,9,10,11,12,13,14,15,16,17,18,19,20,21,22,23,24,25,26,27,28,29,30,31,32,33,34,35,36,37,38,39,40,41,42,43,44,45,46] ?_
 simp only [Gj,Iq,Gq,List.contains_cons,List.contains_nil,Nat.reduceBEq,beq_self_eq_true,Bool.or_false,Bool.or_true,Bool.true_or,Bool.false_or,Bool.false_eq_true,reduceIte]
 refine Jz (fun y=>[(49,.w (.one (.pl (.i ((y.1:Nat):Int)))))]) (fun _=>[]) (fun y=>64-y.1) (⟨0,Nat.zero_le _,fun j hj=>absurd hj (Nat.not_lt_zero j)⟩:{y:Nat//y≤64-k∧∀ j,j<y→held.getD (k+j) 0=0}) ?_ ?_ ?_
 · (simp only [go_sem,leX,List.cons_append,List.nil_append];try simp)
 · (simp only [go_sem,leX,List.cons_append,List.nil_append];try simp)
 intro yy zN zM zhN zhM
 simp only [List.cons_append,List.nil_append]
 obtain ⟨i,hi,hz⟩:=yy
 have hd:(i<64-k∧¬held.getD (k+i) 0=0)∨(i<64-k∧held.getD (k+i) 0=0)∨i=64-k:=by
  by_cases h:i=64-k
  · exact .inr (.inr h)
  · have:i<64-k:=by omega
    by_cases h2:held.getD (k+i) 0=0
    · exact .inr (.inl ⟨this,h2⟩)
    · exact .inl ⟨this,h2⟩
 rcases hd with ⟨hlt,hb⟩|⟨hlt,hb⟩|rfl
 · have hcq:((i:Nat):Int)<((64-k:Nat):Int):=by omega
   have hc0:(0:Int)≤((i:Nat):Int):=by omega
   have hk1:k+i<held.length:=by omega
   have hk2:k+(64-k)≤64:=by omega
   have hk3:i+1≤64-k:=by omega
   have hk4:=y0n (m:=64-k) hk1 (by omega)
   have hbq:(held.getD (k+i) 0=0)=False:=eq_false hb
   have F7:=And.intro hcq<|And.intro hc0<|And.intro hk2<|And.intro hk3<|And.intro hk4<|hbq
   iterate 22 first
    |(refine Cx fun zK zhK=>?_;simp only [go_sem,Ak,H8.ls,F0,Ay,F7];(repeat' (first|apply And.intro|intro _)))
    |refine zhK _ ?_
    |(refine zhM _ _ ?_;clear zhN zhM)
    |(refine zbr _ ?_;clear zbn zbx zbr zbi)
    |refine Cw ?_
    |(refine zhN _ ?_;clear zhN zhM)
    |refine Aj fun zB zbn zbx zbr zbi=>?_
    |refine Dx ?_
    |(refine zhZ _ _ ?_;simp only [go_sem,Ak,H8.ls,F0,Ay,F7];(all_goals (rw [c0z (fun h=>hb (h.rest (k+i) (by simp) (by omega)))])))
    |refine Bz fun zN zM zhN zhM=>?_
    |(refine Bv ?_ ?_;focus (first|rfl|(simp [go_sem,Ak,H8.ls,F0,Ay,F7];done)))
 · have hcq:((i:Nat):Int)<((64-k:Nat):Int):=by omega
   have hc0:(0:Int)≤((i:Nat):Int):=by omega
   have hk1:k+i<held.length:=by omega
   have hk2:k+(64-k)≤64:=by omega
   have hk3:i+1≤64-k:=by omega
   have hk4:=y0n (m:=64-k) hk1 (by omega)
   have hbq:(held.getD (k+i) 0=0)=True:=eq_true hb
   have hs1:Go.RowKit.wrap64 (((i:Nat):Int)+1)=((i+1:Nat):Int):=Ny (by omega) (by omega)
   have F14:=And.intro hcq<|And.intro hc0<|And.intro hk2<|And.intro hk3<|And.intro hk4<|And.intro hbq<|hs1
   iterate 18 first
    |refine zhK _ ?_
    |(refine Cx fun zK zhK=>?_;simp only [go_sem,Ak,H8.ls,F0,Ay,F14];(repeat' (first|apply And.intro|intro _)))
    |refine Cw ?_
    |(refine zhN _ ?_;clear zhN zhM)
    |refine Aj fun zB zbn zbx zbr zbi=>?_
    |(refine zbn _ ?_;clear zbn zbx zbr zbi)
    |(refine Av fun zK zhK=>?_;simp only [go_sem,Ak,H8.ls,F0,Ay,F14];(repeat' (first|apply And.intro|intro _)))
    |refine Bz fun zN zM zhN zhM=>?_
    |(refine Bv ?_ ?_;focus (first|rfl|(simp [go_sem,Ak,H8.ls,F0,Ay,F14];done)))
    |(refine Cy ?_ ?_;focus (first|rfl|(simp [go_sem,Ak,H8.ls,F0,Ay,F14];done)))
   refine zhN ⟨i+1,by omega,fun j hj=>by rcases Nat.lt_succ_iff_lt_or_eq.mp hj with h|rfl;exact hz j h;exact hb⟩ _ ?_ ?_ ?_
   · (show 64-(i+1)<64-i;clear hs1;omega)
   · (simp only [go_sem,leX,List.cons_append,List.nil_append];try simp)
   · (simp only [go_sem,leX,List.cons_append,List.nil_append];try simp)
 · have hcq:¬((64-k:Nat):Int)<((64-k:Nat):Int):=by omega
   refine Cx fun zK zhK=>?_
   simp only [go_sem,Ak,H8.ls,F0,hcq]
   repeat' (first|apply And.intro|intro _)
   refine zhK _ ?_
   refine Bz fun zN zM zhN zhM=>?_
   (refine Cy ?_ ?_;focus (first|rfl|(simp [go_sem,Ak,H8.ls,F0,hcq];done)))
   refine Ey ?_
   refine zhM _ _ ?_;clear zhN zhM
   refine zhM _ _ ?_;clear zhN zhM
   refine zbx _ ?_;clear zbn zbx zbr zbi
   refine zhN _ ?_;clear zhN zhM
   refine Cx fun zK zhK=>?_
   simp only [go_sem,Ak,H8.ls,F0,hcq]
   repeat' (first|apply And.intro|intro _)
   refine zhK _ ?_
   refine Dx ?_
   refine zhZ _ _ ?_
   simp only [go_sem,Ak,H8.ls,F0,hcq]
   all_goals (rw [c0y ⟨by omega,by omega,by omega,by omega,by omega,by omega,fun j hj hl=>by have:=hz (j-k) (by simp at hj;omega);rwa [show k+(j-k)=j from by simp at hj;omega] at this⟩])
theorem m1s (h0 h1 h2 h3 h4 h5 h6 h7:UInt32) (held:List UInt8) (hh:held.length=64) (k l:Nat) (e1:k≤64) (e2:k≤l) (e3:l≤1073741824) (e4:(l-k)%64=0) (e5:k=0) (e6:l=0):
 Ct Tryd.prog 77 [.w (.agg (Ak ⟨h0,h1,h2,h3,h4,h5,h6,h7⟩ held (k:Int) (l:Int)))] (fun v m=>v=.w (.one (.pl (.i (Uj held (k:Int) (l:Int)))))):=by
 have g1:¬((k:Nat):Int)<0:=by omega
 have g2:¬(64:Int)<((k:Nat):Int):=by omega
 have g3:¬((l:Nat):Int)<((k:Nat):Int):=by omega
 have g4:¬(1073741824:Int)<((l:Nat):Int):=by omega
 have gs:Go.RowKit.wrap64 (((l:Nat):Int)-((k:Nat):Int))=((l-k:Nat):Int):=Ny (by omega) (by omega)
 have gm:(((l-k:Nat):Int)).tmod 64=(((l-k)%64:Nat):Int):=rfl
 have h9:(0:Int)≤((k:Nat):Int):=by omega
 have h10:((k:Nat):Int)≤64:=by omega
 have g5:(((l-k)%64:Nat):Int)=0:=by omega
 have g6:((k:Nat):Int)=0:=by omega
 have g7:¬(0:Int)<((l:Nat):Int):=by omega
 have g8:=eq_true g6
 have F0:=And.intro hh<|And.intro g1<|And.intro g2<|And.intro g3<|And.intro g4<|And.intro gs<|And.intro gm<|And.intro h9<|And.intro h10<|And.intro g5<|And.intro g8<|g7
 refine Ct.k Tryd.func77 rfl Tryd.ntmps77 (congrArg Array.toList Tryd.results77) (by simp) fun w0 ro=>?_
 refine Dj fun zZ zhZ=>?_
 iterate 12 first
  |(refine Cx fun zK zhK=>?_;simp only [go_sem,Ak,H8.ls,F0];(repeat' (first|apply And.intro|intro _)))
  |refine zhK _ ?_
  |refine Cw ?_
  |(refine zhN _ ?_;clear zhN zhM)
  |refine Aj fun zB zbn zbx zbr zbi=>?_
  |refine Bz fun zN zM zhN zhM=>?_
  |(refine Cy ?_ ?_;focus (first|rfl|(simp [go_sem,Ak,H8.ls,F0];done)))
 refine Gv [0,1,5,6,7,8,9,10,11,12,13,14,15,16,17,18,19,20,21,22,23,24,25,26,27,28,29,30,31,32,33,34,35,36,37,38,39,40,41,42,43,44,45,46] ?_
 simp only [Gj,Iq,Gq,List.contains_cons,List.contains_nil,Nat.reduceBEq,beq_self_eq_true,Bool.or_false,Bool.or_true,Bool.true_or,Bool.false_or,Bool.false_eq_true,reduceIte]
 refine Jz (fun y=>[(49,.w (.one (.pl (.i ((y.1:Nat):Int)))))]) (fun _=>[]) (fun y=>64-y.1) (⟨0,Nat.zero_le _,fun j hj=>absurd hj (Nat.not_lt_zero j)⟩:{y:Nat//y≤64-k∧∀ j,j<y→held.getD (k+j) 0=0}) ?_ ?_ ?_
 · (simp only [go_sem,leX,List.cons_append,List.nil_append];try simp)
 · (simp only [go_sem,leX,List.cons_append,List.nil_append];try simp)
 intro yy zN zM zhN zhM
 simp only [List.cons_append,List.nil_append]
 obtain ⟨i,hi,hz⟩:=yy
 have hd:(i<64-k∧¬held.getD (k+i) 0=0)∨(i<64-k∧held.getD (k+i) 0=0)∨i=64-k:=by
  by_cases h:i=64-k
  · exact .inr (.inr h)
  · have:i<64-k:=by omega
    by_cases h2:held.getD (k+i) 0=0
    · exact .inr (.inl ⟨this,h2⟩)
    · exact .inl ⟨this,h2⟩
 rcases hd with ⟨hlt,hb⟩|⟨hlt,hb⟩|rfl
 · have hcq:((i:Nat):Int)<((64-k:Nat):Int):=by omega
   have hc0:(0:Int)≤((i:Nat):Int):=by omega
   have hk1:k+i<held.length:=by omega
   have hk2:k+(64-k)≤64:=by omega
   have hk3:i+1≤64-k:=by omega
   have hk4:=y0n (m:=64-k) hk1 (by omega)
   have hbq:(held.getD (k+i) 0=0)=False:=eq_false hb
   have F7:=And.intro hcq<|And.intro hc0<|And.intro hk2<|And.intro hk3<|And.intro hk4<|hbq
   iterate 22 first
    |(refine Cx fun zK zhK=>?_;simp only [go_sem,Ak,H8.ls,F0,Ay,F7];(repeat' (first|apply And.intro|intro _)))
    |refine zhK _ ?_
    |(refine zhM _ _ ?_;clear zhN zhM)
    |(refine zbr _ ?_;clear zbn zbx zbr zbi)
    |refine Cw ?_
    |(refine zhN _ ?_;clear zhN zhM)
    |refine Aj fun zB zbn zbx zbr zbi=>?_
    |refine Dx ?_
    |(refine zhZ _ _ ?_;simp only [go_sem,Ak,H8.ls,F0,Ay,F7];(all_goals (rw [c0z (fun h=>hb (h.rest (k+i) (by simp) (by omega)))])))
    |refine Bz fun zN zM zhN zhM=>?_
    |(refine Bv ?_ ?_;focus (first|rfl|(simp [go_sem,Ak,H8.ls,F0,Ay,F7];done)))
 · have hcq:((i:Nat):Int)<((64-k:Nat):Int):=by omega
   have hc0:(0:Int)≤((i:Nat):Int):=by omega
   have hk1:k+i<held.length:=by omega
   have hk2:k+(64-k)≤64:=by omega
   have hk3:i+1≤64-k:=by omega
   have hk4:=y0n (m:=64-k) hk1 (by omega)
   have hbq:(held.getD (k+i) 0=0)=True:=eq_true hb
   have hs1:Go.RowKit.wrap64 (((i:Nat):Int)+1)=((i+1:Nat):Int):=Ny (by omega) (by omega)
   have F14:=And.intro hcq<|And.intro hc0<|And.intro hk2<|And.intro hk3<|And.intro hk4<|And.intro hbq<|hs1
   iterate 18 first
    |refine zhK _ ?_
    |(refine Cx fun zK zhK=>?_;simp only [go_sem,Ak,H8.ls,F0,Ay,F14];(repeat' (first|apply And.intro|intro _)))
    |refine Cw ?_
    |(refine zhN _ ?_;clear zhN zhM)
    |refine Aj fun zB zbn zbx zbr zbi=>?_
    |(refine zbn _ ?_;clear zbn zbx zbr zbi)
    |(refine Av fun zK zhK=>?_;simp only [go_sem,Ak,H8.ls,F0,Ay,F14];(repeat' (first|apply And.intro|intro _)))
    |refine Bz fun zN zM zhN zhM=>?_
    |(refine Bv ?_ ?_;focus (first|rfl|(simp [go_sem,Ak,H8.ls,F0,Ay,F14];done)))
    |(refine Cy ?_ ?_;focus (first|rfl|(simp [go_sem,Ak,H8.ls,F0,Ay,F14];done)))
   refine zhN ⟨i+1,by omega,fun j hj=>by rcases Nat.lt_succ_iff_lt_or_eq.mp hj with h|rfl;exact hz j h;exact hb⟩ _ ?_ ?_ ?_
   · (show 64-(i+1)<64-i;clear hs1;omega)
   · (simp only [go_sem,leX,List.cons_append,List.nil_append];try simp)
   · (simp only [go_sem,leX,List.cons_append,List.nil_append];try simp)
 · have hcq:¬((64-k:Nat):Int)<((64-k:Nat):Int):=by omega
   refine Cx fun zK zhK=>?_
   simp only [go_sem,Ak,H8.ls,F0,hcq]
   repeat' (first|apply And.intro|intro _)
   refine zhK _ ?_
   refine Bz fun zN zM zhN zhM=>?_
   (refine Cy ?_ ?_;focus (first|rfl|(simp [go_sem,Ak,H8.ls,F0,hcq];done)))
   refine Ey ?_
   refine zhM _ _ ?_;clear zhN zhM
   refine zhM _ _ ?_;clear zhN zhM
   refine zbx _ ?_;clear zbn zbx zbr zbi
   refine zhN _ ?_;clear zhN zhM
   refine Cx fun zK zhK=>?_
   simp only [go_sem,Ak,H8.ls,F0,hcq]
   repeat' (first|apply And.intro|intro _)
   refine zhK _ ?_
   refine Dx ?_
   refine zhZ _ _ ?_
   simp only [go_sem,Ak,H8.ls,F0,hcq]
   all_goals (rw [c0y ⟨by omega,by omega,by omega,by omega,by omega,by omega,fun j hj hl=>by have:=hz (j-k) (by simp at hj;omega);rwa [show k+(j-k)=j from by simp at hj;omega] at this⟩])
theorem i0c (h0 h1 h2 h3 h4 h5 h6 h7:UInt32) (held:List UInt8) (hh:held.length=64) (n len:Int):Ct Tryd.prog 77 [.w (.agg (Ak ⟨h0,h1,h2,h3,h4,h5,h6,h7⟩ held n len))] (fun v m=>v=.w (.one (.pl (.i (Uj held n len))))):=by
 by_cases g1:n<0
 · exact t1z h0 h1 h2 h3 h4 h5 h6 h7 held hh n len g1
 by_cases g2:64<n
 · exact t1y h0 h1 h2 h3 h4 h5 h6 h7 held hh n len g1 g2
 by_cases g3:len<n
 · exact t1x h0 h1 h2 h3 h4 h5 h6 h7 held hh n len g1 g2 g3
 by_cases g4:1073741824<len
 · exact t1w h0 h1 h2 h3 h4 h5 h6 h7 held hh n len g1 g2 g3 g4
 obtain ⟨k,rfl⟩: ∃ k:Nat,n=(k:Int):=⟨n.toNat,by omega⟩
 obtain ⟨l,rfl⟩: ∃ l:Nat,len=(l:Int):=⟨len.toNat,by omega⟩
 have e1:k≤64:=by omega
 have e2:k≤l:=by omega
 have e3:l≤1073741824:=by omega
 by_cases e4:(l-k)%64=0
 · by_cases e5:k=0
   · by_cases e6:0<l
     · exact t1u h0 h1 h2 h3 h4 h5 h6 h7 held hh k l e1 e2 e3 e4 e5 e6
     · exact m1s h0 h1 h2 h3 h4 h5 h6 h7 held hh k l e1 e2 e3 e4 e5 (by omega)
   · exact m1t h0 h1 h2 h3 h4 h5 h6 h7 held hh k l e1 e2 e3 e4 e5
 · exact t1v h0 h1 h2 h3 h4 h5 h6 h7 held hh k l e1 e2 e3 e4
end Bk
end Go.Sy
namespace Go.Sy
namespace Bk
open Go.Proofs
attribute [local irreducible] Dv HT Cz Px onC onE onO onG goV goA goS Qx Dw
theorem u1d (h0 h1 h2 h3 h4 h5 h6 h7:UInt32) (held:List UInt8) (hh:held.length=64) (n len:Int) (g1:n<0):
 Ct Tryd.prog 74 [.w (.agg (Ak ⟨h0,h1,h2,h3,h4,h5,h6,h7⟩ held n len))] (fun v m=>v=.w (.one (.pl (.b (Rk held n len))))):=by
 refine Ct.k Tryd.func74 rfl Tryd.ntmps74 (congrArg Array.toList Tryd.results74) (by simp) fun w0 ro=>?_
 refine Dj fun zZ zhZ=>?_
 iterate 11 first
  |(refine Cx fun zK zhK=>?_;simp only [go_sem,Ak,H8.ls,hh,g1];(repeat' (first|apply And.intro|intro _)))
  |refine zhK _ ?_
  |refine Dx ?_
  |(refine zhM _ _ ?_;clear zhN zhM)
  |(refine zhZ _ _ ?_;simp only [go_sem,Ak,H8.ls,hh,g1];(all_goals (rw [a0h (fun h=>absurd h.lo (by omega))])))
  |refine Bz fun zN zM zhN zhM=>?_
  |(refine Bv ?_ ?_;focus (first|rfl|(simp [go_sem,Ak,H8.ls,hh,g1];done)))
theorem u1c (h0 h1 h2 h3 h4 h5 h6 h7:UInt32) (held:List UInt8) (hh:held.length=64) (n len:Int) (g1:¬n<0) (g2:64<n):
 Ct Tryd.prog 74 [.w (.agg (Ak ⟨h0,h1,h2,h3,h4,h5,h6,h7⟩ held n len))] (fun v m=>v=.w (.one (.pl (.b (Rk held n len))))):=by
 have F0:=And.intro hh<|And.intro g1<|g2
 refine Ct.k Tryd.func74 rfl Tryd.ntmps74 (congrArg Array.toList Tryd.results74) (by simp) fun w0 ro=>?_
 refine Dj fun zZ zhZ=>?_
 iterate 11 first
  |(refine Cx fun zK zhK=>?_;simp only [go_sem,Ak,H8.ls,F0];(repeat' (first|apply And.intro|intro _)))
  |refine zhK _ ?_
  |refine Dx ?_
  |(refine zhM _ _ ?_;clear zhN zhM)
  |(refine zhZ _ _ ?_;simp only [go_sem,Ak,H8.ls,F0];(all_goals (rw [a0h (fun h=>absurd h.hi (by omega))])))
  |refine Bz fun zN zM zhN zhM=>?_
  |(refine Bv ?_ ?_;focus (first|rfl|(simp [go_sem,Ak,H8.ls,F0];done)))
theorem u1b (h0 h1 h2 h3 h4 h5 h6 h7:UInt32) (held:List UInt8) (hh:held.length=64) (n len:Int) (g1:¬n<0) (g2:¬64<n) (g3:len<0):
 Ct Tryd.prog 74 [.w (.agg (Ak ⟨h0,h1,h2,h3,h4,h5,h6,h7⟩ held n len))] (fun v m=>v=.w (.one (.pl (.b (Rk held n len))))):=by
 have F0:=And.intro hh<|And.intro g1<|And.intro g2<|g3
 refine Ct.k Tryd.func74 rfl Tryd.ntmps74 (congrArg Array.toList Tryd.results74) (by simp) fun w0 ro=>?_
 refine Dj fun zZ zhZ=>?_
 iterate 11 first
  |(refine Cx fun zK zhK=>?_;simp only [go_sem,Ak,H8.ls,F0];(repeat' (first|apply And.intro|intro _)))
  |refine zhK _ ?_
  |refine Dx ?_
  |(refine zhM _ _ ?_;clear zhN zhM)
  |(refine zhZ _ _ ?_;simp only [go_sem,Ak,H8.ls,F0];(all_goals (rw [a0h (fun h=>absurd h.le (by omega))])))
  |refine Bz fun zN zM zhN zhM=>?_
  |(refine Bv ?_ ?_;focus (first|rfl|(simp [go_sem,Ak,H8.ls,F0];done)))
theorem u1a (h0 h1 h2 h3 h4 h5 h6 h7:UInt32) (held:List UInt8) (hh:held.length=64) (n len:Int) (g1:¬n<0) (g2:¬64<n) (g3:¬len<0) (g4:1073741824<len):
 Ct Tryd.prog 74 [.w (.agg (Ak ⟨h0,h1,h2,h3,h4,h5,h6,h7⟩ held n len))] (fun v m=>v=.w (.one (.pl (.b (Rk held n len))))):=by
 have F0:=And.intro hh<|And.intro g1<|And.intro g2<|And.intro g3<|g4
 refine Ct.k Tryd.func74 rfl Tryd.ntmps74 (congrArg Array.toList Tryd.results74) (by simp) fun w0 ro=>?_
 refine Dj fun zZ zhZ=>?_
 iterate 11 first
  |(refine Cx fun zK zhK=>?_;simp only [go_sem,Ak,H8.ls,F0];(repeat' (first|apply And.intro|intro _)))
  |refine zhK _ ?_
  |refine Dx ?_
  |(refine zhM _ _ ?_;clear zhN zhM)
  |(refine zhZ _ _ ?_;simp only [go_sem,Ak,H8.ls,F0];(all_goals (rw [a0h (fun h=>absurd h.mx (by omega))])))
  |refine Bz fun zN zM zhN zhM=>?_
  |(refine Bv ?_ ?_;focus (first|rfl|(simp [go_sem,Ak,H8.ls,F0];done)))
theorem a2l (h0 h1 h2 h3 h4 h5 h6 h7:UInt32) (held:List UInt8) (hh:held.length=64) (k l:Nat) (e1:k≤64) (e3:l≤1073741824) (e4:l%64=0) (e5:0<l):
 Ct Tryd.prog 74 [.w (.agg (Ak ⟨h0,h1,h2,h3,h4,h5,h6,h7⟩ held (k:Int) (l:Int)))] (fun v m=>v=.w (.one (.pl (.b (Rk held (k:Int) (l:Int)))))):=by
 have g1:¬((k:Nat):Int)<0:=by omega
 have g2:¬(64:Int)<((k:Nat):Int):=by omega
 have g3:¬((l:Nat):Int)<0:=by omega
 have g4:¬(1073741824:Int)<((l:Nat):Int):=by omega
 have gm:(((l:Nat):Int)).tmod 64=((l%64:Nat):Int):=rfl
 have g5:((l%64:Nat):Int)=0:=by omega
 have g6:(0:Int)<((l:Nat):Int):=by omega
 have F0:=And.intro hh<|And.intro g1<|And.intro g2<|And.intro g3<|And.intro g4<|And.intro gm<|And.intro g5<|g6
 refine Ct.k Tryd.func74 rfl Tryd.ntmps74 (congrArg Array.toList Tryd.results74) (by simp) fun w0 ro=>?_
 refine Dj fun zZ zhZ=>?_
 iterate 21 first
  |refine zhK _ ?_
  |(refine Cx fun zK zhK=>?_;simp only [go_sem,Ak,H8.ls,F0];(repeat' (first|apply And.intro|intro _)))
  |(refine zhN _ ?_;clear zhN zhM)
  |refine Cw ?_
  |(refine Av fun zK zhK=>?_;simp only [go_sem,Ak,H8.ls,F0];(repeat' (first|apply And.intro|intro _)))
  |refine Aj fun zB zbn zbx zbr zbi=>?_
  |refine Bz fun zN zM zhN zhM=>?_
  |(refine Cy ?_ ?_;focus (first|rfl|(simp [go_sem,Ak,H8.ls,F0];done)))
  |(refine Bv ?_ ?_;focus (first|rfl|(simp [go_sem,Ak,H8.ls,F0];done)))
 refine Gv [0,6,7,8,9,10,11,12,13,14,15,16,17,18,19,20,21,22,23,24,25,26,27,28,29,30,31,32,33,34] ?_
 simp only [Gj,Iq,Gq,List.contains_cons,List.contains_nil,Nat.reduceBEq,beq_self_eq_true,Bool.or_false,Bool.or_true,Bool.true_or,Bool.false_or,Bool.false_eq_true,reduceIte]
 refine Jz (fun y=>[(36,.w (.one (.pl (.i ((y.1:Nat):Int)))))]) (fun _=>[]) (fun y=>64-y.1) (⟨0,Nat.zero_le _,fun j hj=>absurd hj (Nat.not_lt_zero j)⟩:{y:Nat//y≤64∧∀ j,j<y→k≤j→held.getD j 0=0}) ?_ ?_ ?_
 · (simp only [go_sem,leX,List.cons_append,List.nil_append];try simp)
 · (simp only [go_sem,leX,List.cons_append,List.nil_append];try simp)
 intro yy zN zM zhN zhM
 simp only [List.cons_append,List.nil_append]
 obtain ⟨i,hi,hz⟩:=yy
 have hd:(i<64∧i<k)∨(i<64∧¬i<k∧held.getD i 0=0)∨(i<64∧¬i<k∧¬held.getD i 0=0)∨i=64:=by
  generalize held.getD i 0=z
  by_cases g1:i=64
  · simp [g1]
  · have g2:i<64:=by omega
    by_cases g3:i<k
    · exact .inl ⟨g2,g3⟩
    · by_cases g4:z=0
      · exact .inr (.inl ⟨g2,g3,g4⟩)
      · exact .inr (.inr (.inl ⟨g2,g3,g4⟩))
 rcases hd with ⟨hlt,hin⟩|⟨hlt,hin,hb⟩|⟨hlt,hin,hb⟩|rfl
 · have hcq:((i:Nat):Int)<64:=by omega
   have hc0:(0:Int)≤((i:Nat):Int):=by omega
   have hs1:Go.RowKit.wrap64 (((i:Nat):Int)+1)=((i+1:Nat):Int):=Ny (by omega) (by omega)
   have hk1:=Mj (q:=held) (i:=i) (by omega)
   have hk2:i+1≤64:=by omega
   have hni:¬((k:Nat):Int)≤((i:Nat):Int):=by omega
   have F11:=And.intro hcq<|And.intro hc0<|And.intro hs1<|And.intro hk1<|And.intro hk2<|hni
   iterate 18 first
    |refine zhK _ ?_
    |(refine Cx fun zK zhK=>?_;simp only [go_sem,Ak,H8.ls,F0,Ay,F11];(repeat' (first|apply And.intro|intro _)))
    |refine Cw ?_
    |(refine zhN _ ?_;clear zhN zhM)
    |refine Aj fun zB zbn zbx zbr zbi=>?_
    |(refine zbn _ ?_;clear zbn zbx zbr zbi)
    |(refine Av fun zK zhK=>?_;simp only [go_sem,Ak,H8.ls,F0,Ay,F11];(repeat' (first|apply And.intro|intro _)))
    |refine Bz fun zN zM zhN zhM=>?_
    |(refine Bv ?_ ?_;focus (first|rfl|(simp [go_sem,Ak,H8.ls,F0,Ay,F11];done)))
    |(refine Cy ?_ ?_;focus (first|rfl|(simp [go_sem,Ak,H8.ls,F0,Ay,F11];done)))
   refine zhN ⟨i+1,by omega,fun j hj hk=>by rcases Nat.lt_succ_iff_lt_or_eq.mp hj with h|rfl;exact hz j h hk;omega⟩ _ ?_ ?_ ?_
   · (show 64-(i+1)<64-i;clear hs1;omega)
   · (simp only [go_sem,leX,List.cons_append,List.nil_append];try simp)
   · (simp only [go_sem,leX,List.cons_append,List.nil_append];try simp)
 · have hcq:((i:Nat):Int)<64:=by omega
   have hc0:(0:Int)≤((i:Nat):Int):=by omega
   have hs1:Go.RowKit.wrap64 (((i:Nat):Int)+1)=((i+1:Nat):Int):=Ny (by omega) (by omega)
   have hk1:=Mj (q:=held) (i:=i) (by omega)
   have hk2:i+1≤64:=by omega
   have hni:((k:Nat):Int)≤((i:Nat):Int):=by omega
   have hbq:=eq_true hb
   have F18:=And.intro hcq<|And.intro hc0<|And.intro hs1<|And.intro hk1<|And.intro hk2<|And.intro hni<|hbq
   iterate 18 first
    |refine zhK _ ?_
    |(refine Cx fun zK zhK=>?_;simp only [go_sem,Ak,H8.ls,F0,Ay,F18];(repeat' (first|apply And.intro|intro _)))
    |refine Cw ?_
    |(refine zhN _ ?_;clear zhN zhM)
    |refine Aj fun zB zbn zbx zbr zbi=>?_
    |(refine zbn _ ?_;clear zbn zbx zbr zbi)
    |(refine Av fun zK zhK=>?_;simp only [go_sem,Ak,H8.ls,F0,Ay,F18];(repeat' (first|apply And.intro|intro _)))
    |refine Bz fun zN zM zhN zhM=>?_
    |(refine Bv ?_ ?_;focus (first|rfl|(simp [go_sem,Ak,H8.ls,F0,Ay,F18];done)))
    |(refine Cy ?_ ?_;focus (first|rfl|(simp [go_sem,Ak,H8.ls,F0,Ay,F18];done)))
   refine zhN ⟨i+1,by omega,fun j hj hk=>by rcases Nat.lt_succ_iff_lt_or_eq.mp hj with h|rfl;exact hz j h hk;exact hb⟩ _ ?_ ?_ ?_
   · (show 64-(i+1)<64-i;clear hs1;omega)
   · (simp only [go_sem,leX,List.cons_append,List.nil_append];try simp)
   · (simp only [go_sem,leX,List.cons_append,List.nil_append];try simp)
 · have hcq:((i:Nat):Int)<64:=by omega
   have hc0:(0:Int)≤((i:Nat):Int):=by omega
   have hs1:Go.RowKit.wrap64 (((i:Nat):Int)+1)=((i+1:Nat):Int):=Ny (by omega) (by omega)
   have hk1:=Mj (q:=held) (i:=i) (by omega)
   have hk2:i+1≤64:=by omega
   have hni:((k:Nat):Int)≤((i:Nat):Int):=by omega
   have hbq:=eq_false hb
   have F25:=And.intro hcq<|And.intro hc0<|And.intro hs1<|And.intro hk1<|And.intro hk2<|And.intro hni<|hbq
   iterate 22 first
    |(refine Cx fun zK zhK=>?_;simp only [go_sem,Ak,H8.ls,F0,Ay,F25];(repeat' (first|apply And.intro|intro _)))
    |refine zhK _ ?_
    |(refine zhM _ _ ?_;clear zhN zhM)
    |(refine zbr _ ?_;clear zbn zbx zbr zbi)
    |refine Cw ?_
    |(refine zhN _ ?_;clear zhN zhM)
    |refine Aj fun zB zbn zbx zbr zbi=>?_
    |refine Dx ?_
    |(refine zhZ _ _ ?_;simp only [go_sem,Ak,H8.ls,F0,Ay,F25];(all_goals (rw [a0h (fun h=>hb (h.rest i (by simp;omega) (by omega)))])))
    |refine Bz fun zN zM zhN zhM=>?_
    |(refine Bv ?_ ?_;focus (first|rfl|(simp [go_sem,Ak,H8.ls,F0,Ay,F25];done)))
 · have hcq:¬((64:Nat):Int)<64:=by omega
   have hbd:Rk held ((k:Nat):Int) ((l:Nat):Int)= !(decide (((k:Nat):Int)=64)):=by
    by_cases e:((k:Nat):Int)=64
    · rw [b0o ⟨by omega,by omega,by omega,by omega,by omega,by omega,fun j hj hl=>hz j hl (by simpa using hj)⟩];rw [decide_eq_true e];rfl
    · rw [a0h (fun h=>e (by have:=h.md;have:=h.le;have:=h.nz;have:=h.lo;omega))];rw [decide_eq_false e];rfl
   iterate 13 first
    |(refine Cx fun zK zhK=>?_;simp only [go_sem,Ak,H8.ls,F0,hcq];(repeat' (first|apply And.intro|intro _)))
    |refine zhK _ ?_
    |(refine zhM _ _ ?_;clear zhN zhM)
    |refine Ey ?_
    |(refine zbx _ ?_;clear zbn zbx zbr zbi)
    |(refine zhN _ ?_;clear zhN zhM)
    |refine Dx ?_
    |(refine zhZ _ _ ?_;simp only [go_sem,Ak,H8.ls,F0,hcq];(all_goals (rw [hbd])))
    |refine Bz fun zN zM zhN zhM=>?_
    |(refine Cy ?_ ?_;focus (first|rfl|(simp [go_sem,Ak,H8.ls,F0,hcq];done)))
theorem a2k (h0 h1 h2 h3 h4 h5 h6 h7:UInt32) (held:List UInt8) (hh:held.length=64) (k l:Nat) (e1:k≤64) (e3:l≤1073741824) (e4:l%64=0) (e5:l=0):
 Ct Tryd.prog 74 [.w (.agg (Ak ⟨h0,h1,h2,h3,h4,h5,h6,h7⟩ held (k:Int) (l:Int)))] (fun v m=>v=.w (.one (.pl (.b (Rk held (k:Int) (l:Int)))))):=by
 have g1:¬((k:Nat):Int)<0:=by omega
 have g2:¬(64:Int)<((k:Nat):Int):=by omega
 have g3:¬((l:Nat):Int)<0:=by omega
 have g4:¬(1073741824:Int)<((l:Nat):Int):=by omega
 have gm:(((l:Nat):Int)).tmod 64=((l%64:Nat):Int):=rfl
 have g5:((l%64:Nat):Int)=0:=by omega
 have g6:¬(0:Int)<((l:Nat):Int):=by omega
 have F0:=And.intro hh<|And.intro g1<|And.intro g2<|And.intro g3<|And.intro g4<|And.intro gm<|And.intro g5<|g6
 refine Ct.k Tryd.func74 rfl Tryd.ntmps74 (congrArg Array.toList Tryd.results74) (by simp) fun w0 ro=>?_
 refine Dj fun zZ zhZ=>?_
 iterate 20 first
  |(refine Cx fun zK zhK=>?_;simp only [go_sem,Ak,H8.ls,F0];(repeat' (first|apply And.intro|intro _)))
  |refine zhK _ ?_
  |refine Cw ?_
  |(refine zhN _ ?_;clear zhN zhM)
  |refine Aj fun zB zbn zbx zbr zbi=>?_
  |refine Bz fun zN zM zhN zhM=>?_
  |(refine Cy ?_ ?_;focus (first|rfl|(simp [go_sem,Ak,H8.ls,F0];done)))
 refine Gv [0,6,7,8,9,10,11,12,13,14,15,16,17,18,19,20,21,22,23,24,25,26,27,28,29,30,31,32,33,34] ?_
 simp only [Gj,Iq,Gq,List.contains_cons,List.contains_nil,Nat.reduceBEq,beq_self_eq_true,Bool.or_false,Bool.or_true,Bool.true_or,Bool.false_or,Bool.false_eq_true,reduceIte]
 refine Jz (fun y=>[(36,.w (.one (.pl (.i ((y.1:Nat):Int)))))]) (fun _=>[]) (fun y=>64-y.1) (⟨0,Nat.zero_le _,fun j hj=>absurd hj (Nat.not_lt_zero j)⟩:{y:Nat//y≤64∧∀ j,j<y→k≤j→held.getD j 0=0}) ?_ ?_ ?_
 · (simp only [go_sem,leX,List.cons_append,List.nil_append];try simp)
 · (simp only [go_sem,leX,List.cons_append,List.nil_append];try simp)
 intro yy zN zM zhN zhM
 simp only [List.cons_append,List.nil_append]
 obtain ⟨i,hi,hz⟩:=yy
 have hd:(i<64∧i<k)∨(i<64∧¬i<k∧held.getD i 0=0)∨(i<64∧¬i<k∧¬held.getD i 0=0)∨i=64:=by
  generalize held.getD i 0=z
  by_cases g1:i=64
  · simp [g1]
  · have g2:i<64:=by omega
    by_cases g3:i<k
    · exact .inl ⟨g2,g3⟩
    · by_cases g4:z=0
      · exact .inr (.inl ⟨g2,g3,g4⟩)
      · exact .inr (.inr (.inl ⟨g2,g3,g4⟩))
 rcases hd with ⟨hlt,hin⟩|⟨hlt,hin,hb⟩|⟨hlt,hin,hb⟩|rfl
 · have hcq:((i:Nat):Int)<64:=by omega
   have hc0:(0:Int)≤((i:Nat):Int):=by omega
   have hs1:Go.RowKit.wrap64 (((i:Nat):Int)+1)=((i+1:Nat):Int):=Ny (by omega) (by omega)
   have hk1:=Mj (q:=held) (i:=i) (by omega)
   have hk2:i+1≤64:=by omega
   have hni:¬((k:Nat):Int)≤((i:Nat):Int):=by omega
   have F10:=And.intro hcq<|And.intro hc0<|And.intro hs1<|And.intro hk1<|And.intro hk2<|hni
   iterate 18 first
    |refine zhK _ ?_
    |(refine Cx fun zK zhK=>?_;simp only [go_sem,Ak,H8.ls,F0,Ay,F10];(repeat' (first|apply And.intro|intro _)))
    |refine Cw ?_
    |(refine zhN _ ?_;clear zhN zhM)
    |refine Aj fun zB zbn zbx zbr zbi=>?_
    |(refine zbn _ ?_;clear zbn zbx zbr zbi)
    |(refine Av fun zK zhK=>?_;simp only [go_sem,Ak,H8.ls,F0,Ay,F10];(repeat' (first|apply And.intro|intro _)))
    |refine Bz fun zN zM zhN zhM=>?_
    |(refine Bv ?_ ?_;focus (first|rfl|(simp [go_sem,Ak,H8.ls,F0,Ay,F10];done)))
    |(refine Cy ?_ ?_;focus (first|rfl|(simp [go_sem,Ak,H8.ls,F0,Ay,F10];done)))
   refine zhN ⟨i+1,by omega,fun j hj hk=>by rcases Nat.lt_succ_iff_lt_or_eq.mp hj with h|rfl;exact hz j h hk;omega⟩ _ ?_ ?_ ?_
   · (show 64-(i+1)<64-i;clear hs1;omega)
   · (simp only [go_sem,leX,List.cons_append,List.nil_append];try simp)
   · (simp only [go_sem,leX,List.cons_append,List.nil_append];try simp)
 · have hcq:((i:Nat):Int)<64:=by omega
   have hc0:(0:Int)≤((i:Nat):Int):=by omega
   have hs1:Go.RowKit.wrap64 (((i:Nat):Int)+1)=((i+1:Nat):Int):=Ny (by omega) (by omega)
   have hk1:=Mj (q:=held) (i:=i) (by omega)
   have hk2:i+1≤64:=by omega
   have hni:((k:Nat):Int)≤((i:Nat):Int):=by omega
   have hbq:=eq_true hb
   have F17:=And.intro hcq<|And.intro hc0<|And.intro hs1<|And.intro hk1<|And.intro hk2<|And.intro hni<|hbq
   iterate 18 first
    |refine zhK _ ?_
    |(refine Cx fun zK zhK=>?_;simp only [go_sem,Ak,H8.ls,F0,Ay,F17];(repeat' (first|apply And.intro|intro _)))
    |refine Cw ?_
    |(refine zhN _ ?_;clear zhN zhM)
    |refine Aj fun zB zbn zbx zbr zbi=>?_
    |(refine zbn _ ?_;clear zbn zbx zbr zbi)
    |(refine Av fun zK zhK=>?_;simp only [go_sem,Ak,H8.ls,F0,Ay,F17];(repeat' (first|apply And.intro|intro _)))
    |refine Bz fun zN zM zhN zhM=>?_
    |(refine Bv ?_ ?_;focus (first|rfl|(simp [go_sem,Ak,H8.ls,F0,Ay,F17];done)))
    |(refine Cy ?_ ?_;focus (first|rfl|(simp [go_sem,Ak,H8.ls,F0,Ay,F17];done)))
   refine zhN ⟨i+1,by omega,fun j hj hk=>by rcases Nat.lt_succ_iff_lt_or_eq.mp hj with h|rfl;exact hz j h hk;exact hb⟩ _ ?_ ?_ ?_
   · (show 64-(i+1)<64-i;clear hs1;omega)
   · (simp only [go_sem,leX,List.cons_append,List.nil_append];try simp)
   · (simp only [go_sem,leX,List.cons_append,List.nil_append];try simp)
 · have hcq:((i:Nat):Int)<64:=by omega
   have hc0:(0:Int)≤((i:Nat):Int):=by omega
   have hs1:Go.RowKit.wrap64 (((i:Nat):Int)+1)=((i+1:Nat):Int):=Ny (by omega) (by omega)
   have hk1:=Mj (q:=held) (i:=i) (by omega)
   have hk2:i+1≤64:=by omega
   have hni:((k:Nat):Int)≤((i:Nat):Int):=by omega
   have hbq:=eq_false hb
   have F24:=And.intro hcq<|And.intro hc0<|And.intro hs1<|And.intro hk1<|And.intro hk2<|And.intro hni<|hbq
   iterate 22 first
    |(refine Cx fun zK zhK=>?_;simp only [go_sem,Ak,H8.ls,F0,Ay,F24];(repeat' (first|apply And.intro|intro _)))
    |refine zhK _ ?_
    |(refine zhM _ _ ?_;clear zhN zhM)
    |(refine zbr _ ?_;clear zbn zbx zbr zbi)
    |refine Cw ?_
    |(refine zhN _ ?_;clear zhN zhM)
    |refine Aj fun zB zbn zbx zbr zbi=>?_
    |refine Dx ?_
    |(refine zhZ _ _ ?_;simp only [go_sem,Ak,H8.ls,F0,Ay,F24];(all_goals (rw [a0h (fun h=>hb (h.rest i (by simp;omega) (by omega)))])))
    |refine Bz fun zN zM zhN zhM=>?_
    |(refine Bv ?_ ?_;focus (first|rfl|(simp [go_sem,Ak,H8.ls,F0,Ay,F24];done)))
 · have hcq:¬((64:Nat):Int)<64:=by omega
   have hbd:Rk held ((k:Nat):Int) ((l:Nat):Int)= !(decide (((k:Nat):Int)=0)):=by
    by_cases e:((k:Nat):Int)=0
    · rw [b0o ⟨by omega,by omega,by omega,by omega,by omega,by omega,fun j hj hl=>hz j hl (by simpa using hj)⟩];rw [decide_eq_true e];rfl
    · rw [a0h (fun h=>e (by have:=h.md;have:=h.le;have:=h.nz;have:=h.lo;omega))];rw [decide_eq_false e];rfl
   iterate 13 first
    |(refine Cx fun zK zhK=>?_;simp only [go_sem,Ak,H8.ls,F0,hcq];(repeat' (first|apply And.intro|intro _)))
    |refine zhK _ ?_
    |(refine zhM _ _ ?_;clear zhN zhM)
    |refine Ey ?_
    |(refine zbx _ ?_;clear zbn zbx zbr zbi)
    |(refine zhN _ ?_;clear zhN zhM)
    |refine Dx ?_
    |(refine zhZ _ _ ?_;simp only [go_sem,Ak,H8.ls,F0,hcq];(all_goals (rw [hbd])))
    |refine Bz fun zN zM zhN zhM=>?_
    |(refine Cy ?_ ?_;focus (first|rfl|(simp [go_sem,Ak,H8.ls,F0,hcq];done)))
theorem a2j (h0 h1 h2 h3 h4 h5 h6 h7:UInt32) (held:List UInt8) (hh:held.length=64) (k l:Nat) (e1:k≤64) (e3:l≤1073741824) (e4:¬l%64=0):
 Ct Tryd.prog 74 [.w (.agg (Ak ⟨h0,h1,h2,h3,h4,h5,h6,h7⟩ held (k:Int) (l:Int)))] (fun v m=>v=.w (.one (.pl (.b (Rk held (k:Int) (l:Int)))))):=by
 have g1:¬((k:Nat):Int)<0:=by omega
 have g2:¬(64:Int)<((k:Nat):Int):=by omega
 have g3:¬((l:Nat):Int)<0:=by omega
 have g4:¬(1073741824:Int)<((l:Nat):Int):=by omega
 have gm:(((l:Nat):Int)).tmod 64=((l%64:Nat):Int):=rfl
 have g5:¬((l%64:Nat):Int)=0:=by omega
 have F0:=And.intro hh<|And.intro g1<|And.intro g2<|And.intro g3<|And.intro g4<|And.intro gm<|g5
 refine Ct.k Tryd.func74 rfl Tryd.ntmps74 (congrArg Array.toList Tryd.results74) (by simp) fun w0 ro=>?_
 refine Dj fun zZ zhZ=>?_
 iterate 20 first
  |(refine Cx fun zK zhK=>?_;simp only [go_sem,Ak,H8.ls,F0];(repeat' (first|apply And.intro|intro _)))
  |refine zhK _ ?_
  |refine Cw ?_
  |(refine zhN _ ?_;clear zhN zhM)
  |refine Aj fun zB zbn zbx zbr zbi=>?_
  |refine Bz fun zN zM zhN zhM=>?_
  |(refine Cy ?_ ?_;focus (first|rfl|(simp [go_sem,Ak,H8.ls,F0];done)))
 refine Gv [0,6,7,8,9,10,11,12,13,14,15,16,17,18,19,20,21,22,23,24,25,26,27,28,29,30,31,32,33,34] ?_
 simp only [Gj,Iq,Gq,List.contains_cons,List.contains_nil,Nat.reduceBEq,beq_self_eq_true,Bool.or_false,Bool.or_true,Bool.true_or,Bool.false_or,Bool.false_eq_true,reduceIte]
 refine Jz (fun y=>[(36,.w (.one (.pl (.i ((y.1:Nat):Int)))))]) (fun _=>[]) (fun y=>64-y.1) (⟨0,Nat.zero_le _,fun j hj=>absurd hj (Nat.not_lt_zero j)⟩:{y:Nat//y≤64∧∀ j,j<y→k≤j→held.getD j 0=0}) ?_ ?_ ?_
 · (simp only [go_sem,leX,List.cons_append,List.nil_append];try simp)
 · (simp only [go_sem,leX,List.cons_append,List.nil_append];try simp)
 intro yy zN zM zhN zhM
 simp only [List.cons_append,List.nil_append]
 obtain ⟨i,hi,hz⟩:=yy
 have hd:(i<64∧i<k)∨(i<64∧¬i<k∧held.getD i 0=0)∨(i<64∧¬i<k∧¬held.getD i 0=0)∨i=64:=by
  generalize held.getD i 0=z
  by_cases g1:i=64
  · simp [g1]
  · have g2:i<64:=by omega
    by_cases g3:i<k
    · exact .inl ⟨g2,g3⟩
    · by_cases g4:z=0
      · exact .inr (.inl ⟨g2,g3,g4⟩)
      · exact .inr (.inr (.inl ⟨g2,g3,g4⟩))
 rcases hd with ⟨hlt,hin⟩|⟨hlt,hin,hb⟩|⟨hlt,hin,hb⟩|rfl
 · have hcq:((i:Nat):Int)<64:=by omega
   have hc0:(0:Int)≤((i:Nat):Int):=by omega
   have hs1:Go.RowKit.wrap64 (((i:Nat):Int)+1)=((i+1:Nat):Int):=Ny (by omega) (by omega)
   have hk1:=Mj (q:=held) (i:=i) (by omega)
   have hk2:i+1≤64:=by omega
   have hni:¬((k:Nat):Int)≤((i:Nat):Int):=by omega
   have F10:=And.intro hcq<|And.intro hc0<|And.intro hs1<|And.intro hk1<|And.intro hk2<|hni
   iterate 18 first
    |refine zhK _ ?_
    |(refine Cx fun zK zhK=>?_;simp only [go_sem,Ak,H8.ls,F0,Ay,F10];(repeat' (first|apply And.intro|intro _)))
    |refine Cw ?_
    |(refine zhN _ ?_;clear zhN zhM)
    |refine Aj fun zB zbn zbx zbr zbi=>?_
    |(refine zbn _ ?_;clear zbn zbx zbr zbi)
    |(refine Av fun zK zhK=>?_;simp only [go_sem,Ak,H8.ls,F0,Ay,F10];(repeat' (first|apply And.intro|intro _)))
    |refine Bz fun zN zM zhN zhM=>?_
    |(refine Bv ?_ ?_;focus (first|rfl|(simp [go_sem,Ak,H8.ls,F0,Ay,F10];done)))
    |(refine Cy ?_ ?_;focus (first|rfl|(simp [go_sem,Ak,H8.ls,F0,Ay,F10];done)))
   refine zhN ⟨i+1,by omega,fun j hj hk=>by rcases Nat.lt_succ_iff_lt_or_eq.mp hj with h|rfl;exact hz j h hk;omega⟩ _ ?_ ?_ ?_
   · (show 64-(i+1)<64-i;clear hs1;omega)
   · (simp only [go_sem,leX,List.cons_append,List.nil_append];try simp)
   · (simp only [go_sem,leX,List.cons_append,List.nil_append];try simp)
 · have hcq:((i:Nat):Int)<64:=by omega
   have hc0:(0:Int)≤((i:Nat):Int):=by omega
   have hs1:Go.RowKit.wrap64 (((i:Nat):Int)+1)=((i+1:Nat):Int):=Ny (by omega) (by omega)
   have hk1:=Mj (q:=held) (i:=i) (by omega)
   have hk2:i+1≤64:=by omega
   have hni:((k:Nat):Int)≤((i:Nat):Int):=by omega
   have hbq:=eq_true hb
   have F17:=And.intro hcq<|And.intro hc0<|And.intro hs1<|And.intro hk1<|And.intro hk2<|And.intro hni<|hbq
   iterate 18 first
    |refine zhK _ ?_
    |(refine Cx fun zK zhK=>?_;simp only [go_sem,Ak,H8.ls,F0,Ay,F17];(repeat' (first|apply And.intro|intro _)))
    |refine Cw ?_
    |(refine zhN _ ?_;clear zhN zhM)
    |refine Aj fun zB zbn zbx zbr zbi=>?_
    |(refine zbn _ ?_;clear zbn zbx zbr zbi)
    |(refine Av fun zK zhK=>?_;simp only [go_sem,Ak,H8.ls,F0,Ay,F17];(repeat' (first|apply And.intro|intro _)))
    |refine Bz fun zN zM zhN zhM=>?_
    |(refine Bv ?_ ?_;focus (first|rfl|(simp [go_sem,Ak,H8.ls,F0,Ay,F17];done)))
    |(refine Cy ?_ ?_;focus (first|rfl|(simp [go_sem,Ak,H8.ls,F0,Ay,F17];done)))
   refine zhN ⟨i+1,by omega,fun j hj hk=>by rcases Nat.lt_succ_iff_lt_or_eq.mp hj with h|rfl;exact hz j h hk;exact hb⟩ _ ?_ ?_ ?_
   · (show 64-(i+1)<64-i;clear hs1;omega)
   · (simp only [go_sem,leX,List.cons_append,List.nil_append];try simp)
   · (simp only [go_sem,leX,List.cons_append,List.nil_append];try simp)
 · have hcq:((i:Nat):Int)<64:=by omega
   have hc0:(0:Int)≤((i:Nat):Int):=by omega
   have hs1:Go.RowKit.wrap64 (((i:Nat):Int)+1)=((i+1:Nat):Int):=Ny (by omega) (by omega)
   have hk1:=Mj (q:=held) (i:=i) (by omega)
   have hk2:i+1≤64:=by omega
   have hni:((k:Nat):Int)≤((i:Nat):Int):=by omega
   have hbq:=eq_false hb
   have F24:=And.intro hcq<|And.intro hc0<|And.intro hs1<|And.intro hk1<|And.intro hk2<|And.intro hni<|hbq
   iterate 22 first
    |(refine Cx fun zK zhK=>?_;simp only [go_sem,Ak,H8.ls,F0,Ay,F24];(repeat' (first|apply And.intro|intro _)))
    |refine zhK _ ?_
    |(refine zhM _ _ ?_;clear zhN zhM)
    |(refine zbr _ ?_;clear zbn zbx zbr zbi)
    |refine Cw ?_
    |(refine zhN _ ?_;clear zhN zhM)
    |refine Aj fun zB zbn zbx zbr zbi=>?_
    |refine Dx ?_
    |(refine zhZ _ _ ?_;simp only [go_sem,Ak,H8.ls,F0,Ay,F24];(all_goals (rw [a0h (fun h=>hb (h.rest i (by simp;omega) (by omega)))])))
    |refine Bz fun zN zM zhN zhM=>?_
    |(refine Bv ?_ ?_;focus (first|rfl|(simp [go_sem,Ak,H8.ls,F0,Ay,F24];done)))
 · have hcq:¬((64:Nat):Int)<64:=by omega
   have hbd:Rk held ((k:Nat):Int) ((l:Nat):Int)= !(decide (((k:Nat):Int)=((l%64:Nat):Int))):=by
    by_cases e:((k:Nat):Int)=((l%64:Nat):Int)
    · rw [b0o ⟨by omega,by omega,by omega,by omega,by omega,by omega,fun j hj hl=>hz j hl (by simpa using hj)⟩];rw [decide_eq_true e];rfl
    · rw [a0h (fun h=>e (by have:=h.md;have:=h.le;have:=h.nz;have:=h.lo;omega))];rw [decide_eq_false e];rfl
   iterate 13 first
    |(refine Cx fun zK zhK=>?_;simp only [go_sem,Ak,H8.ls,F0,hcq];(repeat' (first|apply And.intro|intro _)))
    |refine zhK _ ?_
    |(refine zhM _ _ ?_;clear zhN zhM)
    |refine Ey ?_
    |(refine zbx _ ?_;clear zbn zbx zbr zbi)
    |(refine zhN _ ?_;clear zhN zhM)
    |refine Dx ?_
    |(refine zhZ _ _ ?_;simp only [go_sem,Ak,H8.ls,F0,hcq];(all_goals (rw [hbd])))
    |refine Bz fun zN zM zhN zhM=>?_
    |(refine Cy ?_ ?_;focus (first|rfl|(simp [go_sem,Ak,H8.ls,F0,hcq];done)))
theorem q0a (h0 h1 h2 h3 h4 h5 h6 h7:UInt32) (held:List UInt8) (hh:held.length=64) (n len:Int):Ct Tryd.prog 74 [.w (.agg (Ak ⟨h0,h1,h2,h3,h4,h5,h6,h7⟩ held n len))] (fun v m=>v=.w (.one (.pl (.b (Rk held n len))))):=by
 by_cases g1:n<0
 · exact u1d h0 h1 h2 h3 h4 h5 h6 h7 held hh n len g1
 by_cases g2:64<n
 · exact u1c h0 h1 h2 h3 h4 h5 h6 h7 held hh n len g1 g2
 by_cases g3:len<0
 · exact u1b h0 h1 h2 h3 h4 h5 h6 h7 held hh n len g1 g2 g3
 by_cases g4:1073741824<len
 · exact u1a h0 h1 h2 h3 h4 h5 h6 h7 held hh n len g1 g2 g3 g4
 obtain ⟨k,rfl⟩: ∃ k:Nat,n=(k:Int):=⟨n.toNat,by omega⟩
 obtain ⟨l,rfl⟩: ∃ l:Nat,len=(l:Int):=⟨len.toNat,by omega⟩
 have e1:k≤64:=by omega
 have e3:l≤1073741824:=by omega
 by_cases e4:l%64=0
 · by_cases e5:0<l
   · exact a2l h0 h1 h2 h3 h4 h5 h6 h7 held hh k l e1 e3 e4 e5
   · exact a2k h0 h1 h2 h3 h4 h5 h6 h7 held hh k l e1 e3 e4 (by omega)
 · exact a2j h0 h1 h2 h3 h4 h5 h6 h7 held hh k l e1 e3 e4
end Bk
end Go.Sy
namespace Go.Sy
namespace Bk
open Go.Proofs
attribute [local irreducible] Dv HT Cz Px onC onE onO onG goV goA goS Qx Dw
def g1b (ws:List UInt32):List UInt8:=ws.flatMap fun x=>o0a x.toUInt64 4
theorem low4 (x:UInt32):o0a x.toUInt64 4=[(j0i x 0).toUInt8,(j0i x 8).toUInt8,(j0i x 16).toUInt8,(j0i x 24).toUInt8]:=by
 have e: ∀ y:UInt64,(y/256).toNat=y.toNat/256:=fun y=>by rw [UInt64.toNat_div];rfl
 have hx:=x.toNat_lt
 have g: ∀ (y:UInt32) (n:Nat),y.toNat=n→UInt8.ofNat n=y.toUInt8:=fun y n h=>by
  apply UInt8.toNat_inj.mp
  rw [←h,UInt8.toNat_ofNat',UInt32.toNat_toUInt8]
 have t: ∀ c,(j0i x c).toNat=x.toNat/2 ^ c:=fun c=>by
  rw [j0i,UInt32.toNat_ofNat']
  exact Nat.mod_eq_of_lt (Nat.lt_of_le_of_lt (Nat.div_le_self _ _) hx)
 simp only [o0a,List.cons.injEq,and_true]
 refine ⟨?_,?_,?_,?_⟩
 all_goals refine g _ _ ?_
 all_goals simp only [t,e,UInt32.toNat_toUInt64,Nat.div_div_eq_div_mul]
 all_goals simp
theorem r1u {q:List UInt8} {i:Nat} (hq:q.length=32) (hi:i<32) (x:UInt8):(q.take i++x::q.drop (i+1)).length=32:=by
 rw [List.length_append,List.length_cons,List.length_take,List.length_drop];omega
theorem k0x (l:List UInt8):Hz (.agg (Az l))=true:=by
 simp [Hz,Az]
theorem s0j (l:List UInt8) (e:Int):Fj (.tup [.agg (Az l),.one (.pl (.i e))])=true:=by
 simp only [Fj,List.all_cons,k0x];rfl
theorem a2m (e:Nat→Nat) (h:H8):h.ls.map (L.ren e)=h.ls:=rfl
attribute [go_sem] a2m
def H8.l (h:H8):List UInt32:=[h.h0,h.h1,h.h2,h.h3,h.h4,h.h5,h.h6,h.h7]
theorem H8.ls_l (h:H8):h.ls=Lv h.l:=rfl
theorem H8.l_length (h:H8):h.l.length=8:=rfl
theorem f0c (h:H8):(g1b h.l).length=32:=by simp [g1b,H8.l,Dq]
theorem t1p (h:H8) (i:Nat) (hi:i<32):(j0i (h.l.getD (i/4) 0) (8*(i%4))).toUInt8=(g1b h.l).getD i 0:=by
 simp only [g1b,H8.l,List.flatMap_cons,List.flatMap_nil,low4,List.cons_append,List.nil_append]
 match i,hi with
 |0,_=>rfl
 |1,_=>rfl
 |2,_=>rfl
 |3,_=>rfl
 |4,_=>rfl
 |5,_=>rfl
 |6,_=>rfl
 |7,_=>rfl
 |8,_=>rfl
 |9,_=>rfl
 |10,_=>rfl
 |11,_=>rfl
 |12,_=>rfl
 |13,_=>rfl
 |14,_=>rfl
 |15,_=>rfl
 |16,_=>rfl
 |17,_=>rfl
 |18,_=>rfl
 |19,_=>rfl
 |20,_=>rfl
 |21,_=>rfl
 |22,_=>rfl
 |23,_=>rfl
 |24,_=>rfl
 |25,_=>rfl
 |26,_=>rfl
 |27,_=>rfl
 |28,_=>rfl
 |29,_=>rfl
 |30,_=>rfl
 |31,_=>rfl
 |n+32,h=>exact absurd h (by omega)
theorem k1i {q r:List UInt8} {i:Nat} (hq:q.length=32) (hr:r.length=32) (hi:i<32) (h:q.take i=r.take i):(q.take i++r.getD i 0::q.drop (i+1)).take (i+1)=r.take (i+1):=by
 have l:(q.take i).length=i:=by rw [List.length_take];omega
 rw [List.take_append,l,List.take_of_length_le (by omega),show i+1-i=1 from by omega,List.take_succ_cons,List.take_zero,h]
 rw [List.take_add_one,List.getElem?_eq_getElem (by omega)]
 simp [List.getD,List.getElem?_eq_getElem (show i<r.length by omega)]
theorem key_ (l:List UInt8) (hl:l.length=32):
 Ct Tryd.prog 76 [.w (.one (.pl (.str l)))] (fun v m=>v=.w (.agg (Az l))):=by
 have h1:List.take 32 l=l:=List.take_of_length_le (by omega)
 have h2:List.drop 32 (List.replicate 32 (0:UInt8))=[]:=rfl
 have F0:=And.intro hl<|And.intro h1<|h2
 refine Ct.k Tryd.func76 rfl Tryd.ntmps76 (congrArg Array.toList Tryd.results76) (by simp) fun w0 ro=>?_
 refine Dj fun zZ zhZ=>?_
 iterate 11 first
  |(refine Bz fun zN zM zhN zhM=>?_;refine n0o (id:=2) [4,5,6] (by simp only [go_sem]) fun zK zhK=>?_;simp only [go_sem,Nat.min_self,F0];(repeat' (first|apply And.intro|intro _)))
  |(refine Cx fun zK zhK=>?_;simp only [go_sem,Nat.min_self,F0];(repeat' (first|apply And.intro|intro _)))
  |refine zhK _ ?_
  |refine zhK _ _ ?_
  |(refine zhN _ ?_;clear zhN zhM)
  |refine Dx ?_
  |(refine zhZ _ _ ?_;simp only [go_sem,Nat.min_self,F0];(all_goals (rfl)))
theorem u0q (l:List UInt8) (hl:l.length=32):
 Ct Tryd.prog 13 [.w (.agg (Az l))] (fun v m=>v=.w (.one (.pl (.str l)))):=by
 refine Ct.k Tryd.func13 rfl Tryd.ntmps13 (congrArg Array.toList Tryd.results13) (by simp) fun w0 ro=>?_
 refine Dj fun zZ zhZ=>?_
 iterate 6 first
  |(refine Cx fun zK zhK=>?_;simp only [go_sem,hl];(repeat' (first|apply And.intro|intro _)))
  |refine zhK _ ?_
  |refine Dx ?_
  |(refine zhZ _ _ ?_;simp only [go_sem,hl];(all_goals rfl))
def e0n :List UInt32:=[1779033703,3144134277,1013904242,2773480762,1359893119,2600822924,528734635,1541459225]
def w1c :List (List Int):=[[0,1,2,3,4,5,6,7,8,9,10,11,12,13,14,15],[14,10,4,8,9,15,13,6,1,12,0,2,11,7,5,3],[11,8,12,0,5,2,15,13,10,14,3,6,7,1,9,4],[7,9,3,1,13,12,11,14,2,6,5,10,4,0,15,8],[9,0,5,7,2,4,10,15,14,1,11,12,6,8,3,13],[2,12,6,10,0,11,8,3,4,13,7,5,15,14,1,9],[12,5,1,15,14,13,4,10,0,7,6,3,9,2,8,11],[13,11,7,14,12,1,3,9,5,0,15,4,8,6,2,10],[6,15,14,9,11,3,0,8,12,2,13,7,1,4,10,5],[10,2,8,4,7,6,1,5,15,11,9,14,3,12,13,0]]
end Bk
end Go.Sy
namespace Go.Sy
namespace Bk
open Go.Proofs
attribute [local irreducible] Dv HT Cz Px onC onE onO onG goV goA goS Qx Dw
structure HSt where
 h:H8
 done:Nat
 rest:List UInt8
def a0d (s:HSt) (c:UInt8):HSt:=if s.rest.length=64 then ⟨e0t s.h s.rest (s.done+64) false,s.done+64,[c]⟩ else ⟨s.h,s.done,s.rest++[c]⟩
def Zx (s:HSt) (l:List UInt8):HSt:=l.foldl a0d s
section
variable {s:HSt} {l:List UInt8}
theorem d1q (c:UInt8) (h:s.rest.length≤64):(a0d s c).rest.length≤64∧(a0d s c).done+(a0d s c).rest.length=s.done+s.rest.length+1:=by
 unfold a0d
 split
 · rename_i h1;simp only [List.length_cons,List.length_nil];omega
 · simp only [List.length_append,List.length_cons,List.length_nil];omega
theorem h0h : ∀ {l:List UInt8} {s:HSt},s.rest.length≤64→(Zx s l).rest.length≤64∧(Zx s l).done+(Zx s l).rest.length=s.done+s.rest.length+l.length
 | [],_,h=>⟨h,rfl⟩
 |c::l,s,h=>by
  obtain ⟨h1,h2⟩:=d1q c h
  obtain ⟨h3,h4⟩:=h0h (l:=l) h1
  exact ⟨h3,by show (Zx (a0d s c) l).done+(Zx (a0d s c) l).rest.length=_;rw [h4,h2,List.length_cons];omega⟩
theorem u0k {i:Nat} (h:i<l.length):Zx s (l.take (i+1))=a0d (Zx s (l.take i)) (l.getD i 0):=by
 have e:l.take (i+1)=l.take i++[l.getD i 0]:=by
  rw [List.take_succ_eq_append_getElem h];simp [List.getD,List.getElem?_eq_getElem h]
 rw [e,Zx,List.foldl_append];rfl
theorem m0p (a b:List UInt8):Zx s (a++b)=Zx (Zx s a) b:=List.foldl_append
theorem d0z : ∀ {l:List UInt8} {h:H8} {d:Nat} {r:List UInt8},r.length+l.length≤64→Zx ⟨h,d,r⟩ l=⟨h,d,r++l⟩
 | [],h,d,r,_=>by simp [Zx]
 |c::l,h,d,r,hl=>by
  simp only [List.length_cons] at hl
  show Zx (a0d ⟨h,d,r⟩ c) l=_
  have e:a0d ⟨h,d,r⟩ c=⟨h,d,r++[c]⟩:=by unfold a0d;rw [if_neg (by show ¬r.length=64;omega)]
  rw [e,d0z (by simp only [List.length_append,List.length_cons,List.length_nil];omega)]
  simp
theorem j1i {h:H8} {d:Nat} {r:List UInt8} (hr:r.length≤64) (b:List UInt8):Zx ⟨h,d,r⟩ b=Zx ⟨h,d,[]⟩ (r++b):=by
 have e:Zx ⟨h,d,[]⟩ r=⟨h,d,r⟩:=by rw [d0z (by simpa using hr)];rfl
 rw [m0p,e]
theorem c1o {h:H8} {d:Nat} (hl:64<l.length):Zx ⟨h,d,[]⟩ l=Zx ⟨e0t h (l.take 64) (d+64) false,d+64,[]⟩ (l.drop 64):=by
 have e:l.drop 64=l.getD 64 0::l.drop 65:=by
  rw [List.drop_eq_getElem_cons hl];simp [List.getD,List.getElem?_eq_getElem hl]
 have l64:(l.take 64).length=64:=by rw [List.length_take];omega
 have key:Zx ⟨h,d,[]⟩ (l.take 64)=⟨h,d,l.take 64⟩:=by rw [d0z (by simp;omega)];rfl
 conv=>lhs;rw [←List.take_append_drop 64 l]
 rw [m0p,key,e]
 show Zx (a0d _ _) _=Zx (a0d _ _) _
 congr 1
 unfold a0d
 rw [if_pos l64,if_neg (by show ¬([]:List UInt8).length=64;simp)]
 rfl
end
def Ov (r:List UInt8):List UInt8:=r++List.replicate (64-r.length) 0
theorem Gx {r:List UInt8} (h:r.length≤64):(Ov r).length=64:=by simp [Ov];omega
theorem l1f {held:List UInt8} {k:Nat} (hh:held.length=64) (hk:k≤64) (hz: ∀ j,k≤j→j<64→held.getD j 0=0):Ov (held.take k)=held:=by
 have hlk:(held.take k).length=k:=by rw [List.length_take];omega
 have hd:held.drop k=List.replicate (64-k) 0:=by
  apply List.ext_getElem
  · rw [List.length_drop,List.length_replicate];omega
  · intro i h1 h2
    rw [List.length_replicate] at h2
    have:=hz (k+i) (by omega) (by omega)
    rw [List.getElem_drop,List.getElem_replicate]
    simpa [List.getD,List.getElem?_eq_getElem (show k+i<held.length by omega)] using this
 rw [Ov,hlk,←hd,List.take_append_drop]
theorem a1o {r:List UInt8} (h:r.length≤64): ∀ j,r.length≤j→j<64→(Ov r).getD j 0=0:=by
 intro j h1 h2
 rw [Ov,List.getD,List.getElem?_append_right h1,List.getElem?_replicate]
 split<;>rfl
theorem n0x (r:List UInt8):(Ov r).take r.length=r:=List.take_left' rfl
theorem a1p {r:List UInt8} (h:r.length=64):Ov r=r:=by rw [Ov,h];simp
theorem e1w {r:List UInt8} (h:r.length<64) (c:UInt8):r++(c::(Ov r).drop (r.length+1))=Ov (r++[c]):=by
 rw [Ov,Ov,List.drop_append,List.drop_of_length_le (by omega),List.drop_replicate,List.nil_append,List.append_assoc]
 simp only [List.length_append,List.length_cons,List.length_nil,List.cons_append,List.nil_append]
 congr 3;omega
theorem s0l (c:UInt8):Ov [c]=c::List.replicate 63 0:=rfl
def HSt.len (s:HSt):Nat:=s.done+s.rest.length
def stB (s:HSt):List L:=Ak s.h (Ov s.rest) (s.rest.length:Nat) ((s.len:Nat):Int)
def HSt.ok (s:HSt):Prop:=s.rest.length≤64∧s.len≤1073741824∧s.done%64=0∧(s.rest.length=0→s.done=0)
theorem i0q {s:HSt} (hs:s.ok):HashOk (Ov s.rest) (s.rest.length:Nat) ((s.len:Nat):Int):=by
 obtain ⟨h1,h2,h3,h4⟩:=hs
 have h5:s.len=s.done+s.rest.length:=rfl
 refine ⟨by omega,by omega,by omega,by omega,by omega,fun h=>?_,fun j hj hl=>a1o h1 j (by simpa using hj) hl⟩
 have:=h4 (by omega);omega
theorem k1d {held:List UInt8} {k l:Nat} (hh:held.length=64) (hok:HashOk held (k:Int) (l:Int)) (h:H8):(HSt.ok ⟨h,l-k,held.take k⟩)∧stB ⟨h,l-k,held.take k⟩=Ak h held (k:Int) (l:Int):=by
 obtain ⟨h1,h2,h3,h4,h5,h6,h7⟩:=hok
 have hl:(held.take k).length=k:=by rw [List.length_take];omega
 have hp:=l1f (k:=k) hh (by omega) (fun j hj hl=>h7 j (by simpa using hj) hl)
 refine ⟨⟨by simp only [hl];omega,by show l-k+(held.take k).length≤_;rw [hl];omega,by show (l-k)%64=0;omega,fun h=>?_⟩,?_⟩
 · simp only [hl] at h;show l-k=0;have:=h6 (by omega);omega
 · show Ak h (Ov (held.take k)) ((held.take k).length:Nat) ((l-k+(held.take k).length:Nat):Int)=_
   rw [hp,hl,show l-k+k=l from by omega]
end Bk
end Go.Sy
