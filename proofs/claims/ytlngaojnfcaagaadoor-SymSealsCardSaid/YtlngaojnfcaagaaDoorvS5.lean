/- Walks: five parts of 26 bits. -/
import Derived.Test.YtlngaojnfcaagaaDoorvS3
set_option linter.unusedVariables false
set_option linter.unusedSimpArgs false
set_option maxHeartbeats 1600000
set_option maxRecDepth 100000
namespace Go.Sy
open Go.Proofs
attribute [local irreducible] Fz HT Cw Oj onC onE onO onG goV goA goS Qv Ey
def P5.ls (p:P5):List L:=[.pl (.u64 p.a),.pl (.u64 p.b),.pl (.u64 p.c),.pl (.u64 p.d),.pl (.u64 p.e)]
def t0r :Nat→P5→P5
 |0,p=>p
 |k+1,p=>(t0r k p).pass
def W3 (x y z:UInt64):List L:=[.pl (.u64 x),.pl (.u64 y),.pl (.u64 z)]
theorem e0v (x y z:UInt64):
 Ct Tryd.prog 75 [.w (.agg (W3 x y z))] (fun v m=>v=.w (.agg (Gv x y z).ls)):=by
 refine Ct.k Tryd.func75 rfl Tryd.ntmps75 (congrArg Array.toList Tryd.results75) (by simp) fun w0 ro=>?_
 refine Dx fun zZ zhZ=>?_
 iterate 6 first
  |(refine Dz fun zK zhK=>?_;simp only [go_sem,W3];(repeat' (first|apply And.intro|intro _)))
  |refine zhK _ ?_
  |refine Ck ?_
  |(refine zhZ _ _ ?_;simp only [go_sem,W3];(all_goals rfl))
theorem y1s (a b c d e:UInt64):
 Ct Tryd.prog 77 [.w (.agg [.pl (.u64 a),.pl (.u64 b),.pl (.u64 c),.pl (.u64 d),.pl (.u64 e)])] (fun v m=>v=.w (.agg (W3 (P5.w0 ⟨a,b,c,d,e⟩) (P5.w1 ⟨a,b,c,d,e⟩) (P5.w2 ⟨a,b,c,d,e⟩)))):=by
 refine Ct.k Tryd.func77 rfl Tryd.ntmps77 (congrArg Array.toList Tryd.results77) (by simp) fun w0 ro=>?_
 refine Dx fun zZ zhZ=>?_
 iterate 6 first
  |(refine Dz fun zK zhK=>?_;simp only [go_sem];(repeat' (first|apply And.intro|intro _)))
  |refine zhK _ ?_
  |refine Ck ?_
  |(refine zhZ _ _ ?_;simp only [go_sem];(all_goals rfl))
theorem q1v (a b c d e:UInt64):
 Ct Tryd.prog 76 [.w (.agg [.pl (.u64 a),.pl (.u64 b),.pl (.u64 c),.pl (.u64 d),.pl (.u64 e)])] (fun v m=>v=.w (.agg (P5.carried ⟨a,b,c,d,e⟩).ls)):=by
 refine Ct.k Tryd.func76 rfl Tryd.ntmps76 (congrArg Array.toList Tryd.results76) (by simp) fun w0 ro=>?_
 refine Dx fun zZ zhZ=>?_
 iterate 6 first
  |(refine Dz fun zK zhK=>?_;simp only [go_sem];(repeat' (first|apply And.intro|intro _)))
  |refine zhK _ ?_
  |refine Cx fun zB zbn zbx zbr zbi=>?_
  |refine Bq fun zN zM zhN zhM=>?_
 refine Fq [0] ?_
 simp only [Gz,Gj,Fj,List.contains_cons,List.contains_nil,Nat.reduceBEq,beq_self_eq_true,Bool.or_false,Bool.or_true,Bool.true_or,Bool.false_or,Bool.false_eq_true,reduceIte]
 refine Ik (fun y=>[(7,.w (.one (.pl (.i ((y.1:Nat):Int)))))]) (fun y=>[(1,⟨false,(t0r y.1 ⟨a,b,c,d,e⟩).ls⟩)]) (fun y=>3-y.1) (⟨0,by omega⟩:{y:Nat//y≤3}) ?_ ?_ ?_
 · (simp only [go_sem,P5.ls,t0r,leX,List.cons_append,List.nil_append];try simp)
 · (simp only [go_sem,P5.ls,t0r,leX,List.cons_append,List.nil_append];try simp)
 intro yy zN zM zhN zhM
 simp only [List.cons_append,List.nil_append]
 obtain ⟨j,hj⟩:=yy
 rcases Nat.lt_or_ge j 3 with hlt|hge
 rotate_left
 obtain ⟨q,hq⟩: ∃ q,t0r j ⟨a,b,c,d,e⟩=q:=⟨_,rfl⟩
 have hd:=Classical.em (0<s0c q.f5)
 rcases hd with hcar|hcar
 rotate_left 2
 · have hc:((j:Nat):Int)<3:=by omega
   have hs1:Go.RowKit.wrap64 (((j:Nat):Int)+1)=((j+1:Nat):Int):=Kv (by omega) (by omega)
   obtain ⟨q,hq⟩: ∃ q,t0r j ⟨a,b,c,d,e⟩=q:=⟨_,rfl⟩
   obtain ⟨qa,qb,qc,qd,qe⟩:=q
   simp only [hq,P5.ls]
   iterate 131 first
    |(refine Dj (x:=.seq (.region 5 _ _) _) [4,10,11,12,13,14,15,16,17,18,19,20,21,22,23] ?_;simp only [go_sem,St.forget,fgt];refine Hw fun zN zM zhN zhM=>?_)
    |refine Hw fun zN zM zhN zhM=>?_
    |refine zhK _ ?_
    |(refine Dz fun zK zhK=>?_;simp only [go_sem,hc,hs1];(repeat' (first|apply And.intro|intro _)))
    |(refine zhN _ ?_;clear zhN zhM)
    |(refine Cv fun zK zhK=>?_;simp only [go_sem,hc,hs1];(repeat' (first|apply And.intro|intro _)))
    |refine Cx fun zB zbn zbx zbr zbi=>?_
    |refine Cq ?_
    |(refine zbn _ ?_;clear zbn zbx zbr zbi)
    |(refine zhM _ _ ?_;clear zhN zhM)
    |refine Fw (x:=.seq (.region 5 _ _) _) 6 ?_
    |refine Fx ?_
    |(refine zbx _ ?_;clear zbn zbx zbr zbi)
    |refine Bq fun zN zM zhN zhM=>?_
    |(refine Bz ?_ ?_;focus (first|rfl|(simp [go_sem,hc,hs1];done)))
    |(refine Bj ?_ ?_;focus (first|rfl|(simp [go_sem,hc,hs1];done)))
   refine zhN ⟨j+1,by omega⟩ _ ?_ ?_ ?_
   · (show 3-(j+1)<3-j;clear hs1;omega)
   · (simp only [go_sem,leX,List.cons_append,List.nil_append];try simp)
   · (simp only [t0r,hq,go_sem,leX,List.cons_append,List.nil_append];try simp [t0r,hq,P5.ls,P5.pass,P5.c1,P5.c2,P5.c3,P5.c4,P5.c5,r0d,s0c,leX,look])
 · have hc:¬((j:Nat):Int)<3:=by omega
   have hj3:j=3:=by omega
   subst hj3
   obtain ⟨qa,qb,qc,qd,qe⟩:=q
   have hcc:P5.carried ⟨a,b,c,d,e⟩=P5.car ⟨qa,qb,qc,qd,qe⟩:=by rw [←hq];rfl
   rw [P5.car,if_pos hcar] at hcc
   simp only [P5.f1,P5.f2,P5.f3,P5.f4,P5.f5,s0c,r0d] at hcar hcc
   simp only [hq,P5.ls]
   iterate 119 first
    |(refine Dj (x:=.seq (.region 15 _ _) _) [6,37,38,39,40,41,42,43,44,45,46,47,48,49,50,51,52,53,54] ?_;simp only [go_sem,St.forget,fgt];refine Hw fun zN zM zhN zhM=>?_)
    |refine Hw fun zN zM zhN zhM=>?_
    |refine zhK _ ?_
    |(refine Dz fun zK zhK=>?_;simp only [go_sem,hc,hcar];(repeat' (first|apply And.intro|intro _)))
    |(refine zhN _ ?_;clear zhN zhM)
    |(refine Cv fun zK zhK=>?_;simp only [go_sem,hc,hcar];(repeat' (first|apply And.intro|intro _)))
    |(refine zhM _ _ ?_;clear zhN zhM)
    |refine Cx fun zB zbn zbx zbr zbi=>?_
    |refine Cq ?_
    |(refine d0c (id:=17) [39,40,41,42,43,44,45,46,47,48] [0,1,3,7,0,16,48,112,255,511,1023] [] mixed (by kernel_rfl) (by simp only [go_sem]) fun zK zhK=>?_;simp only [go_sem,hc,hcar];(repeat' (first|apply And.intro|intro _)))
    |refine zhK _ _ trivial ?_
    |(refine zbn _ ?_;clear zbn zbx zbr zbi)
    |refine Fx ?_
    |(refine zbx _ ?_;clear zbn zbx zbr zbi)
    |refine Fw (x:=.seq (.region 15 _ _) _) 5 ?_
    |refine Ck ?_
    |(refine zhZ _ _ ?_;simp only [go_sem,hc,hcar];(all_goals (rw [hcc];rfl)))
    |refine Bq fun zN zM zhN zhM=>?_
    |(refine Bz ?_ ?_;focus (first|rfl|(simp [go_sem,hc,hcar];done)))
    |(refine Bj ?_ ?_;focus (first|rfl|(simp [go_sem,hc,hcar];done)))
 · have hc:¬((j:Nat):Int)<3:=by omega
   have hj3:j=3:=by omega
   subst hj3
   obtain ⟨qa,qb,qc,qd,qe⟩:=q
   have hcc:P5.carried ⟨a,b,c,d,e⟩=P5.car ⟨qa,qb,qc,qd,qe⟩:=by rw [←hq];rfl
   rw [P5.car,if_neg hcar] at hcc
   simp only [P5.f1,P5.f2,P5.f3,P5.f4,P5.f5,s0c,r0d] at hcar hcc
   simp only [hq,P5.ls]
   iterate 118 first
    |(refine Dj (x:=.seq (.region 15 _ _) _) [6,37,38,39,40,41,42,43,44,45,46,47,48,49,50,51,52,53,54] ?_;simp only [go_sem,St.forget,fgt];refine Hw fun zN zM zhN zhM=>?_)
    |refine Hw fun zN zM zhN zhM=>?_
    |refine zhK _ ?_
    |(refine Dz fun zK zhK=>?_;simp only [go_sem,hc,hcar];(repeat' (first|apply And.intro|intro _)))
    |(refine zhN _ ?_;clear zhN zhM)
    |(refine Cv fun zK zhK=>?_;simp only [go_sem,hc,hcar];(repeat' (first|apply And.intro|intro _)))
    |refine Cx fun zB zbn zbx zbr zbi=>?_
    |refine Cq ?_
    |(refine zhM _ _ ?_;clear zhN zhM)
    |(refine d0c (id:=17) [39,40,41,42,43,44,45,46,47,48] [0,1,3,7,0,16,48,112,255,511,1023] [] mixed (by kernel_rfl) (by simp only [go_sem]) fun zK zhK=>?_;simp only [go_sem,hc,hcar];(repeat' (first|apply And.intro|intro _)))
    |refine zhK _ _ trivial ?_
    |(refine zbn _ ?_;clear zbn zbx zbr zbi)
    |refine Fx ?_
    |(refine zbx _ ?_;clear zbn zbx zbr zbi)
    |refine Fw (x:=.seq (.region 15 _ _) _) 5 ?_
    |refine Ck ?_
    |(refine zhZ _ _ ?_;simp only [go_sem,hc,hcar];(all_goals (rw [hcc];rfl)))
    |refine Bq fun zN zM zhN zhM=>?_
    |(refine Bz ?_ ?_;focus (first|rfl|(simp [go_sem,hc,hcar];done)))
    |(refine Bj ?_ ?_;focus (first|rfl|(simp [go_sem,hc,hcar];done)))
end Go.Sy
