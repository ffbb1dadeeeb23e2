/- Walks and what they compute. CONDITIONS: those that each theorem names. -/
import Derived.Test.YtlmbdhfkdhjcfaaDoorvS9
import Derived.Test.YtlmbdhfkdhjcfaaDoorvE3
import Derived.Test.YtlmbdhfkdhjcfaaDoorvS10
set_option linter.unusedVariables false
set_option linter.unusedSimpArgs false
set_option maxHeartbeats 3200000
set_option maxRecDepth 100000
namespace Go.Sy
namespace Bk
open Go.Proofs
attribute [local irreducible] Dv HT Cz Px onC onE onO onG goV goA goS Qx Dw
end Bk
end Go.Sy
namespace Go.Sy
namespace Bk
open Go.Proofs
attribute [local irreducible] Dv HT Cz Px onC onE onO onG goV goA goS Qx Dw
end Bk
end Go.Sy
namespace Go.Sy
namespace Bk
open Go.Proofs
attribute [local irreducible] Dv HT Cz Px onC onE onO onG goV goA goS Qx Dw
theorem b2r (k b:List UInt8) (exk ex:Bool) (hk:k.length≤140737488351232) (hb:b.length≤140737488351232):CtM Tryd.prog 44 [.w (.one (.pl (.R exk 1 (Ej k)))),.w (.one (.pl (.R ex 1 (Ej b))))] [(1000003,⟨false,[.pl (.u32 1779033703),.pl (.u32 3144134277),.pl (.u32 1013904242),.pl (.u32 2773480762),.pl (.u32 1359893119),.pl (.u32 2600822924),.pl (.u32 528734635),.pl (.u32 1541459225)]⟩),(1000004,⟨false,i0r⟩)] (Told (fun v m=>v=.w (.agg (Az (f0k k b)))∧m=[])):=by
 by_cases h:64<k.length
 · exact m1a k b exk ex hk hb h
 · exact f1l k b exk ex hk hb h
theorem y0t (k b:List UInt8) (hk:k.length≤140737488351232) (hb:b.length≤140737488351232):CtM Tryd.prog 36 [.w (.one (.pl (.str k))),.w (.one (.pl (.str b)))] [(1000002,⟨false,[.pl (.u32 1779033703),.pl (.u32 3144134277),.pl (.u32 1013904242),.pl (.u32 2773480762),.pl (.u32 1359893119),.pl (.u32 2600822924),.pl (.u32 528734635),.pl (.u32 1541459225)]⟩)] (Told (fun v m=>v=.w (.agg (Az (f0k k b)))∧m=[])):=by
 by_cases h:64<k.length
 · exact a1t k b hk hb h
 · exact v0f k b hk hb h
end Bk
end Go.Sy
namespace Go.Sy
namespace Bk
open Go.Proofs
attribute [local irreducible] Dv HT Cz Px onC onE onO onG goV goA goS Qx Dw
def key1 (c b:List UInt8):List UInt8:=f0k (f0k c b) [1]
def key2 (c b:List UInt8):List UInt8:=f0k (f0k c b) (key1 c b++[2])
def t1q (c b:List UInt8):List UInt8:=f0k (f0k c b) (key2 c b++[3])
theorem Mq (c b:List UInt8):(key1 c b).length=32:=Xq _ _
theorem Mv (c b:List UInt8):(key2 c b).length=32:=Xq _ _
theorem b0n (c b:List UInt8):(t1q c b).length=32:=Xq _ _
theorem x1a (c b:List UInt8) (hc:c.length=32) (hb:b.length≤140737488351232) (ex:Bool):
 CtM Tryd.prog 27 [.w (.agg (Az c)),.w (.one (.pl (.R ex 1 (Ej b))))] [(1000003,⟨false,[.pl (.u32 1779033703),.pl (.u32 3144134277),.pl (.u32 1013904242),.pl (.u32 2773480762),.pl (.u32 1359893119),.pl (.u32 2600822924),.pl (.u32 528734635),.pl (.u32 1541459225)]⟩),(1000004,⟨false,i0r⟩)] (Told (fun v m=>v=.w (.agg (Az (key1 c b)++(Az (key2 c b)++Az (t1q c b))))∧m=[])):=by
 obtain ⟨t,ht⟩: ∃ t,f0k c b=t:=⟨_,rfl⟩
 obtain ⟨k1,hk1⟩: ∃ k,key1 c b=k:=⟨_,rfl⟩
 obtain ⟨k2,hk2⟩: ∃ k,key2 c b=k:=⟨_,rfl⟩
 obtain ⟨k3,hk3⟩: ∃ k,t1q c b=k:=⟨_,rfl⟩
 have e1:f0k t (([]:List UInt8)++[1])=k1:=by rw [←ht,←hk1];rfl
 have e2:f0k t (k1++[2])=k2:=by rw [←ht,←hk1,←hk2];rfl
 have e3:f0k t (k2++[3])=k3:=by rw [←ht,←hk2,←hk3];rfl
 have htl:t.length=32:=by rw [←ht];exact Xq _ _
 have hl1:k1.length=32:=by rw [←hk1];exact Mq _ _
 have hl2:k2.length=32:=by rw [←hk2];exact Mv _ _
 have hl3:k3.length=32:=by rw [←hk3];exact b0n _ _
 have hM0:=b2r c b false ex (by omega) hb
 rw [ht] at hM0
 have hC1:CtM Tryd.prog 45 _ [] (Told (ownB (([]:List UInt8)++[1]))):=Jq true false ([]:List UInt8) [1]▸w1m [(true,([]:List UInt8)),(false,[1])] false (by rw [Jq];simp) (by rw [Jq,List.length_append];simp) (by simp)
 have hM1:=b2r t (([]:List UInt8)++[1]) false false (by omega) (by simp)
 rw [e1] at hM1
 obtain ⟨z1,hz1⟩: ∃ z,([]:List UInt8)++[(1:UInt8)]=z:=⟨_,rfl⟩
 have hzl1:z1.length=1:=by rw [←hz1];simp
 rw [hz1] at hM1 hC1
 have hC2:CtM Tryd.prog 45 _ [] (Told (ownB (k1++[2]))):=Jq false false k1 [2]▸w1m [(false,k1),(false,[2])] false (by rw [Jq];simp) (by rw [Jq,List.length_append];simp [hl1]) (by simp)
 have hM2:=b2r t (k1++[2]) false false (by omega) (by simp [hl1])
 rw [e2] at hM2
 obtain ⟨z2,hz2⟩: ∃ z,k1++[(2:UInt8)]=z:=⟨_,rfl⟩
 have hzl2:z2.length=33:=by rw [←hz2];simp [hl1]
 rw [hz2] at hM2 hC2
 have hC3:CtM Tryd.prog 45 _ [] (Told (ownB (k2++[3]))):=Jq false false k2 [3]▸w1m [(false,k2),(false,[3])] false (by rw [Jq];simp) (by rw [Jq,List.length_append];simp [hl2]) (by simp)
 have hM3:=b2r t (k2++[3]) false false (by omega) (by simp [hl2])
 rw [e3] at hM3
 obtain ⟨z3,hz3⟩: ∃ z,k2++[(3:UInt8)]=z:=⟨_,rfl⟩
 have hzl3:z3.length=33:=by rw [←hz3];simp [hl2]
 rw [hz3] at hM3 hC3
 have hu:UInt8.ofNat ((1:Int)%256).toNat=1∧UInt8.ofNat ((2:Int)%256).toNat=2∧UInt8.ofNat ((3:Int)%256).toNat=3:=⟨rfl,rfl,rfl⟩
 have hbz:Az [1]=[L.pl (.u8 1)]∧Ej [1]=[[PL.u8 1]]∧Ej [2]=[[PL.u8 2]]∧Ej [3]=[[PL.u8 3]]:=⟨rfl,rfl,rfl,rfl⟩
 have F0:=And.intro hc<|And.intro htl<|And.intro hl1<|And.intro hl2<|And.intro hl3<|And.intro hzl1<|And.intro hzl2<|And.intro hzl3<|And.intro hu<|hbz
 refine CtM.k Tryd.func27 rfl Tryd.ntmps27 (congrArg Array.toList Tryd.results27) (by simp) fun w0 ro may fx=>?_
 refine Dj fun zZ zhZ=>?_
 iterate 26 first
  |refine Fq fun zN zM zhN zhM=>?_
  |(refine Cx fun zK zhK=>?_;simp only [go_sem,nest,List.drop_replicate,List.take_replicate,Nat.zero_min,Nat.min_self,List.replicate_zero,F0];(repeat' (first|apply And.intro|intro _)))
  |refine zhK _ ?_
  |refine Aj fun zB zbn zbx zbr zbi=>?_
  |refine Fx (x:=.seq (.region 5 _ _) _) 4 ?_
  |refine Cw ?_
  |(refine zhN _ ?_;clear zhN zhM)
  |((all_goals (refine Bq true [] (fun k=>k) (fun _ _=>rfl) ?_ (by decide) ?_ hM0.told ?_;iterate 2 (focus (first|rfl|(simp only [go_sem,nest,List.drop_replicate,List.take_replicate,Nat.zero_min,Nat.min_self,List.replicate_zero,F0]<;>first|done|rfl|simp)))));(all_goals (rintro v m ⟨hR,hm⟩;subst hR;subst hm));(all_goals (refine And.intro ?_ (And.intro ?_ (And.intro ?_ ?_));iterate 3 (focus (first|rfl|(simp only [go_sem,nest,List.drop_replicate,List.take_replicate,Nat.zero_min,Nat.min_self,List.replicate_zero,F0];done)|(simp [go_sem,look,nest,List.drop_replicate,List.take_replicate,Nat.zero_min,Nat.min_self,List.replicate_zero,F0];done)))));(all_goals (try simp only [go_sem,nest,List.drop_replicate,List.take_replicate,Nat.zero_min,Nat.min_self,List.replicate_zero,F0]));(all_goals (try simp only [go_sem,nest,List.drop_replicate,List.take_replicate,Nat.zero_min,Nat.min_self,List.replicate_zero,F0]));(all_goals repeat' (first|apply And.intro|intro _)))
  |refine Bz fun zN zM zhN zhM=>?_
  |(refine Bv ?_ ?_;focus (first|rfl|(simp [go_sem,nest,List.drop_replicate,List.take_replicate,Nat.zero_min,Nat.min_self,List.replicate_zero,F0];done)))
 refine b0s (id:=7) mixed fun zE zhE=>?_
 refine Ck (p:=0) 10 [15,16,17,18,19,20,21,22,23,24] [0,0,0,0,8,24,56,124,252,510,1023,2047] [] rfl (by kernel_rfl) rfl (by simp only [go_sem]) fun zR zK zhR zhK=>?_
 simp only [go_sem,nest,List.drop_replicate,List.take_replicate,Nat.zero_min,Nat.min_self,List.replicate_zero,F0]
 repeat' (first|apply And.intro|intro _)
 all_goals (refine Tv rfl (fun _=>23) (.w (.one (.s 0 [] z1.length 1))) [(0,⟨true,Az z1⟩)] (fun _ _=>rfl) ?_ ?_ ?_ hC1.told ?_ ?_;(iterate 2 (focus (first|rfl|(simp only [go_sem,nest,List.drop_replicate,List.take_replicate,Nat.zero_min,Nat.min_self,List.replicate_zero,F0]<;>first|done|rfl|simp))));(first|kernel_rfl|rfl|simp [Qv,Qk,pls]))
 all_goals try (refine And.intro ?_ (And.intro ?_ (And.intro ?_ ?_))<;>(first|rfl|(simp only [go_sem,nest,List.drop_replicate,List.take_replicate,Nat.zero_min,Nat.min_self,List.replicate_zero,F0];done)|(simp [go_sem,look,nest,List.drop_replicate,List.take_replicate,Nat.zero_min,Nat.min_self,List.replicate_zero,F0];done)))
 all_goals (try simp only [go_sem,nest,List.drop_replicate,List.take_replicate,Nat.zero_min,Nat.min_self,List.replicate_zero,F0])
 all_goals (try simp only [go_sem,nest,List.drop_replicate,List.take_replicate,Nat.zero_min,Nat.min_self,List.replicate_zero,F0])
 all_goals repeat' (first|apply And.intro|intro _)
 all_goals (refine Bw (fun k=>k) (.w (.agg (Az k1))) [] (fun _ _=>rfl) ?_ ?_ ?_ hM1.told ?_ ?_;(iterate 2 (focus (first|rfl|(simp only [go_sem,nest,List.drop_replicate,List.take_replicate,Nat.zero_min,Nat.min_self,List.replicate_zero,F0]<;>first|done|rfl|simp))));(first|kernel_rfl|rfl|simp [Qv,Qk,pls]))
 all_goals try (refine And.intro ?_ (And.intro ?_ (And.intro ?_ ?_))<;>(first|rfl|(simp only [go_sem,nest,List.drop_replicate,List.take_replicate,Nat.zero_min,Nat.min_self,List.replicate_zero,F0];done)|(simp [go_sem,look,nest,List.drop_replicate,List.take_replicate,Nat.zero_min,Nat.min_self,List.replicate_zero,F0];done)))
 all_goals (try simp only [go_sem,nest,List.drop_replicate,List.take_replicate,Nat.zero_min,Nat.min_self,List.replicate_zero,F0])
 all_goals (try simp only [go_sem,nest,List.drop_replicate,List.take_replicate,Nat.zero_min,Nat.min_self,List.replicate_zero,F0])
 all_goals repeat' (first|apply And.intro|intro _)
 refine zhK _ _ trivial (zhR _ ?_)
 refine Dk 2 12 rfl (by kernel_rfl) rfl rfl fun zR zhR=>?_
 simp only [go_sem,nest,List.drop_replicate,List.take_replicate,Nat.zero_min,Nat.min_self,List.replicate_zero,F0]
 repeat' (first|apply And.intro|intro _)
 refine zhR _ ?_
 refine Jy rfl (zhE _ ?_)
 iterate 20 first
  |(refine Cv (x:=.seq (.region 5 _ _) _) [8,13,14,15,16,17,18,19,20,21,22,23,24,25,26,27,28,29] ?_;simp only [go_sem,St.forget,fgt];refine Fq fun zN zM zhN zhM=>?_)
  |(refine zhN _ ?_;clear zhN zhM)
  |refine zhK _ ?_
  |(refine Av fun zK zhK=>?_;simp only [go_sem,nest,List.drop_replicate,List.take_replicate,Nat.zero_min,Nat.min_self,List.replicate_zero,F0];(repeat' (first|apply And.intro|intro _)))
  |(refine Cx fun zK zhK=>?_;simp only [go_sem,nest,List.drop_replicate,List.take_replicate,Nat.zero_min,Nat.min_self,List.replicate_zero,F0];(repeat' (first|apply And.intro|intro _)))
  |(refine zbn _ ?_;clear zbn zbx zbr zbi)
  |refine Cw ?_
  |refine Aj fun zB zbn zbx zbr zbi=>?_
  |refine Bz fun zN zM zhN zhM=>?_
  |(refine Bv ?_ ?_;focus (first|rfl|(simp [go_sem,nest,List.drop_replicate,List.take_replicate,Nat.zero_min,Nat.min_self,List.replicate_zero,F0];done)))
 refine b0s (id:=7) mixed fun zE zhE=>?_
 refine Ck (p:=0) 10 [15,16,17,18,19,20,21,22,23,24] [0,0,0,0,8,24,56,124,252,510,1023,2047] [] rfl (by kernel_rfl) rfl (by simp only [go_sem]) fun zR zK zhR zhK=>?_
 simp only [go_sem,nest,List.drop_replicate,List.take_replicate,Nat.zero_min,Nat.min_self,List.replicate_zero,F0]
 repeat' (first|apply And.intro|intro _)
 all_goals (refine Tv rfl (fun _=>23) (.w (.one (.s 0 [] z2.length 1))) [(0,⟨true,Az z2⟩)] (fun _ _=>rfl) ?_ ?_ ?_ hC2.told ?_ ?_;(iterate 2 (focus (first|rfl|(simp only [go_sem,nest,List.drop_replicate,List.take_replicate,Nat.zero_min,Nat.min_self,List.replicate_zero,F0]<;>first|done|rfl|simp))));(first|kernel_rfl|rfl|simp [Qv,Qk,pls]))
 all_goals try (refine And.intro ?_ (And.intro ?_ (And.intro ?_ ?_))<;>(first|rfl|(simp only [go_sem,nest,List.drop_replicate,List.take_replicate,Nat.zero_min,Nat.min_self,List.replicate_zero,F0];done)|(simp [go_sem,look,nest,List.drop_replicate,List.take_replicate,Nat.zero_min,Nat.min_self,List.replicate_zero,F0];done)))
 all_goals (try simp only [go_sem,nest,List.drop_replicate,List.take_replicate,Nat.zero_min,Nat.min_self,List.replicate_zero,F0])
 all_goals (try simp only [go_sem,nest,List.drop_replicate,List.take_replicate,Nat.zero_min,Nat.min_self,List.replicate_zero,F0])
 all_goals repeat' (first|apply And.intro|intro _)
 all_goals (refine Bw (fun k=>k) (.w (.agg (Az k2))) [] (fun _ _=>rfl) ?_ ?_ ?_ hM2.told ?_ ?_;(iterate 2 (focus (first|rfl|(simp only [go_sem,nest,List.drop_replicate,List.take_replicate,Nat.zero_min,Nat.min_self,List.replicate_zero,F0]<;>first|done|rfl|simp))));(first|kernel_rfl|rfl|simp [Qv,Qk,pls]))
 all_goals try (refine And.intro ?_ (And.intro ?_ (And.intro ?_ ?_))<;>(first|rfl|(simp only [go_sem,nest,List.drop_replicate,List.take_replicate,Nat.zero_min,Nat.min_self,List.replicate_zero,F0];done)|(simp [go_sem,look,nest,List.drop_replicate,List.take_replicate,Nat.zero_min,Nat.min_self,List.replicate_zero,F0];done)))
 all_goals (try simp only [go_sem,nest,List.drop_replicate,List.take_replicate,Nat.zero_min,Nat.min_self,List.replicate_zero,F0])
 all_goals (try simp only [go_sem,nest,List.drop_replicate,List.take_replicate,Nat.zero_min,Nat.min_self,List.replicate_zero,F0])
 all_goals repeat' (first|apply And.intro|intro _)
 refine zhK _ _ trivial (zhR _ ?_)
 refine Dk 2 12 rfl (by kernel_rfl) rfl rfl fun zR zhR=>?_
 simp only [go_sem,nest,List.drop_replicate,List.take_replicate,Nat.zero_min,Nat.min_self,List.replicate_zero,F0]
 repeat' (first|apply And.intro|intro _)
 refine zhR _ ?_
 refine Jy rfl (zhE _ ?_)
 iterate 20 first
  |(refine Cv (x:=.seq (.region 5 _ _) _) [8,13,14,15,16,17,18,19,20,21,22,23,24,25,26,27,28,29] ?_;simp only [go_sem,St.forget,fgt];refine Fq fun zN zM zhN zhM=>?_)
  |(refine zhN _ ?_;clear zhN zhM)
  |refine zhK _ ?_
  |(refine Av fun zK zhK=>?_;simp only [go_sem,nest,List.drop_replicate,List.take_replicate,Nat.zero_min,Nat.min_self,List.replicate_zero,F0];(repeat' (first|apply And.intro|intro _)))
  |(refine Cx fun zK zhK=>?_;simp only [go_sem,nest,List.drop_replicate,List.take_replicate,Nat.zero_min,Nat.min_self,List.replicate_zero,F0];(repeat' (first|apply And.intro|intro _)))
  |(refine zbn _ ?_;clear zbn zbx zbr zbi)
  |refine Cw ?_
  |refine Aj fun zB zbn zbx zbr zbi=>?_
  |refine Bz fun zN zM zhN zhM=>?_
  |(refine Bv ?_ ?_;focus (first|rfl|(simp [go_sem,nest,List.drop_replicate,List.take_replicate,Nat.zero_min,Nat.min_self,List.replicate_zero,F0];done)))
 refine b0s (id:=7) mixed fun zE zhE=>?_
 refine Ck (p:=0) 10 [15,16,17,18,19,20,21,22,23,24] [0,0,0,0,8,24,56,124,252,510,1023,2047] [] rfl (by kernel_rfl) rfl (by simp only [go_sem]) fun zR zK zhR zhK=>?_
 simp only [go_sem,nest,List.drop_replicate,List.take_replicate,Nat.zero_min,Nat.min_self,List.replicate_zero,F0]
 repeat' (first|apply And.intro|intro _)
 all_goals (refine Tv rfl (fun _=>23) (.w (.one (.s 0 [] z3.length 1))) [(0,⟨true,Az z3⟩)] (fun _ _=>rfl) ?_ ?_ ?_ hC3.told ?_ ?_;(iterate 2 (focus (first|rfl|(simp only [go_sem,nest,List.drop_replicate,List.take_replicate,Nat.zero_min,Nat.min_self,List.replicate_zero,F0]<;>first|done|rfl|simp))));(first|kernel_rfl|rfl|simp [Qv,Qk,pls]))
 all_goals try (refine And.intro ?_ (And.intro ?_ (And.intro ?_ ?_))<;>(first|rfl|(simp only [go_sem,nest,List.drop_replicate,List.take_replicate,Nat.zero_min,Nat.min_self,List.replicate_zero,F0];done)|(simp [go_sem,look,nest,List.drop_replicate,List.take_replicate,Nat.zero_min,Nat.min_self,List.replicate_zero,F0];done)))
 all_goals (try simp only [go_sem,nest,List.drop_replicate,List.take_replicate,Nat.zero_min,Nat.min_self,List.replicate_zero,F0])
 all_goals (try simp only [go_sem,nest,List.drop_replicate,List.take_replicate,Nat.zero_min,Nat.min_self,List.replicate_zero,F0])
 all_goals repeat' (first|apply And.intro|intro _)
 all_goals (refine Bw (fun k=>k) (.w (.agg (Az k3))) [] (fun _ _=>rfl) ?_ ?_ ?_ hM3.told ?_ ?_;(iterate 2 (focus (first|rfl|(simp only [go_sem,nest,List.drop_replicate,List.take_replicate,Nat.zero_min,Nat.min_self,List.replicate_zero,F0]<;>first|done|rfl|simp))));(first|kernel_rfl|rfl|simp [Qv,Qk,pls]))
 all_goals try (refine And.intro ?_ (And.intro ?_ (And.intro ?_ ?_))<;>(first|rfl|(simp only [go_sem,nest,List.drop_replicate,List.take_replicate,Nat.zero_min,Nat.min_self,List.replicate_zero,F0];done)|(simp [go_sem,look,nest,List.drop_replicate,List.take_replicate,Nat.zero_min,Nat.min_self,List.replicate_zero,F0];done)))
 all_goals (try simp only [go_sem,nest,List.drop_replicate,List.take_replicate,Nat.zero_min,Nat.min_self,List.replicate_zero,F0])
 all_goals (try simp only [go_sem,nest,List.drop_replicate,List.take_replicate,Nat.zero_min,Nat.min_self,List.replicate_zero,F0])
 all_goals repeat' (first|apply And.intro|intro _)
 refine zhK _ _ trivial (zhR _ ?_)
 refine Dk 2 12 rfl (by kernel_rfl) rfl rfl fun zR zhR=>?_
 simp only [go_sem,nest,List.drop_replicate,List.take_replicate,Nat.zero_min,Nat.min_self,List.replicate_zero,F0]
 repeat' (first|apply And.intro|intro _)
 refine zhR _ ?_
 refine Jy rfl (zhE _ ?_)
 iterate 22 first
  |(refine Cv (x:=.seq (.region 5 _ _) _) [8,13,14,15,16,17,18,19,20,21,22,23,24,25,26,27,28,29] ?_;simp only [go_sem,St.forget,fgt];refine Fq fun zN zM zhN zhM=>?_)
  |(refine zhN _ ?_;clear zhN zhM)
  |refine zhK _ ?_
  |(refine Av fun zK zhK=>?_;simp only [go_sem,nest,List.drop_replicate,List.take_replicate,Nat.zero_min,Nat.min_self,List.replicate_zero,F0];(repeat' (first|apply And.intro|intro _)))
  |(refine Cx fun zK zhK=>?_;simp only [go_sem,nest,List.drop_replicate,List.take_replicate,Nat.zero_min,Nat.min_self,List.replicate_zero,F0];(repeat' (first|apply And.intro|intro _)))
  |(refine zhM _ _ ?_;clear zhN zhM)
  |(refine zbn _ ?_;clear zbn zbx zbr zbi)
  |refine Ey ?_
  |(refine zbx _ ?_;clear zbn zbx zbr zbi)
  |refine Dx ?_
  |(refine zhZ _ _ ?_;simp only [go_sem,nest,List.drop_replicate,List.take_replicate,Nat.zero_min,Nat.min_self,List.replicate_zero,F0];(all_goals (rw [hk1,hk2,hk3];exact told_plain (by simp [Fj,Hz,Az]) ⟨by simp,rfl⟩)))
  |refine Bz fun zN zM zhN zhM=>?_
  |(refine Cy ?_ ?_;focus (first|rfl|(simp [go_sem,nest,List.drop_replicate,List.take_replicate,Nat.zero_min,Nat.min_self,List.replicate_zero,F0];done)))
end Bk
end Go.Sy
namespace Go.Sy
namespace Bk
open Go.Proofs
attribute [local irreducible] Dv HT Cz Px onC onE onO onG goV goA goS Qx Dw
theorem two_ (c b:List UInt8) (hc:c.length=32) (hb:b.length≤140737488351232) (ex:Bool):
 CtM Tryd.prog 17 [.w (.agg (Az c)),.w (.one (.pl (.R ex 1 (Ej b))))] [(1000003,⟨false,[.pl (.u32 1779033703),.pl (.u32 3144134277),.pl (.u32 1013904242),.pl (.u32 2773480762),.pl (.u32 1359893119),.pl (.u32 2600822924),.pl (.u32 528734635),.pl (.u32 1541459225)]⟩),(1000004,⟨false,i0r⟩)] (Told (fun v m=>v=.w (.agg (Az (key1 c b)++Az (key2 c b)))∧m=[])):=by
 have hT:=x1a c b hc hb ex
 have hl1:=Mq c b
 have hl2:=Mv c b
 have hl3:=b0n c b
 obtain ⟨k1,hk1⟩: ∃ k,key1 c b=k:=⟨_,rfl⟩
 obtain ⟨k2,hk2⟩: ∃ k,key2 c b=k:=⟨_,rfl⟩
 obtain ⟨k3,hk3⟩: ∃ k,t1q c b=k:=⟨_,rfl⟩
 rw [hk1] at hl1 hT
 rw [hk2] at hl2 hT
 rw [hk3] at hl3 hT
 have F0:=And.intro hc<|And.intro hl1<|And.intro hl2<|hl3
 refine CtM.k Tryd.func17 rfl Tryd.ntmps17 (congrArg Array.toList Tryd.results17) (by simp) fun w0 ro may fx=>?_
 refine Dj fun zZ zhZ=>?_
 iterate 9 first
  |(refine Cx fun zK zhK=>?_;simp only [go_sem,F0];(repeat' (first|apply And.intro|intro _)))
  |refine zhK _ ?_
  |refine Dx ?_
  |(refine zhZ _ _ ?_;simp only [go_sem,F0];(all_goals (rw [hk1,hk2];exact told_plain (by simp [Fj,Hz,Az]) ⟨by simp,rfl⟩)))
  |((all_goals (refine Bq false [] (fun k=>k) (fun _ _=>rfl) ?_ (by decide) ?_ hT.told ?_;iterate 2 (focus (first|rfl|(simp only [go_sem,F0]<;>first|done|rfl|simp)))));(all_goals (rintro v m ⟨hR,hm⟩;subst hR;subst hm));(all_goals (refine And.intro ?_ (And.intro ?_ (And.intro ?_ ?_));iterate 3 (focus (first|rfl|(simp only [go_sem,F0];done)|(simp [go_sem,look,F0];done)))));(all_goals (try simp only [go_sem,F0]));(all_goals (try simp only [go_sem,F0]));(all_goals repeat' (first|apply And.intro|intro _)))
theorem t1o (c b:List UInt8) (hc:c.length=32) (hb:b.length≤140737488351232):
 CtM Tryd.prog 19 [.w (.agg (Az c)),.w (.one (.pl (.str b)))] [(1000002,⟨false,[.pl (.u32 1779033703),.pl (.u32 3144134277),.pl (.u32 1013904242),.pl (.u32 2773480762),.pl (.u32 1359893119),.pl (.u32 2600822924),.pl (.u32 528734635),.pl (.u32 1541459225)]⟩)] (Told (fun v m=>v=.w (.agg (Az (key1 c b)++(Az (key2 c b)++Az (t1q c b))))∧m=[])):=by
 obtain ⟨t,ht⟩: ∃ t,f0k c b=t:=⟨_,rfl⟩
 obtain ⟨k1,hk1⟩: ∃ k,key1 c b=k:=⟨_,rfl⟩
 obtain ⟨k2,hk2⟩: ∃ k,key2 c b=k:=⟨_,rfl⟩
 obtain ⟨k3,hk3⟩: ∃ k,t1q c b=k:=⟨_,rfl⟩
 have e1:f0k t (([]:List UInt8)++[1])=k1:=by rw [←ht,←hk1];rfl
 have e2:f0k t (k1++[2])=k2:=by rw [←ht,←hk1,←hk2];rfl
 have e3:f0k t (k2++[3])=k3:=by rw [←ht,←hk2,←hk3];rfl
 have htl:t.length=32:=by rw [←ht];exact Xq _ _
 have hl1:k1.length=32:=by rw [←hk1];exact Mq _ _
 have hl2:k2.length=32:=by rw [←hk2];exact Mv _ _
 have hl3:k3.length=32:=by rw [←hk3];exact b0n _ _
 have hM0:=y0t c b (by omega) hb
 rw [ht] at hM0
 have hT1:=u0q c hc
 have hT2:=u0q t htl
 have hM1:=y0t t [1] (by omega) (by simp)
 have e1':f0k t [1]=k1:=e1
 rw [e1'] at hM1
 have hT3:=u0q k1 hl1
 have hM2:=y0t t (k1++[2]) (by omega) (by simp [hl1])
 rw [e2] at hM2
 have hT4:=u0q k2 hl2
 have hM3:=y0t t (k2++[3]) (by omega) (by simp [hl2])
 rw [e3] at hM3
 have F0:=And.intro hc<|And.intro htl<|And.intro hl1<|And.intro hl2<|hl3
 refine CtM.k Tryd.func19 rfl Tryd.ntmps19 (congrArg Array.toList Tryd.results19) (by simp) fun w0 ro may fx=>?_
 refine Dj fun zZ zhZ=>?_
 refine Cx fun zK zhK=>?_
 simp only [go_sem,F0]
 repeat' (first|apply And.intro|intro _)
 refine zhK _ ?_
 refine Cx fun zK zhK=>?_
 simp only [go_sem,F0]
 repeat' (first|apply And.intro|intro _)
 all_goals (refine Cq (fun k=>k) (fun _ _=>rfl) ?_ (hT1.plain fun _ _ h=>h) ?_;focus (first|rfl|(simp only [go_sem,F0]<;>rfl)))
 all_goals (rintro v m ⟨hR,hm⟩;subst hR;subst hm)
 all_goals refine And.intro (by first|rfl|simp only [go_sem,F0]) (And.intro (by first|rfl|simp only [go_sem,F0]) ?_)
 all_goals simp only [go_sem,F0]
 all_goals repeat' (first|apply And.intro|intro _)
 all_goals (refine Bq false [] (fun k=>k) (fun _ _=>rfl) ?_ (by decide) ?_ hM0.told ?_;iterate 2 (focus (first|rfl|(simp only [go_sem,F0]<;>first|done|rfl|simp))))
 all_goals (rintro v m ⟨hR,hm⟩;subst hR;subst hm)
 all_goals (refine And.intro ?_ (And.intro ?_ (And.intro ?_ ?_));iterate 3 (focus (first|rfl|(simp only [go_sem,F0];done)|(simp [go_sem,look,F0];done))))
 all_goals (try simp only [go_sem,F0])
 all_goals (try simp only [go_sem,F0])
 all_goals repeat' (first|apply And.intro|intro _)
 all_goals (refine Cq (fun k=>k) (fun _ _=>rfl) ?_ (hT2.plain fun _ _ h=>h) ?_;focus (first|rfl|(simp only [go_sem,F0]<;>rfl)))
 all_goals (rintro v m ⟨hR,hm⟩;subst hR;subst hm)
 all_goals refine And.intro (by first|rfl|simp only [go_sem,F0]) (And.intro (by first|rfl|simp only [go_sem,F0]) ?_)
 all_goals simp only [go_sem,F0]
 all_goals repeat' (first|apply And.intro|intro _)
 refine zhK _ ?_
 refine Cx fun zK zhK=>?_
 simp only [go_sem,F0]
 repeat' (first|apply And.intro|intro _)
 all_goals (refine Bq false [] (fun k=>k) (fun _ _=>rfl) ?_ (by decide) ?_ hM1.told ?_;iterate 2 (focus (first|rfl|(simp only [go_sem,F0]<;>first|done|rfl|simp))))
 all_goals (rintro v m ⟨hR,hm⟩;subst hR;subst hm)
 all_goals (refine And.intro ?_ (And.intro ?_ (And.intro ?_ ?_));iterate 3 (focus (first|rfl|(simp only [go_sem,F0];done)|(simp [go_sem,look,F0];done))))
 all_goals (try simp only [go_sem,F0])
 all_goals (try simp only [go_sem,F0])
 all_goals repeat' (first|apply And.intro|intro _)
 refine zhK _ ?_
 refine Cx fun zK zhK=>?_
 simp only [go_sem,F0]
 repeat' (first|apply And.intro|intro _)
 all_goals (refine Cq (fun k=>k) (fun _ _=>rfl) ?_ (hT3.plain fun _ _ h=>h) ?_;focus (first|rfl|(simp only [go_sem,F0]<;>rfl)))
 all_goals (rintro v m ⟨hR,hm⟩;subst hR;subst hm)
 all_goals refine And.intro (by first|rfl|simp only [go_sem,F0]) (And.intro (by first|rfl|simp only [go_sem,F0]) ?_)
 all_goals simp only [go_sem,F0]
 all_goals repeat' (first|apply And.intro|intro _)
 all_goals (refine Bq false [] (fun k=>k) (fun _ _=>rfl) ?_ (by decide) ?_ hM2.told ?_;iterate 2 (focus (first|rfl|(simp only [go_sem,F0]<;>first|done|rfl|simp))))
 all_goals (rintro v m ⟨hR,hm⟩;subst hR;subst hm)
 all_goals (refine And.intro ?_ (And.intro ?_ (And.intro ?_ ?_));iterate 3 (focus (first|rfl|(simp only [go_sem,F0];done)|(simp [go_sem,look,F0];done))))
 all_goals (try simp only [go_sem,F0])
 all_goals (try simp only [go_sem,F0])
 all_goals repeat' (first|apply And.intro|intro _)
 refine zhK _ ?_
 refine Bz fun zN zM zhN zhM=>?_
 refine b0s (id:=4) mixed fun zE zhE=>?_
 refine Ck (p:=0) 7 [20,21,22,23,24,25,26] [0,0,0,0,8,24,60,127,255] [] rfl (by kernel_rfl) rfl (by simp only [go_sem]) fun zR zK zhR zhK=>?_
 simp only [go_sem,F0]
 repeat' (first|apply And.intro|intro _)
 all_goals (refine Jj (fun k=>k) (.w (.one (.pl (.str k2)))) [] (fun _ _=>rfl) ?_ (hT4.plain fun _ _ h=>h) ?_ ?_;focus (first|rfl|(simp only [go_sem,F0]<;>rfl)))
 all_goals try (refine And.intro ?_ (And.intro ?_ (And.intro ?_ ?_))<;>first|rfl|simp only [go_sem])
 all_goals simp only [go_sem,F0]
 all_goals repeat' (first|apply And.intro|intro _)
 all_goals (refine Bw (fun k=>k) (.w (.agg (Az k3))) [] (fun _ _=>rfl) ?_ ?_ ?_ hM3.told ?_ ?_;(iterate 2 (focus (first|rfl|(simp only [go_sem,F0]<;>first|done|rfl|simp))));(first|kernel_rfl|rfl|simp [Qv,Qk,pls]))
 all_goals try (refine And.intro ?_ (And.intro ?_ (And.intro ?_ ?_))<;>(first|rfl|(simp only [go_sem,F0];done)|(simp [go_sem,look,F0];done)))
 all_goals (try simp only [go_sem,F0])
 all_goals (try simp only [go_sem,F0])
 all_goals repeat' (first|apply And.intro|intro _)
 refine zhK _ _ trivial (zhR _ ?_)
 refine Dk 2 9 rfl (by kernel_rfl) rfl rfl fun zR zhR=>?_
 simp only [go_sem,F0]
 repeat' (first|apply And.intro|intro _)
 refine zhR _ ?_
 refine Jy rfl (zhE _ ?_)
 refine zhN _ ?_;clear zhN zhM
 refine Dx ?_
 refine zhZ _ _ ?_
 simp only [go_sem,F0]
 all_goals (rw [hk1,hk2,hk3];exact told_plain (by simp [Fj,Hz,Az]) ⟨by simp,rfl⟩)
end Bk
end Go.Sy
