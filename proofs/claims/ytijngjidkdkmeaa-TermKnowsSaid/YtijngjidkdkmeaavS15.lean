/- Walks and what they compute. CONDITIONS: those that each theorem names. -/
import Derived.Test.YtijngjidkdkmeaavS14
import Derived.Test.YtijngjidkdkmeaavE7
set_option linter.unusedVariables false
set_option linter.unusedSimpArgs false
set_option maxHeartbeats 1600000
set_option maxRecDepth 100000
namespace Go.Sy
open Go.Proofs
attribute [local irreducible] Ey HT Bq Tk onC onE onO onG goV goA goS Wv Fx
theorem k0a {a b s:List UInt8} (h:a++b=s) (hl:a.length+b.length≤9223372036854775807):Mj Try.prog .add 9 (.w (.one (.pl (.str a)))) (.w (.one (.pl (.str b))))=some (.w (.one (.pl (.str s)))):=by rw [←h];exact d0t Try.prog 9 a b hl
theorem r0l (k i o:Nat) (l:List Aw):Cw (.mk k i o l)=[40]++a0u k++[46]++a0u i++[46]++a0u o++c0y l++[41]:=by rw [Cw];rfl
theorem f1h :c0y []=[]:=by rw [c0y]
theorem o0u (a:Aw) (l:List Aw):c0y (a::l)=Cw a++c0y l:=by rw [c0y]
theorem u1d (k i o:Nat) (l:List Aw) (hk:k≤9223372036854775807) (hi:i≤9223372036854775807) (ho:o≤9223372036854775807) (hl:l.length≤9223372036854775807) (hz:(Cw (.mk k i o l)).length≤100000000) (ih: ∀ a,a∈l→Ct Try.prog 17 [Pv a] (fun v m=>v=.w (.one (.pl (.str (Cw a)))))):
 Ct Try.prog 17 [Fy k i o l] (fun v m=>v=.w (.one (.pl (.str (Cw (.mk k i o l)))))):=by
 have ck:=t1v k hk
 have ci:=t1v i hi
 have co:=t1v o ho
 have hzl:=hz
 rw [r0l] at hzl
 simp only [List.length_append,List.length_cons,List.length_nil] at hzl
 obtain ⟨s1,h1⟩: ∃ s,[40]++a0u k=s:=⟨_,rfl⟩
 have e1:=congrArg List.length h1
 simp only [List.length_append,List.length_cons,List.length_nil] at e1
 have c1:=k0a (a:=[40]) (b:=a0u k) h1 (by (try simp only [List.length_cons,List.length_nil]);omega)
 obtain ⟨s2,h2⟩: ∃ s,s1++[46]=s:=⟨_,rfl⟩
 have e2:=congrArg List.length h2
 simp only [List.length_append,List.length_cons,List.length_nil] at e2
 have c2:=k0a (a:=s1) (b:=[46]) h2 (by (try simp only [List.length_cons,List.length_nil]);omega)
 obtain ⟨s3,h3⟩: ∃ s,s2++a0u i=s:=⟨_,rfl⟩
 have e3:=congrArg List.length h3
 simp only [List.length_append,List.length_cons,List.length_nil] at e3
 have c3:=k0a (a:=s2) (b:=a0u i) h3 (by (try simp only [List.length_cons,List.length_nil]);omega)
 obtain ⟨s4,h4⟩: ∃ s,s3++[46]=s:=⟨_,rfl⟩
 have e4:=congrArg List.length h4
 simp only [List.length_append,List.length_cons,List.length_nil] at e4
 have c4:=k0a (a:=s3) (b:=[46]) h4 (by (try simp only [List.length_cons,List.length_nil]);omega)
 obtain ⟨s5,h5⟩: ∃ s,s4++a0u o=s:=⟨_,rfl⟩
 have e5:=congrArg List.length h5
 simp only [List.length_append,List.length_cons,List.length_nil] at e5
 have c5:=k0a (a:=s4) (b:=a0u o) h5 (by (try simp only [List.length_cons,List.length_nil]);omega)
 have hs5:Cw (.mk k i o l)=s5++c0y l++[41]:=by rw [r0l,←h5,←h4,←h3,←h2,←h1]
 have h5l:s5.length+(c0y l).length≤100000000:=by rw [hs5] at hz;simp only [List.length_append,List.length_cons,List.length_nil] at hz;omega
 have F0:=And.intro @Az<|And.intro c1<|And.intro c2<|And.intro c3<|And.intro c4<|c5
 refine Ct.k Try.func17 rfl Try.ntmps17 (congrArg Array.toList Try.results17) (by simp) fun w0 ro=>?_
 refine Ck fun zZ zhZ=>?_
 refine Dw fun zK zhK=>?_
 simp only [go_sem,F0]
 repeat' (first|apply And.intro|intro _)
 refine zhK _ ?_
 refine Bj fun zN zM zhN zhM=>?_
 refine m0b (id:=1) mixed fun zE zhE=>?_
 refine Hw (p:=0) 13 [6,7,8,9,10,11,12,13,14,15,16,17,18] [0,1,3,7,15,0,32,103,255,511,0,1024,3303,8191,16383] [] rfl (by kernel_rfl) rfl (by simp only [go_sem]) fun zR zK zhR zhK=>?_
 simp only [go_sem,F0]
 repeat' (first|apply And.intro|intro _)
 all_goals (refine Cx (fun k=>k) (.w (.one (.pl (.str (a0u k))))) [] (fun _ _=>rfl) ?_ ((ck).plain fun _ _ h=>h) ?_ ?_;focus (first|rfl|(simp only [go_sem,F0]<;>rfl)))
 all_goals try (refine And.intro ?_ (And.intro ?_ (And.intro ?_ ?_))<;>first|rfl|simp only [go_sem])
 all_goals simp only [go_sem,F0]
 all_goals repeat' (first|apply And.intro|intro _)
 all_goals (refine Cx (fun k=>k) (.w (.one (.pl (.str (a0u i))))) [] (fun _ _=>rfl) ?_ ((ci).plain fun _ _ h=>h) ?_ ?_;focus (first|rfl|(simp only [go_sem,F0]<;>rfl)))
 all_goals try (refine And.intro ?_ (And.intro ?_ (And.intro ?_ ?_))<;>first|rfl|simp only [go_sem])
 all_goals simp only [go_sem,F0]
 all_goals repeat' (first|apply And.intro|intro _)
 all_goals (refine Cx (fun k=>k) (.w (.one (.pl (.str (a0u o))))) [] (fun _ _=>rfl) ?_ ((co).plain fun _ _ h=>h) ?_ ?_;focus (first|rfl|(simp only [go_sem,F0]<;>rfl)))
 all_goals try (refine And.intro ?_ (And.intro ?_ (And.intro ?_ ?_))<;>first|rfl|simp only [go_sem])
 all_goals simp only [go_sem,F0]
 all_goals repeat' (first|apply And.intro|intro _)
 refine zhK _ _ trivial (zhR _ ?_)
 refine Ej 2 15 rfl (by kernel_rfl) rfl rfl fun zR zhR=>?_
 simp only [go_sem,F0]
 repeat' (first|apply And.intro|intro _)
 refine zhR _ ?_
 refine Pw rfl (zhE _ ?_)
 refine zhN _ ?_;clear zhN zhM
 refine Bj fun zN zM zhN zhM=>?_
 refine Dw fun zK zhK=>?_
 simp only [go_sem,F0]
 repeat' (first|apply And.intro|intro _)
 refine zhK _ ?_
 refine Bw fun zB zbn zbx zbr zbi=>?_
 refine Gw [0,1,6,7,8,9,10,11,12,13,14,15,16,17,18,19,20] ?_
 simp only [Gq,Iq,Gv,List.contains_cons,List.contains_nil,Nat.reduceBEq,beq_self_eq_true,Bool.or_false,Bool.or_true,Bool.true_or,Bool.false_or,Bool.false_eq_true,reduceIte]
 refine Iy (fun y=>[(23,.w (.one (.pl (.i ((y.1.1:Nat):Int))))),(3,.w (.one (.pl (.str y.1.2))))]) (fun _=>[]) (fun y=>l.length-y.1.1) (⟨(0,s5),Nat.zero_le _,rfl⟩:{y:Nat×List UInt8//y.1≤l.length∧y.2++c0y (l.drop y.1)=s5++c0y l}) ?_ ?_ ?_
 · (simp only [go_sem,leX,List.cons_append,List.nil_append,F0];try simp)
 · (simp only [go_sem,leX,List.cons_append,List.nil_append,F0];try simp)
 intro ⟨⟨j,s⟩,g1,g4⟩ zN zM zhN zhM
 simp only [List.cons_append,List.nil_append]
 have yN0:=zhN
 have g1:j≤l.length:=g1
 have g4:s++c0y (l.drop j)=s5++c0y l:=g4
 rcases Nat.lt_or_ge j l.length with hlt|hge
 · obtain ⟨k2,i2,o2,m2,he,hm,hdr,hg⟩:=Cy hlt
   have hc:=ih _ hm
   rw [Ak] at hc
   have hci:=ltI hlt
   have hj:(0:Int)≤((j:Nat):Int):=Int.natCast_nonneg j
   have hjl:j<(Ay l).length:=by rw [Az];exact hlt
   have hs1:=Qv hlt hl
   rw [hdr,o0u] at g4
   obtain ⟨w,hw⟩: ∃ w,Cw (.mk k2 i2 o2 m2)=w:=⟨_,rfl⟩
   rw [hw] at hc g4
   have hgl:=congrArg List.length g4
   simp only [List.length_append] at hgl
   have hcc:=k0a (a:=s) (b:=w) rfl (by omega)
   have F0:=And.intro hci<|And.intro hj<|And.intro hjl<|And.intro hg<|And.intro Int.toNat_natCast<|And.intro Az<|And.intro hs1<|And.intro hcc<|F0
   have cv0:=Ct.cv (hc)
   have zL:=fun S2=>yN0 ⟨(j+1,s++w),hlt,by rw [List.append_assoc];exact g4⟩ S2 (by (exact Nat.sub_lt_sub_left hlt (Nat.lt_succ_self j)))
   exact HT.w
 · obtain rfl:j=l.length:=Nat.le_antisymm g1 hge
   rw [List.drop_length,f1h,List.append_nil] at g4
   have hgl:=congrArg List.length g4
   simp only [List.length_append] at hgl
   obtain ⟨z,hz2⟩: ∃ z,s++[41]=z:=⟨_,rfl⟩
   have hcc:=k0a (a:=s) (b:=[41]) hz2 (by simp only [List.length_cons,List.length_nil];omega)
   have zE:V.w (.one (.pl (.str z)))=V.w (.one (.pl (.str (Cw (.mk k i o l))))):=by rw [hs5,←g4,hz2]
   have F0:=And.intro (@r0e l.length)<|And.intro hcc<|F0
   exact HT.w
theorem u0h : ∀ {l:List Aw} {a:Aw},a∈l→(Cw a).length≤(c0y l).length
 |b::l,a,h=>by
  rw [o0u,List.length_append]
  rcases List.mem_cons.mp h with rfl|h
  · omega
  · have:=u0h h;omega
theorem k1b {k i o:Int} {l:List Aw} (h:wfT (.mk k i o l)):1≤k∧k≤7∧0≤i∧0≤o:=by
 obtain ⟨h1,h2,_⟩:=h0w h.2
 rw [okT,Bool.and_eq_true,Bool.and_eq_true,Bool.and_eq_true,decide_eq_true_eq,decide_eq_true_eq,decide_eq_true_eq] at h2
 exact ⟨by omega,by omega,h2.1.1.2,h2.1.2⟩
theorem l0f : ∀ (t:Aw),wfT t→(Cw t).length≤100000000→Ct Try.prog 17 [Pv t] (fun v m=>v=.w (.one (.pl (.str (Cw t)))))
 | .mk k i o l,hw,hz=>by
  obtain ⟨n1,_,n2,n3⟩:=k1b hw
  have ht:=hw.1
  rw [Aw.ok] at ht
  obtain ⟨k',rfl⟩:=Int.eq_ofNat_of_zero_le (show 0≤k by omega)
  obtain ⟨i',rfl⟩:=Int.eq_ofNat_of_zero_le n2
  obtain ⟨o',rfl⟩:=Int.eq_ofNat_of_zero_le n3
  rw [Ak]
  refine u1d k' i' o' l ?_ ?_ ?_ ht.2.2.2.1 hz fun a ha=>l0f a (i0c hw a ha) ?_
  · have:=ht.1.2;omega
  · have:=ht.2.1.2;omega
  · have:=ht.2.2.1.2;omega
  · have h1:=u0h ha
    rw [r0l] at hz
    simp only [List.length_append] at hz
    omega
termination_by t=>SizeOf.sizeOf t
decreasing_by
 have:=List.sizeOf_lt_of_mem ha
 simp only [Aw.mk.sizeOf_spec]
 omega
end Go.Sy
namespace Go.Sy
open Go.Proofs
attribute [local irreducible] Ey HT Bq Tk onC onE onO onG goV goA goS Wv Fx
theorem m0s (k i o:Int) (l:List Aw):Hz (.mk k i o l)=.mk k i o l::Hq l:=by rw [Hz]
theorem o0g :Hq []=[]:=by rw [Hq]
theorem f0s (a:Aw) (l:List Aw):Hq (a::l)=Hz a++Hq l:=by rw [Hq]
theorem v0g (a b:List Aw):pls (Ay (a++b)).flatten=pls (Ay a).flatten++pls (Ay b).flatten:=by simp [Rq,pls]
theorem v0f (k i o:Int) (l:List Aw):pls (Ay [.mk k i o l]).flatten=[.pl (.i k),.pl (.i i),.pl (.i o),.pl (.R false 4 (Ay l))]:=by simp [Ay,Aw.cells,pls]
theorem t1x (k i o:Int) (l:List Aw) (hl:l.length≤9223372036854775807) (hz:(Hz (.mk k i o l)).length≤1000000) (ih: ∀ a,a∈l→Ct Try.prog 16 [Pv a] (fun v m=>v=.w (.one (.s 7 [] (Hz a).length 4))∧m=[(7,⟨true,pls (Ay (Hz a)).flatten⟩)])):
 Ct Try.prog 16 [Fy k i o l] (Told (fun v m=>v=.w (.one (.s 7 [] (Hz (.mk k i o l)).length 4))∧m=[(7,⟨true,pls (Ay (Hz (.mk k i o l))).flatten⟩)])):=by
 have hzl:=congrArg List.length (m0s k i o l)
 simp only [List.length_cons] at hzl
 have F0:=And.intro @Az<|v0f
 refine Ct.k Try.func16 rfl Try.ntmps16 (congrArg Array.toList Try.results16) (by simp) fun w0 ro=>?_
 refine Ck fun zZ zhZ=>?_
 iterate 8 first
  |(refine Dw fun zK zhK=>?_;simp only [go_sem,F0];(repeat' (first|apply And.intro|intro _)))
  |refine zhK _ ?_
  |refine Bw fun zB zbn zbx zbr zbi=>?_
  |refine Bj fun zN zM zhN zhM=>?_
 refine Gw [0,1,6,7,8] ?_
 simp only [Gq,Iq,Gv,List.contains_cons,List.contains_nil,Nat.reduceBEq,beq_self_eq_true,Bool.or_false,Bool.or_true,Bool.true_or,Bool.false_or,Bool.false_eq_true,reduceIte]
 refine Iy (fun y=>[(11,.w (.one (.pl (.i ((y.1.1:Nat):Int))))),(3,.w (.one (.s 7 [] y.1.2.length 4)))]) (fun y=>[(7,⟨true,pls (Ay y.1.2).flatten⟩)]) (fun y=>l.length-y.1.1) (⟨(0,[.mk k i o l]),Nat.zero_le _,rfl⟩:{y:Nat×List Aw//y.1≤l.length∧y.2++Hq (l.drop y.1)=.mk k i o l::Hq l}) ?_ ?_ ?_
 · (simp only [go_sem,leX,List.cons_append,List.nil_append,F0];try simp)
 · (simp only [go_sem,leX,List.cons_append,List.nil_append,F0];try simp)
 intro ⟨⟨j,b⟩,g1,g4⟩ zN zM zhN zhM
 simp only [List.cons_append,List.nil_append]
 have yN0:=zhN
 have g1:j≤l.length:=g1
 have g4:b++Hq (l.drop j)=.mk k i o l::Hq l:=g4
 rcases Nat.lt_or_ge j l.length with hlt|hge
 · obtain ⟨k2,i2,o2,m2,he,hm,hdr,hg⟩:=Cy hlt
   have hc:=ih _ hm
   rw [Ak] at hc
   have hci:=ltI hlt
   have hj:(0:Int)≤((j:Nat):Int):=Int.natCast_nonneg j
   have hjl:j<(Ay l).length:=by rw [Az];exact hlt
   have hs1:=Qv hlt hl
   rw [hdr,f0s] at g4
   obtain ⟨w,hw⟩: ∃ w,Hz (.mk k2 i2 o2 m2)=w:=⟨_,rfl⟩
   rw [hw] at hc g4
   have hgl:=congrArg List.length g4
   simp only [List.length_append,List.length_cons] at hgl
   have hcap:(b.length+w.length)*48≤140737488355328:=by omega
   have hbl:=Gz b
   have hwl:=Gz w
   have hla:(b++w).length=b.length+w.length:=List.length_append
   have hfa:=v0g b w
   have F0:=And.intro hci<|And.intro hj<|And.intro hjl<|And.intro hg<|And.intro Int.toNat_natCast<|And.intro Az<|And.intro hs1<|And.intro hcap<|And.intro hbl<|And.intro hwl<|And.intro hla<|And.intro hfa<|And.intro Sj<|And.intro Pk<|F0
   iterate 17 first
    |refine zhK _ ?_
    |(refine Dw fun zK zhK=>?_;simp only [go_sem,F0];(repeat' (first|apply And.intro|intro _)))
    |(refine zhN _ ?_;clear zhN zhM)
    |(refine Aq fun zK zhK=>?_;simp only [go_sem,F0];(repeat' (first|apply And.intro|intro _)))
    |refine Bv ?_
    |refine Bw fun zB zbn zbx zbr zbi=>?_
    |(refine zbn _ ?_;clear zbn zbx zbr zbi)
    |((all_goals (refine Sw false [] (fun x=>x+10) (fun _ _=>rfl) ?_ (by decide) ?_ (hc).hands ?_;iterate 2 (focus (first|rfl|(simp only [go_sem,F0]<;>first|done|rfl|simp)))));(all_goals (rintro v m ⟨hR,hm⟩;subst hR;subst hm));(all_goals (refine And.intro ?_ (And.intro ?_ (And.intro ?_ ?_));iterate 3 (focus (first|rfl|(simp only [go_sem,F0];done)|(simp [go_sem,look,F0];done)))));(all_goals (try simp only [go_sem,F0]));(all_goals (try simp only [go_sem,F0]));(all_goals repeat' (first|apply And.intro|intro _)))
    |refine Bj fun zN zM zhN zhM=>?_
    |(refine Aj ?_ ?_;focus (first|rfl|(simp [go_sem,F0];done)))
   refine zhN ⟨(j+1,b++w),hlt,by rw [List.append_assoc];exact g4⟩ _ ?_ ?_ ?_
   · (exact Nat.sub_lt_sub_left hlt (Nat.lt_succ_self j))
   · (simp only [go_sem,leX,List.cons_append,List.nil_append,F0];try simp)
   · (simp only [go_sem,leX,List.cons_append,List.nil_append,F0];try simp)
 · obtain rfl:j=l.length:=Nat.le_antisymm g1 hge
   rw [List.drop_length,o0g,List.append_nil] at g4
   have hb:b=Hz (.mk k i o l):=by rw [m0s];exact g4
   have F0:=And.intro (@r0e l.length)<|F0
   refine Dw fun zK zhK=>?_
   simp only [go_sem,F0]
   repeat' (first|apply And.intro|intro _)
   refine zhK _ ?_
   refine Bj fun zN zM zhN zhM=>?_
   (refine Av ?_ ?_;focus (first|rfl|(simp [go_sem,F0];done)))
   refine Iw ?_
   refine zhM _ _ ?_;clear zhN zhM
   refine zhM _ _ ?_;clear zhN zhM
   refine zbx _ ?_;clear zbn zbx zbr zbi
   refine zhN _ ?_;clear zhN zhM
   refine Dw fun zK zhK=>?_
   simp only [go_sem,F0]
   repeat' (first|apply And.intro|intro _)
   refine zhK _ ?_
   refine Cq ?_
   refine zhZ _ _ ?_
   simp only [go_sem,F0]
   all_goals (subst hb;exact b0c (m2:=[(7,⟨true,pls (Ay (Hz (.mk k i o l))).flatten⟩)]) (by simp [look]) ⟨rfl,rfl⟩)
theorem o0h : ∀ {l:List Aw} {a:Aw},a∈l→(Hz a).length≤(Hq l).length
 |b::l,a,h=>by
  rw [f0s,List.length_append]
  rcases List.mem_cons.mp h with rfl|h
  · omega
  · have:=o0h h;omega
theorem t1y : ∀ (t:Aw),t.ok→(Hz t).length≤1000000→Ct Try.prog 16 [Pv t] (fun v m=>v=.w (.one (.s 7 [] (Hz t).length 4))∧m=[(7,⟨true,pls (Ay (Hz t)).flatten⟩)])
 | .mk k i o l,ht,hz=>by
  rw [Aw.ok] at ht
  rw [Ak]
  refine (t1x k i o l ht.2.2.2.1 hz fun a ha=>t1y a (Dz ht.2.2.2.2 a ha) ?_).told
  have h1:=o0h ha
  rw [m0s] at hz
  simp only [List.length_cons] at hz
  omega
termination_by t=>SizeOf.sizeOf t
decreasing_by
 have:=List.sizeOf_lt_of_mem ha
 simp only [Aw.mk.sizeOf_spec]
 omega
end Go.Sy
