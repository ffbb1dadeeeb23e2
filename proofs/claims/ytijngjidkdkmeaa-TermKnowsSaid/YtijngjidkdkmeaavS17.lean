/- Walks: what the document says one can make. -/
import Derived.Test.YtijngjidkdkmeaavS16
import Derived.Test.YtijngjidkdkmeaavE8
set_option linter.unusedVariables false
set_option linter.unusedSimpArgs false
namespace Go.Sy
open Go.Proofs
attribute [local irreducible] Ey HT Bq Tk onC onE onO onG goV goA goS Wv Fx
theorem w0t (k:Int) (a p c:Bool):k=1∨k=2∨(k=3∧a=false∧c=false)∨(k=3∧a=false∧c=true)∨(k=3∧a=true∧p=false∧c=false)∨(k=3∧a=true∧p=false∧c=true)∨(k=3∧a=true∧p=true)∨(¬k=1∧¬k=2∧¬k=3):=by
 by_cases h1:k=1
 · exact .inl h1
 · by_cases h2:k=2
   · exact .inr (.inl h2)
   · by_cases h3:k=3
     · cases a<;>cases p<;>cases c<;>simp [h3]
     · simp [h1,h2,h3]
set_option maxHeartbeats 3200000 in
set_option maxRecDepth 100000 in
theorem u1a (l:List Aw) (hl:l.length≤9223372036854775807) (hk:Dv l) (k i o:Int) (ms:List Aw) (ht:(Aw.mk k i o ms).ok) (hf:Fj Dq l=0) (hg:Mq (.mk k i o ms)=0) (hwl: ∀ a∈l,wfT a) (hwt:wfT (.mk k i o ms)) (hsz: ∀ a∈.mk k i o ms::l,(Cw a).length≤100000000) (hsu: ∀ a∈.mk k i o ms::l,(Hz a).length≤1000000) (hst:(Hz (.mk k i o ms)).length+(Hq l).length≤1000000) (AL:List Aw) (hA:Hz (.mk k i o ms)++Hq l=AL) (hAb:AL.length≤1000000) (hwA: ∀ x∈AL,wfT x) (hzA: ∀ x∈AL,(Cw x).length≤100000000) (hcA: ∀ x∈AL,∀ b∈x.args,b∈AL) (G:Mp→Prop) (NN:Nat) (hG: ∀ q,G q→G (Iz q AL)∧q.length≤(Iz q AL).length∧q.length≤NN) (hG0:G (b0d [] l)) (FM:Mp) (hF:a0t AL NN (b0d [] l)=FM):
 Ct Try.prog 6 [(.w (.one (.pl (.R false 4 (Ay l))))),Fy k i o ms] (fun v m=>v=.tup [.one (.pl (.b (knB FM (.mk k i o ms)))),.one (.pl (.i (0)))]):=by
 have hd:=k1p _ ht
 rw [Ak,hg] at hd
 have hwin:=t1y _ hwt.1 (hsu _ (by simp))
 rw [Ak] at hwin
 have F0:=Az
 refine Ct.k Try.func6 rfl Try.ntmps6 (congrArg Array.toList Try.results6) (by simp) fun w0 ro=>?_
 refine Ck fun zZ zhZ=>?_
 iterate 8 first
  |(refine Dw fun zK zhK=>?_;simp only [go_sem,F0];(repeat' (first|apply And.intro|intro _)))
  |refine zhK _ ?_
  |refine Bw fun zB zbn zbx zbr zbi=>?_
  |refine Bj fun zN zM zhN zhM=>?_
 refine Iy (fun y=>[(6,.w (.one (.pl (.i y.1.2)))),(29,.w (.one (.pl (.i ((y.1.1:Nat):Int)))))]) (fun _=>[]) (fun y=>l.length-y.1.1) (⟨(0,0),Nat.zero_le _,by decide,by decide,rfl⟩:{y:Nat×Int//y.1≤l.length∧0≤y.2∧y.2≤300∧g0p Dq (l.drop y.1) y.2=g0p Dq l 0}) ?_ ?_ ?_
 · (simp only [go_sem,leX,List.cons_append,List.nil_append,F0];try simp)
 · (simp only [go_sem,leX,List.cons_append,List.nil_append,F0];try simp)
 intro ⟨⟨j,n⟩,h1,h2,h3,h4⟩ zN zM zhN zhM
 simp only [List.cons_append,List.nil_append]
 have yN0:=zhN
 have h1:j≤l.length:=h1
 have h2:0≤n:=h2
 have h3:n≤300:=h3
 have h4:g0p Dq (l.drop j) n=g0p Dq l 0:=h4
 rcases Nat.lt_or_ge j l.length with hlt|hge
 rcases Int.lt_or_le 300 (n+Dq (l.getD j (.mk 0 0 0 [])) 1) with hbig|hbig
 · obtain ⟨k2,i2,o2,m2,he,hm,hdr,hg⟩:=Cy hlt
   have hj:(0:Int)≤((j:Nat):Int):=Int.natCast_nonneg j
   have hjl:j<(Ay l).length:=by rw [Az];exact hlt
   have hci:=ltI hlt
   have hs1:=Qv hlt hl
   have hc:=d0v _ (Dz hk _ hm) 1 (by decide) (by decide)
   rw [Ak] at hc
   have hr:=Qq (.mk k2 i2 o2 m2)
   rw [hdr,Nz] at h4
   obtain ⟨w,hw⟩: ∃ w,Dq (.mk k2 i2 o2 m2) 1=w:=⟨_,rfl⟩
   rw [hw] at hc hr h4
   have hwr:Go.RowKit.wrap64 (n+w)=n+w:=w64 (by omega)
   rw [he,hw] at hbig
   rw [if_pos hbig] at h4
   have hfe:Fj Dq l=1:=by rw [Fj,if_pos (by rw [←h4];exact hbig)]
   have F0:=And.intro hci<|And.intro hj<|And.intro hjl<|And.intro hg<|And.intro Int.toNat_natCast<|And.intro Az<|And.intro hs1<|And.intro hwr<|And.intro hbig<|F0
   have cv0:=Ct.cv (hc)
   exact absurd (hfe.symm.trans hf) (by decide)
 · obtain ⟨k2,i2,o2,m2,he,hm,hdr,hg⟩:=Cy hlt
   have hj:(0:Int)≤((j:Nat):Int):=Int.natCast_nonneg j
   have hjl:j<(Ay l).length:=by rw [Az];exact hlt
   have hci:=ltI hlt
   have hs1:=Qv hlt hl
   have hc:=d0v _ (Dz hk _ hm) 1 (by decide) (by decide)
   rw [Ak] at hc
   have hr:=Qq (.mk k2 i2 o2 m2)
   rw [hdr,Nz] at h4
   obtain ⟨w,hw⟩: ∃ w,Dq (.mk k2 i2 o2 m2) 1=w:=⟨_,rfl⟩
   rw [hw] at hc hr h4
   have hwr:Go.RowKit.wrap64 (n+w)=n+w:=w64 (by omega)
   rw [he,hw] at hbig
   have hnb:¬300<n+w:=by omega
   rw [if_neg hnb] at h4
   have F0:=And.intro hci<|And.intro hj<|And.intro hjl<|And.intro hg<|And.intro Int.toNat_natCast<|And.intro Az<|And.intro hs1<|And.intro hwr<|And.intro hnb<|F0
   have cv0:=Ct.cv (hc)
   have zL:=fun S2=>yN0 ⟨(j+1,n+w),hlt,by omega,hbig,h4⟩ S2 (by (exact Nat.sub_lt_sub_left hlt (Nat.lt_succ_self j)))
   exact HT.w
 · obtain rfl:j=l.length:=Nat.le_antisymm h1 hge
   rw [List.drop_length,Zx] at h4
   have hfl:Fj Dq l=Cv l:=by rw [Fj,if_neg (by rw [←h4];omega)]
   have F0:=And.intro (@r0e l.length)<|F0
   iterate 13 first
    |(refine Dw fun zK zhK=>?_;simp only [go_sem,F0];(repeat' (first|apply And.intro|intro _)))
    |refine zhK _ ?_
    |(refine zhM _ _ ?_;clear zhN zhM)
    |refine Iw ?_
    |(refine zbx _ ?_;clear zbn zbx zbr zbi)
    |(refine zhN _ ?_;clear zhN zhM)
    |refine Bw fun zB zbn zbx zbr zbi=>?_
    |refine Bj fun zN zM zhN zhM=>?_
    |(refine Av ?_ ?_;focus (first|rfl|(simp [go_sem,F0];done)))
   refine Iy (fun y=>[(42,.w (.one (.pl (.i ((y.1:Nat):Int)))))]) (fun _=>[]) (fun y=>l.length-y.1) (⟨0,Nat.zero_le _,rfl⟩:{y:Nat//y≤l.length∧Cv (l.drop y)=Cv l}) ?_ ?_ ?_
   · (simp only [go_sem,leX,List.cons_append,List.nil_append,F0];try simp)
   · (simp only [go_sem,leX,List.cons_append,List.nil_append,F0];try simp)
   intro ⟨j,h1,h4⟩ zN zM zhN zhM
   simp only [List.cons_append,List.nil_append]
   have yN1:=zhN
   have h1:j≤l.length:=h1
   have h4:Cv (l.drop j)=Cv l:=h4
   rcases Nat.lt_or_ge j l.length with hlt|hge
   rcases Int.decEq (Bz (l.getD j (.mk 0 0 0 []))) 0 with hbad|hbad
   · obtain ⟨k2,i2,o2,m2,he,hm,hdr,hg⟩:=Cy hlt
     have hj:(0:Int)≤((j:Nat):Int):=Int.natCast_nonneg j
     have hjl:j<(Ay l).length:=by rw [Az];exact hlt
     have hci:=ltI hlt
     have hs1:=Qv hlt hl
     have hc:=e0e _ (Dz hk _ hm)
     rw [Ak] at hc
     rw [hdr,Py] at h4
     obtain ⟨w,hw⟩: ∃ w,Bz (.mk k2 i2 o2 m2)=w:=⟨_,rfl⟩
     rw [hw] at hc h4
     rw [he,hw] at hbad
     rw [if_neg hbad] at h4
     have F0:=And.intro hci<|And.intro hj<|And.intro hjl<|And.intro hg<|And.intro Int.toNat_natCast<|And.intro Az<|And.intro hs1<|And.intro hbad<|F0
     have cv0:=Ct.cv (hc)
     exact absurd (h4.trans (hfl.symm.trans hf)) hbad
   · obtain ⟨k2,i2,o2,m2,he,hm,hdr,hg⟩:=Cy hlt
     have hj:(0:Int)≤((j:Nat):Int):=Int.natCast_nonneg j
     have hjl:j<(Ay l).length:=by rw [Az];exact hlt
     have hci:=ltI hlt
     have hs1:=Qv hlt hl
     have hc:=e0e _ (Dz hk _ hm)
     rw [Ak] at hc
     rw [hdr,Py] at h4
     obtain ⟨w,hw⟩: ∃ w,Bz (.mk k2 i2 o2 m2)=w:=⟨_,rfl⟩
     rw [hw] at hc h4
     rw [he,hw] at hbad
     rw [if_pos hbad] at h4
     have F0:=And.intro hci<|And.intro hj<|And.intro hjl<|And.intro hg<|And.intro Int.toNat_natCast<|And.intro Az<|And.intro hs1<|And.intro hbad<|F0
     have cv0:=Ct.cv (hc)
     have zL:=fun S2=>yN1 ⟨j+1,hlt,h4⟩ S2 (by (exact Nat.sub_lt_sub_left hlt (Nat.lt_succ_self j)))
     exact HT.w
   · obtain rfl:j=l.length:=Nat.le_antisymm h1 hge
     rw [List.drop_length,e0y] at h4
     have F0:=And.intro (@r0e l.length)<|And.intro hg<|And.intro v0f<|And.intro @Gz<|F0
     iterate 28 first
      |(refine Dw fun zK zhK=>?_;simp only [go_sem,F0];(repeat' (first|apply And.intro|intro _)))
      |refine zhK _ ?_
      |(refine zhM _ _ ?_;clear zhN zhM)
      |(refine zhN _ ?_;clear zhN zhM)
      |refine Iw ?_
      |(refine zbx _ ?_;clear zbn zbx zbr zbi)
      |refine Bv ?_
      |((all_goals (refine mk_k ?_ fun mb hmb=>?_;focus (first|decide|(simp only [go_sem];done))));(all_goals (try simp only [go_sem,Qk,F0]));(all_goals repeat' (first|apply And.intro|intro _)))
      |refine Bw fun zB zbn zbx zbr zbi=>?_
      |((all_goals (refine Cz (fun k=>k) (fun _ _=>rfl) ?_ ((hd).plain fun _ _ h=>h) ?_;focus (first|rfl|(simp only [go_sem,F0]<;>rfl))));(all_goals (rintro v m ⟨hR,hm⟩;subst hR;subst hm));(all_goals refine And.intro (by first|rfl|simp only [go_sem,F0]) (And.intro (by first|rfl|simp only [go_sem,F0]) ?_));(all_goals simp only [go_sem,F0]);(all_goals repeat' (first|apply And.intro|intro _)))
      |((all_goals (refine Sw false [] (fun x=>x+52) (fun _ _=>rfl) ?_ (by decide) ?_ (hwin).hands ?_;iterate 2 (focus (first|rfl|(simp only [go_sem,F0]<;>first|done|rfl|simp)))));(all_goals (rintro v m ⟨hR,hm⟩;subst hR;subst hm));(all_goals (refine And.intro ?_ (And.intro ?_ (And.intro ?_ ?_));iterate 3 (focus (first|rfl|(simp only [go_sem,F0];done)|(simp [go_sem,look,F0];done)))));(all_goals (try simp only [go_sem,F0]));(all_goals (try simp only [go_sem,F0]));(all_goals repeat' (first|apply And.intro|intro _)))
      |refine Bj fun zN zM zhN zhM=>?_
      |(refine Av ?_ ?_;focus (first|rfl|(simp [go_sem,F0];done)))
     refine Gw [0,1,6,8,10,11,12,27,28,29,30,31,32,33,34,35,36,37,38,39,40,41,42,43,44,45,46,47,48,49,50,51,52,53,54,55,56,57,58,59] ?_
     simp only [Gq,Iq,Gv,List.contains_cons,List.contains_nil,Nat.reduceBEq,beq_self_eq_true,Bool.or_false,Bool.or_true,Bool.true_or,Bool.false_or,Bool.false_eq_true,reduceIte]
     refine Iy (fun y=>[(62,.w (.one (.pl (.i ((y.1.1:Nat):Int))))),(14,.w (.one (.s 59 [] y.1.2.2.length 4)))]) (fun y=>[(2000000+mb,⟨.m y.1.2.1,[]⟩),(59,⟨true,pls (Ay y.1.2.2).flatten⟩)]) (fun y=>l.length-y.1.1) (⟨(0,[],Hz (.mk k i o ms)),Nat.zero_le _,rfl,rfl⟩:{y:Nat×Mp×List Aw//y.1≤l.length∧b0d y.2.1 (l.drop y.1)=b0d [] l∧y.2.2++Hq (l.drop y.1)=Hz (.mk k i o ms)++Hq l}) ?_ ?_ ?_
     · (simp only [go_sem,leX,List.cons_append,List.nil_append,F0];try simp)
     · (simp only [go_sem,leX,List.cons_append,List.nil_append,F0];try simp)
     intro ⟨⟨j,mp,a⟩,g1,g4,g5⟩ zN zM zhN zhM
     simp only [List.cons_append,List.nil_append]
     have yN2:=zhN
     have g1:j≤l.length:=g1
     have g4:b0d mp (l.drop j)=b0d [] l:=g4
     have g5:a++Hq (l.drop j)=Hz (.mk k i o ms)++Hq l:=g5
     rcases Nat.lt_or_ge j l.length with hlt|hge
     · obtain ⟨k2,i2,o2,m2,he,hm,hdr,hg2⟩:=Cy hlt
       have hj:(0:Int)≤((j:Nat):Int):=Int.natCast_nonneg j
       have hjl:j<(Ay l).length:=by rw [Az];exact hlt
       have hci:=ltI hlt
       have hs1:=Qv hlt hl
       have hwm:=hwl _ hm
       have hzm:(Cw (.mk k2 i2 o2 m2)).length≤100000000:=hsz _ (by simp [hm])
       have hc:=l0f _ hwm hzm
       have hsm:(Hz (.mk k2 i2 o2 m2)).length≤1000000:=hsu _ (by simp [hm])
       have hd2:=t1y _ hwm.1 hsm
       rw [Ak] at hc hd2
       rw [hdr,f0w] at g4
       rw [hdr,f0s] at g5
       obtain ⟨w,hw⟩: ∃ w,Hz (.mk k2 i2 o2 m2)=w:=⟨_,rfl⟩
       rw [hw] at hd2 g5
       have hgl:=congrArg List.length g5
       simp only [List.length_append] at hgl
       have hcap:(a.length+w.length)*48≤140737488355328:=by omega
       have hbl:=Gz a
       have hwl2:=Gz w
       have hla:(a++w).length=a.length+w.length:=List.length_append
       have hfa:=v0g a w
       have F0:=And.intro hci<|And.intro hj<|And.intro hjl<|And.intro hg2<|And.intro Int.toNat_natCast<|And.intro Az<|And.intro hs1<|And.intro hcap<|And.intro hbl<|And.intro hwl2<|And.intro hla<|And.intro hfa<|And.intro Sj<|And.intro Pk<|F0
       iterate 20 first
        |refine zhK _ ?_
        |(refine zhN _ ?_;clear zhN zhM)
        |(refine Dw fun zK zhK=>?_;simp only [go_sem,F0];(repeat' (first|apply And.intro|intro _)))
        |(refine Aq fun zK zhK=>?_;simp only [go_sem,F0];(repeat' (first|apply And.intro|intro _)))
        |refine Bv ?_
        |refine Bw fun zB zbn zbx zbr zbi=>?_
        |(refine zbn _ ?_;clear zbn zbx zbr zbi)
        |(refine m0b (id:=24) mixed fun zE zhE=>?_;refine Hw (p:=0) 3 [66,67,68] [0,0,2,7] [] rfl (by kernel_rfl) rfl (by simp only [go_sem]) fun zR zK zhR zhK=>?_;simp only [go_sem,F0];(repeat' (first|apply And.intro|intro _));(all_goals (refine Cx (fun k=>k) (.w (.one (.pl (.str (Cw (.mk k2 i2 o2 m2)))))) [] (fun _ _=>rfl) ?_ ((hc).plain fun _ _ h=>h) ?_ ?_;focus (first|rfl|(simp only [go_sem,F0]<;>rfl))));(all_goals try (refine And.intro ?_ (And.intro ?_ (And.intro ?_ ?_))<;>first|rfl|simp only [go_sem]));(all_goals simp only [go_sem,F0]);(all_goals repeat' (first|apply And.intro|intro _));refine zhK _ _ trivial (zhR _ ?_);refine Ej 1 4 rfl (by kernel_rfl) rfl rfl fun zR zhR=>?_;simp only [go_sem,F0];(repeat' (first|apply And.intro|intro _));(all_goals refine l1f Try.underlying42 Try.underlying9 hmb ?_);(all_goals (try simp only [go_sem,Qk,F0]));(all_goals repeat' (first|apply And.intro|intro _));refine zhR _ ?_;refine Pw rfl (zhE _ ?_))
        |((all_goals (refine Sw false [] (fun x=>x+64) (fun _ _=>rfl) ?_ (by decide) ?_ (hd2).hands ?_;iterate 2 (focus (first|rfl|(simp only [go_sem,F0]<;>first|done|rfl|simp)))));(all_goals (rintro v m ⟨hR,hm⟩;subst hR;subst hm));(all_goals (refine And.intro ?_ (And.intro ?_ (And.intro ?_ ?_));iterate 3 (focus (first|rfl|(simp only [go_sem,F0];done)|(simp [go_sem,look,F0];done)))));(all_goals (try simp only [go_sem,F0]));(all_goals (try simp only [go_sem,F0]));(all_goals repeat' (first|apply And.intro|intro _)))
        |refine Bj fun zN zM zhN zhM=>?_
        |(refine Aj ?_ ?_;focus (first|rfl|(simp [go_sem,F0];done)))
       refine zhN ⟨(j+1,Dk mp (Cw (.mk k2 i2 o2 m2)) 1,a++w),hlt,g4,by rw [List.append_assoc];exact g5⟩ _ ?_ ?_ ?_
       · (exact Nat.sub_lt_sub_left hlt (Nat.lt_succ_self j))
       · (simp only [go_sem,leX,List.cons_append,List.nil_append,F0];try simp)
       · (simp only [go_sem,leX,List.cons_append,List.nil_append,F0];try simp)
     · obtain rfl:j=l.length:=Nat.le_antisymm g1 hge
       rw [List.drop_length,a1a] at g4
       rw [List.drop_length,o0g,List.append_nil] at g5
       obtain rfl:a=AL:=g5.trans hA
       have hAl:=Gz a
       have hAn:a.length≤9223372036854775807:=Nat.le_trans hAb (by decide)
       have F0:=And.intro (@r0e l.length)<|F0
       iterate 16 first
        |(refine Dw fun zK zhK=>?_;simp only [go_sem,F0];(repeat' (first|apply And.intro|intro _)))
        |refine zhK _ ?_
        |(refine zhM _ _ ?_;clear zhN zhM)
        |refine Iw ?_
        |(refine zbx _ ?_;clear zbn zbx zbr zbi)
        |(refine zhN _ ?_;clear zhN zhM)
        |refine Bw fun zB zbn zbx zbr zbi=>?_
        |refine Bj fun zN zM zhN zhM=>?_
        |(refine Av ?_ ?_;focus (first|rfl|(simp [go_sem,F0];done)))
       refine k1m [(3,.w (.one (.p 3 []))),(13,.w (.one (.p 13 []))),(14,.w (.one (.s 59 [] a.length 4))),(17,.w (.one (.p 17 []))),(18,.w (.one (.p 18 []))),(19,.w (.one (.fn 20 [18,17])))] [(3,⟨false,[.pl (.i k),.pl (.i i),.pl (.i o),.pl (.R false 4 (Ay ms))]⟩),(13,⟨false,[.pl (.val (.map (some mb)))]⟩),(59,⟨true,pls (Ay a).flatten⟩),(17,⟨false,[.fn 18 [13]]⟩),(18,⟨false,[.fn 19 [17]]⟩)] (fun _=>[]) (fun y=>[(2000000+mb,⟨.m y.1.2,[]⟩)]) (fun y=>y.1.1) (⟨(NN,mp),(by rw [g4];exact hG0),(by rw [g4];exact Nat.sub_le _ _),(by rw [g4];exact hF)⟩:{y:Nat×Mp//G y.2∧NN-y.2.length≤y.1∧a0t a y.1 y.2=FM}) ?_ ?_ ?_
       · (simp only [go_sem,leX,List.cons_append,List.nil_append,F0];try simp)
       · (simp only [go_sem,leX,List.cons_append,List.nil_append,F0];try simp)
       intro ⟨⟨n3,q3⟩,r1,r2,r3⟩ zN zM zhN zhM
       simp only [List.cons_append,List.nil_append]
       have yN3:=zhN
       have r1:G q3:=r1
       have r2:NN-q3.length≤n3:=r2
       have r3:a0t a n3 q3=FM:=r3
       obtain ⟨r4,r5,r6⟩:=hG q3 r1
       · skip
         have F0:=And.intro Try.underlying42<|F0
         iterate 7 first
          |refine Bw fun zB zbn zbx zbr zbi=>?_
          |(refine Dw fun zK zhK=>?_;simp only [go_sem,F0];(repeat' (first|apply And.intro|intro _)))
          |refine zhK _ ?_
          |refine Bj fun zN zM zhN zhM=>?_
         refine k1m [(3,.w (.one (.p 3 []))),(13,.w (.one (.p 13 []))),(14,.w (.one (.s 59 [] a.length 4))),(17,.w (.one (.p 17 []))),(18,.w (.one (.p 18 []))),(19,.w (.one (.fn 20 [18,17]))),(20,.w (.one (.pl (.i ((q3.length:Nat):Int))))),(79,.w (.one (.s 59 [] a.length 4))),(80,.w (.one (.pl (.i ((a.length:Nat):Int)))))] [(3,⟨false,[.pl (.i k),.pl (.i i),.pl (.i o),.pl (.R false 4 (Ay ms))]⟩),(13,⟨false,[.pl (.val (.map (some mb)))]⟩),(59,⟨true,pls (Ay a).flatten⟩),(17,⟨false,[.fn 18 [13]]⟩),(18,⟨false,[.fn 19 [17]]⟩)] (fun y=>[(81,.w (.one (.pl (.i ((y.1.1:Nat):Int)))))]) (fun y=>[(2000000+mb,⟨.m y.1.2,[]⟩)]) (fun y=>a.length-y.1.1) (⟨(0,q3),Nat.zero_le _,rfl⟩:{y:Nat×Mp//y.1≤a.length∧Iz y.2 (a.drop y.1)=Iz q3 a}) ?_ ?_ ?_
         · (simp only [go_sem,leX,List.cons_append,List.nil_append,F0];try simp)
         · (simp only [go_sem,leX,List.cons_append,List.nil_append,F0];try simp)
         intro ⟨⟨i4,q4⟩,u1,u4⟩ zN zM zhN zhM
         simp only [List.cons_append,List.nil_append]
         have yN4:=zhN
         have u1:i4≤a.length:=u1
         have u4:Iz q4 (a.drop i4)=Iz q3 a:=u4
         rcases Nat.lt_or_ge i4 a.length with hlt|hge
         · obtain ⟨kx,ix,ox,lx,he,hm,hdr,hg9⟩:=Cy hlt
           have hgt:=r0o hlt he
           have hi4:i4*4+4≤a.length*4:=by omega
           have hci:=ltI hlt
           have hj:(0:Int)≤((i4:Nat):Int):=Int.natCast_nonneg i4
           have hs1:=Qv hlt hAn
           have hwx:=hwA _ hm
           have hzx:=hzA _ hm
           have hax:=hcA _ hm
           rw [hdr,c0l] at u4
           have hln:=hwx.1
           rw [Aw.ok] at hln
           have hlx:=hln.2.2.2.1
           have hnx:=k1b hwx
           have hix:0≤ix∧ix≤9223372036854775807:=⟨hnx.2.2.1,hln.2.1.2⟩
           have hox:0≤ox∧ox≤9223372036854775807:=⟨hnx.2.2.2,hln.2.2.1.2⟩
           have F0:=And.intro hci<|And.intro hj<|And.intro hgt<|And.intro hi4<|And.intro Int.toNat_natCast<|And.intro Az<|And.intro hs1<|And.intro hAl<|And.intro Sj<|And.intro Pk<|F0
           iterate 16 first
            |(refine Dw fun zK zhK=>?_;simp only [go_sem,F0];(repeat' (first|apply And.intro|intro _)))
            |refine zhK _ ?_
            |refine Bw fun zB zbn zbx zbr zbi=>?_
            |refine Bv ?_
            |(refine zhN _ ?_;clear zhN zhM)
            |refine Bj fun zN zM zhN zhM=>?_
            |(refine Aj ?_ ?_;focus (first|rfl|(simp [go_sem,F0];done)))
           refine Iy (fun y=>[(23,.w (.one (.pl (.i ((y.1.2:Nat):Int))))),(88,.w (.one (.pl (.i ((y.1.1:Nat):Int)))))]) (fun _=>[]) (fun y=>lx.length-y.1.1) (⟨(0,0),Nat.zero_le _,Nat.zero_add _⟩:{y:Nat×Nat//y.1≤lx.length∧y.2+y0d q4 (lx.drop y.1)=y0d q4 lx}) ?_ ?_ ?_
           · (simp only [go_sem,leX,List.cons_append,List.nil_append,F0];try simp)
           · (simp only [go_sem,leX,List.cons_append,List.nil_append,F0];try simp)
           intro ⟨⟨j5,c5⟩,v1,v4⟩ zN zM zhN zhM
           simp only [List.cons_append,List.nil_append]
           have yN5:=zhN
           have v1:j5≤lx.length:=v1
           have v4:c5+y0d q4 (lx.drop j5)=y0d q4 lx:=v4
           rcases Nat.lt_or_ge j5 lx.length with vlt|vge
           rcases hkn:knB q4 (lx.getD j5 (.mk 0 0 0 [])) with _|_
           · obtain ⟨ky,iy,oy,ly,he5,hm5,hdr5,hg5⟩:=Cy vlt
             rw [he5] at hkn
             have hk5:=b0n mb q4 (.mk ky iy oy ly) (hwA _ (hax _ hm5)) (hzA _ (hax _ hm5))
             rw [Ak,hkn] at hk5
             have vci:=ltI vlt
             have vj:(0:Int)≤((j5:Nat):Int):=Int.natCast_nonneg j5
             have vjl:j5<(Ay lx).length:=by rw [Az];exact vlt
             have vs1:=Qv vlt hlx
             rw [hdr5,b0w,hkn] at v4
             rw [if_neg (by simp),Nat.zero_add] at v4
             have F0:=And.intro vci<|And.intro vj<|And.intro vjl<|And.intro hg5<|And.intro Int.toNat_natCast<|And.intro Az<|And.intro vs1<|F0
             iterate 19 first
              |refine zhK _ ?_
              |(refine Dw fun zK zhK=>?_;simp only [go_sem,F0];(repeat' (first|apply And.intro|intro _)))
              |refine Bv ?_
              |(refine zhN _ ?_;clear zhN zhM)
              |refine Bw fun zB zbn zbx zbr zbi=>?_
              |(refine zbn _ ?_;clear zbn zbx zbr zbi)
              |(refine Aq fun zK zhK=>?_;simp only [go_sem,F0];(repeat' (first|apply And.intro|intro _)))
              |((all_goals (refine Jq (caps:=[13]) false [(500000,13)] (fun k=>k) ?_ ?_ (fun _ _=>rfl) ?_ (by decide) ?_ hk5 ?_;iterate 4 (focus (first|rfl|(simp only [go_sem,F0]<;>first|done|rfl|simp)))));(all_goals (rintro v m ⟨hR,hm⟩;subst hR;subst hm));(all_goals (refine And.intro ?_ (And.intro ?_ (And.intro ?_ ?_));iterate 3 (focus (first|rfl|(simp only [go_sem,F0];done)|(simp [go_sem,look,F0];done)))));(all_goals (try simp only [go_sem,F0]));(all_goals (try simp only [go_sem,F0]));(all_goals repeat' (first|apply And.intro|intro _)))
              |refine Bj fun zN zM zhN zhM=>?_
              |(refine Aj ?_ ?_;focus (first|rfl|(simp [go_sem,F0];done)))
              |(refine Av ?_ ?_;focus (first|rfl|(simp [go_sem,F0];done)))
             refine zhN ⟨(j5+1,c5),vlt,v4⟩ _ ?_ ?_ ?_
             · (exact Nat.sub_lt_sub_left vlt (Nat.lt_succ_self j5))
             · (simp only [go_sem,leX,List.cons_append,List.nil_append,F0];try simp)
             · (simp only [go_sem,leX,List.cons_append,List.nil_append,F0];try simp)
           · obtain ⟨ky,iy,oy,ly,he5,hm5,hdr5,hg5⟩:=Cy vlt
             rw [he5] at hkn
             have hk5:=b0n mb q4 (.mk ky iy oy ly) (hwA _ (hax _ hm5)) (hzA _ (hax _ hm5))
             rw [Ak,hkn] at hk5
             have vci:=ltI vlt
             have vj:(0:Int)≤((j5:Nat):Int):=Int.natCast_nonneg j5
             have vjl:j5<(Ay lx).length:=by rw [Az];exact vlt
             have vs1:=Qv vlt hlx
             rw [hdr5,b0w,hkn] at v4
             rw [if_pos rfl,←Nat.add_assoc] at v4
             have hcl:=d1f q4 lx
             have hcw:Go.RowKit.wrap64 ((c5:Int)+1)=((c5+1:Nat):Int):=Qv (n:=lx.length) (by omega) hlx
             have F0:=And.intro vci<|And.intro vj<|And.intro vjl<|And.intro hg5<|And.intro Int.toNat_natCast<|And.intro Az<|And.intro vs1<|And.intro hcw<|F0
             iterate 20 first
              |refine zhK _ ?_
              |(refine Dw fun zK zhK=>?_;simp only [go_sem,F0];(repeat' (first|apply And.intro|intro _)))
              |(refine zhN _ ?_;clear zhN zhM)
              |(refine Aq fun zK zhK=>?_;simp only [go_sem,F0];(repeat' (first|apply And.intro|intro _)))
              |refine Bv ?_
              |refine Bw fun zB zbn zbx zbr zbi=>?_
              |(refine zbn _ ?_;clear zbn zbx zbr zbi)
              |((all_goals (refine Jq (caps:=[13]) false [(500000,13)] (fun k=>k) ?_ ?_ (fun _ _=>rfl) ?_ (by decide) ?_ hk5 ?_;iterate 4 (focus (first|rfl|(simp only [go_sem,F0]<;>first|done|rfl|simp)))));(all_goals (rintro v m ⟨hR,hm⟩;subst hR;subst hm));(all_goals (refine And.intro ?_ (And.intro ?_ (And.intro ?_ ?_));iterate 3 (focus (first|rfl|(simp only [go_sem,F0];done)|(simp [go_sem,look,F0];done)))));(all_goals (try simp only [go_sem,F0]));(all_goals (try simp only [go_sem,F0]));(all_goals repeat' (first|apply And.intro|intro _)))
              |refine Bj fun zN zM zhN zhM=>?_
              |(refine Aj ?_ ?_;focus (first|rfl|(simp [go_sem,F0];done)))
             refine zhN ⟨(j5+1,c5+1),vlt,v4⟩ _ ?_ ?_ ?_
             · (exact Nat.sub_lt_sub_left vlt (Nat.lt_succ_self j5))
             · (simp only [go_sem,leX,List.cons_append,List.nil_append,F0];try simp)
             · (simp only [go_sem,leX,List.cons_append,List.nil_append,F0];try simp)
           · obtain rfl:j5=lx.length:=Nat.le_antisymm v1 vge
             rw [List.drop_length,j1p,Nat.add_zero] at v4
             have F0:=And.intro (@r0e lx.length)<|And.intro v4<|F0
             iterate 11 first
              |(refine Dw fun zK zhK=>?_;simp only [go_sem,F0];(repeat' (first|apply And.intro|intro _)))
              |refine zhK _ ?_
              |(refine zhM _ _ ?_;clear zhN zhM)
              |refine Iw ?_
              |(refine zbx _ ?_;clear zbn zbx zbr zbi)
              |(refine zhN _ ?_;clear zhN zhM)
              |refine Bj fun zN zM zhN zhM=>?_
              |(refine Av ?_ ?_;focus (first|rfl|(simp [go_sem,F0];done)))
             refine s1g (fun w:Bool=>[(26,.w (.one (.pl (.b w))))]) (fun _=>[]) (fun w=>w=mkB q4 (.mk kx ix ox lx)) (fun zN zM zhN zhM=>?_) (fun w hw=>?_)
             · rcases w0t kx (kaB q4 ix) (kpB q4 ox) (kaB q4 ox) with hk1|hk1|⟨hk1,hai,hao⟩|⟨hk1,hai,hao⟩|⟨hk1,hai,hpo,hao⟩|⟨hk1,hai,hpo,hao⟩|⟨hk1,hai,hpo⟩|⟨n1,n2,n3⟩
               · have hw1:false=mkB q4 (.mk kx ix ox lx):=by rw [mkB,if_pos hk1]
                 have F0:=And.intro hk1<|F0
                 have zL:=fun S2=>zhN false hw1 S2
                 exact HT.w
               · have hw1:kaB q4 ix=mkB q4 (.mk kx ix ox lx):=by rw [mkB,if_neg (by rw [hk1];decide),if_pos hk1]
                 have ca:=b0o mb q4 ix hix
                 have F0:=And.intro hk1<|F0
                 have cf0:=ca
                 have cg0:=CF.mk [17] [(500000,17),(500001,13)]
                 have zL:=fun S2=>zhN (kaB q4 ix) hw1 S2
                 exact HT.w
               · have ca:=b0o mb q4 ix hix
                 have cp:=k0s mb q4 ox hox
                 have cc:=b0o mb q4 ox hox
                 have cd:=k0s mb q4 ix hix
                 rw [hai] at ca
                 rw [hao] at cc
                 have hw1:false=mkB q4 (.mk kx ix ox lx):=by rw [mkB,if_neg (by rw [hk1];decide),if_neg (by rw [hk1];decide),if_pos hk1,kdB];simp [hai,hao]
                 have F0:=And.intro hk1<|F0
                 have cf0:=ca
                 have cg0:=CF.mk [17] [(500000,17),(500001,13)]
                 have cf1:=cc
                 have cg1:=CF.mk [17] [(500000,17),(500001,13)]
                 have zL:=fun S2=>zhN false hw1 S2
                 exact HT.w
               · have ca:=b0o mb q4 ix hix
                 have cp:=k0s mb q4 ox hox
                 have cc:=b0o mb q4 ox hox
                 have cd:=k0s mb q4 ix hix
                 rw [hai] at ca
                 rw [hao] at cc
                 have hw1:(kpB q4 ix)=mkB q4 (.mk kx ix ox lx):=by rw [mkB,if_neg (by rw [hk1];decide),if_neg (by rw [hk1];decide),if_pos hk1,kdB];simp [hai,hao]
                 have F0:=And.intro hk1<|F0
                 have cf0:=ca
                 have cg0:=CF.mk [17] [(500000,17),(500001,13)]
                 have cf1:=cc
                 have cg1:=CF.mk [17] [(500000,17),(500001,13)]
                 have cf2:=cd
                 have cg2:=CF.mk [18,17] [(500000,18),(500001,17),(500002,13)]
                 have zL:=fun S2=>zhN (kpB q4 ix) hw1 S2
                 exact HT.w
               · have ca:=b0o mb q4 ix hix
                 have cp:=k0s mb q4 ox hox
                 have cc:=b0o mb q4 ox hox
                 have cd:=k0s mb q4 ix hix
                 rw [hai] at ca
                 rw [hpo] at cp
                 rw [hao] at cc
                 have hw1:false=mkB q4 (.mk kx ix ox lx):=by rw [mkB,if_neg (by rw [hk1];decide),if_neg (by rw [hk1];decide),if_pos hk1,kdB];simp [hai,hpo,hao]
                 have F0:=And.intro hk1<|F0
                 have cf0:=ca
                 have cg0:=CF.mk [17] [(500000,17),(500001,13)]
                 have cf1:=cp
                 have cg1:=CF.mk [18,17] [(500000,18),(500001,17),(500002,13)]
                 have cf2:=cc
                 have cg2:=CF.mk [17] [(500000,17),(500001,13)]
                 have zL:=fun S2=>zhN false hw1 S2
                 exact HT.w
               · have ca:=b0o mb q4 ix hix
                 have cp:=k0s mb q4 ox hox
                 have cc:=b0o mb q4 ox hox
                 have cd:=k0s mb q4 ix hix
                 rw [hai] at ca
                 rw [hpo] at cp
                 rw [hao] at cc
                 have hw1:(kpB q4 ix)=mkB q4 (.mk kx ix ox lx):=by rw [mkB,if_neg (by rw [hk1];decide),if_neg (by rw [hk1];decide),if_pos hk1,kdB];simp [hai,hpo,hao]
                 have F0:=And.intro hk1<|F0
                 have cf0:=ca
                 have cg0:=CF.mk [17] [(500000,17),(500001,13)]
                 have cf1:=cp
                 have cg1:=CF.mk [18,17] [(500000,18),(500001,17),(500002,13)]
                 have cf2:=cc
                 have cg2:=CF.mk [17] [(500000,17),(500001,13)]
                 have cf3:=cd
                 have cg3:=CF.mk [18,17] [(500000,18),(500001,17),(500002,13)]
                 have zL:=fun S2=>zhN (kpB q4 ix) hw1 S2
                 exact HT.w
               · have ca:=b0o mb q4 ix hix
                 have cp:=k0s mb q4 ox hox
                 have cc:=b0o mb q4 ox hox
                 have cd:=k0s mb q4 ix hix
                 rw [hai] at ca
                 rw [hpo] at cp
                 have hw1:true=mkB q4 (.mk kx ix ox lx):=by rw [mkB,if_neg (by rw [hk1];decide),if_neg (by rw [hk1];decide),if_pos hk1,kdB];simp [hai,hpo]
                 have F0:=And.intro hk1<|F0
                 have cf0:=ca
                 have cg0:=CF.mk [17] [(500000,17),(500001,13)]
                 have cf1:=cp
                 have cg1:=CF.mk [18,17] [(500000,18),(500001,17),(500002,13)]
                 have zL:=fun S2=>zhN true hw1 S2
                 exact HT.w
               · have hw1:decide ((c5:Int)=((lx.length:Nat):Int))=mkB q4 (.mk kx ix ox lx):=by rw [mkB,if_neg n1,if_neg n2,if_neg n3,←v4];exact decide_eq_decide.mpr Int.ofNat_inj
                 have F0:=And.intro n1<|And.intro n2<|And.intro n3<|F0
                 have zL:=fun S2=>zhN (decide ((c5:Int)=((lx.length:Nat):Int))) hw1 S2
                 exact HT.w
             · skip
               have hsp:(w=false∧knB q4 (.mk kx ix ox lx)=false)∨(w=false∧knB q4 (.mk kx ix ox lx)=true∧¬kx=4∧¬kx=7)∨(w=false∧knB q4 (.mk kx ix ox lx)=true∧kx=7∧knB q4 (lx.getD 0 zT)=false)∨(w=false∧knB q4 (.mk kx ix ox lx)=true∧kx=7∧knB q4 (lx.getD 0 zT)=true)∨(w=true∧¬kx=4∧¬kx=7)∨(w=true∧kx=7∧knB (Dk q4 (Cw (.mk kx ix ox lx)) 1) (lx.getD 0 zT)=false)∨(w=true∧kx=7∧knB (Dk q4 (Cw (.mk kx ix ox lx)) 1) (lx.getD 0 zT)=true)∨(w=false∧knB q4 (.mk kx ix ox lx)=true∧kx=4)∨(w=true∧kx=4):=by
                rcases Int.decEq kx 4 with h4|h4<;>rcases Int.decEq kx 7 with h7|h7<;>cases w<;>cases knB q4 (.mk kx ix ox lx)<;>cases knB q4 (lx.getD 0 zT)<;>cases knB (Dk q4 (Cw (.mk kx ix ox lx)) 1) (lx.getD 0 zT)<;>simp [h4,h7]
               rcases hsp with ⟨rfl,hkn⟩|⟨rfl,hkn,h4,h7⟩|⟨rfl,hkn,h7,hq7⟩|⟨rfl,hkn,h7,hq7⟩|⟨rfl,h4,h7⟩|⟨rfl,h7,hq7⟩|⟨rfl,h7,hq7⟩|⟨rfl,hkn,h4⟩|⟨rfl,h4⟩
               · have hkx:=b0n mb q4 (.mk kx ix ox lx) hwx hzx
                 rw [Ak,hkn] at hkx
                 have hun:Iz q4 (a.drop (i4+1))=Iz q3 a:=by rw [←u4,l1h hw.symm hkn]
                 have hsx:=l0f _ hwx hzx
                 rw [Ak] at hsx
                 have hk0:=hkx
                 have hs2:=hsx
                 have cf0:=hkx
                 have cg0:=CF.mk [13] [(500000,13)]
                 have zL:=fun S2=>yN4 ⟨(i4+1,_),hlt,hun⟩ S2 (by (exact Nat.sub_lt_sub_left hlt (Nat.lt_succ_self i4)))
                 exact HT.w
               · have hkx:=b0n mb q4 (.mk kx ix ox lx) hwx hzx
                 rw [Ak,hkn] at hkx
                 have hsx:=l0f _ hwx hzx
                 rw [Ak] at hsx
                 have hk0:=hkx
                 have hs2:=hsx
                 have hun:Iz q4 (a.drop (i4+1))=Iz q3 a:=by rw [←u4,m0v hw.symm hkn,n0f _ _ _ _ h4 h7]
                 have F0:=And.intro h4<|And.intro h7<|F0
                 iterate 28 first
                  |(refine zhN _ ?_;clear zhN zhM)
                  |refine zhK _ ?_
                  |refine Bv ?_
                  |(refine Dw fun zK zhK=>?_;simp only [go_sem,F0];(repeat' (first|apply And.intro|intro _)))
                  |(refine zbn _ ?_;clear zbn zbx zbr zbi)
                  |(refine Aq fun zK zhK=>?_;simp only [go_sem,F0];(repeat' (first|apply And.intro|intro _)))
                  |((all_goals (refine Jq (caps:=[13]) false [(500000,13)] (fun k=>k) ?_ ?_ (fun _ _=>rfl) ?_ (by decide) ?_ hkx ?_;iterate 4 (focus (first|rfl|(simp only [go_sem,F0]<;>first|done|rfl|simp)))));(all_goals (rintro v m ⟨hR,hm⟩;subst hR;subst hm));(all_goals (refine And.intro ?_ (And.intro ?_ (And.intro ?_ ?_));iterate 3 (focus (first|rfl|(simp only [go_sem,F0];done)|(simp [go_sem,look,F0];done)))));(all_goals (try simp only [go_sem,F0]));(all_goals (try simp only [go_sem,F0]));(all_goals repeat' (first|apply And.intro|intro _)))
                  |(refine m0b (id:=54) mixed fun zE zhE=>?_;refine Ej 4 4 rfl (by kernel_rfl) rfl rfl fun zR zhR=>?_;simp only [go_sem,F0];(repeat' (first|apply And.intro|intro _));refine zhR _ ?_;refine Hw (p:=4) 9 [168,169,170,171,172] [0,1,3,7,15,15,47,111,239,511,1023] [] rfl (by kernel_rfl) rfl (by simp only [go_sem]) fun zR zK zhR zhK=>?_;simp only [go_sem,F0];(repeat' (first|apply And.intro|intro _));refine zhK _ _ trivial (zhR _ ?_);refine Ej 2 11 rfl (by kernel_rfl) rfl rfl fun zR zhR=>?_;simp only [go_sem,F0];(repeat' (first|apply And.intro|intro _));(all_goals try (((refine Jq (caps:=[13]) false [(500000,13)] (fun k=>k) ?_ ?_ (fun _ _=>rfl) ?_ (by decide) ?_ hk0 ?_;iterate 4 (focus (first|rfl|(simp only [go_sem,F0]<;>first|done|rfl|simp)))));((rintro v m ⟨hR,hm⟩;subst hR;subst hm));((refine And.intro ?_ (And.intro ?_ (And.intro ?_ ?_));iterate 3 (focus (first|rfl|(simp only [go_sem,F0];done)|(simp [go_sem,look,F0];done)))));((try simp only [go_sem,F0]));((try simp only [go_sem,F0]));(repeat' (first|apply And.intro|intro _))));refine zhR _ ?_;refine Pw rfl (zhE _ ?_))
                  |refine Bj fun zN zM zhN zhM=>?_
                  |(refine Av ?_ ?_;focus (first|rfl|(simp [go_sem,F0];done)))
                 refine zhN ⟨(i4+1,_),hlt,hun⟩ _ ?_ ?_ ?_
                 · (exact Nat.sub_lt_sub_left hlt (Nat.lt_succ_self i4))
                 · (simp only [go_sem,leX,List.cons_append,List.nil_append,F0];try simp)
                 · (simp only [go_sem,leX,List.cons_append,List.nil_append,F0];try simp)
               · subst h7
                 obtain ⟨y0,y1,y2,hl3⟩:=n1t ((a0w hwx).trans rfl)
                 obtain ⟨ka,ia,oa,la⟩:=y0
                 obtain ⟨kc,ic,oc,lc⟩:=y2
                 subst hl3
                 have hr3:Ay [.mk ka ia oa la,y1,.mk kc ic oc lc]=[[.i ka,.i ia,.i oa,.R false 4 (Ay la)],y1.cells,[.i kc,.i ic,.i oc,.R false 4 (Ay lc)]]:=by simp [Ay,Aw.cells]
                 have hkx:=b0n mb q4 (.mk 7 ix ox [.mk ka ia oa la,y1,.mk kc ic oc lc]) hwx hzx
                 rw [Ak,hkn] at hkx
                 have hsx:=l0f _ hwx hzx
                 rw [Ak] at hsx
                 simp only [Fy,hr3] at hkx hsx
                 have hy0:=hax (.mk ka ia oa la) (by simp [Aw.args])
                 have hy2:=hax (.mk kc ic oc lc) (by simp [Aw.args])
                 have hk0:=b0n mb q4 (.mk ka ia oa la) (hwA _ hy0) (hzA _ hy0)
                 have hs2:=l0f (.mk kc ic oc lc) (hwA _ hy2) (hzA _ hy2)
                 rw [Ak] at hk0 hs2
                 have hkn0:knB q4 (.mk ka ia oa la)=false:=hq7
                 rw [hkn0] at hk0
                 have hun:Iz q4 (a.drop (i4+1))=Iz q3 a:=by rw [←u4,m0v hw.symm hkn,m1r _ _ rfl hkn0]
                 have F0:=And.intro hr3<|And.intro (@List.getD_cons_zero (List PL))<|And.intro (@List.getD_cons_succ (List PL))<|F0
                 iterate 28 first
                  |(refine zhN _ ?_;clear zhN zhM)
                  |refine zhK _ ?_
                  |refine Bv ?_
                  |(refine Dw fun zK zhK=>?_;simp only [go_sem,F0];(repeat' (first|apply And.intro|intro _)))
                  |(refine zbn _ ?_;clear zbn zbx zbr zbi)
                  |(refine Aq fun zK zhK=>?_;simp only [go_sem,F0];(repeat' (first|apply And.intro|intro _)))
                  |((all_goals (refine Jq (caps:=[13]) false [(500000,13)] (fun k=>k) ?_ ?_ (fun _ _=>rfl) ?_ (by decide) ?_ hkx ?_;iterate 4 (focus (first|rfl|(simp only [go_sem,F0]<;>first|done|rfl|simp)))));(all_goals (rintro v m ⟨hR,hm⟩;subst hR;subst hm));(all_goals (refine And.intro ?_ (And.intro ?_ (And.intro ?_ ?_));iterate 3 (focus (first|rfl|(simp only [go_sem,F0];done)|(simp [go_sem,look,F0];done)))));(all_goals (try simp only [go_sem,F0]));(all_goals (try simp only [go_sem,F0]));(all_goals repeat' (first|apply And.intro|intro _)))
                  |(refine m0b (id:=54) mixed fun zE zhE=>?_;refine Ej 4 4 rfl (by kernel_rfl) rfl rfl fun zR zhR=>?_;simp only [go_sem,F0];(repeat' (first|apply And.intro|intro _));refine zhR _ ?_;refine Hw (p:=4) 9 [168,169,170,171,172] [0,1,3,7,15,15,47,111,239,511,1023] [] rfl (by kernel_rfl) rfl (by simp only [go_sem]) fun zR zK zhR zhK=>?_;simp only [go_sem,F0];(repeat' (first|apply And.intro|intro _));refine zhK _ _ trivial (zhR _ ?_);refine Ej 2 11 rfl (by kernel_rfl) rfl rfl fun zR zhR=>?_;simp only [go_sem,F0];(repeat' (first|apply And.intro|intro _));(all_goals try (((refine Jq (caps:=[13]) false [(500000,13)] (fun k=>k) ?_ ?_ (fun _ _=>rfl) ?_ (by decide) ?_ hk0 ?_;iterate 4 (focus (first|rfl|(simp only [go_sem,F0]<;>first|done|rfl|simp)))));((rintro v m ⟨hR,hm⟩;subst hR;subst hm));((refine And.intro ?_ (And.intro ?_ (And.intro ?_ ?_));iterate 3 (focus (first|rfl|(simp only [go_sem,F0];done)|(simp [go_sem,look,F0];done)))));((try simp only [go_sem,F0]));((try simp only [go_sem,F0]));(repeat' (first|apply And.intro|intro _))));refine zhR _ ?_;refine Pw rfl (zhE _ ?_))
                  |refine Bj fun zN zM zhN zhM=>?_
                  |(refine Av ?_ ?_;focus (first|rfl|(simp [go_sem,F0];done)))
                 refine zhN ⟨(i4+1,_),hlt,hun⟩ _ ?_ ?_ ?_
                 · (exact Nat.sub_lt_sub_left hlt (Nat.lt_succ_self i4))
                 · (simp only [go_sem,leX,List.cons_append,List.nil_append,F0];try simp)
                 · (simp only [go_sem,leX,List.cons_append,List.nil_append,F0];try simp)
               · subst h7
                 obtain ⟨y0,y1,y2,hl3⟩:=n1t ((a0w hwx).trans rfl)
                 obtain ⟨ka,ia,oa,la⟩:=y0
                 obtain ⟨kc,ic,oc,lc⟩:=y2
                 subst hl3
                 have hr3:Ay [.mk ka ia oa la,y1,.mk kc ic oc lc]=[[.i ka,.i ia,.i oa,.R false 4 (Ay la)],y1.cells,[.i kc,.i ic,.i oc,.R false 4 (Ay lc)]]:=by simp [Ay,Aw.cells]
                 have hkx:=b0n mb q4 (.mk 7 ix ox [.mk ka ia oa la,y1,.mk kc ic oc lc]) hwx hzx
                 rw [Ak,hkn] at hkx
                 have hsx:=l0f _ hwx hzx
                 rw [Ak] at hsx
                 simp only [Fy,hr3] at hkx hsx
                 have hy0:=hax (.mk ka ia oa la) (by simp [Aw.args])
                 have hy2:=hax (.mk kc ic oc lc) (by simp [Aw.args])
                 have hk0:=b0n mb q4 (.mk ka ia oa la) (hwA _ hy0) (hzA _ hy0)
                 have hs2:=l0f (.mk kc ic oc lc) (hwA _ hy2) (hzA _ hy2)
                 rw [Ak] at hk0 hs2
                 have hkn0:knB q4 (.mk ka ia oa la)=true:=hq7
                 rw [hkn0] at hk0
                 have hun:Iz (Dk q4 (Cw (.mk kc ic oc lc)) 1) (a.drop (i4+1))=Iz q3 a:=by rw [←u4,m0v hw.symm hkn,g1a _ _ rfl hkn0]
                 have F0:=And.intro hr3<|And.intro (@List.getD_cons_zero (List PL))<|And.intro (@List.getD_cons_succ (List PL))<|F0
                 iterate 28 first
                  |(refine zhN _ ?_;clear zhN zhM)
                  |refine zhK _ ?_
                  |(refine Dw fun zK zhK=>?_;simp only [go_sem,F0];(repeat' (first|apply And.intro|intro _)))
                  |refine Bv ?_
                  |(refine zbn _ ?_;clear zbn zbx zbr zbi)
                  |(refine Aq fun zK zhK=>?_;simp only [go_sem,F0];(repeat' (first|apply And.intro|intro _)))
                  |((all_goals (refine Jq (caps:=[13]) false [(500000,13)] (fun k=>k) ?_ ?_ (fun _ _=>rfl) ?_ (by decide) ?_ hkx ?_;iterate 4 (focus (first|rfl|(simp only [go_sem,F0]<;>first|done|rfl|simp)))));(all_goals (rintro v m ⟨hR,hm⟩;subst hR;subst hm));(all_goals (refine And.intro ?_ (And.intro ?_ (And.intro ?_ ?_));iterate 3 (focus (first|rfl|(simp only [go_sem,F0];done)|(simp [go_sem,look,F0];done)))));(all_goals (try simp only [go_sem,F0]));(all_goals (try simp only [go_sem,F0]));(all_goals repeat' (first|apply And.intro|intro _)))
                  |(refine m0b (id:=54) mixed fun zE zhE=>?_;refine Ej 4 4 rfl (by kernel_rfl) rfl rfl fun zR zhR=>?_;simp only [go_sem,F0];(repeat' (first|apply And.intro|intro _));refine zhR _ ?_;refine Hw (p:=4) 9 [168,169,170,171,172] [0,1,3,7,15,15,47,111,239,511,1023] [] rfl (by kernel_rfl) rfl (by simp only [go_sem]) fun zR zK zhR zhK=>?_;simp only [go_sem,F0];(repeat' (first|apply And.intro|intro _));refine zhK _ _ trivial (zhR _ ?_);refine Ej 2 11 rfl (by kernel_rfl) rfl rfl fun zR zhR=>?_;simp only [go_sem,F0];(repeat' (first|apply And.intro|intro _));(all_goals try (((refine Jq (caps:=[13]) false [(500000,13)] (fun k=>k) ?_ ?_ (fun _ _=>rfl) ?_ (by decide) ?_ hk0 ?_;iterate 4 (focus (first|rfl|(simp only [go_sem,F0]<;>first|done|rfl|simp)))));((rintro v m ⟨hR,hm⟩;subst hR;subst hm));((refine And.intro ?_ (And.intro ?_ (And.intro ?_ ?_));iterate 3 (focus (first|rfl|(simp only [go_sem,F0];done)|(simp [go_sem,look,F0];done)))));((try simp only [go_sem,F0]));((try simp only [go_sem,F0]));(repeat' (first|apply And.intro|intro _))));refine zhR _ ?_;refine Pw rfl (zhE _ ?_))
                  |(refine m0b (id:=55) mixed fun zE zhE=>?_;refine Hw (p:=0) 6 [175,176,177,178,179,180] [0,0,2,6,14,30,63] [] rfl (by kernel_rfl) rfl (by simp only [go_sem]) fun zR zK zhR zhK=>?_;simp only [go_sem,F0];(repeat' (first|apply And.intro|intro _));(all_goals (refine Cx (fun k=>k) (.w (.one (.pl (.str (Cw (.mk kc ic oc lc)))))) [] (fun _ _=>rfl) ?_ ((hs2).plain fun _ _ h=>h) ?_ ?_;focus (first|rfl|(simp only [go_sem,F0]<;>rfl))));(all_goals try (refine And.intro ?_ (And.intro ?_ (And.intro ?_ ?_))<;>first|rfl|simp only [go_sem]));(all_goals simp only [go_sem,F0]);(all_goals repeat' (first|apply And.intro|intro _));refine zhK _ _ trivial (zhR _ ?_);refine Ej 1 7 rfl (by kernel_rfl) rfl rfl fun zR zhR=>?_;simp only [go_sem,F0];(repeat' (first|apply And.intro|intro _));(all_goals refine l1f Try.underlying42 Try.underlying9 hmb ?_);(all_goals (try simp only [go_sem,Qk,F0]));(all_goals repeat' (first|apply And.intro|intro _));refine zhR _ ?_;refine Pw rfl (zhE _ ?_))
                  |refine Bj fun zN zM zhN zhM=>?_
                  |(refine Av ?_ ?_;focus (first|rfl|(simp [go_sem,F0];done)))
                  |(refine Aj ?_ ?_;focus (first|rfl|(simp [go_sem,F0];done)))
                 refine zhN ⟨(i4+1,_),hlt,hun⟩ _ ?_ ?_ ?_
                 · (exact Nat.sub_lt_sub_left hlt (Nat.lt_succ_self i4))
                 · (simp only [go_sem,leX,List.cons_append,List.nil_append,F0];try simp)
                 · (simp only [go_sem,leX,List.cons_append,List.nil_append,F0];try simp)
               · have hkx:=b0n mb (Dk q4 (Cw (.mk kx ix ox lx)) 1) (.mk kx ix ox lx) hwx hzx
                 rw [Ak,d0b] at hkx
                 have hsx:=l0f _ hwx hzx
                 rw [Ak] at hsx
                 have hk0:=hkx
                 have hs2:=hsx
                 have hun:Iz (Dk q4 (Cw (.mk kx ix ox lx)) 1) (a.drop (i4+1))=Iz q3 a:=by rw [←u4,step_mk hw.symm,n0f _ _ _ _ h4 h7]
                 have F0:=And.intro h4<|And.intro h7<|F0
                 iterate 28 first
                  |(refine zhN _ ?_;clear zhN zhM)
                  |refine zhK _ ?_
                  |(refine Dw fun zK zhK=>?_;simp only [go_sem,F0];(repeat' (first|apply And.intro|intro _)))
                  |refine Bv ?_
                  |(refine zbn _ ?_;clear zbn zbx zbr zbi)
                  |(refine Aq fun zK zhK=>?_;simp only [go_sem,F0];(repeat' (first|apply And.intro|intro _)))
                  |(refine m0b (id:=50) mixed fun zE zhE=>?_;refine Hw (p:=0) 3 [138,139,140] [0,0,2,7] [] rfl (by kernel_rfl) rfl (by simp only [go_sem]) fun zR zK zhR zhK=>?_;simp only [go_sem,F0];(repeat' (first|apply And.intro|intro _));(all_goals (refine Cx (fun k=>k) _ [] (fun _ _=>rfl) ?_ ((hsx).plain fun _ _ h=>h) ?_ ?_;focus (first|rfl|(simp only [go_sem,F0]<;>rfl))));(all_goals try (refine And.intro ?_ (And.intro ?_ (And.intro ?_ ?_))<;>first|rfl|simp only [go_sem]));(all_goals simp only [go_sem,F0]);(all_goals repeat' (first|apply And.intro|intro _));refine zhK _ _ trivial (zhR _ ?_);refine Ej 1 4 rfl (by kernel_rfl) rfl rfl fun zR zhR=>?_;simp only [go_sem,F0];(repeat' (first|apply And.intro|intro _));(all_goals refine l1f Try.underlying42 Try.underlying9 hmb ?_);(all_goals (try simp only [go_sem,Qk,F0]));(all_goals repeat' (first|apply And.intro|intro _));refine zhR _ ?_;refine Pw rfl (zhE _ ?_))
                  |((all_goals (refine Jq (caps:=[13]) false [(500000,13)] (fun k=>k) ?_ ?_ (fun _ _=>rfl) ?_ (by decide) ?_ hkx ?_;iterate 4 (focus (first|rfl|(simp only [go_sem,F0]<;>first|done|rfl|simp)))));(all_goals (rintro v m ⟨hR,hm⟩;subst hR;subst hm));(all_goals (refine And.intro ?_ (And.intro ?_ (And.intro ?_ ?_));iterate 3 (focus (first|rfl|(simp only [go_sem,F0];done)|(simp [go_sem,look,F0];done)))));(all_goals (try simp only [go_sem,F0]));(all_goals (try simp only [go_sem,F0]));(all_goals repeat' (first|apply And.intro|intro _)))
                  |(refine m0b (id:=54) mixed fun zE zhE=>?_;refine Ej 4 4 rfl (by kernel_rfl) rfl rfl fun zR zhR=>?_;simp only [go_sem,F0];(repeat' (first|apply And.intro|intro _));refine zhR _ ?_;refine Hw (p:=4) 9 [168,169,170,171,172] [0,1,3,7,15,15,47,111,239,511,1023] [] rfl (by kernel_rfl) rfl (by simp only [go_sem]) fun zR zK zhR zhK=>?_;simp only [go_sem,F0];(repeat' (first|apply And.intro|intro _));refine zhK _ _ trivial (zhR _ ?_);refine Ej 2 11 rfl (by kernel_rfl) rfl rfl fun zR zhR=>?_;simp only [go_sem,F0];(repeat' (first|apply And.intro|intro _));(all_goals try (((refine Jq (caps:=[13]) false [(500000,13)] (fun k=>k) ?_ ?_ (fun _ _=>rfl) ?_ (by decide) ?_ hk0 ?_;iterate 4 (focus (first|rfl|(simp only [go_sem,F0]<;>first|done|rfl|simp)))));((rintro v m ⟨hR,hm⟩;subst hR;subst hm));((refine And.intro ?_ (And.intro ?_ (And.intro ?_ ?_));iterate 3 (focus (first|rfl|(simp only [go_sem,F0];done)|(simp [go_sem,look,F0];done)))));((try simp only [go_sem,F0]));((try simp only [go_sem,F0]));(repeat' (first|apply And.intro|intro _))));refine zhR _ ?_;refine Pw rfl (zhE _ ?_))
                  |refine Bj fun zN zM zhN zhM=>?_
                  |(refine Av ?_ ?_;focus (first|rfl|(simp [go_sem,F0];done)))
                  |(refine Aj ?_ ?_;focus (first|rfl|(simp [go_sem,F0];done)))
                 refine zhN ⟨(i4+1,_),hlt,hun⟩ _ ?_ ?_ ?_
                 · (exact Nat.sub_lt_sub_left hlt (Nat.lt_succ_self i4))
                 · (simp only [go_sem,leX,List.cons_append,List.nil_append,F0];try simp)
                 · (simp only [go_sem,leX,List.cons_append,List.nil_append,F0];try simp)
               · subst h7
                 obtain ⟨y0,y1,y2,hl3⟩:=n1t ((a0w hwx).trans rfl)
                 obtain ⟨ka,ia,oa,la⟩:=y0
                 obtain ⟨kc,ic,oc,lc⟩:=y2
                 subst hl3
                 have hr3:Ay [.mk ka ia oa la,y1,.mk kc ic oc lc]=[[.i ka,.i ia,.i oa,.R false 4 (Ay la)],y1.cells,[.i kc,.i ic,.i oc,.R false 4 (Ay lc)]]:=by simp [Ay,Aw.cells]
                 have hkx:=b0n mb (Dk q4 (Cw (.mk 7 ix ox [.mk ka ia oa la,y1,.mk kc ic oc lc])) 1) (.mk 7 ix ox [.mk ka ia oa la,y1,.mk kc ic oc lc]) hwx hzx
                 rw [Ak,d0b] at hkx
                 have hsx:=l0f _ hwx hzx
                 rw [Ak] at hsx
                 simp only [Fy,hr3] at hkx hsx
                 have hy0:=hax (.mk ka ia oa la) (by simp [Aw.args])
                 have hy2:=hax (.mk kc ic oc lc) (by simp [Aw.args])
                 have hk0:=b0n mb (Dk q4 (Cw (.mk 7 ix ox [.mk ka ia oa la,y1,.mk kc ic oc lc])) 1) (.mk ka ia oa la) (hwA _ hy0) (hzA _ hy0)
                 have hs2:=l0f (.mk kc ic oc lc) (hwA _ hy2) (hzA _ hy2)
                 rw [Ak] at hk0 hs2
                 have hkn0:knB (Dk q4 (Cw (.mk 7 ix ox [.mk ka ia oa la,y1,.mk kc ic oc lc])) 1) (.mk ka ia oa la)=false:=hq7
                 rw [hkn0] at hk0
                 have hun:Iz (Dk q4 (Cw (.mk 7 ix ox [.mk ka ia oa la,y1,.mk kc ic oc lc])) 1) (a.drop (i4+1))=Iz q3 a:=by rw [←u4,step_mk hw.symm,m1r _ _ rfl hkn0]
                 have F0:=And.intro hr3<|And.intro (@List.getD_cons_zero (List PL))<|And.intro (@List.getD_cons_succ (List PL))<|F0
                 iterate 28 first
                  |(refine zhN _ ?_;clear zhN zhM)
                  |refine zhK _ ?_
                  |(refine Dw fun zK zhK=>?_;simp only [go_sem,F0];(repeat' (first|apply And.intro|intro _)))
                  |refine Bv ?_
                  |(refine zbn _ ?_;clear zbn zbx zbr zbi)
                  |(refine Aq fun zK zhK=>?_;simp only [go_sem,F0];(repeat' (first|apply And.intro|intro _)))
                  |(refine m0b (id:=50) mixed fun zE zhE=>?_;refine Hw (p:=0) 3 [138,139,140] [0,0,2,7] [] rfl (by kernel_rfl) rfl (by simp only [go_sem]) fun zR zK zhR zhK=>?_;simp only [go_sem,F0];(repeat' (first|apply And.intro|intro _));(all_goals (refine Cx (fun k=>k) _ [] (fun _ _=>rfl) ?_ ((hsx).plain fun _ _ h=>h) ?_ ?_;focus (first|rfl|(simp only [go_sem,F0]<;>rfl))));(all_goals try (refine And.intro ?_ (And.intro ?_ (And.intro ?_ ?_))<;>first|rfl|simp only [go_sem]));(all_goals simp only [go_sem,F0]);(all_goals repeat' (first|apply And.intro|intro _));refine zhK _ _ trivial (zhR _ ?_);refine Ej 1 4 rfl (by kernel_rfl) rfl rfl fun zR zhR=>?_;simp only [go_sem,F0];(repeat' (first|apply And.intro|intro _));(all_goals refine l1f Try.underlying42 Try.underlying9 hmb ?_);(all_goals (try simp only [go_sem,Qk,F0]));(all_goals repeat' (first|apply And.intro|intro _));refine zhR _ ?_;refine Pw rfl (zhE _ ?_))
                  |((all_goals (refine Jq (caps:=[13]) false [(500000,13)] (fun k=>k) ?_ ?_ (fun _ _=>rfl) ?_ (by decide) ?_ hkx ?_;iterate 4 (focus (first|rfl|(simp only [go_sem,F0]<;>first|done|rfl|simp)))));(all_goals (rintro v m ⟨hR,hm⟩;subst hR;subst hm));(all_goals (refine And.intro ?_ (And.intro ?_ (And.intro ?_ ?_));iterate 3 (focus (first|rfl|(simp only [go_sem,F0];done)|(simp [go_sem,look,F0];done)))));(all_goals (try simp only [go_sem,F0]));(all_goals (try simp only [go_sem,F0]));(all_goals repeat' (first|apply And.intro|intro _)))
                  |(refine m0b (id:=54) mixed fun zE zhE=>?_;refine Ej 4 4 rfl (by kernel_rfl) rfl rfl fun zR zhR=>?_;simp only [go_sem,F0];(repeat' (first|apply And.intro|intro _));refine zhR _ ?_;refine Hw (p:=4) 9 [168,169,170,171,172] [0,1,3,7,15,15,47,111,239,511,1023] [] rfl (by kernel_rfl) rfl (by simp only [go_sem]) fun zR zK zhR zhK=>?_;simp only [go_sem,F0];(repeat' (first|apply And.intro|intro _));refine zhK _ _ trivial (zhR _ ?_);refine Ej 2 11 rfl (by kernel_rfl) rfl rfl fun zR zhR=>?_;simp only [go_sem,F0];(repeat' (first|apply And.intro|intro _));(all_goals try (((refine Jq (caps:=[13]) false [(500000,13)] (fun k=>k) ?_ ?_ (fun _ _=>rfl) ?_ (by decide) ?_ hk0 ?_;iterate 4 (focus (first|rfl|(simp only [go_sem,F0]<;>first|done|rfl|simp)))));((rintro v m ⟨hR,hm⟩;subst hR;subst hm));((refine And.intro ?_ (And.intro ?_ (And.intro ?_ ?_));iterate 3 (focus (first|rfl|(simp only [go_sem,F0];done)|(simp [go_sem,look,F0];done)))));((try simp only [go_sem,F0]));((try simp only [go_sem,F0]));(repeat' (first|apply And.intro|intro _))));refine zhR _ ?_;refine Pw rfl (zhE _ ?_))
                  |refine Bj fun zN zM zhN zhM=>?_
                  |(refine Av ?_ ?_;focus (first|rfl|(simp [go_sem,F0];done)))
                  |(refine Aj ?_ ?_;focus (first|rfl|(simp [go_sem,F0];done)))
                 refine zhN ⟨(i4+1,_),hlt,hun⟩ _ ?_ ?_ ?_
                 · (exact Nat.sub_lt_sub_left hlt (Nat.lt_succ_self i4))
                 · (simp only [go_sem,leX,List.cons_append,List.nil_append,F0];try simp)
                 · (simp only [go_sem,leX,List.cons_append,List.nil_append,F0];try simp)
               · subst h7
                 obtain ⟨y0,y1,y2,hl3⟩:=n1t ((a0w hwx).trans rfl)
                 obtain ⟨ka,ia,oa,la⟩:=y0
                 obtain ⟨kc,ic,oc,lc⟩:=y2
                 subst hl3
                 have hr3:Ay [.mk ka ia oa la,y1,.mk kc ic oc lc]=[[.i ka,.i ia,.i oa,.R false 4 (Ay la)],y1.cells,[.i kc,.i ic,.i oc,.R false 4 (Ay lc)]]:=by simp [Ay,Aw.cells]
                 have hkx:=b0n mb (Dk q4 (Cw (.mk 7 ix ox [.mk ka ia oa la,y1,.mk kc ic oc lc])) 1) (.mk 7 ix ox [.mk ka ia oa la,y1,.mk kc ic oc lc]) hwx hzx
                 rw [Ak,d0b] at hkx
                 have hsx:=l0f _ hwx hzx
                 rw [Ak] at hsx
                 simp only [Fy,hr3] at hkx hsx
                 have hy0:=hax (.mk ka ia oa la) (by simp [Aw.args])
                 have hy2:=hax (.mk kc ic oc lc) (by simp [Aw.args])
                 have hk0:=b0n mb (Dk q4 (Cw (.mk 7 ix ox [.mk ka ia oa la,y1,.mk kc ic oc lc])) 1) (.mk ka ia oa la) (hwA _ hy0) (hzA _ hy0)
                 have hs2:=l0f (.mk kc ic oc lc) (hwA _ hy2) (hzA _ hy2)
                 rw [Ak] at hk0 hs2
                 have hkn0:knB (Dk q4 (Cw (.mk 7 ix ox [.mk ka ia oa la,y1,.mk kc ic oc lc])) 1) (.mk ka ia oa la)=true:=hq7
                 rw [hkn0] at hk0
                 have hun:Iz (Dk (Dk q4 (Cw (.mk 7 ix ox [.mk ka ia oa la,y1,.mk kc ic oc lc])) 1) (Cw (.mk kc ic oc lc)) 1) (a.drop (i4+1))=Iz q3 a:=by rw [←u4,step_mk hw.symm,g1a _ _ rfl hkn0]
                 have F0:=And.intro hr3<|And.intro (@List.getD_cons_zero (List PL))<|And.intro (@List.getD_cons_succ (List PL))<|F0
                 iterate 28 first
                  |(refine zhN _ ?_;clear zhN zhM)
                  |refine zhK _ ?_
                  |(refine Dw fun zK zhK=>?_;simp only [go_sem,F0];(repeat' (first|apply And.intro|intro _)))
                  |refine Bv ?_
                  |(refine zbn _ ?_;clear zbn zbx zbr zbi)
                  |(refine Aq fun zK zhK=>?_;simp only [go_sem,F0];(repeat' (first|apply And.intro|intro _)))
                  |(refine m0b (id:=50) mixed fun zE zhE=>?_;refine Hw (p:=0) 3 [138,139,140] [0,0,2,7] [] rfl (by kernel_rfl) rfl (by simp only [go_sem]) fun zR zK zhR zhK=>?_;simp only [go_sem,F0];(repeat' (first|apply And.intro|intro _));(all_goals (refine Cx (fun k=>k) _ [] (fun _ _=>rfl) ?_ ((hsx).plain fun _ _ h=>h) ?_ ?_;focus (first|rfl|(simp only [go_sem,F0]<;>rfl))));(all_goals try (refine And.intro ?_ (And.intro ?_ (And.intro ?_ ?_))<;>first|rfl|simp only [go_sem]));(all_goals simp only [go_sem,F0]);(all_goals repeat' (first|apply And.intro|intro _));refine zhK _ _ trivial (zhR _ ?_);refine Ej 1 4 rfl (by kernel_rfl) rfl rfl fun zR zhR=>?_;simp only [go_sem,F0];(repeat' (first|apply And.intro|intro _));(all_goals refine l1f Try.underlying42 Try.underlying9 hmb ?_);(all_goals (try simp only [go_sem,Qk,F0]));(all_goals repeat' (first|apply And.intro|intro _));refine zhR _ ?_;refine Pw rfl (zhE _ ?_))
                  |((all_goals (refine Jq (caps:=[13]) false [(500000,13)] (fun k=>k) ?_ ?_ (fun _ _=>rfl) ?_ (by decide) ?_ hkx ?_;iterate 4 (focus (first|rfl|(simp only [go_sem,F0]<;>first|done|rfl|simp)))));(all_goals (rintro v m ⟨hR,hm⟩;subst hR;subst hm));(all_goals (refine And.intro ?_ (And.intro ?_ (And.intro ?_ ?_));iterate 3 (focus (first|rfl|(simp only [go_sem,F0];done)|(simp [go_sem,look,F0];done)))));(all_goals (try simp only [go_sem,F0]));(all_goals (try simp only [go_sem,F0]));(all_goals repeat' (first|apply And.intro|intro _)))
                  |(refine m0b (id:=54) mixed fun zE zhE=>?_;refine Ej 4 4 rfl (by kernel_rfl) rfl rfl fun zR zhR=>?_;simp only [go_sem,F0];(repeat' (first|apply And.intro|intro _));refine zhR _ ?_;refine Hw (p:=4) 9 [168,169,170,171,172] [0,1,3,7,15,15,47,111,239,511,1023] [] rfl (by kernel_rfl) rfl (by simp only [go_sem]) fun zR zK zhR zhK=>?_;simp only [go_sem,F0];(repeat' (first|apply And.intro|intro _));refine zhK _ _ trivial (zhR _ ?_);refine Ej 2 11 rfl (by kernel_rfl) rfl rfl fun zR zhR=>?_;simp only [go_sem,F0];(repeat' (first|apply And.intro|intro _));(all_goals try (((refine Jq (caps:=[13]) false [(500000,13)] (fun k=>k) ?_ ?_ (fun _ _=>rfl) ?_ (by decide) ?_ hk0 ?_;iterate 4 (focus (first|rfl|(simp only [go_sem,F0]<;>first|done|rfl|simp)))));((rintro v m ⟨hR,hm⟩;subst hR;subst hm));((refine And.intro ?_ (And.intro ?_ (And.intro ?_ ?_));iterate 3 (focus (first|rfl|(simp only [go_sem,F0];done)|(simp [go_sem,look,F0];done)))));((try simp only [go_sem,F0]));((try simp only [go_sem,F0]));(repeat' (first|apply And.intro|intro _))));refine zhR _ ?_;refine Pw rfl (zhE _ ?_))
                  |(refine m0b (id:=55) mixed fun zE zhE=>?_;refine Hw (p:=0) 6 [175,176,177,178,179,180] [0,0,2,6,14,30,63] [] rfl (by kernel_rfl) rfl (by simp only [go_sem]) fun zR zK zhR zhK=>?_;simp only [go_sem,F0];(repeat' (first|apply And.intro|intro _));(all_goals (refine Cx (fun k=>k) (.w (.one (.pl (.str (Cw (.mk kc ic oc lc)))))) [] (fun _ _=>rfl) ?_ ((hs2).plain fun _ _ h=>h) ?_ ?_;focus (first|rfl|(simp only [go_sem,F0]<;>rfl))));(all_goals try (refine And.intro ?_ (And.intro ?_ (And.intro ?_ ?_))<;>first|rfl|simp only [go_sem]));(all_goals simp only [go_sem,F0]);(all_goals repeat' (first|apply And.intro|intro _));refine zhK _ _ trivial (zhR _ ?_);refine Ej 1 7 rfl (by kernel_rfl) rfl rfl fun zR zhR=>?_;simp only [go_sem,F0];(repeat' (first|apply And.intro|intro _));(all_goals refine l1f Try.underlying42 Try.underlying9 hmb ?_);(all_goals (try simp only [go_sem,Qk,F0]));(all_goals repeat' (first|apply And.intro|intro _));refine zhR _ ?_;refine Pw rfl (zhE _ ?_))
                  |refine Bj fun zN zM zhN zhM=>?_
                  |(refine Aj ?_ ?_;focus (first|rfl|(simp [go_sem,F0];done)))
                  |(refine Av ?_ ?_;focus (first|rfl|(simp [go_sem,F0];done)))
                 refine zhN ⟨(i4+1,_),hlt,hun⟩ _ ?_ ?_ ?_
                 · (exact Nat.sub_lt_sub_left hlt (Nat.lt_succ_self i4))
                 · (simp only [go_sem,leX,List.cons_append,List.nil_append,F0];try simp)
                 · (simp only [go_sem,leX,List.cons_append,List.nil_append,F0];try simp)
               · subst h4
                 obtain ⟨y0,y1,hl3⟩:=len2 ((a0w hwx).trans rfl)
                 obtain ⟨ka,ia,oa,la⟩:=y0
                 obtain ⟨kc,ic,oc,lc⟩:=y1
                 subst hl3
                 have hr3:Ay [.mk ka ia oa la,.mk kc ic oc lc]=[[.i ka,.i ia,.i oa,.R false 4 (Ay la)],[.i kc,.i ic,.i oc,.R false 4 (Ay lc)]]:=by simp [Ay,Aw.cells]
                 have hkx:=b0n mb q4 (.mk 4 ix ox [.mk ka ia oa la,.mk kc ic oc lc]) hwx hzx
                 rw [Ak,hkn] at hkx
                 have hsx:=l0f _ hwx hzx
                 rw [Ak] at hsx
                 simp only [Fy,hr3] at hkx hsx
                 have hy0:=hax (.mk ka ia oa la) (by simp [Aw.args])
                 have hy2:=hax (.mk kc ic oc lc) (by simp [Aw.args])
                 have hs0:=l0f (.mk ka ia oa la) (hwA _ hy0) (hzA _ hy0)
                 have hs1:=l0f (.mk kc ic oc lc) (hwA _ hy2) (hzA _ hy2)
                 rw [Ak] at hs0 hs1
                 have hk0:=hkx
                 have hs2:=hsx
                 have hun:Iz (Dk (Dk q4 (Cw (.mk ka ia oa la)) 1) (Cw (.mk kc ic oc lc)) 1) (a.drop (i4+1))=Iz q3 a:=by rw [←u4,m0v hw.symm hkn,t1l _ _ rfl]
                 have F0:=And.intro hr3<|And.intro (@List.getD_cons_zero (List PL))<|And.intro (@List.getD_cons_succ (List PL))<|F0
                 iterate 19 first
                  |(refine Dw fun zK zhK=>?_;simp only [go_sem,F0];(repeat' (first|apply And.intro|intro _)))
                  |refine zhK _ ?_
                  |refine Bv ?_
                  |(refine zhN _ ?_;clear zhN zhM)
                  |refine m0b (id:=53) mixed fun zE zhE=>?_
                  |refine c1z 15 [(148,.w (.one (.pl (.val (.map (some mb)))))),(149,.w (.one (.p 22 [(3,1)]))),(150,.w (.one (.pl (.R false 4 [[.i ka,.i ia,.i oa,.R false 4 (Ay la)],[.i kc,.i ic,.i oc,.R false 4 (Ay lc)]])))),(151,.w (.one (.pl (.q [.i ka,.i ia,.i oa,.R false 4 (Ay la)] [])))),(152,.w (.agg [.pl (.i ka),.pl (.i ia),.pl (.i oa),.pl (.R false 4 (Ay la))])),(153,.w (.one (.pl (.str (Cw (.mk ka ia oa la)))))),(154,.w (.one (.pl (.val (.map (some mb)))))),(155,.w (.one (.p 22 [(3,1)]))),(156,.w (.one (.pl (.R false 4 [[.i ka,.i ia,.i oa,.R false 4 (Ay la)],[.i kc,.i ic,.i oc,.R false 4 (Ay lc)]])))),(157,.w (.one (.pl (.q [.i kc,.i ic,.i oc,.R false 4 (Ay lc)] [])))),(158,.w (.agg [.pl (.i kc),.pl (.i ic),.pl (.i oc),.pl (.R false 4 (Ay lc))])),(159,.w (.one (.pl (.str (Cw (.mk kc ic oc lc)))))),(160,.tup [.one (.pl (.i (getM q4 (Cw (.mk ka ia oa la))))),.one (.pl (.i ((h0s q4 (Cw (.mk ka ia oa la)):Nat):Int)))]),(161,.w (.one (.pl (.i ((h0s q4 (Cw (.mk ka ia oa la)):Nat):Int))))),(3,.w (.one (.p 3 [])))] (2000000+mb) 12 ⟨.m (Dx q4 (Cw (.mk ka ia oa la))),[]⟩ 14 ⟨.m (Dk q4 (Cw (.mk ka ia oa la)) 1),[]⟩ [false,false,false,false,false,false,false,false,false,false,false,false,false,false,false,false,false,false] [true,true,true,true,true,true,true,true,true,true,true,true,true,true,true,false,false,false] rfl (by decide) rfl rfl rfl rfl ?_ ?_
                  |((all_goals (refine Jq (caps:=[13]) false [(500000,13)] (fun k=>k) ?_ ?_ (fun _ _=>rfl) ?_ (by decide) ?_ hkx ?_;iterate 4 (focus (first|rfl|(simp only [go_sem,F0]<;>first|done|rfl|simp)))));(all_goals (rintro v m ⟨hR,hm⟩;subst hR;subst hm));(all_goals (refine And.intro ?_ (And.intro ?_ (And.intro ?_ ?_));iterate 3 (focus (first|rfl|(simp only [go_sem,F0];done)|(simp [go_sem,look,F0];done)))));(all_goals (try simp only [go_sem,F0]));(all_goals (try simp only [go_sem,F0]));(all_goals repeat' (first|apply And.intro|intro _)))
                  |refine Bj fun zN zM zhN zhM=>?_
                  |(refine Av ?_ ?_;focus (first|rfl|(simp [go_sem,F0];done)))
                  |(refine Aj ?_ ?_;focus (first|rfl|(simp [go_sem,F0];done)))
                 · intro E0 V0 M0 hE hV hM
                   have hnd:(V0.map (·.1)).Nodup:=by rw [hV];simp only [List.map_cons,List.map_nil];decide
                   have hm0:look M0 (2000000+mb)=some ⟨.m q4,[]⟩:=by rw [hM];first|rfl|(simp only [go_sem];done)|(simp [look,go_sem,F0];done)
                   have hm1:look M0 (13)=some ⟨false,[.pl (.val (.map (some mb)))]⟩:=by rw [hM];first|rfl|(simp only [go_sem];done)|(simp [look,go_sem,F0];done)
                   have hm2:look M0 (22)=some ⟨false,[.pl (.i 4),.pl (.i ix),.pl (.i ox),.pl (.R false 4 [[.i ka,.i ia,.i oa,.R false 4 (Ay la)],[.i kc,.i ic,.i oc,.R false 4 (Ay lc)]])]⟩:=by rw [hM];first|rfl|(simp only [go_sem];done)|(simp [look,go_sem,F0];done)
                   have he0:look E0 3=some (.w (.one (.p 3 []))):=by rw [hE];first|rfl|(simp only [go_sem];done)|(simp [look,go_sem,F0];done)
                   have he1:look E0 13=some (.w (.one (.p 13 []))):=by rw [hE];first|rfl|(simp only [go_sem];done)|(simp [look,go_sem,F0];done)
                   have he2:look E0 22=some (.w (.one (.p 22 []))):=by rw [hE];first|rfl|(simp only [go_sem];done)|(simp [look,go_sem,F0];done)
                   skip
                   have hz1: ∀ dn,look (a0s E0 V0 dn) 13=look E0 13:=fun dn=>c0m (by rw [hV];rfl)
                   have hz2: ∀ dn,look (a0s E0 V0 dn) 22=look E0 22:=fun dn=>c0m (by rw [hV];rfl)
                   simp only [q0d]
                   refine ⟨⟨⟨⟨⟨⟨⟨⟨⟨⟨⟨⟨⟨⟨⟨trivial,?_⟩,?_⟩,?_⟩,?_⟩,?_⟩,?_⟩,?_⟩,?_⟩,?_⟩,?_⟩,?_⟩,?_⟩,?_⟩,?_⟩,?_⟩
                   · intro dn hp hd hnot N hN
                     have hi:0<dn.length:=by rw [hp.len];decide
                     have r13:=(hz1 dn).trans he1
                     have m1:=(Cj (M:=M0) (i1:=12) (o1:=⟨.m (Dx q4 (Cw (.mk ka ia oa la))),[]⟩) (i2:=14) (o2:=⟨.m (Dk q4 (Cw (.mk ka ia oa la)) 1),[]⟩) (dn:=dn) (k:=13) (mk:=2000000+mb) (by omega)).trans hm1
                     have m2:=(Cj (M:=M0) (i1:=12) (o1:=⟨.m (Dx q4 (Cw (.mk ka ia oa la))),[]⟩) (i2:=14) (o2:=⟨.m (Dk q4 (Cw (.mk ka ia oa la)) 1),[]⟩) (dn:=dn) (k:=22) (mk:=2000000+mb) (by omega)).trans hm2
                     refine ⟨_,rfl,?_⟩
                     simp only [go_sem,F0,r13,m1,m2]
                     repeat' (first|apply And.intro|intro _)
                     refine hN _ (Kz hi (show V0[0]? =_ by rw [hV];rfl) hnd ?_)
                     exact Fz (by decide) (by decide)
                   · intro dn hp hd hnot N hN
                     have hi:1<dn.length:=by rw [hp.len];decide
                     have r22:=(hz2 dn).trans he2
                     have m1:=(Cj (M:=M0) (i1:=12) (o1:=⟨.m (Dx q4 (Cw (.mk ka ia oa la))),[]⟩) (i2:=14) (o2:=⟨.m (Dk q4 (Cw (.mk ka ia oa la)) 1),[]⟩) (dn:=dn) (k:=13) (mk:=2000000+mb) (by omega)).trans hm1
                     have m2:=(Cj (M:=M0) (i1:=12) (o1:=⟨.m (Dx q4 (Cw (.mk ka ia oa la))),[]⟩) (i2:=14) (o2:=⟨.m (Dk q4 (Cw (.mk ka ia oa la)) 1),[]⟩) (dn:=dn) (k:=22) (mk:=2000000+mb) (by omega)).trans hm2
                     refine ⟨_,rfl,?_⟩
                     simp only [go_sem,F0,r22,m1,m2]
                     repeat' (first|apply And.intro|intro _)
                     refine hN _ (Kz hi (show V0[1]? =_ by rw [hV];rfl) hnd ?_)
                     exact Fz (by decide) (by decide)
                   · intro dn hp hd hnot N hN
                     have hi:2<dn.length:=by rw [hp.len];decide
                     have r149:=Fq (r:=E0) (k:=149) (v:=.w (.one (.p 22 [(3,1)]))) (hd 1 (by decide)) (show V0[1]? =_ by rw [hV];rfl) hnd
                     have m1:=(Cj (M:=M0) (i1:=12) (o1:=⟨.m (Dx q4 (Cw (.mk ka ia oa la))),[]⟩) (i2:=14) (o2:=⟨.m (Dk q4 (Cw (.mk ka ia oa la)) 1),[]⟩) (dn:=dn) (k:=13) (mk:=2000000+mb) (by omega)).trans hm1
                     have m2:=(Cj (M:=M0) (i1:=12) (o1:=⟨.m (Dx q4 (Cw (.mk ka ia oa la))),[]⟩) (i2:=14) (o2:=⟨.m (Dk q4 (Cw (.mk ka ia oa la)) 1),[]⟩) (dn:=dn) (k:=22) (mk:=2000000+mb) (by omega)).trans hm2
                     refine ⟨_,rfl,?_⟩
                     simp only [go_sem,F0,r149,m1,m2]
                     repeat' (first|apply And.intro|intro _)
                     refine hN _ (Kz hi (show V0[2]? =_ by rw [hV];rfl) hnd ?_)
                     exact Fz (by decide) (by decide)
                   · intro dn hp hd hnot N hN
                     have hi:3<dn.length:=by rw [hp.len];decide
                     have r150:=Fq (r:=E0) (k:=150) (v:=.w (.one (.pl (.R false 4 [[.i ka,.i ia,.i oa,.R false 4 (Ay la)],[.i kc,.i ic,.i oc,.R false 4 (Ay lc)]])))) (hd 2 (by decide)) (show V0[2]? =_ by rw [hV];rfl) hnd
                     have m1:=(Cj (M:=M0) (i1:=12) (o1:=⟨.m (Dx q4 (Cw (.mk ka ia oa la))),[]⟩) (i2:=14) (o2:=⟨.m (Dk q4 (Cw (.mk ka ia oa la)) 1),[]⟩) (dn:=dn) (k:=13) (mk:=2000000+mb) (by omega)).trans hm1
                     have m2:=(Cj (M:=M0) (i1:=12) (o1:=⟨.m (Dx q4 (Cw (.mk ka ia oa la))),[]⟩) (i2:=14) (o2:=⟨.m (Dk q4 (Cw (.mk ka ia oa la)) 1),[]⟩) (dn:=dn) (k:=22) (mk:=2000000+mb) (by omega)).trans hm2
                     refine ⟨_,rfl,?_⟩
                     simp only [go_sem,F0,r150,m1,m2]
                     repeat' (first|apply And.intro|intro _)
                     refine hN _ (Kz hi (show V0[3]? =_ by rw [hV];rfl) hnd ?_)
                     exact Fz (by decide) (by decide)
                   · intro dn hp hd hnot N hN
                     have hi:4<dn.length:=by rw [hp.len];decide
                     have r151:=Fq (r:=E0) (k:=151) (v:=.w (.one (.pl (.q [.i ka,.i ia,.i oa,.R false 4 (Ay la)] [])))) (hd 3 (by decide)) (show V0[3]? =_ by rw [hV];rfl) hnd
                     have m1:=(Cj (M:=M0) (i1:=12) (o1:=⟨.m (Dx q4 (Cw (.mk ka ia oa la))),[]⟩) (i2:=14) (o2:=⟨.m (Dk q4 (Cw (.mk ka ia oa la)) 1),[]⟩) (dn:=dn) (k:=13) (mk:=2000000+mb) (by omega)).trans hm1
                     have m2:=(Cj (M:=M0) (i1:=12) (o1:=⟨.m (Dx q4 (Cw (.mk ka ia oa la))),[]⟩) (i2:=14) (o2:=⟨.m (Dk q4 (Cw (.mk ka ia oa la)) 1),[]⟩) (dn:=dn) (k:=22) (mk:=2000000+mb) (by omega)).trans hm2
                     refine ⟨_,rfl,?_⟩
                     simp only [go_sem,F0,r151,m1,m2]
                     repeat' (first|apply And.intro|intro _)
                     refine hN _ (Kz hi (show V0[4]? =_ by rw [hV];rfl) hnd ?_)
                     exact Fz (by decide) (by decide)
                   · intro dn hp hd hnot N hN
                     have hi:5<dn.length:=by rw [hp.len];decide
                     have r152:=Fq (r:=E0) (k:=152) (v:=.w (.agg [.pl (.i ka),.pl (.i ia),.pl (.i oa),.pl (.R false 4 (Ay la))])) (hd 4 (by decide)) (show V0[4]? =_ by rw [hV];rfl) hnd
                     have m1:=(Cj (M:=M0) (i1:=12) (o1:=⟨.m (Dx q4 (Cw (.mk ka ia oa la))),[]⟩) (i2:=14) (o2:=⟨.m (Dk q4 (Cw (.mk ka ia oa la)) 1),[]⟩) (dn:=dn) (k:=13) (mk:=2000000+mb) (by omega)).trans hm1
                     have m2:=(Cj (M:=M0) (i1:=12) (o1:=⟨.m (Dx q4 (Cw (.mk ka ia oa la))),[]⟩) (i2:=14) (o2:=⟨.m (Dk q4 (Cw (.mk ka ia oa la)) 1),[]⟩) (dn:=dn) (k:=22) (mk:=2000000+mb) (by omega)).trans hm2
                     refine ⟨_,rfl,?_⟩
                     simp only [go_sem,F0,r152,m1,m2]
                     repeat' (first|apply And.intro|intro _)
                     all_goals (refine Cz (fun k=>k) (fun _ _=>rfl) ?_ ((hs0).plain fun _ _ h=>h) ?_;focus (first|rfl|(simp only [go_sem,F0,r152,m1,m2]<;>rfl)))
                     all_goals (rintro v m ⟨hR,hm⟩;subst hR;subst hm)
                     all_goals refine And.intro (by first|rfl|simp only [go_sem,F0,r152,m1,m2]) (And.intro (by first|rfl|simp only [go_sem,F0,r152,m1,m2]) ?_)
                     all_goals simp only [go_sem,F0,r152,m1,m2]
                     all_goals repeat' (first|apply And.intro|intro _)
                     refine hN _ (Kz hi (show V0[5]? =_ by rw [hV];rfl) hnd ?_)
                     exact Fz (by decide) (by decide)
                   · intro dn hp hd hnot N hN
                     have hi:6<dn.length:=by rw [hp.len];decide
                     have r13:=(hz1 dn).trans he1
                     have m1:=(Cj (M:=M0) (i1:=12) (o1:=⟨.m (Dx q4 (Cw (.mk ka ia oa la))),[]⟩) (i2:=14) (o2:=⟨.m (Dk q4 (Cw (.mk ka ia oa la)) 1),[]⟩) (dn:=dn) (k:=13) (mk:=2000000+mb) (by omega)).trans hm1
                     have m2:=(Cj (M:=M0) (i1:=12) (o1:=⟨.m (Dx q4 (Cw (.mk ka ia oa la))),[]⟩) (i2:=14) (o2:=⟨.m (Dk q4 (Cw (.mk ka ia oa la)) 1),[]⟩) (dn:=dn) (k:=22) (mk:=2000000+mb) (by omega)).trans hm2
                     refine ⟨_,rfl,?_⟩
                     simp only [go_sem,F0,r13,m1,m2]
                     repeat' (first|apply And.intro|intro _)
                     refine hN _ (Kz hi (show V0[6]? =_ by rw [hV];rfl) hnd ?_)
                     exact Fz (by decide) (by decide)
                   · intro dn hp hd hnot N hN
                     have hi:7<dn.length:=by rw [hp.len];decide
                     have r22:=(hz2 dn).trans he2
                     have m1:=(Cj (M:=M0) (i1:=12) (o1:=⟨.m (Dx q4 (Cw (.mk ka ia oa la))),[]⟩) (i2:=14) (o2:=⟨.m (Dk q4 (Cw (.mk ka ia oa la)) 1),[]⟩) (dn:=dn) (k:=13) (mk:=2000000+mb) (by omega)).trans hm1
                     have m2:=(Cj (M:=M0) (i1:=12) (o1:=⟨.m (Dx q4 (Cw (.mk ka ia oa la))),[]⟩) (i2:=14) (o2:=⟨.m (Dk q4 (Cw (.mk ka ia oa la)) 1),[]⟩) (dn:=dn) (k:=22) (mk:=2000000+mb) (by omega)).trans hm2
                     refine ⟨_,rfl,?_⟩
                     simp only [go_sem,F0,r22,m1,m2]
                     repeat' (first|apply And.intro|intro _)
                     refine hN _ (Kz hi (show V0[7]? =_ by rw [hV];rfl) hnd ?_)
                     exact Fz (by decide) (by decide)
                   · intro dn hp hd hnot N hN
                     have hi:8<dn.length:=by rw [hp.len];decide
                     have r155:=Fq (r:=E0) (k:=155) (v:=.w (.one (.p 22 [(3,1)]))) (hd 7 (by decide)) (show V0[7]? =_ by rw [hV];rfl) hnd
                     have m1:=(Cj (M:=M0) (i1:=12) (o1:=⟨.m (Dx q4 (Cw (.mk ka ia oa la))),[]⟩) (i2:=14) (o2:=⟨.m (Dk q4 (Cw (.mk ka ia oa la)) 1),[]⟩) (dn:=dn) (k:=13) (mk:=2000000+mb) (by omega)).trans hm1
                     have m2:=(Cj (M:=M0) (i1:=12) (o1:=⟨.m (Dx q4 (Cw (.mk ka ia oa la))),[]⟩) (i2:=14) (o2:=⟨.m (Dk q4 (Cw (.mk ka ia oa la)) 1),[]⟩) (dn:=dn) (k:=22) (mk:=2000000+mb) (by omega)).trans hm2
                     refine ⟨_,rfl,?_⟩
                     simp only [go_sem,F0,r155,m1,m2]
                     repeat' (first|apply And.intro|intro _)
                     refine hN _ (Kz hi (show V0[8]? =_ by rw [hV];rfl) hnd ?_)
                     exact Fz (by decide) (by decide)
                   · intro dn hp hd hnot N hN
                     have hi:9<dn.length:=by rw [hp.len];decide
                     have r156:=Fq (r:=E0) (k:=156) (v:=.w (.one (.pl (.R false 4 [[.i ka,.i ia,.i oa,.R false 4 (Ay la)],[.i kc,.i ic,.i oc,.R false 4 (Ay lc)]])))) (hd 8 (by decide)) (show V0[8]? =_ by rw [hV];rfl) hnd
                     have m1:=(Cj (M:=M0) (i1:=12) (o1:=⟨.m (Dx q4 (Cw (.mk ka ia oa la))),[]⟩) (i2:=14) (o2:=⟨.m (Dk q4 (Cw (.mk ka ia oa la)) 1),[]⟩) (dn:=dn) (k:=13) (mk:=2000000+mb) (by omega)).trans hm1
                     have m2:=(Cj (M:=M0) (i1:=12) (o1:=⟨.m (Dx q4 (Cw (.mk ka ia oa la))),[]⟩) (i2:=14) (o2:=⟨.m (Dk q4 (Cw (.mk ka ia oa la)) 1),[]⟩) (dn:=dn) (k:=22) (mk:=2000000+mb) (by omega)).trans hm2
                     refine ⟨_,rfl,?_⟩
                     simp only [go_sem,F0,r156,m1,m2]
                     repeat' (first|apply And.intro|intro _)
                     refine hN _ (Kz hi (show V0[9]? =_ by rw [hV];rfl) hnd ?_)
                     exact Fz (by decide) (by decide)
                   · intro dn hp hd hnot N hN
                     have hi:10<dn.length:=by rw [hp.len];decide
                     have r157:=Fq (r:=E0) (k:=157) (v:=.w (.one (.pl (.q [.i kc,.i ic,.i oc,.R false 4 (Ay lc)] [])))) (hd 9 (by decide)) (show V0[9]? =_ by rw [hV];rfl) hnd
                     have m1:=(Cj (M:=M0) (i1:=12) (o1:=⟨.m (Dx q4 (Cw (.mk ka ia oa la))),[]⟩) (i2:=14) (o2:=⟨.m (Dk q4 (Cw (.mk ka ia oa la)) 1),[]⟩) (dn:=dn) (k:=13) (mk:=2000000+mb) (by omega)).trans hm1
                     have m2:=(Cj (M:=M0) (i1:=12) (o1:=⟨.m (Dx q4 (Cw (.mk ka ia oa la))),[]⟩) (i2:=14) (o2:=⟨.m (Dk q4 (Cw (.mk ka ia oa la)) 1),[]⟩) (dn:=dn) (k:=22) (mk:=2000000+mb) (by omega)).trans hm2
                     refine ⟨_,rfl,?_⟩
                     simp only [go_sem,F0,r157,m1,m2]
                     repeat' (first|apply And.intro|intro _)
                     refine hN _ (Kz hi (show V0[10]? =_ by rw [hV];rfl) hnd ?_)
                     exact Fz (by decide) (by decide)
                   · intro dn hp hd hnot N hN
                     have hi:11<dn.length:=by rw [hp.len];decide
                     have r158:=Fq (r:=E0) (k:=158) (v:=.w (.agg [.pl (.i kc),.pl (.i ic),.pl (.i oc),.pl (.R false 4 (Ay lc))])) (hd 10 (by decide)) (show V0[10]? =_ by rw [hV];rfl) hnd
                     have m1:=(Cj (M:=M0) (i1:=12) (o1:=⟨.m (Dx q4 (Cw (.mk ka ia oa la))),[]⟩) (i2:=14) (o2:=⟨.m (Dk q4 (Cw (.mk ka ia oa la)) 1),[]⟩) (dn:=dn) (k:=13) (mk:=2000000+mb) (by omega)).trans hm1
                     have m2:=(Cj (M:=M0) (i1:=12) (o1:=⟨.m (Dx q4 (Cw (.mk ka ia oa la))),[]⟩) (i2:=14) (o2:=⟨.m (Dk q4 (Cw (.mk ka ia oa la)) 1),[]⟩) (dn:=dn) (k:=22) (mk:=2000000+mb) (by omega)).trans hm2
                     refine ⟨_,rfl,?_⟩
                     simp only [go_sem,F0,r158,m1,m2]
                     repeat' (first|apply And.intro|intro _)
                     all_goals (refine Cz (fun k=>k) (fun _ _=>rfl) ?_ ((hs1).plain fun _ _ h=>h) ?_;focus (first|rfl|(simp only [go_sem,F0,r158,m1,m2]<;>rfl)))
                     all_goals (rintro v m ⟨hR,hm⟩;subst hR;subst hm)
                     all_goals refine And.intro (by first|rfl|simp only [go_sem,F0,r158,m1,m2]) (And.intro (by first|rfl|simp only [go_sem,F0,r158,m1,m2]) ?_)
                     all_goals simp only [go_sem,F0,r158,m1,m2]
                     all_goals repeat' (first|apply And.intro|intro _)
                     refine hN _ (Kz hi (show V0[11]? =_ by rw [hV];rfl) hnd ?_)
                     exact Fz (by decide) (by decide)
                   · intro dn hp hd hnot N hN
                     have hi:12<dn.length:=by rw [hp.len];decide
                     have r148:=Fq (r:=E0) (k:=148) (v:=.w (.one (.pl (.val (.map (some mb)))))) (hd 0 (by decide)) (show V0[0]? =_ by rw [hV];rfl) hnd
                     have r153:=Fq (r:=E0) (k:=153) (v:=.w (.one (.pl (.str (Cw (.mk ka ia oa la)))))) (hd 5 (by decide)) (show V0[5]? =_ by rw [hV];rfl) hnd
                     have h14:dn.getD 14 false=false:=q0c hp (by decide) (by decide) hnot
                     obtain ⟨g1,g2⟩:=v0i (M:=M0) (mk:=2000000+mb) (o1:=⟨.m (Dx q4 (Cw (.mk ka ia oa la))),[]⟩) (o2:=⟨.m (Dk q4 (Cw (.mk ka ia oa la)) 1),[]⟩) h14 hnot hi (by decide)
                     rw [g1]
                     refine ⟨_,rfl,?_⟩
                     simp only [go_sem,F0,r148,r153,hm0]
                     repeat' (first|apply And.intro|intro _)
                     refine t1u Try.underlying42 Try.underlying9 (by kernel_rfl) hmb ?_
                     (try simp only [go_sem,F0,r148,r153,hm0])
                     all_goals repeat' (first|apply And.intro|intro _)
                     refine hN _ (Kz hi (show V0[12]? =_ by rw [hV];rfl) hnd ?_)
                     rw [g2];exact fun _ _ h=>h
                   · intro dn hp hd hnot N hN
                     have hi:13<dn.length:=by rw [hp.len];decide
                     have r160:=Fq (r:=E0) (k:=160) (v:=.tup [.one (.pl (.i (getM q4 (Cw (.mk ka ia oa la))))),.one (.pl (.i ((h0s q4 (Cw (.mk ka ia oa la)):Nat):Int)))]) (hd 12 (by decide)) (show V0[12]? =_ by rw [hV];rfl) hnd
                     have m1:=(Cj (M:=M0) (i1:=12) (o1:=⟨.m (Dx q4 (Cw (.mk ka ia oa la))),[]⟩) (i2:=14) (o2:=⟨.m (Dk q4 (Cw (.mk ka ia oa la)) 1),[]⟩) (dn:=dn) (k:=13) (mk:=2000000+mb) (by omega)).trans hm1
                     have m2:=(Cj (M:=M0) (i1:=12) (o1:=⟨.m (Dx q4 (Cw (.mk ka ia oa la))),[]⟩) (i2:=14) (o2:=⟨.m (Dk q4 (Cw (.mk ka ia oa la)) 1),[]⟩) (dn:=dn) (k:=22) (mk:=2000000+mb) (by omega)).trans hm2
                     refine ⟨_,rfl,?_⟩
                     simp only [go_sem,F0,r160,m1,m2]
                     repeat' (first|apply And.intro|intro _)
                     refine hN _ (Kz hi (show V0[13]? =_ by rw [hV];rfl) hnd ?_)
                     exact Fz (by decide) (by decide)
                   · intro dn hp hd hnot N hN
                     have hi:14<dn.length:=by rw [hp.len];decide
                     have r148:=Fq (r:=E0) (k:=148) (v:=.w (.one (.pl (.val (.map (some mb)))))) (hd 0 (by decide)) (show V0[0]? =_ by rw [hV];rfl) hnd
                     have r161:=Fq (r:=E0) (k:=161) (v:=.w (.one (.pl (.i ((h0s q4 (Cw (.mk ka ia oa la)):Nat):Int))))) (hd 13 (by decide)) (show V0[13]? =_ by rw [hV];rfl) hnd
                     have h12:dn.getD 12 false=true:=hd 12 (by decide)
                     obtain ⟨g1,g2⟩:=v0h (M:=M0) (mk:=2000000+mb) (o1:=⟨.m (Dx q4 (Cw (.mk ka ia oa la))),[]⟩) (o2:=⟨.m (Dk q4 (Cw (.mk ka ia oa la)) 1),[]⟩) hnot h12 hi
                     rw [g1]
                     have gm:=d0a (o':=⟨.m (Dx q4 (Cw (.mk ka ia oa la))),[]⟩) hm0
                     refine ⟨_,rfl,?_⟩
                     simp only [go_sem,F0,r148,r161,gm]
                     repeat' (first|apply And.intro|intro _)
                     (refine t1j (m:=1) q4 (Cw (.mk ka ia oa la)) hmb ?_ ?_ ?_ ?_ ?_;iterate 4 (focus (first|rfl|(simp only [go_sem,F0,r148,r161,gm];done))))
                     (try simp only [go_sem,F0,r148,r161,gm])
                     refine hN _ (b1h hi (show V0[14]? =_ by rw [hV];rfl) hnd ((r0w hnot (show V0[14]? =_ by rw [hV];rfl) hnd).trans he0) ?_)
                     rw [g2];exact l0e
                 simp only [a0s,j0p,List.getD_cons_zero,List.getD_cons_succ,Bool.false_eq_true,reduceIte,go_sem,Qk,F0]
                 refine Ej 3 18 rfl (by kernel_rfl) rfl rfl fun zR zhR=>?_
                 simp only [go_sem,F0]
                 repeat' (first|apply And.intro|intro _)
                 refine t1u Try.underlying42 Try.underlying9 (by kernel_rfl) hmb ?_
                 (try simp only [go_sem,Qk,F0])
                 repeat' (first|apply And.intro|intro _)
                 (refine t1j (m:=1) (Dk q4 (Cw (.mk ka ia oa la)) 1) (Cw (.mk kc ic oc lc)) hmb ?_ ?_ ?_ ?_ ?_;iterate 4 (focus (first|rfl|(simp only [go_sem,F0];done)|(simp [look,go_sem,F0];done))))
                 (try simp only [go_sem,Qk,F0])
                 refine zhR _ ?_
                 refine Pw rfl (zhE _ ?_)
                 refine zhN _ ?_;clear zhN zhM
                 refine Bj fun zN zM zhN zhM=>?_
                 refine m0b (id:=54) mixed fun zE zhE=>?_
                 refine Ej 4 4 rfl (by kernel_rfl) rfl rfl fun zR zhR=>?_
                 simp only [go_sem,F0]
                 repeat' (first|apply And.intro|intro _)
                 refine zhR _ ?_
                 refine Hw (p:=4) 9 [168,169,170,171,172] [0,1,3,7,15,15,47,111,239,511,1023] [] rfl (by kernel_rfl) rfl (by simp only [go_sem]) fun zR zK zhR zhK=>?_
                 simp only [go_sem,F0]
                 repeat' (first|apply And.intro|intro _)
                 refine zhK _ _ trivial (zhR _ ?_)
                 refine Ej 2 11 rfl (by kernel_rfl) rfl rfl fun zR zhR=>?_
                 simp only [go_sem,F0]
                 repeat' (first|apply And.intro|intro _)
                 all_goals try (((refine Jq (caps:=[13]) false [(500000,13)] (fun k=>k) ?_ ?_ (fun _ _=>rfl) ?_ (by decide) ?_ hk0 ?_;iterate 4 (focus (first|rfl|(simp only [go_sem,F0]<;>first|done|rfl|simp)))));((rintro v m ⟨hR,hm⟩;subst hR;subst hm));((refine And.intro ?_ (And.intro ?_ (And.intro ?_ ?_));iterate 3 (focus (first|rfl|(simp only [go_sem,F0];done)|(simp [go_sem,look,F0];done)))));((try simp only [go_sem,F0]));((try simp only [go_sem,F0]));(repeat' (first|apply And.intro|intro _)))
                 refine zhR _ ?_
                 refine Pw rfl (zhE _ ?_)
                 refine zhN _ ?_;clear zhN zhM
                 (refine Av ?_ ?_;focus (first|rfl|(simp [go_sem,F0];done)))
                 refine Bv ?_
                 refine zbn _ ?_;clear zbn zbx zbr zbi
                 refine zhN _ ?_;clear zhN zhM
                 refine Aq fun zK zhK=>?_
                 simp only [go_sem,F0]
                 repeat' (first|apply And.intro|intro _)
                 refine zhK _ ?_
                 refine zhN ⟨(i4+1,_),hlt,hun⟩ _ ?_ ?_ ?_
                 · (exact Nat.sub_lt_sub_left hlt (Nat.lt_succ_self i4))
                 · (simp only [go_sem,leX,List.cons_append,List.nil_append,F0];try simp)
                 · (simp only [go_sem,leX,List.cons_append,List.nil_append,F0];try simp)
               · subst h4
                 obtain ⟨y0,y1,hl3⟩:=len2 ((a0w hwx).trans rfl)
                 obtain ⟨ka,ia,oa,la⟩:=y0
                 obtain ⟨kc,ic,oc,lc⟩:=y1
                 subst hl3
                 have hr3:Ay [.mk ka ia oa la,.mk kc ic oc lc]=[[.i ka,.i ia,.i oa,.R false 4 (Ay la)],[.i kc,.i ic,.i oc,.R false 4 (Ay lc)]]:=by simp [Ay,Aw.cells]
                 have hkx:=b0n mb (Dk q4 (Cw (.mk 4 ix ox [.mk ka ia oa la,.mk kc ic oc lc])) 1) (.mk 4 ix ox [.mk ka ia oa la,.mk kc ic oc lc]) hwx hzx
                 rw [Ak,d0b] at hkx
                 have hsx:=l0f _ hwx hzx
                 rw [Ak] at hsx
                 simp only [Fy,hr3] at hkx hsx
                 have hy0:=hax (.mk ka ia oa la) (by simp [Aw.args])
                 have hy2:=hax (.mk kc ic oc lc) (by simp [Aw.args])
                 have hs0:=l0f (.mk ka ia oa la) (hwA _ hy0) (hzA _ hy0)
                 have hs1:=l0f (.mk kc ic oc lc) (hwA _ hy2) (hzA _ hy2)
                 rw [Ak] at hs0 hs1
                 have hk0:=hkx
                 have hs2:=hsx
                 have hun:Iz (Dk (Dk (Dk q4 (Cw (.mk 4 ix ox [.mk ka ia oa la,.mk kc ic oc lc])) 1) (Cw (.mk ka ia oa la)) 1) (Cw (.mk kc ic oc lc)) 1) (a.drop (i4+1))=Iz q3 a:=by rw [←u4,step_mk hw.symm,t1l _ _ rfl]
                 have F0:=And.intro hr3<|And.intro (@List.getD_cons_zero (List PL))<|And.intro (@List.getD_cons_succ (List PL))<|F0
                 iterate 19 first
                  |(refine Dw fun zK zhK=>?_;simp only [go_sem,F0];(repeat' (first|apply And.intro|intro _)))
                  |refine zhK _ ?_
                  |(refine zhN _ ?_;clear zhN zhM)
                  |refine Bv ?_
                  |refine m0b (id:=53) mixed fun zE zhE=>?_
                  |refine c1z 15 [(148,.w (.one (.pl (.val (.map (some mb)))))),(149,.w (.one (.p 22 [(3,1)]))),(150,.w (.one (.pl (.R false 4 [[.i ka,.i ia,.i oa,.R false 4 (Ay la)],[.i kc,.i ic,.i oc,.R false 4 (Ay lc)]])))),(151,.w (.one (.pl (.q [.i ka,.i ia,.i oa,.R false 4 (Ay la)] [])))),(152,.w (.agg [.pl (.i ka),.pl (.i ia),.pl (.i oa),.pl (.R false 4 (Ay la))])),(153,.w (.one (.pl (.str (Cw (.mk ka ia oa la)))))),(154,.w (.one (.pl (.val (.map (some mb)))))),(155,.w (.one (.p 22 [(3,1)]))),(156,.w (.one (.pl (.R false 4 [[.i ka,.i ia,.i oa,.R false 4 (Ay la)],[.i kc,.i ic,.i oc,.R false 4 (Ay lc)]])))),(157,.w (.one (.pl (.q [.i kc,.i ic,.i oc,.R false 4 (Ay lc)] [])))),(158,.w (.agg [.pl (.i kc),.pl (.i ic),.pl (.i oc),.pl (.R false 4 (Ay lc))])),(159,.w (.one (.pl (.str (Cw (.mk kc ic oc lc)))))),(160,.tup [.one (.pl (.i (getM (Dk q4 (Cw (.mk 4 ix ox [.mk ka ia oa la,.mk kc ic oc lc])) 1) (Cw (.mk ka ia oa la))))),.one (.pl (.i ((h0s (Dk q4 (Cw (.mk 4 ix ox [.mk ka ia oa la,.mk kc ic oc lc])) 1) (Cw (.mk ka ia oa la)):Nat):Int)))]),(161,.w (.one (.pl (.i ((h0s (Dk q4 (Cw (.mk 4 ix ox [.mk ka ia oa la,.mk kc ic oc lc])) 1) (Cw (.mk ka ia oa la)):Nat):Int))))),(3,.w (.one (.p 3 [])))] (2000000+mb) 12 ⟨.m (Dx (Dk q4 (Cw (.mk 4 ix ox [.mk ka ia oa la,.mk kc ic oc lc])) 1) (Cw (.mk ka ia oa la))),[]⟩ 14 ⟨.m (Dk (Dk q4 (Cw (.mk 4 ix ox [.mk ka ia oa la,.mk kc ic oc lc])) 1) (Cw (.mk ka ia oa la)) 1),[]⟩ [false,false,false,false,false,false,false,false,false,false,false,false,false,false,false,false,false,false] [true,true,true,true,true,true,true,true,true,true,true,true,true,true,true,false,false,false] rfl (by decide) rfl rfl rfl rfl ?_ ?_
                  |(refine m0b (id:=50) mixed fun zE zhE=>?_;refine Hw (p:=0) 3 [138,139,140] [0,0,2,7] [] rfl (by kernel_rfl) rfl (by simp only [go_sem]) fun zR zK zhR zhK=>?_;simp only [go_sem,F0];(repeat' (first|apply And.intro|intro _));(all_goals (refine Cx (fun k=>k) _ [] (fun _ _=>rfl) ?_ ((hsx).plain fun _ _ h=>h) ?_ ?_;focus (first|rfl|(simp only [go_sem,F0]<;>rfl))));(all_goals try (refine And.intro ?_ (And.intro ?_ (And.intro ?_ ?_))<;>first|rfl|simp only [go_sem]));(all_goals simp only [go_sem,F0]);(all_goals repeat' (first|apply And.intro|intro _));refine zhK _ _ trivial (zhR _ ?_);refine Ej 1 4 rfl (by kernel_rfl) rfl rfl fun zR zhR=>?_;simp only [go_sem,F0];(repeat' (first|apply And.intro|intro _));(all_goals refine l1f Try.underlying42 Try.underlying9 hmb ?_);(all_goals (try simp only [go_sem,Qk,F0]));(all_goals repeat' (first|apply And.intro|intro _));refine zhR _ ?_;refine Pw rfl (zhE _ ?_))
                  |((all_goals (refine Jq (caps:=[13]) false [(500000,13)] (fun k=>k) ?_ ?_ (fun _ _=>rfl) ?_ (by decide) ?_ hkx ?_;iterate 4 (focus (first|rfl|(simp only [go_sem,F0]<;>first|done|rfl|simp)))));(all_goals (rintro v m ⟨hR,hm⟩;subst hR;subst hm));(all_goals (refine And.intro ?_ (And.intro ?_ (And.intro ?_ ?_));iterate 3 (focus (first|rfl|(simp only [go_sem,F0];done)|(simp [go_sem,look,F0];done)))));(all_goals (try simp only [go_sem,F0]));(all_goals (try simp only [go_sem,F0]));(all_goals repeat' (first|apply And.intro|intro _)))
                  |refine Bj fun zN zM zhN zhM=>?_
                  |(refine Aj ?_ ?_;focus (first|rfl|(simp [go_sem,F0];done)))
                  |(refine Av ?_ ?_;focus (first|rfl|(simp [go_sem,F0];done)))
                 · intro E0 V0 M0 hE hV hM
                   have hnd:(V0.map (·.1)).Nodup:=by rw [hV];simp only [List.map_cons,List.map_nil];decide
                   have hm0:look M0 (2000000+mb)=some ⟨.m (Dk q4 (Cw (.mk 4 ix ox [.mk ka ia oa la,.mk kc ic oc lc])) 1),[]⟩:=by rw [hM];first|rfl|(simp only [go_sem];done)|(simp [look,go_sem,F0];done)
                   have hm1:look M0 (13)=some ⟨false,[.pl (.val (.map (some mb)))]⟩:=by rw [hM];first|rfl|(simp only [go_sem];done)|(simp [look,go_sem,F0];done)
                   have hm2:look M0 (22)=some ⟨false,[.pl (.i 4),.pl (.i ix),.pl (.i ox),.pl (.R false 4 [[.i ka,.i ia,.i oa,.R false 4 (Ay la)],[.i kc,.i ic,.i oc,.R false 4 (Ay lc)]])]⟩:=by rw [hM];first|rfl|(simp only [go_sem];done)|(simp [look,go_sem,F0];done)
                   have he0:look E0 3=some (.w (.one (.p 3 []))):=by rw [hE];first|rfl|(simp only [go_sem];done)|(simp [look,go_sem,F0];done)
                   have he1:look E0 13=some (.w (.one (.p 13 []))):=by rw [hE];first|rfl|(simp only [go_sem];done)|(simp [look,go_sem,F0];done)
                   have he2:look E0 22=some (.w (.one (.p 22 []))):=by rw [hE];first|rfl|(simp only [go_sem];done)|(simp [look,go_sem,F0];done)
                   skip
                   have hz1: ∀ dn,look (a0s E0 V0 dn) 13=look E0 13:=fun dn=>c0m (by rw [hV];rfl)
                   have hz2: ∀ dn,look (a0s E0 V0 dn) 22=look E0 22:=fun dn=>c0m (by rw [hV];rfl)
                   simp only [q0d]
                   refine ⟨⟨⟨⟨⟨⟨⟨⟨⟨⟨⟨⟨⟨⟨⟨trivial,?_⟩,?_⟩,?_⟩,?_⟩,?_⟩,?_⟩,?_⟩,?_⟩,?_⟩,?_⟩,?_⟩,?_⟩,?_⟩,?_⟩,?_⟩
                   · intro dn hp hd hnot N hN
                     have hi:0<dn.length:=by rw [hp.len];decide
                     have r13:=(hz1 dn).trans he1
                     have m1:=(Cj (M:=M0) (i1:=12) (o1:=⟨.m (Dx (Dk q4 (Cw (.mk 4 ix ox [.mk ka ia oa la,.mk kc ic oc lc])) 1) (Cw (.mk ka ia oa la))),[]⟩) (i2:=14) (o2:=⟨.m (Dk (Dk q4 (Cw (.mk 4 ix ox [.mk ka ia oa la,.mk kc ic oc lc])) 1) (Cw (.mk ka ia oa la)) 1),[]⟩) (dn:=dn) (k:=13) (mk:=2000000+mb) (by omega)).trans hm1
                     have m2:=(Cj (M:=M0) (i1:=12) (o1:=⟨.m (Dx (Dk q4 (Cw (.mk 4 ix ox [.mk ka ia oa la,.mk kc ic oc lc])) 1) (Cw (.mk ka ia oa la))),[]⟩) (i2:=14) (o2:=⟨.m (Dk (Dk q4 (Cw (.mk 4 ix ox [.mk ka ia oa la,.mk kc ic oc lc])) 1) (Cw (.mk ka ia oa la)) 1),[]⟩) (dn:=dn) (k:=22) (mk:=2000000+mb) (by omega)).trans hm2
                     refine ⟨_,rfl,?_⟩
                     simp only [go_sem,F0,r13,m1,m2]
                     repeat' (first|apply And.intro|intro _)
                     refine hN _ (Kz hi (show V0[0]? =_ by rw [hV];rfl) hnd ?_)
                     exact Fz (by decide) (by decide)
                   · intro dn hp hd hnot N hN
                     have hi:1<dn.length:=by rw [hp.len];decide
                     have r22:=(hz2 dn).trans he2
                     have m1:=(Cj (M:=M0) (i1:=12) (o1:=⟨.m (Dx (Dk q4 (Cw (.mk 4 ix ox [.mk ka ia oa la,.mk kc ic oc lc])) 1) (Cw (.mk ka ia oa la))),[]⟩) (i2:=14) (o2:=⟨.m (Dk (Dk q4 (Cw (.mk 4 ix ox [.mk ka ia oa la,.mk kc ic oc lc])) 1) (Cw (.mk ka ia oa la)) 1),[]⟩) (dn:=dn) (k:=13) (mk:=2000000+mb) (by omega)).trans hm1
                     have m2:=(Cj (M:=M0) (i1:=12) (o1:=⟨.m (Dx (Dk q4 (Cw (.mk 4 ix ox [.mk ka ia oa la,.mk kc ic oc lc])) 1) (Cw (.mk ka ia oa la))),[]⟩) (i2:=14) (o2:=⟨.m (Dk (Dk q4 (Cw (.mk 4 ix ox [.mk ka ia oa la,.mk kc ic oc lc])) 1) (Cw (.mk ka ia oa la)) 1),[]⟩) (dn:=dn) (k:=22) (mk:=2000000+mb) (by omega)).trans hm2
                     refine ⟨_,rfl,?_⟩
                     simp only [go_sem,F0,r22,m1,m2]
                     repeat' (first|apply And.intro|intro _)
                     refine hN _ (Kz hi (show V0[1]? =_ by rw [hV];rfl) hnd ?_)
                     exact Fz (by decide) (by decide)
                   · intro dn hp hd hnot N hN
                     have hi:2<dn.length:=by rw [hp.len];decide
                     have r149:=Fq (r:=E0) (k:=149) (v:=.w (.one (.p 22 [(3,1)]))) (hd 1 (by decide)) (show V0[1]? =_ by rw [hV];rfl) hnd
                     have m1:=(Cj (M:=M0) (i1:=12) (o1:=⟨.m (Dx (Dk q4 (Cw (.mk 4 ix ox [.mk ka ia oa la,.mk kc ic oc lc])) 1) (Cw (.mk ka ia oa la))),[]⟩) (i2:=14) (o2:=⟨.m (Dk (Dk q4 (Cw (.mk 4 ix ox [.mk ka ia oa la,.mk kc ic oc lc])) 1) (Cw (.mk ka ia oa la)) 1),[]⟩) (dn:=dn) (k:=13) (mk:=2000000+mb) (by omega)).trans hm1
                     have m2:=(Cj (M:=M0) (i1:=12) (o1:=⟨.m (Dx (Dk q4 (Cw (.mk 4 ix ox [.mk ka ia oa la,.mk kc ic oc lc])) 1) (Cw (.mk ka ia oa la))),[]⟩) (i2:=14) (o2:=⟨.m (Dk (Dk q4 (Cw (.mk 4 ix ox [.mk ka ia oa la,.mk kc ic oc lc])) 1) (Cw (.mk ka ia oa la)) 1),[]⟩) (dn:=dn) (k:=22) (mk:=2000000+mb) (by omega)).trans hm2
                     refine ⟨_,rfl,?_⟩
                     simp only [go_sem,F0,r149,m1,m2]
                     repeat' (first|apply And.intro|intro _)
                     refine hN _ (Kz hi (show V0[2]? =_ by rw [hV];rfl) hnd ?_)
                     exact Fz (by decide) (by decide)
                   · intro dn hp hd hnot N hN
                     have hi:3<dn.length:=by rw [hp.len];decide
                     have r150:=Fq (r:=E0) (k:=150) (v:=.w (.one (.pl (.R false 4 [[.i ka,.i ia,.i oa,.R false 4 (Ay la)],[.i kc,.i ic,.i oc,.R false 4 (Ay lc)]])))) (hd 2 (by decide)) (show V0[2]? =_ by rw [hV];rfl) hnd
                     have m1:=(Cj (M:=M0) (i1:=12) (o1:=⟨.m (Dx (Dk q4 (Cw (.mk 4 ix ox [.mk ka ia oa la,.mk kc ic oc lc])) 1) (Cw (.mk ka ia oa la))),[]⟩) (i2:=14) (o2:=⟨.m (Dk (Dk q4 (Cw (.mk 4 ix ox [.mk ka ia oa la,.mk kc ic oc lc])) 1) (Cw (.mk ka ia oa la)) 1),[]⟩) (dn:=dn) (k:=13) (mk:=2000000+mb) (by omega)).trans hm1
                     have m2:=(Cj (M:=M0) (i1:=12) (o1:=⟨.m (Dx (Dk q4 (Cw (.mk 4 ix ox [.mk ka ia oa la,.mk kc ic oc lc])) 1) (Cw (.mk ka ia oa la))),[]⟩) (i2:=14) (o2:=⟨.m (Dk (Dk q4 (Cw (.mk 4 ix ox [.mk ka ia oa la,.mk kc ic oc lc])) 1) (Cw (.mk ka ia oa la)) 1),[]⟩) (dn:=dn) (k:=22) (mk:=2000000+mb) (by omega)).trans hm2
                     refine ⟨_,rfl,?_⟩
                     simp only [go_sem,F0,r150,m1,m2]
                     repeat' (first|apply And.intro|intro _)
                     refine hN _ (Kz hi (show V0[3]? =_ by rw [hV];rfl) hnd ?_)
                     exact Fz (by decide) (by decide)
                   · intro dn hp hd hnot N hN
                     have hi:4<dn.length:=by rw [hp.len];decide
                     have r151:=Fq (r:=E0) (k:=151) (v:=.w (.one (.pl (.q [.i ka,.i ia,.i oa,.R false 4 (Ay la)] [])))) (hd 3 (by decide)) (show V0[3]? =_ by rw [hV];rfl) hnd
                     have m1:=(Cj (M:=M0) (i1:=12) (o1:=⟨.m (Dx (Dk q4 (Cw (.mk 4 ix ox [.mk ka ia oa la,.mk kc ic oc lc])) 1) (Cw (.mk ka ia oa la))),[]⟩) (i2:=14) (o2:=⟨.m (Dk (Dk q4 (Cw (.mk 4 ix ox [.mk ka ia oa la,.mk kc ic oc lc])) 1) (Cw (.mk ka ia oa la)) 1),[]⟩) (dn:=dn) (k:=13) (mk:=2000000+mb) (by omega)).trans hm1
                     have m2:=(Cj (M:=M0) (i1:=12) (o1:=⟨.m (Dx (Dk q4 (Cw (.mk 4 ix ox [.mk ka ia oa la,.mk kc ic oc lc])) 1) (Cw (.mk ka ia oa la))),[]⟩) (i2:=14) (o2:=⟨.m (Dk (Dk q4 (Cw (.mk 4 ix ox [.mk ka ia oa la,.mk kc ic oc lc])) 1) (Cw (.mk ka ia oa la)) 1),[]⟩) (dn:=dn) (k:=22) (mk:=2000000+mb) (by omega)).trans hm2
                     refine ⟨_,rfl,?_⟩
                     simp only [go_sem,F0,r151,m1,m2]
                     repeat' (first|apply And.intro|intro _)
                     refine hN _ (Kz hi (show V0[4]? =_ by rw [hV];rfl) hnd ?_)
                     exact Fz (by decide) (by decide)
                   · intro dn hp hd hnot N hN
                     have hi:5<dn.length:=by rw [hp.len];decide
                     have r152:=Fq (r:=E0) (k:=152) (v:=.w (.agg [.pl (.i ka),.pl (.i ia),.pl (.i oa),.pl (.R false 4 (Ay la))])) (hd 4 (by decide)) (show V0[4]? =_ by rw [hV];rfl) hnd
                     have m1:=(Cj (M:=M0) (i1:=12) (o1:=⟨.m (Dx (Dk q4 (Cw (.mk 4 ix ox [.mk ka ia oa la,.mk kc ic oc lc])) 1) (Cw (.mk ka ia oa la))),[]⟩) (i2:=14) (o2:=⟨.m (Dk (Dk q4 (Cw (.mk 4 ix ox [.mk ka ia oa la,.mk kc ic oc lc])) 1) (Cw (.mk ka ia oa la)) 1),[]⟩) (dn:=dn) (k:=13) (mk:=2000000+mb) (by omega)).trans hm1
                     have m2:=(Cj (M:=M0) (i1:=12) (o1:=⟨.m (Dx (Dk q4 (Cw (.mk 4 ix ox [.mk ka ia oa la,.mk kc ic oc lc])) 1) (Cw (.mk ka ia oa la))),[]⟩) (i2:=14) (o2:=⟨.m (Dk (Dk q4 (Cw (.mk 4 ix ox [.mk ka ia oa la,.mk kc ic oc lc])) 1) (Cw (.mk ka ia oa la)) 1),[]⟩) (dn:=dn) (k:=22) (mk:=2000000+mb) (by omega)).trans hm2
                     refine ⟨_,rfl,?_⟩
                     simp only [go_sem,F0,r152,m1,m2]
                     repeat' (first|apply And.intro|intro _)
                     all_goals (refine Cz (fun k=>k) (fun _ _=>rfl) ?_ ((hs0).plain fun _ _ h=>h) ?_;focus (first|rfl|(simp only [go_sem,F0,r152,m1,m2]<;>rfl)))
                     all_goals (rintro v m ⟨hR,hm⟩;subst hR;subst hm)
                     all_goals refine And.intro (by first|rfl|simp only [go_sem,F0,r152,m1,m2]) (And.intro (by first|rfl|simp only [go_sem,F0,r152,m1,m2]) ?_)
                     all_goals simp only [go_sem,F0,r152,m1,m2]
                     all_goals repeat' (first|apply And.intro|intro _)
                     refine hN _ (Kz hi (show V0[5]? =_ by rw [hV];rfl) hnd ?_)
                     exact Fz (by decide) (by decide)
                   · intro dn hp hd hnot N hN
                     have hi:6<dn.length:=by rw [hp.len];decide
                     have r13:=(hz1 dn).trans he1
                     have m1:=(Cj (M:=M0) (i1:=12) (o1:=⟨.m (Dx (Dk q4 (Cw (.mk 4 ix ox [.mk ka ia oa la,.mk kc ic oc lc])) 1) (Cw (.mk ka ia oa la))),[]⟩) (i2:=14) (o2:=⟨.m (Dk (Dk q4 (Cw (.mk 4 ix ox [.mk ka ia oa la,.mk kc ic oc lc])) 1) (Cw (.mk ka ia oa la)) 1),[]⟩) (dn:=dn) (k:=13) (mk:=2000000+mb) (by omega)).trans hm1
                     have m2:=(Cj (M:=M0) (i1:=12) (o1:=⟨.m (Dx (Dk q4 (Cw (.mk 4 ix ox [.mk ka ia oa la,.mk kc ic oc lc])) 1) (Cw (.mk ka ia oa la))),[]⟩) (i2:=14) (o2:=⟨.m (Dk (Dk q4 (Cw (.mk 4 ix ox [.mk ka ia oa la,.mk kc ic oc lc])) 1) (Cw (.mk ka ia oa la)) 1),[]⟩) (dn:=dn) (k:=22) (mk:=2000000+mb) (by omega)).trans hm2
                     refine ⟨_,rfl,?_⟩
                     simp only [go_sem,F0,r13,m1,m2]
                     repeat' (first|apply And.intro|intro _)
                     refine hN _ (Kz hi (show V0[6]? =_ by rw [hV];rfl) hnd ?_)
                     exact Fz (by decide) (by decide)
                   · intro dn hp hd hnot N hN
                     have hi:7<dn.length:=by rw [hp.len];decide
                     have r22:=(hz2 dn).trans he2
                     have m1:=(Cj (M:=M0) (i1:=12) (o1:=⟨.m (Dx (Dk q4 (Cw (.mk 4 ix ox [.mk ka ia oa la,.mk kc ic oc lc])) 1) (Cw (.mk ka ia oa la))),[]⟩) (i2:=14) (o2:=⟨.m (Dk (Dk q4 (Cw (.mk 4 ix ox [.mk ka ia oa la,.mk kc ic oc lc])) 1) (Cw (.mk ka ia oa la)) 1),[]⟩) (dn:=dn) (k:=13) (mk:=2000000+mb) (by omega)).trans hm1
                     have m2:=(Cj (M:=M0) (i1:=12) (o1:=⟨.m (Dx (Dk q4 (Cw (.mk 4 ix ox [.mk ka ia oa la,.mk kc ic oc lc])) 1) (Cw (.mk ka ia oa la))),[]⟩) (i2:=14) (o2:=⟨.m (Dk (Dk q4 (Cw (.mk 4 ix ox [.mk ka ia oa la,.mk kc ic oc lc])) 1) (Cw (.mk ka ia oa la)) 1),[]⟩) (dn:=dn) (k:=22) (mk:=2000000+mb) (by omega)).trans hm2
                     refine ⟨_,rfl,?_⟩
                     simp only [go_sem,F0,r22,m1,m2]
                     repeat' (first|apply And.intro|intro _)
                     refine hN _ (Kz hi (show V0[7]? =_ by rw [hV];rfl) hnd ?_)
                     exact Fz (by decide) (by decide)
                   · intro dn hp hd hnot N hN
                     have hi:8<dn.length:=by rw [hp.len];decide
                     have r155:=Fq (r:=E0) (k:=155) (v:=.w (.one (.p 22 [(3,1)]))) (hd 7 (by decide)) (show V0[7]? =_ by rw [hV];rfl) hnd
                     have m1:=(Cj (M:=M0) (i1:=12) (o1:=⟨.m (Dx (Dk q4 (Cw (.mk 4 ix ox [.mk ka ia oa la,.mk kc ic oc lc])) 1) (Cw (.mk ka ia oa la))),[]⟩) (i2:=14) (o2:=⟨.m (Dk (Dk q4 (Cw (.mk 4 ix ox [.mk ka ia oa la,.mk kc ic oc lc])) 1) (Cw (.mk ka ia oa la)) 1),[]⟩) (dn:=dn) (k:=13) (mk:=2000000+mb) (by omega)).trans hm1
                     have m2:=(Cj (M:=M0) (i1:=12) (o1:=⟨.m (Dx (Dk q4 (Cw (.mk 4 ix ox [.mk ka ia oa la,.mk kc ic oc lc])) 1) (Cw (.mk ka ia oa la))),[]⟩) (i2:=14) (o2:=⟨.m (Dk (Dk q4 (Cw (.mk 4 ix ox [.mk ka ia oa la,.mk kc ic oc lc])) 1) (Cw (.mk ka ia oa la)) 1),[]⟩) (dn:=dn) (k:=22) (mk:=2000000+mb) (by omega)).trans hm2
                     refine ⟨_,rfl,?_⟩
                     simp only [go_sem,F0,r155,m1,m2]
                     repeat' (first|apply And.intro|intro _)
                     refine hN _ (Kz hi (show V0[8]? =_ by rw [hV];rfl) hnd ?_)
                     exact Fz (by decide) (by decide)
                   · intro dn hp hd hnot N hN
                     have hi:9<dn.length:=by rw [hp.len];decide
                     have r156:=Fq (r:=E0) (k:=156) (v:=.w (.one (.pl (.R false 4 [[.i ka,.i ia,.i oa,.R false 4 (Ay la)],[.i kc,.i ic,.i oc,.R false 4 (Ay lc)]])))) (hd 8 (by decide)) (show V0[8]? =_ by rw [hV];rfl) hnd
                     have m1:=(Cj (M:=M0) (i1:=12) (o1:=⟨.m (Dx (Dk q4 (Cw (.mk 4 ix ox [.mk ka ia oa la,.mk kc ic oc lc])) 1) (Cw (.mk ka ia oa la))),[]⟩) (i2:=14) (o2:=⟨.m (Dk (Dk q4 (Cw (.mk 4 ix ox [.mk ka ia oa la,.mk kc ic oc lc])) 1) (Cw (.mk ka ia oa la)) 1),[]⟩) (dn:=dn) (k:=13) (mk:=2000000+mb) (by omega)).trans hm1
                     have m2:=(Cj (M:=M0) (i1:=12) (o1:=⟨.m (Dx (Dk q4 (Cw (.mk 4 ix ox [.mk ka ia oa la,.mk kc ic oc lc])) 1) (Cw (.mk ka ia oa la))),[]⟩) (i2:=14) (o2:=⟨.m (Dk (Dk q4 (Cw (.mk 4 ix ox [.mk ka ia oa la,.mk kc ic oc lc])) 1) (Cw (.mk ka ia oa la)) 1),[]⟩) (dn:=dn) (k:=22) (mk:=2000000+mb) (by omega)).trans hm2
                     refine ⟨_,rfl,?_⟩
                     simp only [go_sem,F0,r156,m1,m2]
                     repeat' (first|apply And.intro|intro _)
                     refine hN _ (Kz hi (show V0[9]? =_ by rw [hV];rfl) hnd ?_)
                     exact Fz (by decide) (by decide)
                   · intro dn hp hd hnot N hN
                     have hi:10<dn.length:=by rw [hp.len];decide
                     have r157:=Fq (r:=E0) (k:=157) (v:=.w (.one (.pl (.q [.i kc,.i ic,.i oc,.R false 4 (Ay lc)] [])))) (hd 9 (by decide)) (show V0[9]? =_ by rw [hV];rfl) hnd
                     have m1:=(Cj (M:=M0) (i1:=12) (o1:=⟨.m (Dx (Dk q4 (Cw (.mk 4 ix ox [.mk ka ia oa la,.mk kc ic oc lc])) 1) (Cw (.mk ka ia oa la))),[]⟩) (i2:=14) (o2:=⟨.m (Dk (Dk q4 (Cw (.mk 4 ix ox [.mk ka ia oa la,.mk kc ic oc lc])) 1) (Cw (.mk ka ia oa la)) 1),[]⟩) (dn:=dn) (k:=13) (mk:=2000000+mb) (by omega)).trans hm1
                     have m2:=(Cj (M:=M0) (i1:=12) (o1:=⟨.m (Dx (Dk q4 (Cw (.mk 4 ix ox [.mk ka ia oa la,.mk kc ic oc lc])) 1) (Cw (.mk ka ia oa la))),[]⟩) (i2:=14) (o2:=⟨.m (Dk (Dk q4 (Cw (.mk 4 ix ox [.mk ka ia oa la,.mk kc ic oc lc])) 1) (Cw (.mk ka ia oa la)) 1),[]⟩) (dn:=dn) (k:=22) (mk:=2000000+mb) (by omega)).trans hm2
                     refine ⟨_,rfl,?_⟩
                     simp only [go_sem,F0,r157,m1,m2]
                     repeat' (first|apply And.intro|intro _)
                     refine hN _ (Kz hi (show V0[10]? =_ by rw [hV];rfl) hnd ?_)
                     exact Fz (by decide) (by decide)
                   · intro dn hp hd hnot N hN
                     have hi:11<dn.length:=by rw [hp.len];decide
                     have r158:=Fq (r:=E0) (k:=158) (v:=.w (.agg [.pl (.i kc),.pl (.i ic),.pl (.i oc),.pl (.R false 4 (Ay lc))])) (hd 10 (by decide)) (show V0[10]? =_ by rw [hV];rfl) hnd
                     have m1:=(Cj (M:=M0) (i1:=12) (o1:=⟨.m (Dx (Dk q4 (Cw (.mk 4 ix ox [.mk ka ia oa la,.mk kc ic oc lc])) 1) (Cw (.mk ka ia oa la))),[]⟩) (i2:=14) (o2:=⟨.m (Dk (Dk q4 (Cw (.mk 4 ix ox [.mk ka ia oa la,.mk kc ic oc lc])) 1) (Cw (.mk ka ia oa la)) 1),[]⟩) (dn:=dn) (k:=13) (mk:=2000000+mb) (by omega)).trans hm1
                     have m2:=(Cj (M:=M0) (i1:=12) (o1:=⟨.m (Dx (Dk q4 (Cw (.mk 4 ix ox [.mk ka ia oa la,.mk kc ic oc lc])) 1) (Cw (.mk ka ia oa la))),[]⟩) (i2:=14) (o2:=⟨.m (Dk (Dk q4 (Cw (.mk 4 ix ox [.mk ka ia oa la,.mk kc ic oc lc])) 1) (Cw (.mk ka ia oa la)) 1),[]⟩) (dn:=dn) (k:=22) (mk:=2000000+mb) (by omega)).trans hm2
                     refine ⟨_,rfl,?_⟩
                     simp only [go_sem,F0,r158,m1,m2]
                     repeat' (first|apply And.intro|intro _)
                     all_goals (refine Cz (fun k=>k) (fun _ _=>rfl) ?_ ((hs1).plain fun _ _ h=>h) ?_;focus (first|rfl|(simp only [go_sem,F0,r158,m1,m2]<;>rfl)))
                     all_goals (rintro v m ⟨hR,hm⟩;subst hR;subst hm)
                     all_goals refine And.intro (by first|rfl|simp only [go_sem,F0,r158,m1,m2]) (And.intro (by first|rfl|simp only [go_sem,F0,r158,m1,m2]) ?_)
                     all_goals simp only [go_sem,F0,r158,m1,m2]
                     all_goals repeat' (first|apply And.intro|intro _)
                     refine hN _ (Kz hi (show V0[11]? =_ by rw [hV];rfl) hnd ?_)
                     exact Fz (by decide) (by decide)
                   · intro dn hp hd hnot N hN
                     have hi:12<dn.length:=by rw [hp.len];decide
                     have r148:=Fq (r:=E0) (k:=148) (v:=.w (.one (.pl (.val (.map (some mb)))))) (hd 0 (by decide)) (show V0[0]? =_ by rw [hV];rfl) hnd
                     have r153:=Fq (r:=E0) (k:=153) (v:=.w (.one (.pl (.str (Cw (.mk ka ia oa la)))))) (hd 5 (by decide)) (show V0[5]? =_ by rw [hV];rfl) hnd
                     have h14:dn.getD 14 false=false:=q0c hp (by decide) (by decide) hnot
                     obtain ⟨g1,g2⟩:=v0i (M:=M0) (mk:=2000000+mb) (o1:=⟨.m (Dx (Dk q4 (Cw (.mk 4 ix ox [.mk ka ia oa la,.mk kc ic oc lc])) 1) (Cw (.mk ka ia oa la))),[]⟩) (o2:=⟨.m (Dk (Dk q4 (Cw (.mk 4 ix ox [.mk ka ia oa la,.mk kc ic oc lc])) 1) (Cw (.mk ka ia oa la)) 1),[]⟩) h14 hnot hi (by decide)
                     rw [g1]
                     refine ⟨_,rfl,?_⟩
                     simp only [go_sem,F0,r148,r153,hm0]
                     repeat' (first|apply And.intro|intro _)
                     refine t1u Try.underlying42 Try.underlying9 (by kernel_rfl) hmb ?_
                     (try simp only [go_sem,F0,r148,r153,hm0])
                     all_goals repeat' (first|apply And.intro|intro _)
                     refine hN _ (Kz hi (show V0[12]? =_ by rw [hV];rfl) hnd ?_)
                     rw [g2];exact fun _ _ h=>h
                   · intro dn hp hd hnot N hN
                     have hi:13<dn.length:=by rw [hp.len];decide
                     have r160:=Fq (r:=E0) (k:=160) (v:=.tup [.one (.pl (.i (getM (Dk q4 (Cw (.mk 4 ix ox [.mk ka ia oa la,.mk kc ic oc lc])) 1) (Cw (.mk ka ia oa la))))),.one (.pl (.i ((h0s (Dk q4 (Cw (.mk 4 ix ox [.mk ka ia oa la,.mk kc ic oc lc])) 1) (Cw (.mk ka ia oa la)):Nat):Int)))]) (hd 12 (by decide)) (show V0[12]? =_ by rw [hV];rfl) hnd
                     have m1:=(Cj (M:=M0) (i1:=12) (o1:=⟨.m (Dx (Dk q4 (Cw (.mk 4 ix ox [.mk ka ia oa la,.mk kc ic oc lc])) 1) (Cw (.mk ka ia oa la))),[]⟩) (i2:=14) (o2:=⟨.m (Dk (Dk q4 (Cw (.mk 4 ix ox [.mk ka ia oa la,.mk kc ic oc lc])) 1) (Cw (.mk ka ia oa la)) 1),[]⟩) (dn:=dn) (k:=13) (mk:=2000000+mb) (by omega)).trans hm1
                     have m2:=(Cj (M:=M0) (i1:=12) (o1:=⟨.m (Dx (Dk q4 (Cw (.mk 4 ix ox [.mk ka ia oa la,.mk kc ic oc lc])) 1) (Cw (.mk ka ia oa la))),[]⟩) (i2:=14) (o2:=⟨.m (Dk (Dk q4 (Cw (.mk 4 ix ox [.mk ka ia oa la,.mk kc ic oc lc])) 1) (Cw (.mk ka ia oa la)) 1),[]⟩) (dn:=dn) (k:=22) (mk:=2000000+mb) (by omega)).trans hm2
                     refine ⟨_,rfl,?_⟩
                     simp only [go_sem,F0,r160,m1,m2]
                     repeat' (first|apply And.intro|intro _)
                     refine hN _ (Kz hi (show V0[13]? =_ by rw [hV];rfl) hnd ?_)
                     exact Fz (by decide) (by decide)
                   · intro dn hp hd hnot N hN
                     have hi:14<dn.length:=by rw [hp.len];decide
                     have r148:=Fq (r:=E0) (k:=148) (v:=.w (.one (.pl (.val (.map (some mb)))))) (hd 0 (by decide)) (show V0[0]? =_ by rw [hV];rfl) hnd
                     have r161:=Fq (r:=E0) (k:=161) (v:=.w (.one (.pl (.i ((h0s (Dk q4 (Cw (.mk 4 ix ox [.mk ka ia oa la,.mk kc ic oc lc])) 1) (Cw (.mk ka ia oa la)):Nat):Int))))) (hd 13 (by decide)) (show V0[13]? =_ by rw [hV];rfl) hnd
                     have h12:dn.getD 12 false=true:=hd 12 (by decide)
                     obtain ⟨g1,g2⟩:=v0h (M:=M0) (mk:=2000000+mb) (o1:=⟨.m (Dx (Dk q4 (Cw (.mk 4 ix ox [.mk ka ia oa la,.mk kc ic oc lc])) 1) (Cw (.mk ka ia oa la))),[]⟩) (o2:=⟨.m (Dk (Dk q4 (Cw (.mk 4 ix ox [.mk ka ia oa la,.mk kc ic oc lc])) 1) (Cw (.mk ka ia oa la)) 1),[]⟩) hnot h12 hi
                     rw [g1]
                     have gm:=d0a (o':=⟨.m (Dx (Dk q4 (Cw (.mk 4 ix ox [.mk ka ia oa la,.mk kc ic oc lc])) 1) (Cw (.mk ka ia oa la))),[]⟩) hm0
                     refine ⟨_,rfl,?_⟩
                     simp only [go_sem,F0,r148,r161,gm]
                     repeat' (first|apply And.intro|intro _)
                     (refine t1j (m:=1) (Dk q4 (Cw (.mk 4 ix ox [.mk ka ia oa la,.mk kc ic oc lc])) 1) (Cw (.mk ka ia oa la)) hmb ?_ ?_ ?_ ?_ ?_;iterate 4 (focus (first|rfl|(simp only [go_sem,F0,r148,r161,gm];done))))
                     (try simp only [go_sem,F0,r148,r161,gm])
                     refine hN _ (b1h hi (show V0[14]? =_ by rw [hV];rfl) hnd ((r0w hnot (show V0[14]? =_ by rw [hV];rfl) hnd).trans he0) ?_)
                     rw [g2];exact l0e
                 simp only [a0s,j0p,List.getD_cons_zero,List.getD_cons_succ,Bool.false_eq_true,reduceIte,go_sem,Qk,F0]
                 refine Ej 3 18 rfl (by kernel_rfl) rfl rfl fun zR zhR=>?_
                 simp only [go_sem,F0]
                 repeat' (first|apply And.intro|intro _)
                 refine t1u Try.underlying42 Try.underlying9 (by kernel_rfl) hmb ?_
                 (try simp only [go_sem,Qk,F0])
                 repeat' (first|apply And.intro|intro _)
                 (refine t1j (m:=1) (Dk (Dk q4 (Cw (.mk 4 ix ox [.mk ka ia oa la,.mk kc ic oc lc])) 1) (Cw (.mk ka ia oa la)) 1) (Cw (.mk kc ic oc lc)) hmb ?_ ?_ ?_ ?_ ?_;iterate 4 (focus (first|rfl|(simp only [go_sem,F0];done)|(simp [look,go_sem,F0];done))))
                 (try simp only [go_sem,Qk,F0])
                 refine zhR _ ?_
                 refine Pw rfl (zhE _ ?_)
                 refine zhN _ ?_;clear zhN zhM
                 refine Bj fun zN zM zhN zhM=>?_
                 refine m0b (id:=54) mixed fun zE zhE=>?_
                 refine Ej 4 4 rfl (by kernel_rfl) rfl rfl fun zR zhR=>?_
                 simp only [go_sem,F0]
                 repeat' (first|apply And.intro|intro _)
                 refine zhR _ ?_
                 refine Hw (p:=4) 9 [168,169,170,171,172] [0,1,3,7,15,15,47,111,239,511,1023] [] rfl (by kernel_rfl) rfl (by simp only [go_sem]) fun zR zK zhR zhK=>?_
                 simp only [go_sem,F0]
                 repeat' (first|apply And.intro|intro _)
                 refine zhK _ _ trivial (zhR _ ?_)
                 refine Ej 2 11 rfl (by kernel_rfl) rfl rfl fun zR zhR=>?_
                 simp only [go_sem,F0]
                 repeat' (first|apply And.intro|intro _)
                 all_goals try (((refine Jq (caps:=[13]) false [(500000,13)] (fun k=>k) ?_ ?_ (fun _ _=>rfl) ?_ (by decide) ?_ hk0 ?_;iterate 4 (focus (first|rfl|(simp only [go_sem,F0]<;>first|done|rfl|simp)))));((rintro v m ⟨hR,hm⟩;subst hR;subst hm));((refine And.intro ?_ (And.intro ?_ (And.intro ?_ ?_));iterate 3 (focus (first|rfl|(simp only [go_sem,F0];done)|(simp [go_sem,look,F0];done)))));((try simp only [go_sem,F0]));((try simp only [go_sem,F0]));(repeat' (first|apply And.intro|intro _)))
                 refine zhR _ ?_
                 refine Pw rfl (zhE _ ?_)
                 refine zhN _ ?_;clear zhN zhM
                 (refine Av ?_ ?_;focus (first|rfl|(simp [go_sem,F0];done)))
                 refine Bv ?_
                 refine zbn _ ?_;clear zbn zbx zbr zbi
                 refine zhN _ ?_;clear zhN zhM
                 refine Aq fun zK zhK=>?_
                 simp only [go_sem,F0]
                 repeat' (first|apply And.intro|intro _)
                 refine zhK _ ?_
                 refine zhN ⟨(i4+1,_),hlt,hun⟩ _ ?_ ?_ ?_
                 · (exact Nat.sub_lt_sub_left hlt (Nat.lt_succ_self i4))
                 · (simp only [go_sem,leX,List.cons_append,List.nil_append,F0];try simp)
                 · (simp only [go_sem,leX,List.cons_append,List.nil_append,F0];try simp)
         · obtain rfl:i4=a.length:=Nat.le_antisymm u1 hge
           rw [List.drop_length,a1r] at u4
           have F0:=And.intro (@r0e a.length)<|And.intro u4<|F0
           refine Dw fun zK zhK=>?_
           simp only [go_sem,F0]
           repeat' (first|apply And.intro|intro _)
           refine zhK _ ?_
           refine Bj fun zN zM zhN zhM=>?_
           (refine Av ?_ ?_;focus (first|rfl|(simp [go_sem,F0];done)))
           refine Iw ?_
           refine zhM _ _ ?_;clear zhN zhM
           refine zhM _ _ ?_;clear zhN zhM
           refine zbx _ ?_;clear zbn zbx zbr zbi
           refine zhN _ ?_;clear zhN zhM
           rcases Nat.decEq (Iz q3 a).length q3.length with hq|hq
           · obtain ⟨n4,hn4⟩: ∃ n4,n3=n4+1:=⟨n3-1,by have:=(hG _ r4).2.2;omega⟩
             have r7:a0t a n4 (Iz q3 a)=FM:=by rw [←r3,hn4,b1b hq]
             have r8:NN-(Iz q3 a).length≤n4:=by have:=(hG _ r4).2.2;omega
             have hqi:¬(((Iz q3 a).length:Nat):Int)=((q3.length:Nat):Int):=fun e=>hq (Int.ofNat_inj.mp e)
             have F0:=And.intro hqi<|F0
             refine Dw fun zK zhK=>?_
             simp only [go_sem,F0]
             repeat' (first|apply And.intro|intro _)
             refine zhK _ ?_
             (refine Av ?_ ?_;focus (first|rfl|(simp [go_sem,F0];done)))
             refine Bv ?_
             refine zbn _ ?_;clear zbn zbx zbr zbi
             refine zhN ⟨(n4,Iz q3 a),r4,r8,r7⟩ _ ?_ ?_ ?_
             · (show n4<n3;omega)
             · (simp only [go_sem,leX,List.cons_append,List.nil_append,F0];try simp)
             · (simp only [go_sem,leX,List.cons_append,List.nil_append,F0];try simp)
           · have hqi:(((Iz q3 a).length:Nat):Int)=((q3.length:Nat):Int):=by rw [hq]
             have r7:Iz q3 a=FM:=by rw [←r3,b1a hq]
             have hfin:=b0n mb (Iz q3 a) (.mk k i o ms) hwt (hsz _ (by simp))
             rw [Ak] at hfin
             have zE:V.tup [.one (.pl (.b (knB (Iz q3 a) (.mk k i o ms)))),.one (.pl (.i 0))]=V.tup [.one (.pl (.b (knB FM (.mk k i o ms)))),.one (.pl (.i 0))]:=by rw [r7]
             have F0:=And.intro hqi<|F0
             iterate 11 first
              |(refine Dw fun zK zhK=>?_;simp only [go_sem,F0];(repeat' (first|apply And.intro|intro _)))
              |refine zhK _ ?_
              |(refine zbr _ ?_;clear zbn zbx zbr zbi)
              |refine Cq ?_
              |(refine zhM _ _ ?_;clear zhN zhM)
              |(refine zhZ _ _ ?_;simp only [go_sem,F0];(all_goals (first|rfl|exact zE|(rw [zE];done))))
              |((all_goals (refine Jq (caps:=[13]) false [(500000,13)] (fun k=>k) ?_ ?_ (fun _ _=>rfl) ?_ (by decide) ?_ hfin ?_;iterate 4 (focus (first|rfl|(simp only [go_sem,F0]<;>first|done|rfl|simp)))));(all_goals (rintro v m ⟨hR,hm⟩;subst hR;subst hm));(all_goals (refine And.intro ?_ (And.intro ?_ (And.intro ?_ ?_));iterate 3 (focus (first|rfl|(simp only [go_sem,F0];done)|(simp [go_sem,look,F0];done)))));(all_goals (try simp only [go_sem,F0]));(all_goals (try simp only [go_sem,F0]));(all_goals repeat' (first|apply And.intro|intro _)))
              |(refine Aj ?_ ?_;focus (first|rfl|(simp [go_sem,F0];done)))
end Go.Sy
