/- Walks and what they compute. CONDITIONS: those that each theorem names. -/
import Derived.Test.YtijngjidkdkmeaavS14
import Derived.Test.YtijngjidkdkmeaavE3
import Derived.Test.YtijngjidkdkmeaavS15
import Derived.Test.YtijngjidkdkmeaavS13
set_option linter.unusedVariables false
set_option linter.unusedSimpArgs false
set_option maxHeartbeats 1600000
set_option maxRecDepth 100000
namespace Go.Sy
def knB (mp:Mp) (t:Aw):Bool:=decide (getM mp (Cw t)=1)
def kaB (mp:Mp) (n:Int):Bool:=knB mp (.mk 1 n 0 [])
def kpB (mp:Mp) (n:Int):Bool:=kaB mp n||knB mp (.mk 2 n 0 [])
def kdB (mp:Mp) (i o:Int):Bool:=kaB mp i&&kpB mp o||kaB mp o&&kpB mp i
def b0d :Mp→List Aw→Mp
 |mp,[]=>mp
 |mp,a::l=>b0d (Dk mp (Cw a) 1) l
theorem a1a (mp:Mp):b0d mp []=mp:=rfl
theorem f0w (mp:Mp) (a:Aw) (l:List Aw):b0d mp (a::l)=b0d (Dk mp (Cw a) 1) l:=rfl
def y0d (mp:Mp):List Aw→Nat
 | []=>0
 |a::l=>(if knB mp a then 1 else 0)+y0d mp l
theorem j1p (mp:Mp):y0d mp []=0:=rfl
theorem b0w (mp:Mp) (a:Aw) (l:List Aw):y0d mp (a::l)=(if knB mp a=true then 1 else 0)+y0d mp l:=rfl
theorem d1f (mp:Mp): ∀ l,y0d mp l≤l.length
 | []=>Nat.le_refl _
 |a::l=>by
  have:=d1f mp l
  rw [b0w]
  split<;>simp only [List.length_cons]<;>omega
def mkB (mp:Mp):Aw→Bool
 | .mk k i o l=>if k=1 then false else if k=2 then kaB mp i else if k=3 then kdB mp i o else decide (y0d mp l=l.length)
def b0j (mp:Mp) (t:Aw):Mp:=if mkB mp t then Dk mp (Cw t) 1 else mp
def zT :Aw:=.mk 0 0 0 []
def opM (mp:Mp):Aw→Mp
 | .mk k i o l=>
  if k=4 then Dk (Dk mp (Cw (l.getD 0 zT)) 1) (Cw (l.getD 1 zT)) 1
  else if k=7 then (if knB mp (l.getD 0 zT) then Dk mp (Cw (l.getD 2 zT)) 1 else mp) else mp
def stepM (mp:Mp) (t:Aw):Mp:=if knB (b0j mp t) t then opM (b0j mp t) t else b0j mp t
theorem n0p (s:List UInt8) (n:Int): ∀ l:Mp,getM (Dk l s n) s=n
 | []=>by rw [Dk,getM,if_pos rfl]
 |x::r=>by
  rw [Dk]
  split
  ·rw [getM,if_pos rfl]
  ·rename_i h;rw [getM,if_neg h];exact n0p s n r
theorem d0b (mp:Mp) (t:Aw):knB (Dk mp (Cw t) 1) t=true:=by rw [knB,n0p];rfl
theorem l1h {mp:Mp} {t:Aw} (h:mkB mp t=false) (hk:knB mp t=false):stepM mp t=mp:=by
 have e:b0j mp t=mp:=by rw [b0j,h];rfl
 rw [stepM,e,hk];rfl
theorem m0v {mp:Mp} {t:Aw} (h:mkB mp t=false) (hk:knB mp t=true):stepM mp t=opM mp t:=by
 have e:b0j mp t=mp:=by rw [b0j,h];rfl
 rw [stepM,e,hk];rfl
theorem step_mk {mp:Mp} {t:Aw} (h:mkB mp t=true):stepM mp t=opM (Dk mp (Cw t) 1) t:=by
 have e:b0j mp t=Dk mp (Cw t) 1:=by rw [b0j,h];rfl
 rw [stepM,e,d0b];rfl
theorem n0f (mp:Mp) {k:Int} (i o:Int) (l:List Aw) (h4:¬k=4) (h7:¬k=7):opM mp (.mk k i o l)=mp:=by rw [opM,if_neg h4,if_neg h7]
theorem m1r {mp:Mp} {k:Int} (i o:Int) {x y z:Aw} (h7:k=7) (h:knB mp x=false):opM mp (.mk k i o [x,y,z])=mp:=by
 subst h7;rw [opM,if_neg (by decide),if_pos rfl];show (if knB mp x=true then _ else _)=_;rw [h];rfl
theorem g1a {mp:Mp} {k:Int} (i o:Int) {x y z:Aw} (h7:k=7) (h:knB mp x=true):opM mp (.mk k i o [x,y,z])=Dk mp (Cw z) 1:=by
 subst h7;rw [opM,if_neg (by decide),if_pos rfl];show (if knB mp x=true then _ else _)=_;rw [h];rfl
theorem t1l {mp:Mp} {k:Int} (i o:Int) {x y:Aw} (h4:k=4):opM mp (.mk k i o [x,y])=Dk (Dk mp (Cw x) 1) (Cw y) 1:=by
 subst h4;rw [opM,if_pos rfl];rfl
def Iz :Mp→List Aw→Mp
 |mp,[]=>mp
 |mp,a::l=>Iz (stepM mp a) l
theorem a1r (mp:Mp):Iz mp []=mp:=rfl
theorem c0l (mp:Mp) (a:Aw) (l:List Aw):Iz mp (a::l)=Iz (stepM mp a) l:=rfl
def a0t (a:List Aw):Nat→Mp→Mp
 |0,mp=>Iz mp a
 |n+1,mp=>if (Iz mp a).length=mp.length then Iz mp a else a0t a n (Iz mp a)
theorem b1a {a:List Aw} {n:Nat} {mp:Mp} (h:(Iz mp a).length=mp.length):a0t a n mp=Iz mp a:=by
 cases n with
 |zero=>rfl
 |succ n=>rw [a0t,if_pos h]
theorem b1b {a:List Aw} {n:Nat} {mp:Mp} (h:¬(Iz mp a).length=mp.length):a0t a (n+1) mp=a0t a n (Iz mp a):=by rw [a0t,if_neg h]
end Go.Sy
namespace Go.Sy
open Go.Proofs
attribute [local irreducible] Ey HT Bq Tk onC onE onO onG goV goA goS Wv Fx
theorem CtM.leaf {P:Program} {f:FuncId} {a:V} {k n:Int} {m:List (Nat×Ob)} {R:V→List (Nat×Ob)→Prop} (h:CtM P f [Fy k n 0 [],a] m R):CtM P f [b1g k n,a] m R:=by
 intro w d vals hm hv
 refine h w d vals hm ?_
 generalize vals.toList=l at hv ⊢
 cases hv with
 |cons h1 h2=>exact .cons (u0z h1) h2
theorem s1f (mb:Nat) (mp:Mp) (k i o:Int) (l:List Aw) (hs:Ct Try.prog 17 [Fy k i o l] (fun v m=>v=.w (.one (.pl (.str (Cw (.mk k i o l))))))):
 CtM Try.prog 18 [Fy k i o l,.w (.one (.p 500000 []))] [(500000,⟨false,[.pl (.val (.map (some mb)))]⟩),(2000000+mb,⟨.m mp,[]⟩)] (Told (fun v m=>v=.w (.one (.pl (.b (knB mp (.mk k i o l)))))∧m=[(500000,⟨false,[.pl (.val (.map (some mb)))]⟩),(2000000+mb,⟨.m mp,[]⟩)])):=by
 skip
 have F0:=trivial
 refine CtM.k Try.func18 rfl Try.ntmps18 (congrArg Array.toList Try.results18) (by simp) fun w0 ro may fx=>?_
 refine Ck fun zZ zhZ=>?_
 refine Dw fun zK zhK=>?_
 simp only [go_sem,F0]
 repeat' (first|apply And.intro|intro _)
 refine zhK _ ?_
 refine Bj fun zN zM zhN zhM=>?_
 refine m0b (id:=1) mixed fun zE zhE=>?_
 refine Hw (p:=0) 3 [4,5,6] [0,0,2,7,15,31] [] rfl (by kernel_rfl) rfl (by simp only [go_sem]) fun zR zK zhR zhK=>?_
 simp only [go_sem,F0]
 repeat' (first|apply And.intro|intro _)
 all_goals (refine Cx (fun k=>k) (.w (.one (.pl (.str (Cw (.mk k i o l)))))) [] (fun _ _=>rfl) ?_ ((hs).plain fun _ _ h=>h) ?_ ?_;focus (first|rfl|(simp only [go_sem,F0]<;>rfl)))
 all_goals try (refine And.intro ?_ (And.intro ?_ (And.intro ?_ ?_))<;>first|rfl|simp only [go_sem])
 all_goals simp only [go_sem,F0]
 all_goals repeat' (first|apply And.intro|intro _)
 refine zhK _ _ trivial (zhR _ ?_)
 refine Ej 3 6 rfl (by kernel_rfl) rfl rfl fun zR zhR=>?_
 simp only [go_sem,F0]
 repeat' (first|apply And.intro|intro _)
 all_goals refine lk_k Try.underlying42 Try.underlying9 (by kernel_rfl) ?_
 all_goals (try simp only [go_sem,Qk,F0])
 all_goals repeat' (first|apply And.intro|intro _)
 refine zhR _ ?_
 refine Pw rfl (zhE _ ?_)
 refine zhN _ ?_;clear zhN zhM
 refine Cq ?_
 refine zhZ _ _ ?_
 simp only [go_sem,F0]
 all_goals (exact b0c (m2:=[(500000,⟨false,[.pl (.val (.map (some mb)))]⟩),(2000000+mb,⟨.m mp,[]⟩)]) (by simp [look,k1k]) ⟨rfl,rfl⟩)
theorem b0n (mb:Nat) (mp:Mp) (t:Aw) (hw:wfT t) (hz:(Cw t).length≤100000000):CtM Try.prog 18 ([Pv t]++[500000].map fun k=>.w (.one (.p k []))) [(500000,⟨false,[.pl (.val (.map (some mb)))]⟩),(2000000+mb,⟨.m mp,[]⟩)] (fun v m=>v=.w (.one (.pl (.b (knB mp t))))∧m=[(500000,⟨false,[.pl (.val (.map (some mb)))]⟩),(2000000+mb,⟨.m mp,[]⟩)]):=by
 have hs:=l0f t hw hz
 obtain ⟨k,i,o,l⟩:=t
 rw [Ak] at hs ⊢
 exact (s1f mb mp k i o l hs).told
theorem l1d {k n:Int} (hk:k=1∨k=2) (hn:0≤n∧n≤9223372036854775807):wfT (.mk k n 0 []):=by
 refine ⟨?_,?_⟩
 · rw [Aw.ok,Dv]
   refine ⟨?_,⟨by omega,hn.2⟩,⟨by decide,by decide⟩,by decide,trivial⟩
   rcases hk with rfl|rfl<;>exact ⟨by decide,by decide⟩
 · rw [Bz]
   rcases hk with rfl|rfl
   · rw [if_neg (by decide),if_pos (by simp [okT,g0m,hn.1]),Cv]
   · rw [if_neg (by decide),if_pos (by simp [okT,g0m,hn.1]),Cv]
theorem f1g (k n:Int) (hk:k=1∨k=2) (hn:0≤n∧n≤9223372036854775807):(Cw (.mk k n 0 [])).length≤100000000:=by
 have h1:=j0x n.toNat (by omega)
 have h2:=j0x k.toNat (by omega)
 rw [Cw,c0y]
 have h3:(a0u (0:Int).toNat).length≤20:=j0x _ (by decide)
 simp only [List.length_append,List.length_cons,List.length_nil]
 omega
theorem b1m (mb:Nat) (mp:Mp) (k n:Int) (hk:k=1∨k=2) (hn:0≤n∧n≤9223372036854775807):CtM Try.prog 18 ([b1g k n]++[500000].map fun k=>.w (.one (.p k []))) [(500000,⟨false,[.pl (.val (.map (some mb)))]⟩),(2000000+mb,⟨.m mp,[]⟩)] (fun v m=>v=.w (.one (.pl (.b (knB mp (.mk k n 0 [])))))∧m=[(500000,⟨false,[.pl (.val (.map (some mb)))]⟩),(2000000+mb,⟨.m mp,[]⟩)]):=by
 have h:=b0n mb mp (.mk k n 0 []) (l1d hk hn) (f1g k n hk hn)
 rw [Ak] at h
 exact CtM.leaf h
theorem s0d (mb:Nat) (mp:Mp) (n:Int) (hn:0≤n∧n≤9223372036854775807):
 CtM Try.prog 19 ([.w (.one (.pl (.i n)))]++[500000].map fun k=>.w (.one (.p k []))) [(500000,⟨false,[.fn 18 [500001]]⟩),(500001,⟨false,[.pl (.val (.map (some mb)))]⟩),(2000000+mb,⟨.m mp,[]⟩)] (Told (fun v m=>v=.w (.one (.pl (.b (knB mp (.mk 1 n 0 [])))))∧m=[(500000,⟨false,[.fn 18 [500001]]⟩),(500001,⟨false,[.pl (.val (.map (some mb)))]⟩),(2000000+mb,⟨.m mp,[]⟩)])):=by
 have hc:=b1m mb mp 1 n (.inl rfl) hn
 have F0:=trivial
 refine CtM.k Try.func19 rfl Try.ntmps19 (congrArg Array.toList Try.results19) (by simp) fun w0 ro may fx=>?_
 refine Ck fun zZ zhZ=>?_
 refine Dw fun zK zhK=>?_
 simp only [go_sem,F0]
 repeat' (first|apply And.intro|intro _)
 refine zhK _ ?_
 refine Dw fun zK zhK=>?_
 simp only [go_sem,F0]
 repeat' (first|apply And.intro|intro _)
 all_goals (refine Jq (caps:=[500001]) false [(500000,500001)] (fun k=>k) ?_ ?_ (fun _ _=>rfl) ?_ (by decide) ?_ hc ?_;iterate 4 (focus (first|rfl|(simp only [go_sem,F0]<;>first|done|rfl|simp))))
 all_goals (rintro v m ⟨hR,hm⟩;subst hR;subst hm)
 all_goals (refine And.intro ?_ (And.intro ?_ (And.intro ?_ ?_));iterate 3 (focus (first|rfl|(simp only [go_sem,F0];done)|(simp [go_sem,look,F0];done))))
 all_goals (try simp only [go_sem,F0])
 all_goals (try simp only [go_sem,F0])
 all_goals repeat' (first|apply And.intro|intro _)
 refine zhK _ ?_
 refine Cq ?_
 refine zhZ _ _ ?_
 simp only [go_sem,F0]
 all_goals (exact b0c (m2:=[(500000,⟨false,[.fn 18 [500001]]⟩),(500001,⟨false,[.pl (.val (.map (some mb)))]⟩),(2000000+mb,⟨.m mp,[]⟩)]) (by simp [look,k1k]) ⟨rfl,rfl⟩)
theorem n1v (mb:Nat) (mp:Mp) (n:Int) (hn:0≤n∧n≤9223372036854775807) (ha:knB mp (.mk 1 n 0 [])=true):
 CtM Try.prog 20 ([.w (.one (.pl (.i n)))]++[500000,500001].map fun k=>.w (.one (.p k []))) [(500000,⟨false,[.fn 19 [500001]]⟩),(500001,⟨false,[.fn 18 [500002]]⟩),(500002,⟨false,[.pl (.val (.map (some mb)))]⟩),(2000000+mb,⟨.m mp,[]⟩)] (Told (fun v m=>v=.w (.one (.pl (.b (true))))∧m=[(500000,⟨false,[.fn 19 [500001]]⟩),(500001,⟨false,[.fn 18 [500002]]⟩),(500002,⟨false,[.pl (.val (.map (some mb)))]⟩),(2000000+mb,⟨.m mp,[]⟩)])):=by
 have hc:=(s0d mb mp n hn).told
 rw [ha] at hc
 have hd:=b1m mb mp 2 n (.inr rfl) hn
 have F0:=And.intro ((@k1k 500000 mb (by decide)))<|And.intro ((@k1k 500001 mb (by decide)))<|((@k1k 500002 mb (by decide)))
 have cq:=And.intro (And.intro (CF.mk [500001] [(500000,500001),(500001,500002)]) (hc))<|And.intro (And.intro (CF.mk [500002] [(500000,500002)]) (hd))<|trivial
 have zF:FG [5,6,7,8,9,10,11,12,13]:=trivial
 exact CtM.run2 Try.func20 rfl Try.ntmps20 Try.results20
theorem n1u (mb:Nat) (mp:Mp) (n:Int) (hn:0≤n∧n≤9223372036854775807) (ha:knB mp (.mk 1 n 0 [])=false):
 CtM Try.prog 20 ([.w (.one (.pl (.i n)))]++[500000,500001].map fun k=>.w (.one (.p k []))) [(500000,⟨false,[.fn 19 [500001]]⟩),(500001,⟨false,[.fn 18 [500002]]⟩),(500002,⟨false,[.pl (.val (.map (some mb)))]⟩),(2000000+mb,⟨.m mp,[]⟩)] (Told (fun v m=>v=.w (.one (.pl (.b (knB mp (.mk 2 n 0 [])))))∧m=[(500000,⟨false,[.fn 19 [500001]]⟩),(500001,⟨false,[.fn 18 [500002]]⟩),(500002,⟨false,[.pl (.val (.map (some mb)))]⟩),(2000000+mb,⟨.m mp,[]⟩)])):=by
 have hc:=(s0d mb mp n hn).told
 rw [ha] at hc
 have hd:=b1m mb mp 2 n (.inr rfl) hn
 have F0:=And.intro ((@k1k 500000 mb (by decide)))<|And.intro ((@k1k 500001 mb (by decide)))<|((@k1k 500002 mb (by decide)))
 have cq:=And.intro (And.intro (CF.mk [500001] [(500000,500001),(500001,500002)]) (hc))<|And.intro (And.intro (CF.mk [500002] [(500000,500002)]) (hd))<|trivial
 have zF:FG [5,6,7,8,9,10,11,12,13]:=trivial
 exact CtM.run2 Try.func20 rfl Try.ntmps20 Try.results20
theorem b0o (mb:Nat) (mp:Mp) (n:Int) (hn:0≤n∧n≤9223372036854775807):CtM Try.prog 19 ([.w (.one (.pl (.i n)))]++[500000].map fun k=>.w (.one (.p k []))) [(500000,⟨false,[.fn 18 [500001]]⟩),(500001,⟨false,[.pl (.val (.map (some mb)))]⟩),(2000000+mb,⟨.m mp,[]⟩)] (fun v m=>v=.w (.one (.pl (.b (kaB mp n))))∧m=[(500000,⟨false,[.fn 18 [500001]]⟩),(500001,⟨false,[.pl (.val (.map (some mb)))]⟩),(2000000+mb,⟨.m mp,[]⟩)]):=(s0d mb mp n hn).told
theorem k0s (mb:Nat) (mp:Mp) (n:Int) (hn:0≤n∧n≤9223372036854775807):CtM Try.prog 20 ([.w (.one (.pl (.i n)))]++[500000,500001].map fun k=>.w (.one (.p k []))) [(500000,⟨false,[.fn 19 [500001]]⟩),(500001,⟨false,[.fn 18 [500002]]⟩),(500002,⟨false,[.pl (.val (.map (some mb)))]⟩),(2000000+mb,⟨.m mp,[]⟩)] (fun v m=>v=.w (.one (.pl (.b (kpB mp n))))∧m=[(500000,⟨false,[.fn 19 [500001]]⟩),(500001,⟨false,[.fn 18 [500002]]⟩),(500002,⟨false,[.pl (.val (.map (some mb)))]⟩),(2000000+mb,⟨.m mp,[]⟩)]):=by
 rcases ha:knB mp (.mk 1 n 0 []) with _|_
 · rw [kpB,kaB,ha,Bool.false_or];exact (n1u mb mp n hn ha).told
 · rw [kpB,kaB,ha,Bool.true_or];exact (n1v mb mp n hn ha).told
end Go.Sy
namespace Go.Sy
open Go.Proofs
attribute [local irreducible] Ey HT Bq Tk onC onE onO onG goV goA goS Wv Fx
theorem q1b (l:List Aw) (hl:l.length≤9223372036854775807) (hk:Dv l) (k i o:Int) (ms:List Aw) (ht:(Aw.mk k i o ms).ok) (hf:¬Fj Dq l=0):
 Ct Try.prog 6 [(.w (.one (.pl (.R false 4 (Ay l))))),Fy k i o ms] (fun v m=>v=.tup [.one (.pl (.b (false))),.one (.pl (.i (Fj Dq l)))]):=by
 skip
 have F0:=Az
 refine Ct.k Try.func6 rfl Try.ntmps6 (congrArg Array.toList Try.results6) (by simp) fun w0 ro=>?_
 refine Ck fun zZ zhZ=>?_
 iterate 8 first
  |(refine Dw fun zK zhK=>?_;simp only [go_sem,F0];(repeat' (first|apply And.intro|intro _)))
  |refine zhK _ ?_
  |refine Bw fun zB zbn zbx zbr zbi=>?_
  |refine Bj fun zN zM zhN zhM=>?_
 refine Iy (fun y=>[(6,.w (.one (.pl (.i y.1.2)))),(29,.w (.one (.pl (.i ((y.1.1:Nat):Int)))))]) (fun _=>[]) (fun y=>l.length-y.1.1) (⟨(0,0),Nat.zero_le _,by decide,by decide,rfl⟩:{y:Nat×Int//y.1≤l.length∧0≤y.2∧y.2≤300∧g0p Dq (l.drop y.1) y.2=g0p Dq l 0}) ?_ ?_ ?_
 · (simp only [go_sem,leX,List.cons_append,List.nil_append,F0];try simp)
 · (simp only [go_sem,leX,List.cons_append,List.nil_append,F0];try simp)
 intro ⟨⟨j,n⟩,h1,h2,h3,h4⟩ zN zM zhN zhM
 simp only [List.cons_append,List.nil_append]
 have yN0:=zhN
 have h1:j≤l.length:=h1
 have h2:0≤n:=h2
 have h3:n≤300:=h3
 have h4:g0p Dq (l.drop j) n=g0p Dq l 0:=h4
 rcases Nat.lt_or_ge j l.length with hlt|hge
 rcases Int.lt_or_le 300 (n+Dq (l.getD j (.mk 0 0 0 [])) 1) with hbig|hbig
 · obtain ⟨k2,i2,o2,m2,he,hm,hdr,hg⟩:=Cy hlt
   have hj:(0:Int)≤((j:Nat):Int):=Int.natCast_nonneg j
   have hjl:j<(Ay l).length:=by rw [Az];exact hlt
   have hci:=ltI hlt
   have hs1:=Qv hlt hl
   have hc:=d0v _ (Dz hk _ hm) 1 (by decide) (by decide)
   rw [Ak] at hc
   have hr:=Qq (.mk k2 i2 o2 m2)
   rw [hdr,Nz] at h4
   obtain ⟨w,hw⟩: ∃ w,Dq (.mk k2 i2 o2 m2) 1=w:=⟨_,rfl⟩
   rw [hw] at hc hr h4
   have hwr:Go.RowKit.wrap64 (n+w)=n+w:=w64 (by omega)
   rw [he,hw] at hbig
   rw [if_pos hbig] at h4
   have hfe:Fj Dq l=1:=by rw [Fj,if_pos (by rw [←h4];exact hbig)]
   have zE:V.tup [.one (.pl (.b false)),.one (.pl (.i 1))]=V.tup [.one (.pl (.b false)),.one (.pl (.i (Fj Dq l)))]:=by rw [hfe]
   have F0:=And.intro hci<|And.intro hj<|And.intro hjl<|And.intro hg<|And.intro Int.toNat_natCast<|And.intro Az<|And.intro hs1<|And.intro hwr<|And.intro hbig<|F0
   have cv0:=Ct.cv (hc)
   exact HT.w
 · obtain ⟨k2,i2,o2,m2,he,hm,hdr,hg⟩:=Cy hlt
   have hj:(0:Int)≤((j:Nat):Int):=Int.natCast_nonneg j
   have hjl:j<(Ay l).length:=by rw [Az];exact hlt
   have hci:=ltI hlt
   have hs1:=Qv hlt hl
   have hc:=d0v _ (Dz hk _ hm) 1 (by decide) (by decide)
   rw [Ak] at hc
   have hr:=Qq (.mk k2 i2 o2 m2)
   rw [hdr,Nz] at h4
   obtain ⟨w,hw⟩: ∃ w,Dq (.mk k2 i2 o2 m2) 1=w:=⟨_,rfl⟩
   rw [hw] at hc hr h4
   have hwr:Go.RowKit.wrap64 (n+w)=n+w:=w64 (by omega)
   rw [he,hw] at hbig
   have hnb:¬300<n+w:=by omega
   rw [if_neg hnb] at h4
   have F0:=And.intro hci<|And.intro hj<|And.intro hjl<|And.intro hg<|And.intro Int.toNat_natCast<|And.intro Az<|And.intro hs1<|And.intro hwr<|And.intro hnb<|F0
   have cv0:=Ct.cv (hc)
   have zL:=fun S2=>yN0 ⟨(j+1,n+w),hlt,by omega,hbig,h4⟩ S2 (by (exact Nat.sub_lt_sub_left hlt (Nat.lt_succ_self j)))
   exact HT.w
 · obtain rfl:j=l.length:=Nat.le_antisymm h1 hge
   rw [List.drop_length,Zx] at h4
   have hfl:Fj Dq l=Cv l:=by rw [Fj,if_neg (by rw [←h4];omega)]
   have F0:=And.intro (@r0e l.length)<|F0
   iterate 13 first
    |(refine Dw fun zK zhK=>?_;simp only [go_sem,F0];(repeat' (first|apply And.intro|intro _)))
    |refine zhK _ ?_
    |(refine zhM _ _ ?_;clear zhN zhM)
    |refine Iw ?_
    |(refine zbx _ ?_;clear zbn zbx zbr zbi)
    |(refine zhN _ ?_;clear zhN zhM)
    |refine Bw fun zB zbn zbx zbr zbi=>?_
    |refine Bj fun zN zM zhN zhM=>?_
    |(refine Av ?_ ?_;focus (first|rfl|(simp [go_sem,F0];done)))
   refine Iy (fun y=>[(42,.w (.one (.pl (.i ((y.1:Nat):Int)))))]) (fun _=>[]) (fun y=>l.length-y.1) (⟨0,Nat.zero_le _,rfl⟩:{y:Nat//y≤l.length∧Cv (l.drop y)=Cv l}) ?_ ?_ ?_
   · (simp only [go_sem,leX,List.cons_append,List.nil_append,F0];try simp)
   · (simp only [go_sem,leX,List.cons_append,List.nil_append,F0];try simp)
   intro ⟨j,h1,h4⟩ zN zM zhN zhM
   simp only [List.cons_append,List.nil_append]
   have yN1:=zhN
   have h1:j≤l.length:=h1
   have h4:Cv (l.drop j)=Cv l:=h4
   rcases Nat.lt_or_ge j l.length with hlt|hge
   rcases Int.decEq (Bz (l.getD j (.mk 0 0 0 []))) 0 with hbad|hbad
   · obtain ⟨k2,i2,o2,m2,he,hm,hdr,hg⟩:=Cy hlt
     have hj:(0:Int)≤((j:Nat):Int):=Int.natCast_nonneg j
     have hjl:j<(Ay l).length:=by rw [Az];exact hlt
     have hci:=ltI hlt
     have hs1:=Qv hlt hl
     have hc:=e0e _ (Dz hk _ hm)
     rw [Ak] at hc
     rw [hdr,Py] at h4
     obtain ⟨w,hw⟩: ∃ w,Bz (.mk k2 i2 o2 m2)=w:=⟨_,rfl⟩
     rw [hw] at hc h4
     rw [he,hw] at hbad
     rw [if_neg hbad] at h4
     have zE:V.tup [.one (.pl (.b false)),.one (.pl (.i w))]=V.tup [.one (.pl (.b false)),.one (.pl (.i (Fj Dq l)))]:=by rw [hfl,h4]
     have F0:=And.intro hci<|And.intro hj<|And.intro hjl<|And.intro hg<|And.intro Int.toNat_natCast<|And.intro Az<|And.intro hs1<|And.intro hbad<|F0
     have cv0:=Ct.cv (hc)
     exact HT.w
   · obtain ⟨k2,i2,o2,m2,he,hm,hdr,hg⟩:=Cy hlt
     have hj:(0:Int)≤((j:Nat):Int):=Int.natCast_nonneg j
     have hjl:j<(Ay l).length:=by rw [Az];exact hlt
     have hci:=ltI hlt
     have hs1:=Qv hlt hl
     have hc:=e0e _ (Dz hk _ hm)
     rw [Ak] at hc
     rw [hdr,Py] at h4
     obtain ⟨w,hw⟩: ∃ w,Bz (.mk k2 i2 o2 m2)=w:=⟨_,rfl⟩
     rw [hw] at hc h4
     rw [he,hw] at hbad
     rw [if_pos hbad] at h4
     have F0:=And.intro hci<|And.intro hj<|And.intro hjl<|And.intro hg<|And.intro Int.toNat_natCast<|And.intro Az<|And.intro hs1<|And.intro hbad<|F0
     have cv0:=Ct.cv (hc)
     have zL:=fun S2=>yN1 ⟨j+1,hlt,h4⟩ S2 (by (exact Nat.sub_lt_sub_left hlt (Nat.lt_succ_self j)))
     exact HT.w
   · obtain rfl:j=l.length:=Nat.le_antisymm h1 hge
     rw [List.drop_length,e0y] at h4
     exact absurd (hfl.trans h4.symm) hf
end Go.Sy
namespace Go.Sy
open Go.Proofs
attribute [local irreducible] Ey HT Bq Tk onC onE onO onG goV goA goS Wv Fx
theorem u1b (l:List Aw) (hl:l.length≤9223372036854775807) (hk:Dv l) (k i o:Int) (ms:List Aw) (ht:(Aw.mk k i o ms).ok) (hf:Fj Dq l=0) (hg:¬Mq (.mk k i o ms)=0):
 Ct Try.prog 6 [(.w (.one (.pl (.R false 4 (Ay l))))),Fy k i o ms] (fun v m=>v=.tup [.one (.pl (.b (false))),.one (.pl (.i (Mq (.mk k i o ms))))]):=by
 have hd:=k1p _ ht
 rw [Ak] at hd
 have F0:=Az
 refine Ct.k Try.func6 rfl Try.ntmps6 (congrArg Array.toList Try.results6) (by simp) fun w0 ro=>?_
 refine Ck fun zZ zhZ=>?_
 iterate 8 first
  |(refine Dw fun zK zhK=>?_;simp only [go_sem,F0];(repeat' (first|apply And.intro|intro _)))
  |refine zhK _ ?_
  |refine Bw fun zB zbn zbx zbr zbi=>?_
  |refine Bj fun zN zM zhN zhM=>?_
 refine Iy (fun y=>[(6,.w (.one (.pl (.i y.1.2)))),(29,.w (.one (.pl (.i ((y.1.1:Nat):Int)))))]) (fun _=>[]) (fun y=>l.length-y.1.1) (⟨(0,0),Nat.zero_le _,by decide,by decide,rfl⟩:{y:Nat×Int//y.1≤l.length∧0≤y.2∧y.2≤300∧g0p Dq (l.drop y.1) y.2=g0p Dq l 0}) ?_ ?_ ?_
 · (simp only [go_sem,leX,List.cons_append,List.nil_append,F0];try simp)
 · (simp only [go_sem,leX,List.cons_append,List.nil_append,F0];try simp)
 intro ⟨⟨j,n⟩,h1,h2,h3,h4⟩ zN zM zhN zhM
 simp only [List.cons_append,List.nil_append]
 have yN0:=zhN
 have h1:j≤l.length:=h1
 have h2:0≤n:=h2
 have h3:n≤300:=h3
 have h4:g0p Dq (l.drop j) n=g0p Dq l 0:=h4
 rcases Nat.lt_or_ge j l.length with hlt|hge
 rcases Int.lt_or_le 300 (n+Dq (l.getD j (.mk 0 0 0 [])) 1) with hbig|hbig
 · obtain ⟨k2,i2,o2,m2,he,hm,hdr,hg⟩:=Cy hlt
   have hj:(0:Int)≤((j:Nat):Int):=Int.natCast_nonneg j
   have hjl:j<(Ay l).length:=by rw [Az];exact hlt
   have hci:=ltI hlt
   have hs1:=Qv hlt hl
   have hc:=d0v _ (Dz hk _ hm) 1 (by decide) (by decide)
   rw [Ak] at hc
   have hr:=Qq (.mk k2 i2 o2 m2)
   rw [hdr,Nz] at h4
   obtain ⟨w,hw⟩: ∃ w,Dq (.mk k2 i2 o2 m2) 1=w:=⟨_,rfl⟩
   rw [hw] at hc hr h4
   have hwr:Go.RowKit.wrap64 (n+w)=n+w:=w64 (by omega)
   rw [he,hw] at hbig
   rw [if_pos hbig] at h4
   have hfe:Fj Dq l=1:=by rw [Fj,if_pos (by rw [←h4];exact hbig)]
   have F0:=And.intro hci<|And.intro hj<|And.intro hjl<|And.intro hg<|And.intro Int.toNat_natCast<|And.intro Az<|And.intro hs1<|And.intro hwr<|And.intro hbig<|F0
   have cv0:=Ct.cv (hc)
   exact absurd (hfe.symm.trans hf) (by decide)
 · obtain ⟨k2,i2,o2,m2,he,hm,hdr,hg⟩:=Cy hlt
   have hj:(0:Int)≤((j:Nat):Int):=Int.natCast_nonneg j
   have hjl:j<(Ay l).length:=by rw [Az];exact hlt
   have hci:=ltI hlt
   have hs1:=Qv hlt hl
   have hc:=d0v _ (Dz hk _ hm) 1 (by decide) (by decide)
   rw [Ak] at hc
   have hr:=Qq (.mk k2 i2 o2 m2)
   rw [hdr,Nz] at h4
   obtain ⟨w,hw⟩: ∃ w,Dq (.mk k2 i2 o2 m2) 1=w:=⟨_,rfl⟩
   rw [hw] at hc hr h4
   have hwr:Go.RowKit.wrap64 (n+w)=n+w:=w64 (by omega)
   rw [he,hw] at hbig
   have hnb:¬300<n+w:=by omega
   rw [if_neg hnb] at h4
   have F0:=And.intro hci<|And.intro hj<|And.intro hjl<|And.intro hg<|And.intro Int.toNat_natCast<|And.intro Az<|And.intro hs1<|And.intro hwr<|And.intro hnb<|F0
   have cv0:=Ct.cv (hc)
   have zL:=fun S2=>yN0 ⟨(j+1,n+w),hlt,by omega,hbig,h4⟩ S2 (by (exact Nat.sub_lt_sub_left hlt (Nat.lt_succ_self j)))
   exact HT.w
 · obtain rfl:j=l.length:=Nat.le_antisymm h1 hge
   rw [List.drop_length,Zx] at h4
   have hfl:Fj Dq l=Cv l:=by rw [Fj,if_neg (by rw [←h4];omega)]
   have F0:=And.intro (@r0e l.length)<|F0
   iterate 13 first
    |(refine Dw fun zK zhK=>?_;simp only [go_sem,F0];(repeat' (first|apply And.intro|intro _)))
    |refine zhK _ ?_
    |(refine zhM _ _ ?_;clear zhN zhM)
    |refine Iw ?_
    |(refine zbx _ ?_;clear zbn zbx zbr zbi)
    |(refine zhN _ ?_;clear zhN zhM)
    |refine Bw fun zB zbn zbx zbr zbi=>?_
    |refine Bj fun zN zM zhN zhM=>?_
    |(refine Av ?_ ?_;focus (first|rfl|(simp [go_sem,F0];done)))
   refine Iy (fun y=>[(42,.w (.one (.pl (.i ((y.1:Nat):Int)))))]) (fun _=>[]) (fun y=>l.length-y.1) (⟨0,Nat.zero_le _,rfl⟩:{y:Nat//y≤l.length∧Cv (l.drop y)=Cv l}) ?_ ?_ ?_
   · (simp only [go_sem,leX,List.cons_append,List.nil_append,F0];try simp)
   · (simp only [go_sem,leX,List.cons_append,List.nil_append,F0];try simp)
   intro ⟨j,h1,h4⟩ zN zM zhN zhM
   simp only [List.cons_append,List.nil_append]
   have yN1:=zhN
   have h1:j≤l.length:=h1
   have h4:Cv (l.drop j)=Cv l:=h4
   rcases Nat.lt_or_ge j l.length with hlt|hge
   rcases Int.decEq (Bz (l.getD j (.mk 0 0 0 []))) 0 with hbad|hbad
   · obtain ⟨k2,i2,o2,m2,he,hm,hdr,hg⟩:=Cy hlt
     have hj:(0:Int)≤((j:Nat):Int):=Int.natCast_nonneg j
     have hjl:j<(Ay l).length:=by rw [Az];exact hlt
     have hci:=ltI hlt
     have hs1:=Qv hlt hl
     have hc:=e0e _ (Dz hk _ hm)
     rw [Ak] at hc
     rw [hdr,Py] at h4
     obtain ⟨w,hw⟩: ∃ w,Bz (.mk k2 i2 o2 m2)=w:=⟨_,rfl⟩
     rw [hw] at hc h4
     rw [he,hw] at hbad
     rw [if_neg hbad] at h4
     have F0:=And.intro hci<|And.intro hj<|And.intro hjl<|And.intro hg<|And.intro Int.toNat_natCast<|And.intro Az<|And.intro hs1<|And.intro hbad<|F0
     have cv0:=Ct.cv (hc)
     exact absurd (h4.trans (hfl.symm.trans hf)) hbad
   · obtain ⟨k2,i2,o2,m2,he,hm,hdr,hg⟩:=Cy hlt
     have hj:(0:Int)≤((j:Nat):Int):=Int.natCast_nonneg j
     have hjl:j<(Ay l).length:=by rw [Az];exact hlt
     have hci:=ltI hlt
     have hs1:=Qv hlt hl
     have hc:=e0e _ (Dz hk _ hm)
     rw [Ak] at hc
     rw [hdr,Py] at h4
     obtain ⟨w,hw⟩: ∃ w,Bz (.mk k2 i2 o2 m2)=w:=⟨_,rfl⟩
     rw [hw] at hc h4
     rw [he,hw] at hbad
     rw [if_pos hbad] at h4
     have F0:=And.intro hci<|And.intro hj<|And.intro hjl<|And.intro hg<|And.intro Int.toNat_natCast<|And.intro Az<|And.intro hs1<|And.intro hbad<|F0
     have cv0:=Ct.cv (hc)
     have zL:=fun S2=>yN1 ⟨j+1,hlt,h4⟩ S2 (by (exact Nat.sub_lt_sub_left hlt (Nat.lt_succ_self j)))
     exact HT.w
   · obtain rfl:j=l.length:=Nat.le_antisymm h1 hge
     rw [List.drop_length,e0y] at h4
     have F0:=And.intro (@r0e l.length)<|And.intro hg<|F0
     iterate 21 first
      |(refine Dw fun zK zhK=>?_;simp only [go_sem,F0];(repeat' (first|apply And.intro|intro _)))
      |refine zhK _ ?_
      |(refine zhM _ _ ?_;clear zhN zhM)
      |refine Iw ?_
      |(refine zbx _ ?_;clear zbn zbx zbr zbi)
      |(refine zhN _ ?_;clear zhN zhM)
      |refine Cq ?_
      |(refine zhZ _ _ ?_;simp only [go_sem,F0];(all_goals (first|rfl|exact zE|(rw [zE];done))))
      |((all_goals (refine Cz (fun k=>k) (fun _ _=>rfl) ?_ ((hd).plain fun _ _ h=>h) ?_;focus (first|rfl|(simp only [go_sem,F0]<;>rfl))));(all_goals (rintro v m ⟨hR,hm⟩;subst hR;subst hm));(all_goals refine And.intro (by first|rfl|simp only [go_sem,F0]) (And.intro (by first|rfl|simp only [go_sem,F0]) ?_));(all_goals simp only [go_sem,F0]);(all_goals repeat' (first|apply And.intro|intro _)))
      |refine Bj fun zN zM zhN zhM=>?_
      |(refine Av ?_ ?_;focus (first|rfl|(simp [go_sem,F0];done)))
      |(refine Aj ?_ ?_;focus (first|rfl|(simp [go_sem,F0];done)))
end Go.Sy
