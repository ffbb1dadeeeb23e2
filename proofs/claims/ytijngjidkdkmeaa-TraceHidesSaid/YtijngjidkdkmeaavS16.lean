/- Walks and what they compute. CONDITIONS: those that each theorem names. -/
import Derived.Test.YtijngjidkdkmeaavS14
import Derived.Test.YtijngjidkdkmeaavE3
import Derived.Test.YtijngjidkdkmeaavS15
import Derived.Test.YtijngjidkdkmeaavS13
set_option linter.unusedVariables false
set_option linter.unusedSimpArgs false
set_option maxHeartbeats 1600000
set_option maxRecDepth 100000
namespace Go.Sy
def knB (mp:Mp) (t:Aw):Bool:=decide (getM mp (Jq t)=1)
def kaB (mp:Mp) (n:Int):Bool:=knB mp (.mk 1 n 0 [])
def kpB (mp:Mp) (n:Int):Bool:=kaB mp n||knB mp (.mk 2 n 0 [])
def kdB (mp:Mp) (i o:Int):Bool:=kaB mp i&&kpB mp o||kaB mp o&&kpB mp i
def f0p :Mp→List Aw→Mp
 |mp,[]=>mp
 |mp,a::l=>f0p (Oj mp (Jq a) 1) l
theorem m1g (mp:Mp):f0p mp []=mp:=rfl
theorem l0q (mp:Mp) (a:Aw) (l:List Aw):f0p mp (a::l)=f0p (Oj mp (Jq a) 1) l:=rfl
def k1a (mp:Mp):List Aw→Nat
 | []=>0
 |a::l=>(if knB mp a then 1 else 0)+k1a mp l
theorem b2e (mp:Mp):k1a mp []=0:=rfl
theorem g0n (mp:Mp) (a:Aw) (l:List Aw):k1a mp (a::l)=(if knB mp a=true then 1 else 0)+k1a mp l:=rfl
theorem q1r (mp:Mp): ∀ l,k1a mp l≤l.length
 | []=>yV _
 |a::l=>by
   have:=q1r mp l
   rw [g0n]
   split<;>simp only [yH]<;>omega
def mkB (mp:Mp):Aw→Bool
 | .mk k i o l=>if k=1 then false else if k=2 then kaB mp i else if k=3 then kdB mp i o else decide (k1a mp l=l.length)
def f0w (mp:Mp) (t:Aw):Mp:=if mkB mp t then Oj mp (Jq t) 1 else mp
def zT :Aw:=.mk 0 0 0 []
def opM (mp:Mp):Aw→Mp
 | .mk k i o l=>
   if k=4 then Oj (Oj mp (Jq (l.getD 0 zT)) 1) (Jq (l.getD 1 zT)) 1
   else if k=7 then (if knB mp (l.getD 0 zT) then Oj mp (Jq (l.getD 2 zT)) 1 else mp) else mp
def stepM (mp:Mp) (t:Aw):Mp:=if knB (f0w mp t) t then opM (f0w mp t) t else f0w mp t
theorem v0s (s:List UInt8) (n:Int): ∀ l:Mp,getM (Oj l s n) s=n
 | []=>by rw [Oj,getM,if_pos rfl]
 |x::r=>by
   rw [Oj]
   split
   ·rw [getM,if_pos rfl]
   rename_i h;rw [getM,if_neg h];exact v0s s n r
theorem i0e (mp:Mp) (t:Aw):knB (Oj mp (Jq t) 1) t=true:=by rw [knB,v0s];rfl
theorem d2y {mp:Mp} {t:Aw} (h:mkB mp t=false) (hk:knB mp t=false):stepM mp t=mp:=by
 have e:f0w mp t=mp:=by rw [f0w,h];rfl
 rw [stepM,e,hk];rfl
theorem u0p {mp:Mp} {t:Aw} (h:mkB mp t=false) (hk:knB mp t=true):stepM mp t=opM mp t:=by
 have e:f0w mp t=mp:=by rw [f0w,h];rfl
 rw [stepM,e,hk];rfl
theorem step_mk {mp:Mp} {t:Aw} (h:mkB mp t=true):stepM mp t=opM (Oj mp (Jq t) 1) t:=by
 have e:f0w mp t=Oj mp (Jq t) 1:=by rw [f0w,h];rfl
 rw [stepM,e,i0e];rfl
theorem v0c (mp:Mp) {k:Int} (i o:Int) (l:List Aw) (h4:¬k=4) (h7:¬k=7):opM mp (.mk k i o l)=mp:=by rw [opM,if_neg h4,if_neg h7]
theorem f2q {mp:Mp} {k:Int} (i o:Int) {x y z:Aw} (h7:k=7) (h:knB mp x=false):opM mp (.mk k i o [x,y,z])=mp:=by
 subst h7;rw [opM,if_neg (by decide),if_pos rfl];show (if knB mp x=true then _ else _)=_;rw [h];rfl
theorem x1d {mp:Mp} {k:Int} (i o:Int) {x y z:Aw} (h7:k=7) (h:knB mp x=true):opM mp (.mk k i o [x,y,z])=Oj mp (Jq z) 1:=by
 subst h7;rw [opM,if_neg (by decide),if_pos rfl];show (if knB mp x=true then _ else _)=_;rw [h];rfl
theorem o2k {mp:Mp} {k:Int} (i o:Int) {x y:Aw} (h4:k=4):opM mp (.mk k i o [x,y])=Oj (Oj mp (Jq x) 1) (Jq y) 1:=by
 subst h4;rw [opM,if_pos rfl];rfl
def Nv :Mp→List Aw→Mp
 |mp,[]=>mp
 |mp,a::l=>Nv (stepM mp a) l
theorem n1f (mp:Mp):Nv mp []=mp:=rfl
theorem h0d (mp:Mp) (a:Aw) (l:List Aw):Nv mp (a::l)=Nv (stepM mp a) l:=rfl
def f0e (a:List Aw):Nat→Mp→Mp
 |0,mp=>Nv mp a
 |n+1,mp=>if (Nv mp a).length=mp.length then Nv mp a else f0e a n (Nv mp a)
theorem o1i {a:List Aw} {n:Nat} {mp:Mp} (h:(Nv mp a).length=mp.length):f0e a n mp=Nv mp a:=by
 cases n with
 |zero=>rfl
 |succ n=>rw [f0e,if_pos h]
theorem o1j {a:List Aw} {n:Nat} {mp:Mp} (h:¬(Nv mp a).length=mp.length):f0e a (n+1) mp=f0e a n (Nv mp a):=by rw [f0e,if_neg h]
end Go.Sy
namespace Go.Sy
open Go.Proofs
attribute [local irreducible] Cj HT Bv Rj onC onE onO onG goV goA goS Tj Ck
theorem CtM.leaf {P:Program} {f:FuncId} {a:V} {k n:Int} {m:List (Nat×Ob)} {R:V→List (Nat×Ob)→Prop} (h:CtM P f [Jy k n 0 [],a] m R):CtM P f [o1o k n,a] m R:=by
 intro w d vals hm hv
 refine h w d vals hm ?_
 generalize vals.toList=l at hv ⊢
 cases hv with
 |cons h1 h2=>exact .cons (f1z h1) h2
theorem m2n (mb:Nat) (mp:Mp) (k i o:Int) (l:List Aw) (hs:Ct Try.prog 17 [Jy k i o l] (fun v m=>v=.w (.one (.pl (.str (Jq (.mk k i o l))))))):
 CtM Try.prog 18 [Jy k i o l,.w (.one (.p 500000 []))] [(500000,⟨false,[.pl (.val (.map (some mb)))]⟩),(2000000+mb,⟨.m mp,[]⟩)] (Told (fun v m=>v=.w (.one (.pl (.b (knB mp (.mk k i o l)))))∧m=[(500000,⟨false,[.pl (.val (.map (some mb)))]⟩),(2000000+mb,⟨.m mp,[]⟩)])):=by
 skip
 have F0:=trivial
 refine CtM.go Try.func18 rfl Try.ntmps18 Try.results18 fun w0 ro may fx zZ zhY=>?_
 refine (fun zX=>goW) ?_
 refine Zq (id:=1) mixed fun zE zhE=>?_
 refine Aq (p:=0) 3 [4,5,6] [0,0,2,7,15,31] [] rfl (by kernel_rfl) rfl (by simp only [go_sem]) fun zR zK zhR zhK=>?_
 simp only [go_sem,F0]
 repeat' (first|apply yA|intro _)
 all_goals (refine Oy (fun k=>k) (.w (.one (.pl (.str (Jq (.mk k i o l)))))) [] (fun _ _=>rfl) ?_ ((hs).plain fun _ _ h=>h) ?_ ?_;focus (first|rfl|(simp only [go_sem,F0]<;>rfl)))
 all_goals try (refine yA ?_ (yA ?_ (yA ?_ ?_))<;>first|rfl|simp only [go_sem])
 all_goals simp only [go_sem,F0]
 all_goals repeat' (first|apply yA|intro _)
 refine zhK _ _ trivial (zhR _ ?_)
 refine Cz 3 6 rfl (by kernel_rfl) rfl rfl fun zR zhR=>?_
 simp only [go_sem,F0]
 repeat' (first|apply yA|intro _)
 all_goals refine lk_k Try.underlying42 Try.underlying9 (by kernel_rfl) ?_
 all_goals (try simp only [go_sem,a0c,F0])
 all_goals repeat' (first|apply yA|intro _)
 refine zhR _ ?_
 refine Gv rfl (zhE _ ?_)
 refine (fun zX=>goW) ?_
 refine zhY _ _ ?_
 simp only [go_sem,F0]
 all_goals (exact Vv (m2:=[(500000,⟨false,[.pl (.val (.map (some mb)))]⟩),(2000000+mb,⟨.m mp,[]⟩)]) (by simp [look,c2b]) ⟨rfl,rfl⟩)
theorem g0b (mb:Nat) (mp:Mp) (t:Aw) (hw:wfT t) (hz:(Jq t).length≤100000000):CtM Try.prog 18 ([Yy t]++[500000].map fun k=>.w (.one (.p k []))) [(500000,⟨false,[.pl (.val (.map (some mb)))]⟩),(2000000+mb,⟨.m mp,[]⟩)] (fun v m=>v=.w (.one (.pl (.b (knB mp t))))∧m=[(500000,⟨false,[.pl (.val (.map (some mb)))]⟩),(2000000+mb,⟨.m mp,[]⟩)]):=by
 have hs:=s0y t hw hz
 obtain ⟨k,i,o,l⟩:=t
 rw [Bw] at hs ⊢
 exact (m2n mb mp k i o l hs).told
theorem d2a {k n:Int} (hk:k=1∨k=2) (hn:0≤n∧n≤9223372036854775807):wfT (.mk k n 0 []):=by
 refine ⟨?_,?_⟩
 ·rw [Aw.ok,Dq]
  refine ⟨?_,⟨by omega,hn.2⟩,⟨by decide,by decide⟩,by decide,trivial⟩
  rcases hk with rfl|rfl<;>exact ⟨by decide,by decide⟩
 rw [Bq]
 rcases hk with rfl|rfl
 ·rw [if_neg (by decide),if_pos (by simp [okT,h0x,hn.1]),Cq]
 rw [if_neg (by decide),if_pos (by simp [okT,h0x,hn.1]),Cq]
theorem v1z (k n:Int) (hk:k=1∨k=2) (hn:0≤n∧n≤9223372036854775807):(Jq (.mk k n 0 [])).length≤100000000:=by
 have h1:=r0p n.toNat (by omega)
 have h2:=r0p k.toNat (by omega)
 rw [Jq,i0b]
 have h3:(f0g (0:Int).toNat).length≤20:=r0p _ (by decide)
 simp only [yL,yH,xE]
 omega
theorem o1t (mb:Nat) (mp:Mp) (k n:Int) (hk:k=1∨k=2) (hn:0≤n∧n≤9223372036854775807):CtM Try.prog 18 ([o1o k n]++[500000].map fun k=>.w (.one (.p k []))) [(500000,⟨false,[.pl (.val (.map (some mb)))]⟩),(2000000+mb,⟨.m mp,[]⟩)] (fun v m=>v=.w (.one (.pl (.b (knB mp (.mk k n 0 [])))))∧m=[(500000,⟨false,[.pl (.val (.map (some mb)))]⟩),(2000000+mb,⟨.m mp,[]⟩)]):=by
 have h:=g0b mb mp (.mk k n 0 []) (d2a hk hn) (v1z k n hk hn)
 rw [Bw] at h
 exact CtM.leaf h
theorem c1c (mb:Nat) (mp:Mp) (n:Int) (hn:0≤n∧n≤9223372036854775807):
 CtM Try.prog 19 ([.w (.one (.pl (.i n)))]++[500000].map fun k=>.w (.one (.p k []))) [(500000,⟨false,[.fn 18 [500001]]⟩),(500001,⟨false,[.pl (.val (.map (some mb)))]⟩),(2000000+mb,⟨.m mp,[]⟩)] (Told (fun v m=>v=.w (.one (.pl (.b (knB mp (.mk 1 n 0 [])))))∧m=[(500000,⟨false,[.fn 18 [500001]]⟩),(500001,⟨false,[.pl (.val (.map (some mb)))]⟩),(2000000+mb,⟨.m mp,[]⟩)])):=by
 have hc:=o1t mb mp 1 n (.inl rfl) hn
 have F0:=trivial
 refine CtM.go Try.func19 rfl Try.ntmps19 Try.results19 fun w0 ro may fx zZ zhY=>?_
 have cq:=yA (yA (CF.mk [500001] [(500000,500001)]) (hc))<|trivial
 refine (fun zX=>goW) ?_
 refine zhY _ _ ?_
 simp only [go_sem,F0]
 all_goals (exact Vv (m2:=[(500000,⟨false,[.fn 18 [500001]]⟩),(500001,⟨false,[.pl (.val (.map (some mb)))]⟩),(2000000+mb,⟨.m mp,[]⟩)]) (by simp [look,c2b]) ⟨rfl,rfl⟩)
theorem h2b (mb:Nat) (mp:Mp) (n:Int) (hn:0≤n∧n≤9223372036854775807) (ha:knB mp (.mk 1 n 0 [])=true):
 CtM Try.prog 20 ([.w (.one (.pl (.i n)))]++[500000,500001].map fun k=>.w (.one (.p k []))) [(500000,⟨false,[.fn 19 [500001]]⟩),(500001,⟨false,[.fn 18 [500002]]⟩),(500002,⟨false,[.pl (.val (.map (some mb)))]⟩),(2000000+mb,⟨.m mp,[]⟩)] (Told (fun v m=>v=.w (.one (.pl (.b (true))))∧m=[(500000,⟨false,[.fn 19 [500001]]⟩),(500001,⟨false,[.fn 18 [500002]]⟩),(500002,⟨false,[.pl (.val (.map (some mb)))]⟩),(2000000+mb,⟨.m mp,[]⟩)])):=by
 have hc:=(c1c mb mp n hn).told
 rw [ha] at hc
 have hd:=o1t mb mp 2 n (.inr rfl) hn
 have F0:=yA ((@c2b 500000 mb (by decide)))<|yA ((@c2b 500001 mb (by decide)))<|((@c2b 500002 mb (by decide)))
 have cq:=yA (yA (CF.mk [500001] [(500000,500001),(500001,500002)]) (hc))<|yA (yA (CF.mk [500002] [(500000,500002)]) (hd))<|trivial
 have zF:FG [5,6,7,8,9,10,11,12,13]:=trivial
 exact CtM.run2 Try.func20 rfl Try.ntmps20 Try.results20
theorem h2a (mb:Nat) (mp:Mp) (n:Int) (hn:0≤n∧n≤9223372036854775807) (ha:knB mp (.mk 1 n 0 [])=false):
 CtM Try.prog 20 ([.w (.one (.pl (.i n)))]++[500000,500001].map fun k=>.w (.one (.p k []))) [(500000,⟨false,[.fn 19 [500001]]⟩),(500001,⟨false,[.fn 18 [500002]]⟩),(500002,⟨false,[.pl (.val (.map (some mb)))]⟩),(2000000+mb,⟨.m mp,[]⟩)] (Told (fun v m=>v=.w (.one (.pl (.b (knB mp (.mk 2 n 0 [])))))∧m=[(500000,⟨false,[.fn 19 [500001]]⟩),(500001,⟨false,[.fn 18 [500002]]⟩),(500002,⟨false,[.pl (.val (.map (some mb)))]⟩),(2000000+mb,⟨.m mp,[]⟩)])):=by
 have hc:=(c1c mb mp n hn).told
 rw [ha] at hc
 have hd:=o1t mb mp 2 n (.inr rfl) hn
 have F0:=yA ((@c2b 500000 mb (by decide)))<|yA ((@c2b 500001 mb (by decide)))<|((@c2b 500002 mb (by decide)))
 have cq:=yA (yA (CF.mk [500001] [(500000,500001),(500001,500002)]) (hc))<|yA (yA (CF.mk [500002] [(500000,500002)]) (hd))<|trivial
 have zF:FG [5,6,7,8,9,10,11,12,13]:=trivial
 exact CtM.run2 Try.func20 rfl Try.ntmps20 Try.results20
theorem g0c (mb:Nat) (mp:Mp) (n:Int) (hn:0≤n∧n≤9223372036854775807):CtM Try.prog 19 ([.w (.one (.pl (.i n)))]++[500000].map fun k=>.w (.one (.p k []))) [(500000,⟨false,[.fn 18 [500001]]⟩),(500001,⟨false,[.pl (.val (.map (some mb)))]⟩),(2000000+mb,⟨.m mp,[]⟩)] (fun v m=>v=.w (.one (.pl (.b (kaB mp n))))∧m=[(500000,⟨false,[.fn 18 [500001]]⟩),(500001,⟨false,[.pl (.val (.map (some mb)))]⟩),(2000000+mb,⟨.m mp,[]⟩)]):=(c1c mb mp n hn).told
theorem s0l (mb:Nat) (mp:Mp) (n:Int) (hn:0≤n∧n≤9223372036854775807):CtM Try.prog 20 ([.w (.one (.pl (.i n)))]++[500000,500001].map fun k=>.w (.one (.p k []))) [(500000,⟨false,[.fn 19 [500001]]⟩),(500001,⟨false,[.fn 18 [500002]]⟩),(500002,⟨false,[.pl (.val (.map (some mb)))]⟩),(2000000+mb,⟨.m mp,[]⟩)] (fun v m=>v=.w (.one (.pl (.b (kpB mp n))))∧m=[(500000,⟨false,[.fn 19 [500001]]⟩),(500001,⟨false,[.fn 18 [500002]]⟩),(500002,⟨false,[.pl (.val (.map (some mb)))]⟩),(2000000+mb,⟨.m mp,[]⟩)]):=by
 rcases ha:knB mp (.mk 1 n 0 []) with _|_
 ·rw [kpB,kaB,ha,xD];exact (h2a mb mp n hn ha).told
 rw [kpB,kaB,ha,xO];exact (h2b mb mp n hn ha).told
end Go.Sy
namespace Go.Sy
open Go.Proofs
attribute [local irreducible] Cj HT Bv Rj onC onE onO onG goV goA goS Tj Ck
theorem j2w (l:List Aw) (hl:l.length≤9223372036854775807) (hk:Dq l) (k i o:Int) (ms:List Aw) (ht:(Aw.mk k i o ms).ok) (hf:¬Jz Ej l=0):
 Ct Try.prog 6 [(.w (.one (.pl (.R false 4 (Ay l))))),Jy k i o ms] (fun v m=>v=.tup [.one (.pl (.b (false))),.one (.pl (.i (Jz Ej l)))]):=by
 skip
 have F0:=Az
 refine Ct.go Try.func6 rfl Try.ntmps6 Try.results6 fun w0 ro zZ zhZ=>?_
 refine (fun zX=>goW) ?_
 refine Nw (fun y=>[(6,.w (.one (.pl (.i y.1.2)))),(29,.w (.one (.pl (.i ((y.1.1:Nat):Int)))))]) (fun _=>[]) (fun y=>l.length-y.1.1) (⟨(0,0),yP _,by decide,by decide,rfl⟩:{y:Nat×Int//y.1≤l.length∧0≤y.2∧y.2≤300∧l0a Ej (l.drop y.1) y.2=l0a Ej l 0}) ?_
 intro ⟨⟨j,n⟩,h1,h2,h3,h4⟩ xN0 xM0 xhN0 xhM0
 simp only [yC,yD]
 have h1:j≤l.length:=h1
 have h2:0≤n:=h2
 have h3:n≤300:=h3
 have h4:l0a Ej (l.drop j) n=l0a Ej l 0:=h4
 rcases yZ j l.length with hlt|hge
 rcases Int.lt_or_le 300 (n+Ej (l.getD j (.mk 0 0 0 [])) 1) with hbig|hbig
 ·obtain ⟨k2,i2,o2,m2,he,hm,hdr,hg⟩:=Cy hlt
  have hj:(0:Int)≤((j:Nat):Int):=yN j
  have hjl:j<(Ay l).length:=by rw [Az];exact hlt
  have hci:=ltI hlt
  have hs1:=Zj hlt hl
  have hc:=j0i _ (Dw hk _ hm) 1 (by decide) (by decide)
  rw [Bw] at hc
  have hr:=Zk (.mk k2 i2 o2 m2)
  rw [hdr,Sj] at h4
  obtain ⟨w,hw⟩: ∃ w,Ej (.mk k2 i2 o2 m2) 1=w:=⟨_,rfl⟩
  rw [hw] at hc hr h4
  have hwr:Go.RowKit.wrap64 (n+w)=n+w:=w64 (by omega)
  rw [he,hw] at hbig
  rw [if_pos hbig] at h4
  have hfe:Jz Ej l=1:=by rw [Jz,if_pos (by rw [←h4];exact hbig)]
  have zE:V.tup [.one (.pl (.b false)),.one (.pl (.i 1))]=V.tup [.one (.pl (.b false)),.one (.pl (.i (Jz Ej l)))]:=by rw [hfe]
  have F0:=yA hci<|yA hj<|yA hjl<|yA hg<|yA xC<|yA Az<|yA hs1<|yA hwr<|yA hbig<|F0
  have cv0:=Ct.cv (hc)
  exact goW
 ·obtain ⟨k2,i2,o2,m2,he,hm,hdr,hg⟩:=Cy hlt
  have hj:(0:Int)≤((j:Nat):Int):=yN j
  have hjl:j<(Ay l).length:=by rw [Az];exact hlt
  have hci:=ltI hlt
  have hs1:=Zj hlt hl
  have hc:=j0i _ (Dw hk _ hm) 1 (by decide) (by decide)
  rw [Bw] at hc
  have hr:=Zk (.mk k2 i2 o2 m2)
  rw [hdr,Sj] at h4
  obtain ⟨w,hw⟩: ∃ w,Ej (.mk k2 i2 o2 m2) 1=w:=⟨_,rfl⟩
  rw [hw] at hc hr h4
  have hwr:Go.RowKit.wrap64 (n+w)=n+w:=w64 (by omega)
  rw [he,hw] at hbig
  have hnb:¬300<n+w:=by omega
  rw [if_neg hnb] at h4
  have F0:=yA hci<|yA hj<|yA hjl<|yA hg<|yA xC<|yA Az<|yA hs1<|yA hwr<|yA hnb<|F0
  have cv0:=Ct.cv (hc)
  have zL:=fun S2=>xhN0 ⟨(j+1,n+w),hlt,by omega,hbig,h4⟩ S2 (by (exact yB hlt (yE j)))
  exact goW
 obtain rfl:j=l.length:=xJ h1 hge
 rw [yG,c0k] at h4
 have hfl:Jz Ej l=Cq l:=by rw [Jz,if_neg (by rw [←h4];omega)]
 have F0:=yA (@a1p l.length)<|F0
 refine (fun zX=>goW) ?_
 refine Nw (fun y=>[(42,.w (.one (.pl (.i ((y.1:Nat):Int)))))]) (fun _=>[]) (fun y=>l.length-y.1) (⟨0,yP _,rfl⟩:{y:Nat//y≤l.length∧Cq (l.drop y)=Cq l}) ?_
 intro ⟨j,h1,h4⟩ xN1 xM1 xhN1 xhM1
 simp only [yC,yD]
 have h1:j≤l.length:=h1
 have h4:Cq (l.drop j)=Cq l:=h4
 rcases yZ j l.length with hlt|hge
 rcases Int.decEq (Bq (l.getD j (.mk 0 0 0 []))) 0 with hbad|hbad
 ·obtain ⟨k2,i2,o2,m2,he,hm,hdr,hg⟩:=Cy hlt
  have hj:(0:Int)≤((j:Nat):Int):=yN j
  have hjl:j<(Ay l).length:=by rw [Az];exact hlt
  have hci:=ltI hlt
  have hs1:=Zj hlt hl
  have hc:=j0r _ (Dw hk _ hm)
  rw [Bw] at hc
  rw [hdr,Uq] at h4
  obtain ⟨w,hw⟩: ∃ w,Bq (.mk k2 i2 o2 m2)=w:=⟨_,rfl⟩
  rw [hw] at hc h4
  rw [he,hw] at hbad
  rw [if_neg hbad] at h4
  have zE:V.tup [.one (.pl (.b false)),.one (.pl (.i w))]=V.tup [.one (.pl (.b false)),.one (.pl (.i (Jz Ej l)))]:=by rw [hfl,h4]
  have F0:=yA hci<|yA hj<|yA hjl<|yA hg<|yA xC<|yA Az<|yA hs1<|yA hbad<|F0
  have cv0:=Ct.cv (hc)
  exact goW
 ·obtain ⟨k2,i2,o2,m2,he,hm,hdr,hg⟩:=Cy hlt
  have hj:(0:Int)≤((j:Nat):Int):=yN j
  have hjl:j<(Ay l).length:=by rw [Az];exact hlt
  have hci:=ltI hlt
  have hs1:=Zj hlt hl
  have hc:=j0r _ (Dw hk _ hm)
  rw [Bw] at hc
  rw [hdr,Uq] at h4
  obtain ⟨w,hw⟩: ∃ w,Bq (.mk k2 i2 o2 m2)=w:=⟨_,rfl⟩
  rw [hw] at hc h4
  rw [he,hw] at hbad
  rw [if_pos hbad] at h4
  have F0:=yA hci<|yA hj<|yA hjl<|yA hg<|yA xC<|yA Az<|yA hs1<|yA hbad<|F0
  have cv0:=Ct.cv (hc)
  have zL:=fun S2=>xhN1 ⟨j+1,hlt,h4⟩ S2 (by (exact yB hlt (yE j)))
  exact goW
 obtain rfl:j=l.length:=xJ h1 hge
 rw [yG,g0j] at h4
 exact absurd (hfl.trans h4.symm) hf
end Go.Sy
namespace Go.Sy
open Go.Proofs
attribute [local irreducible] Cj HT Bv Rj onC onE onO onG goV goA goS Tj Ck
theorem p2b (l:List Aw) (hl:l.length≤9223372036854775807) (hk:Dq l) (k i o:Int) (ms:List Aw) (ht:(Aw.mk k i o ms).ok) (hf:Jz Ej l=0) (hg:¬Tv (.mk k i o ms)=0):
 Ct Try.prog 6 [(.w (.one (.pl (.R false 4 (Ay l))))),Jy k i o ms] (fun v m=>v=.tup [.one (.pl (.b (false))),.one (.pl (.i (Tv (.mk k i o ms))))]):=by
 have hd:=c2l _ ht
 rw [Bw] at hd
 have F0:=Az
 refine Ct.go Try.func6 rfl Try.ntmps6 Try.results6 fun w0 ro zZ zhZ=>?_
 refine (fun zX=>goW) ?_
 refine Nw (fun y=>[(6,.w (.one (.pl (.i y.1.2)))),(29,.w (.one (.pl (.i ((y.1.1:Nat):Int)))))]) (fun _=>[]) (fun y=>l.length-y.1.1) (⟨(0,0),yP _,by decide,by decide,rfl⟩:{y:Nat×Int//y.1≤l.length∧0≤y.2∧y.2≤300∧l0a Ej (l.drop y.1) y.2=l0a Ej l 0}) ?_
 intro ⟨⟨j,n⟩,h1,h2,h3,h4⟩ xN0 xM0 xhN0 xhM0
 simp only [yC,yD]
 have h1:j≤l.length:=h1
 have h2:0≤n:=h2
 have h3:n≤300:=h3
 have h4:l0a Ej (l.drop j) n=l0a Ej l 0:=h4
 rcases yZ j l.length with hlt|hge
 rcases Int.lt_or_le 300 (n+Ej (l.getD j (.mk 0 0 0 [])) 1) with hbig|hbig
 ·obtain ⟨k2,i2,o2,m2,he,hm,hdr,hg⟩:=Cy hlt
  have hj:(0:Int)≤((j:Nat):Int):=yN j
  have hjl:j<(Ay l).length:=by rw [Az];exact hlt
  have hci:=ltI hlt
  have hs1:=Zj hlt hl
  have hc:=j0i _ (Dw hk _ hm) 1 (by decide) (by decide)
  rw [Bw] at hc
  have hr:=Zk (.mk k2 i2 o2 m2)
  rw [hdr,Sj] at h4
  obtain ⟨w,hw⟩: ∃ w,Ej (.mk k2 i2 o2 m2) 1=w:=⟨_,rfl⟩
  rw [hw] at hc hr h4
  have hwr:Go.RowKit.wrap64 (n+w)=n+w:=w64 (by omega)
  rw [he,hw] at hbig
  rw [if_pos hbig] at h4
  have hfe:Jz Ej l=1:=by rw [Jz,if_pos (by rw [←h4];exact hbig)]
  have F0:=yA hci<|yA hj<|yA hjl<|yA hg<|yA xC<|yA Az<|yA hs1<|yA hwr<|yA hbig<|F0
  have cv0:=Ct.cv (hc)
  exact absurd (hfe.symm.trans hf) (by decide)
 ·obtain ⟨k2,i2,o2,m2,he,hm,hdr,hg⟩:=Cy hlt
  have hj:(0:Int)≤((j:Nat):Int):=yN j
  have hjl:j<(Ay l).length:=by rw [Az];exact hlt
  have hci:=ltI hlt
  have hs1:=Zj hlt hl
  have hc:=j0i _ (Dw hk _ hm) 1 (by decide) (by decide)
  rw [Bw] at hc
  have hr:=Zk (.mk k2 i2 o2 m2)
  rw [hdr,Sj] at h4
  obtain ⟨w,hw⟩: ∃ w,Ej (.mk k2 i2 o2 m2) 1=w:=⟨_,rfl⟩
  rw [hw] at hc hr h4
  have hwr:Go.RowKit.wrap64 (n+w)=n+w:=w64 (by omega)
  rw [he,hw] at hbig
  have hnb:¬300<n+w:=by omega
  rw [if_neg hnb] at h4
  have F0:=yA hci<|yA hj<|yA hjl<|yA hg<|yA xC<|yA Az<|yA hs1<|yA hwr<|yA hnb<|F0
  have cv0:=Ct.cv (hc)
  have zL:=fun S2=>xhN0 ⟨(j+1,n+w),hlt,by omega,hbig,h4⟩ S2 (by (exact yB hlt (yE j)))
  exact goW
 obtain rfl:j=l.length:=xJ h1 hge
 rw [yG,c0k] at h4
 have hfl:Jz Ej l=Cq l:=by rw [Jz,if_neg (by rw [←h4];omega)]
 have F0:=yA (@a1p l.length)<|F0
 refine (fun zX=>goW) ?_
 refine Nw (fun y=>[(42,.w (.one (.pl (.i ((y.1:Nat):Int)))))]) (fun _=>[]) (fun y=>l.length-y.1) (⟨0,yP _,rfl⟩:{y:Nat//y≤l.length∧Cq (l.drop y)=Cq l}) ?_
 intro ⟨j,h1,h4⟩ xN1 xM1 xhN1 xhM1
 simp only [yC,yD]
 have h1:j≤l.length:=h1
 have h4:Cq (l.drop j)=Cq l:=h4
 rcases yZ j l.length with hlt|hge
 rcases Int.decEq (Bq (l.getD j (.mk 0 0 0 []))) 0 with hbad|hbad
 ·obtain ⟨k2,i2,o2,m2,he,hm,hdr,hg⟩:=Cy hlt
  have hj:(0:Int)≤((j:Nat):Int):=yN j
  have hjl:j<(Ay l).length:=by rw [Az];exact hlt
  have hci:=ltI hlt
  have hs1:=Zj hlt hl
  have hc:=j0r _ (Dw hk _ hm)
  rw [Bw] at hc
  rw [hdr,Uq] at h4
  obtain ⟨w,hw⟩: ∃ w,Bq (.mk k2 i2 o2 m2)=w:=⟨_,rfl⟩
  rw [hw] at hc h4
  rw [he,hw] at hbad
  rw [if_neg hbad] at h4
  have F0:=yA hci<|yA hj<|yA hjl<|yA hg<|yA xC<|yA Az<|yA hs1<|yA hbad<|F0
  have cv0:=Ct.cv (hc)
  exact absurd (h4.trans (hfl.symm.trans hf)) hbad
 ·obtain ⟨k2,i2,o2,m2,he,hm,hdr,hg⟩:=Cy hlt
  have hj:(0:Int)≤((j:Nat):Int):=yN j
  have hjl:j<(Ay l).length:=by rw [Az];exact hlt
  have hci:=ltI hlt
  have hs1:=Zj hlt hl
  have hc:=j0r _ (Dw hk _ hm)
  rw [Bw] at hc
  rw [hdr,Uq] at h4
  obtain ⟨w,hw⟩: ∃ w,Bq (.mk k2 i2 o2 m2)=w:=⟨_,rfl⟩
  rw [hw] at hc h4
  rw [he,hw] at hbad
  rw [if_pos hbad] at h4
  have F0:=yA hci<|yA hj<|yA hjl<|yA hg<|yA xC<|yA Az<|yA hs1<|yA hbad<|F0
  have cv0:=Ct.cv (hc)
  have zL:=fun S2=>xhN1 ⟨j+1,hlt,h4⟩ S2 (by (exact yB hlt (yE j)))
  exact goW
 obtain rfl:j=l.length:=xJ h1 hge
 rw [yG,g0j] at h4
 have F0:=yA (@a1p l.length)<|yA hg<|F0
 have cq:=yA (Ct.cv (hd))<|trivial
 exact goW
end Go.Sy
