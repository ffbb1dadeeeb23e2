/- Walks: the rest of a stream, as the document tells it; the law on streams. -/
import Derived.Test.YtkfcbhgkpknagaaGreatDoorvE3
import Derived.Test.YtkfcbhgkpknagaaGreatDoorvS11
set_option linter.unusedVariables false
set_option linter.unusedSimpArgs false
set_option maxHeartbeats 3200000
set_option maxRecDepth 100000
namespace Go.Sy
open Go.Proofs
attribute [local irreducible] Bw HT Aj Jk onC onE onO onG goV goA goS Lx Bz
def j2g (bs:List UInt8) (v:V) (m:List (Nat×Ob)):Prop:=v=.w (.one (.pl (.R false 1 (Av bs))))∧m=[]
def s2l (l:List UInt8) (v:V) (m:List (Nat×Ob)):Prop:=v=.w (.one (.s 0 [] l.length 1))∧m=[(0,⟨true,Az l⟩)]
theorem a1n {m:List (Nat×Ob)} {j n:Nat} {l:List UInt8} (hn:n=l.length) (h:look m j=some ⟨true,Az l⟩) (hj:j<500000:=by decide):Told (s2l l) (.w (.one (.s j [] n 1))) m:=by
 refine Zw ⟨only j,.w (.one (.s 0 [] l.length 1)),[(0,⟨true,Az l⟩)],?_,f0z h hj,rfl,rfl⟩
 rw [hn];rfl
theorem i2g {m:List (Nat×Ob)} {sz:Nat} {ex:Bool}:Told (j2g []) (.w (.one (.pl (.R ex sz [])))) m:=
 i0w (v':=.w (.one (.pl (.R false 1 (Av []))))) (fun d y h=>k0l d y (r0d h)) (told_plain rfl ⟨rfl,rfl⟩)
theorem i2f {k n:Nat} {m:List (Nat×Ob)} {b:Bool} {l:List UInt8} (hk:look m k=some ⟨b,Az l⟩) (hn:n=l.length) (hlt:k<500000:=by decide):Told (j2g l) (.w (.one (.s k [] n 1))) m:=by
 refine c0e k (l.map .u8) (by rw [hk,Uz]) hlt ?_
 simp only [r0q,x0v,g0d hn]
 exact told_plain rfl ⟨rfl,rfl⟩
def bV (j:Nat) (l:List UInt8):V:=if l=[] then .w (.one (.pl (.R true 1 []))) else .w (.one (.s j [] l.length 1))
def bM (j:Nat) (l:List UInt8):List (Nat×Ob):=if l=[] then [] else [(j,⟨true,Az l⟩)]
theorem s1u (j:Nat):bV j []=.w (.one (.pl (.R true 1 []))):=if_pos rfl
theorem s1x (j:Nat):bM j []=[]:=if_pos rfl
theorem z1u (j:Nat) {l:List UInt8} (h:l≠[]):bV j l=.w (.one (.s j [] l.length 1)):=if_neg h
theorem s1w (j:Nat) {l:List UInt8} (h:l≠[]):bM j l=[(j,⟨true,Az l⟩)]:=if_neg h
theorem e1o (j:Nat) (l:List UInt8) (p:UInt8):bV j (l++[p])=.w (.one (.s j [] (l.length+1) 1)):=by rw [z1u j (by simp)];simp
theorem b2p (j:Nat) (p:UInt8):bV j [p]=.w (.one (.s j [] 1 1)):=e1o j [] p
theorem b2q (j:Nat) (p:UInt8):bM j [p]=[(j,⟨true,Az [p]⟩)]:=s1w j (by simp)
theorem s1v (j:Nat) (l:List UInt8) (p:UInt8):bM j (l++[p])=[(j,⟨true,Az (l++[p])⟩)]:=s1w j (by simp)
theorem w0m (f:Nat→UInt8) {c:List UInt8} {n k:Nat} (h:k<c.length):f0y f n (c.take (k+1))=f0y f n (c.take k)++[c.getD k 0^^^f (n+k)]:=by
 have e:c.take (k+1)=c.take k++[c.getD k 0]:=by
  rw [wI h];simp [List.getD,yO h]
 rw [e,h0o,yH,vD (by omega)];rfl
theorem e1x (f:Nat→UInt8) (b:List UInt8) (n k:Nat) (h:k≤b.length-n):f0y f n ((b.drop n).take k)++f0y f (n+k) (b.drop (n+k))=f0y f n (b.drop n):=by
 conv=>rhs;rw [←wS k (b.drop n)]
 rw [h0o,yH,yU,vD h,wO]
theorem t0u (f:Nat→UInt8) (b:List UInt8) (n:Nat) (h:b.length≤n):f0y f n (b.drop n)=[]:=by rw [xY h];rfl
theorem f1y (key:List UInt8) (hk:key.length=32) (counter:UInt32) (nonce:List UInt8) (hn:nonce.length=12) (b:List UInt8) (ex:Bool) (hb:¬1600<b.length) (j:Nat) (hj:b.length≤64*j):
 Ct Tryz.prog 68 [.w (.agg (Az key)),.w (.one (.pl (.u32 counter))),.w (.agg (Az nonce)),.w (.one (.pl (.R ex 1 (Av b)))),.w (.one (.pl (.i (64*j:Nat))))] (Told (j2g (f0y (ksB key counter nonce) (64*j) (b.drop (64*j))))):=by
 have h1:((b.length:Nat):Int)≤((64*j:Nat):Int):=by omega
 have hx:=t0u (ksB key counter nonce) b (64*j) hj
 have F0:=yA hk<|yA hn<|h1
 refine Ct.go Tryz.func68 rfl Tryz.ntmps68 Tryz.results68 fun w0 ro zZ zhY=>?_
 refine (fun zX=>goW) ?_
 refine zhY _ _ ?_
 simp only [go_sem,F0]
 all_goals (rw [hx];exact i2g)
theorem d2k (key:List UInt8) (hk:key.length=32) (counter:UInt32) (nonce:List UInt8) (hn:nonce.length=12) (b:List UInt8) (ex:Bool) (hb:¬1600<b.length) (j:Nat) (hj:64*j<b.length) (ih:Ct Tryz.prog 68 [.w (.agg (Az key)),.w (.one (.pl (.u32 counter))),.w (.agg (Az nonce)),.w (.one (.pl (.R ex 1 (Av b)))),.w (.one (.pl (.i (64*(j+1):Nat))))] (j2g (f0y (ksB key counter nonce) (64*(j+1)) (b.drop (64*(j+1)))))):
 Ct Tryz.prog 68 [.w (.agg (Az key)),.w (.one (.pl (.u32 counter))),.w (.agg (Az nonce)),.w (.one (.pl (.R ex 1 (Av b)))),.w (.one (.pl (.i (64*j:Nat))))] (Told (s2l (f0y (ksB key counter nonce) (64*j) (b.drop (64*j))))):=by
 obtain ⟨f,hf⟩: ∃ f,ksB key counter nonce=f:=⟨_,rfl⟩
 rw [hf] at ih ⊢
 obtain ⟨kb,hkb⟩: ∃ kb,a0c (e0e key (counter+UInt32.ofNat j) nonce)=kb:=⟨_,rfl⟩
 have hkl:kb.length=64:=by rw [←hkb];exact a0p _
 have htd2:((64*j:Nat):Int).tdiv 64=((j:Nat):Int):=by rw [show ((64*j:Nat):Int).tdiv 64=((64*j/64:Nat):Int) from rfl];omega
 have hu:UInt32.ofNat (((j:Nat):Int)%4294967296).toNat=UInt32.ofNat j:=by rw [show (((j:Nat):Int)%4294967296).toNat=j from by omega]
 have hcq:¬((b.length:Nat):Int)≤((64*j:Nat):Int):=by omega
 have hw7:Go.RowKit.wrap64 ((j:Nat):Int)=((j:Nat):Int):=Gy rfl (by omega)
 have F0:=yA hk<|yA hn<|yA hkl<|yA htd2<|yA hu<|yA hkb<|yA hcq<|yA hw7<|@xV
 refine Ct.go Tryz.func68 rfl Tryz.ntmps68 Tryz.results68 fun w0 ro zZ zhY=>?_
 have cq:=yA (Ct.cv (h1o key hk (counter+UInt32.ofNat j) nonce hn))<|trivial
 refine (fun zX=>goW) ?_
 refine Bv [0,2,14,15,16,17,18,19,20,21,22,23,24,25,26] ?_
 simp only [Bj,Cx,Bq,yI,yK,Nat.reduceBEq,beq_self_eq_true,yS,yV,yY,yT,yE,reduceIte]
 refine Gx (fun y=>[(13,.w (.one (.pl (.i ((y.1.1:Nat):Int))))),(12,bV 51 y.1.2)]) (fun y=>bM 51 y.1.2) (fun y=>64*j+64-y.1.1) (⟨(64*j,[]),xL _,by clear hw7 F0;omega,by simp [f0y],by simp⟩:{y:Nat×List UInt8//64*j≤y.1∧y.1≤min (64*j+64) b.length∧y.2=f0y f (64*j) ((b.drop (64*j)).take (y.1-64*j))∧y.2.length=y.1-64*j}) ?_ (by (simp only [s1u,go_sem,leX,yB,yC];try simp [s1u])) (by (simp only [s1x,go_sem,leX,yB,yC];try simp [s1x]))
 intro yy xN0 xM0 xhN0 xhM0
 simp only [yB,yC]
 obtain ⟨⟨i,l⟩,h1,h2,h3,h4⟩:=yy
 simp only at h1 h2 h3 h4
 have hd:(i<b.length∧i<64*j+64∧l=[])∨(i<b.length∧i<64*j+64∧l≠[])∨(i=b.length∧l≠[])∨(i<b.length∧i=64*j+64∧l≠[]):=by
  have hne:i=64*j∨l≠[]:=by
   by_cases h:l=[]
   ·subst h;simp at h4;exact .inl (by clear hw7 F0;omega)
   exact .inr h
  by_cases g:l=[]
  ·have:i=64*j:=hne.resolve_right (fun h=>h g)
   exact .inl ⟨by clear hw7 F0;omega,by clear hw7 F0;omega,g⟩
  by_cases g2:i<b.length
  ·by_cases g3:i<64*j+64
   ·exact .inr (.inl ⟨g2,g3,g⟩)
   exact .inr (.inr (.inr ⟨g2,by clear hw7 F0;omega,g⟩))
  exact .inr (.inr (.inl ⟨by clear hw7 F0;omega,g⟩))
 rcases hd with ⟨hA,hB,rfl⟩|⟨hA,hB,hl0⟩|⟨rfl,hl0⟩|⟨hA,rfl,hl0⟩
 ·simp only [s1u,s1x,yB,yC]
  have hi0:i=64*j:=by
   have:=h4
   simp only [xW] at this
   clear hw7 F0
   omega
  have h1':=Ik hA
  have h2':=Lv (q:=kb) (i:=i-64*j) (by clear hw7 F0;omega)
  have hfi:kb.getD (i-64*j) 0=f i:=by
   rw [←hf,←hkb,ksB,show i/64=j from by clear hw7 F0;omega,show i%64=i-64*j from by clear hw7 F0;omega]
  rw [hfi] at h2'
  have hsn:=w0m f (c:=b.drop (64*j)) (n:=64*j) (k:=i-64*j) (by rw [yU];omega)
  have hbg:(b.drop (64*j)).getD (i-64*j) 0=b.getD i 0:=by
   rw [List.getD,uG,show 64*j+(i-64*j)=i from by clear hw7 F0;omega];rfl
  rw [hbg,show 64*j+(i-64*j)=i from by clear hw7 F0;omega,←h3,show i-64*j+1=i+1-64*j from by clear hw7 F0;omega] at hsn
  have hcA:((i:Nat):Int)<((b.length:Nat):Int):=by clear hw7 F0;omega
  have hcB:((i:Nat):Int)<((64*j+64:Nat):Int):=by clear hw7 F0;omega
  have d0:(0:Int)≤((i:Nat):Int)∧(0:Int)≤((i-64*j:Nat):Int)∧((i-64*j:Nat):Int)<64:=by clear hw7 F0;omega
  have d1:i-64*j+1≤64:=by clear hw7 F0;omega
  have hcap:([]:List UInt8).length+1≤140737488355328:=by clear hw7 F0;omega
  have n4:([]++[b.getD i 0^^^f i]).length=i+1-64*j:=by rw [yG,xD,xW];omega
  have n1:64*j≤i+1:=by clear hw7 F0;omega
  have n2:i+1≤min (64*j+64) b.length:=by clear hw7 F0;omega
  have nd:64*j+64-(i+1)<64*j+64-i:=by clear hw7 F0;omega
  obtain ⟨hs1,hw5,hw6⟩:Go.RowKit.wrap64 (((i:Nat):Int)+1)=((i+1:Nat):Int)∧Go.RowKit.wrap64 (((64*j:Nat):Int)+64)=((64*j+64:Nat):Int)∧Go.RowKit.wrap64 (((i:Nat):Int)-((64*j:Nat):Int))=((i-64*j:Nat):Int):=⟨Gy (by clear hw7 F0;omega) (by clear hw7 F0;omega),Gy (by clear hw7 F0;omega) (by clear hw7 F0;omega),Gy (by clear hw7 F0;omega) (by clear hw7 F0;omega)⟩
  have F0:=yA h1'<|yA h2'<|yA hcA<|yA hcB<|yA d0<|yA d1<|yA hkl<|yA @Fj<|yA hcap<|yA hs1<|yA hw5<|yA hw6<|F0
  have zd0:DQ 8 [39,40,41,42,43,44,45,46,47,48,49,50,51,12] [0,0,0,6,14,0,0,96,224,480,1022,2046,4095,8191] []:=⟨⟩
  refine (fun zX=>goW) ?_
  refine xhN0 ⟨(i+1,[]++[b.getD i 0^^^f i]),n1,n2,hsn.symm,n4⟩ _ ?_ ?_ ?_
  ·(exact nd)
  ·(simp only [e1o,go_sem,leX,yB,yC];try simp [b2p])
  (simp only [s1v,go_sem,leX,yB,yC];try simp [b2q,Az,pls,leX,look])
 ·simp only [z1u _ hl0,s1w _ hl0,yB,yC]
  have h1':=Ik hA
  have h2':=Lv (q:=kb) (i:=i-64*j) (by clear hw7 F0;omega)
  have hfi:kb.getD (i-64*j) 0=f i:=by
   rw [←hf,←hkb,ksB,show i/64=j from by clear hw7 F0;omega,show i%64=i-64*j from by clear hw7 F0;omega]
  rw [hfi] at h2'
  have hsn:=w0m f (c:=b.drop (64*j)) (n:=64*j) (k:=i-64*j) (by rw [yU];omega)
  have hbg:(b.drop (64*j)).getD (i-64*j) 0=b.getD i 0:=by
   rw [List.getD,uG,show 64*j+(i-64*j)=i from by clear hw7 F0;omega];rfl
  rw [hbg,show 64*j+(i-64*j)=i from by clear hw7 F0;omega,←h3,show i-64*j+1=i+1-64*j from by clear hw7 F0;omega] at hsn
  have hcA:((i:Nat):Int)<((b.length:Nat):Int):=by clear hw7 F0;omega
  have hcB:((i:Nat):Int)<((64*j+64:Nat):Int):=by clear hw7 F0;omega
  have d0:(0:Int)≤((i:Nat):Int)∧(0:Int)≤((i-64*j:Nat):Int)∧((i-64*j:Nat):Int)<64:=by clear hw7 F0;omega
  have d1:i-64*j+1≤64:=by clear hw7 F0;omega
  have hcap:l.length+1≤140737488355328:=by clear hw7 F0;omega
  have n4:(l++[b.getD i 0^^^f i]).length=i+1-64*j:=by rw [yG,xD,xW];omega
  have n1:64*j≤i+1:=by clear hw7 F0;omega
  have n2:i+1≤min (64*j+64) b.length:=by clear hw7 F0;omega
  have nd:64*j+64-(i+1)<64*j+64-i:=by clear hw7 F0;omega
  obtain ⟨hs1,hw5,hw6⟩:Go.RowKit.wrap64 (((i:Nat):Int)+1)=((i+1:Nat):Int)∧Go.RowKit.wrap64 (((64*j:Nat):Int)+64)=((64*j+64:Nat):Int)∧Go.RowKit.wrap64 (((i:Nat):Int)-((64*j:Nat):Int))=((i-64*j:Nat):Int):=⟨Gy (by clear hw7 F0;omega) (by clear hw7 F0;omega),Gy (by clear hw7 F0;omega) (by clear hw7 F0;omega),Gy (by clear hw7 F0;omega) (by clear hw7 F0;omega)⟩
  have F0:=yA h1'<|yA h2'<|yA hcA<|yA hcB<|yA d0<|yA d1<|yA hkl<|yA @Fj<|yA hcap<|yA hs1<|yA hw5<|yA hw6<|F0
  have zd0:DQ 8 [39,40,41,42,43,44,45,46,47,48,49,50,12] [0,0,0,6,14,0,0,96,224,480,1022,2046,4095,8191] []:=⟨⟩
  refine (fun zX=>goW) ?_
  refine xhN0 ⟨(i+1,l++[b.getD i 0^^^f i]),n1,n2,hsn.symm,n4⟩ _ ?_ ?_ ?_
  ·(exact nd)
  ·(simp only [e1o,go_sem,leX,yB,yC];try simp [b2p])
  (simp only [s1v,go_sem,leX,yB,yC];try simp [b2q,Az,pls,leX,look])
 ·simp only [z1u _ hl0,s1w _ hl0,yB,yC]
  have hcut:=e1x f b (64*j) (b.length-64*j) (by clear hw7 F0;omega)
  have hrest:l++f0y f (64*(j+1)) (b.drop (64*(j+1)))=f0y f (64*j) (b.drop (64*j)):=by
   rw [←hcut,←h3];congr 1
   rw [t0u f b (64*(j+1)) (by clear hw7 F0;omega),show 64*j+(b.length-64*j)=b.length from by clear hw7 F0;omega,t0u f b b.length (xL _)]
  obtain ⟨r,hr⟩: ∃ r,f0y f (64*(j+1)) (b.drop (64*(j+1)))=r:=⟨_,rfl⟩
  have hrl:r.length≤1600:=by rw [←hr,Pj,yU];omega
  have hll:l.length≤1600:=by clear hw7 F0;omega
  rw [hr] at hrest ih
  have hjn:64*(j+1)=64*j+64:=by clear hw7 F0;omega
  rw [hjn] at ih
  have hcap2:l.length+r.length≤140737488355328:=by clear hw7 F0;omega
  have hcap3:l.length≤140737488355328:=by clear hw7 F0;omega
  have hcA:¬((b.length:Nat):Int)<((b.length:Nat):Int):=by clear hw7 F0;omega
  obtain ⟨hw5,hw6⟩:Go.RowKit.wrap64 (((64*j:Nat):Int)+64)=((64*j+64:Nat):Int)∧True:=⟨Gy (by clear hw7 F0;omega) (by clear hw7 F0;omega),trivial⟩
  have F0:=yA hcA<|yA hcap2<|yA hcap3<|yA hw5<|F0
  have cq:=yA (CtM.ch [] ((ih).hands))<|trivial
  refine (fun zX=>goW) ?_
  refine zhY _ _ ?_
  simp only [go_sem,F0]
  all_goals (rw [←hrest];exact a1n (by simp) (by simp [look,Az]))
 simp only [z1u _ hl0,s1w _ hl0,yB,yC]
 have hcut:=e1x f b (64*j) ((64*j+64)-64*j) (by clear hw7 F0;omega)
 have hrest:l++f0y f (64*(j+1)) (b.drop (64*(j+1)))=f0y f (64*j) (b.drop (64*j)):=by
  rw [←hcut,←h3];congr 1
  rw [show 64*j+(64*j+64-64*j)=64*(j+1) from by clear hw7 F0;omega]
 obtain ⟨r,hr⟩: ∃ r,f0y f (64*(j+1)) (b.drop (64*(j+1)))=r:=⟨_,rfl⟩
 have hrl:r.length≤1600:=by rw [←hr,Pj,yU];omega
 have hll:l.length≤1600:=by clear hw7 F0;omega
 rw [hr] at hrest ih
 have hjn:64*(j+1)=64*j+64:=by clear hw7 F0;omega
 rw [hjn] at ih
 have hcap2:l.length+r.length≤140737488355328:=by clear hw7 F0;omega
 have hcap3:l.length≤140737488355328:=by clear hw7 F0;omega
 have hcA:((64*j+64:Nat):Int)<((b.length:Nat):Int):=by clear hw7 F0;omega
 have hcB:¬((64*j+64:Nat):Int)<((64*j+64:Nat):Int):=by clear hw7 F0;omega
 obtain ⟨hw5,hw6⟩:Go.RowKit.wrap64 (((64*j:Nat):Int)+64)=((64*j+64:Nat):Int)∧True:=⟨Gy (by clear hw7 F0;omega) (by clear hw7 F0;omega),trivial⟩
 have F0:=yA hcA<|yA hcB<|yA hcap2<|yA hcap3<|yA hw5<|F0
 have cq:=yA (CtM.ch [] ((ih).hands))<|trivial
 refine (fun zX=>goW) ?_
 refine zhY _ _ ?_
 simp only [go_sem,F0]
 all_goals (rw [←hrest];exact a1n (by simp) (by simp [look,Az]))
theorem q2c (key:List UInt8) (hk:key.length=32) (counter:UInt32) (nonce:List UInt8) (hn:nonce.length=12) (b:List UInt8) (ex:Bool) (hb:¬1600<b.length): ∀ (n j:Nat),b.length≤64*j+n→Ct Tryz.prog 68 [.w (.agg (Az key)),.w (.one (.pl (.u32 counter))),.w (.agg (Az nonce)),.w (.one (.pl (.R ex 1 (Av b)))),.w (.one (.pl (.i (64*j:Nat))))] (j2g (f0y (ksB key counter nonce) (64*j) (b.drop (64*j)))):=by
 intro n
 induction n with
 |zero=>intro j h;exact (f1y key hk counter nonce hn b ex hb j (by omega)).told
 |succ n ih=>
  intro j h
  rcases yZ (64*j) b.length with h1|h1
  ·exact ((d2k key hk counter nonce hn b ex hb j h1 (ih (j+1) (by omega))).told.mono fun v m ⟨hv,hm⟩=>by subst hv;subst hm;exact i2f (b:=true) rfl rfl).told
  exact (f1y key hk counter nonce hn b ex hb j h1).told
theorem l2e (key:List UInt8) (hk:key.length=32) (counter:UInt32) (nonce:List UInt8) (hn:nonce.length=12) (b:List UInt8) (ex:Bool) (hb:¬1600<b.length):Ct Tryz.prog 68 [.w (.agg (Az key)),.w (.one (.pl (.u32 counter))),.w (.agg (Az nonce)),.w (.one (.pl (.R ex 1 (Av b)))),.w (.one (.pl (.i 0)))] (j2g (u0d key counter nonce b)):=by
 have h:=q2c key hk counter nonce hn b ex hb b.length 0 (by omega)
 simp only [Nat.mul_zero,vR] at h
 exact h
theorem c2q (key:List UInt8) (hk:key.length=32) (counter:UInt32) (nonce:List UInt8) (hn:nonce.length=12) (b:List UInt8) (ex:Bool) (hb:¬1600<b.length) (ho:¬64*(4294967296-counter.toNat)<b.length):
 Ct Tryz.prog 40 [.w (.agg (Az key)),.w (.one (.pl (.u32 counter))),.w (.agg (Az nonce)),.w (.one (.pl (.R ex 1 (Av b))))] (Told (byV (u0d key counter nonce b) 0)):=by
 have h1:¬(1600:Int)<((b.length:Nat):Int):=by omega
 have hc:=counter.toNat_lt
 have htd:((b.length+63:Nat):Int).tdiv 64=(((b.length+63)/64:Nat):Int):=rfl
 have hlt:¬(((4294967296-counter.toNat:Nat):Int)<(((b.length+63)/64:Nat):Int)):=by omega
 have hl2:¬((64*(4294967296-counter.toNat):Nat):Int)<((b.length:Nat):Int):=by omega
 obtain ⟨hw1,hw2,hw3,hw4⟩:Go.RowKit.wrap64 (((b.length:Nat):Int)+63)=((b.length+63:Nat):Int)∧Go.RowKit.wrap64 (4294967296-((counter.toNat:Nat):Int))=((4294967296-counter.toNat:Nat):Int)∧Go.RowKit.wrap64 ((((b.length+63)/64:Nat):Int))=(((b.length+63)/64:Nat):Int)∧Go.RowKit.wrap64 (64*((4294967296-counter.toNat:Nat):Int))=((64*(4294967296-counter.toNat):Nat):Int):=⟨Gy (by omega) (by omega),Gy (by omega) (by omega),Gy rfl (by omega),Gy (by omega) (by omega)⟩
 have F0:=yA hk<|yA hn<|yA h1<|yA htd<|yA hlt<|yA hl2<|yA hw1<|yA hw2<|yA hw3<|hw4
 refine Ct.go Tryz.func40 rfl Tryz.ntmps40 Tryz.results40 fun w0 ro zZ zhY=>?_
 have cq:=yA (CtM.ch [] ((l2e key hk counter nonce hn b ex hb).hands))<|trivial
 refine (fun zX=>goW) ?_
 refine zhY _ _ ?_
 simp only [go_sem,F0]
 all_goals (exact i2e _)
theorem b1o (e1 e2:Bool) (r1 r2:List UInt8):
 Ct Tryz.prog 8 [.w (.one (.pl (.R e1 1 (Av r1)))),.w (.one (.pl (.R e2 1 (Av r2))))] (fun v m=>v=.w (.one (.pl (.b (decide (r1=r2)))))):=by
 have F0:=trivial
 exact Ct.go Tryz.func8 rfl Tryz.ntmps8 Tryz.results8
end Go.Sy
