/- Walks and what they compute. CONDITIONS: those that each theorem names. -/
import Derived.Test.YtkfcbhgkpknagaaGreatDoorvE3
import Derived.Test.YtkfcbhgkpknagaaGreatDoorvS1
import Derived.Test.YtkfcbhgkpknagaaGreatDoorvS2
import Derived.Test.YtkfcbhgkpknagaaGreatDoorvS4
import Derived.Test.YtkfcbhgkpknagaaGreatDoorvS10
set_option linter.unusedVariables false
set_option linter.unusedSimpArgs false
set_option maxHeartbeats 3200000
set_option maxRecDepth 100000
namespace Go.Sy
open Go.Proofs
attribute [local irreducible] Bw HT Aj Jk onC onE onO onG goV goA goS Lx Bz
theorem c2k :UInt64.toNat 2=2:=rfl
theorem c2i :UInt64.toNat 4=4:=rfl
theorem c2h :UInt64.toNat 5=5:=rfl
theorem c2g :UInt64.toNat 7=7:=rfl
theorem c2f :UInt64.toNat 8=8:=rfl
theorem m1s :UInt64.toNat 12=12:=rfl
theorem m1r :UInt64.toNat 14=14:=rfl
theorem m1q :UInt64.toNat 15=15:=rfl
theorem m1p :UInt64.toNat 16=16:=rfl
theorem m1o :UInt64.toNat 24=24:=rfl
theorem m1n :UInt64.toNat 26=26:=rfl
theorem m1m :UInt64.toNat 32=32:=rfl
theorem m1l :UInt64.toNat 40=40:=rfl
theorem m1k :UInt64.toNat 52=52:=rfl
theorem m1j :UInt64.toNat 62=62:=rfl
attribute [go_sem] c2k c2i c2h c2g c2f m1s m1r m1q m1p m1o m1n m1m m1l m1k m1j
theorem drop_cons {l:List UInt8} {j:Nat} (h:j<l.length):l.drop j=l.getD j 0::l.drop (j+1):=by
 rw [xM h];congr 1;simp [List.getD,yO h]
theorem Gy {a:Int} {n:Nat} (h:a=(n:Int)) (hn:n≤9223372036854775807):Go.RowKit.wrap64 a=(n:Int):=by subst h;exact w64 (by omega)
theorem y1a (l:List UInt8) (hl:l.length=8) (ex:Bool):
 Ct Tryz.prog 119 [.w (.one (.pl (.R ex 1 (Av l))))] (fun v m=>v=.w (.one (.pl (.u64 (lev l))))):=by
 have hd0:l.drop 8=[]:=by rw [←hl];exact List.drop_length
 have F0:=trivial
 refine Ct.go Tryz.func119 rfl Tryz.ntmps119 Tryz.results119 fun w0 ro zZ zhY=>?_
 refine (fun zX=>goW) ?_
 refine Gx (fun y=>[(3,.w (.one (.pl (.u64 (lev (l.drop y.1)))))),(4,.w (.one (.pl (.i (((y.1:Nat):Int)-1)))))]) (fun _=>[]) (fun y=>y.1) (⟨l.length,xL _⟩:{y:Nat//y≤l.length}) ?_ (by (simp only [go_sem,hl,List.drop_length,leX,yB,yC];first|rfl|simp [lev,leN])) (by (simp only [go_sem,leX,yB,yC];try simp))
 intro yy xN0 xM0 xhN0 xhM0
 simp only [yB,yC]
 obtain ⟨j,hj⟩:=yy
 rcases j with _|j
 ·have hc:¬(0:Int)≤((0:Nat):Int)-1:=by omega
  have F0:=yA hc<|F0
  refine (fun zX=>goW) ?_
  refine zhY _ _ ?_
  simp only [go_sem,F0]
  all_goals (simp only [vR])
 have hlt:j<l.length:=by omega
 have hd:=drop_cons hlt
 have hc:(0:Int)≤((j+1:Nat):Int)-1:=by omega
 have hij:((j+1:Nat):Int)-1=((j:Nat):Int):=by omega
 have hc1:(0:Int)≤((j:Nat):Int):=by omega
 have hc2:((j:Nat):Int)<((l.length:Nat):Int):=by omega
 have hg0:=Ik hlt
 have hw:Go.RowKit.wrap64 (((j:Nat):Int)-1)=((j:Nat):Int)-1:=w64 (by omega)
 have hle:lev (l.drop j)=Dy (lev (l.drop (j+1))) 8|||UInt64.ofNat (l.getD j 0).toNat:=by rw [hd];exact (f2o (r:=l.drop (j+1)) _ (by rw [yU];omega)).symm
 have F0:=yA hc<|yA hij<|yA hc1<|yA hc2<|yA hg0<|yA hw<|F0
 refine (fun zX=>goW) ?_
 refine xhN0 ⟨j,by omega⟩ _ ?_ ?_ ?_
 ·(show j<j+1;omega)
 ·(rw [hle];simp only [go_sem,leX,yB,yC];try simp)
 (simp only [go_sem,leX,yB,yC,F0];try simp)
theorem p0i (l:List UInt8) (hl:l.length≤4096):
 Ct Tryz.prog 96 [.w (.one (.pl (.str l)))] (fun v m=>v=.w (.one (.pl (.u64 (lev l))))):=by
 have hw0:Go.RowKit.wrap64 (((l.length:Nat):Int)-1)=((l.length:Nat):Int)-1:=w64 (by omega)
 have F0:=hw0
 refine Ct.go Tryz.func96 rfl Tryz.ntmps96 Tryz.results96 fun w0 ro zZ zhY=>?_
 refine (fun zX=>goW) ?_
 refine Bv [5,6,7] ?_
 simp only [Bj,Cx,Bq,yI,yK,Nat.reduceBEq,beq_self_eq_true,yS,yV,yY,yT,yE,reduceIte]
 refine Gx (fun y=>[(3,.w (.one (.pl (.u64 (lev (l.drop y.1)))))),(4,.w (.one (.pl (.i (((y.1:Nat):Int)-1)))))]) (fun _=>[]) (fun y=>y.1) (⟨l.length,xL _⟩:{y:Nat//y≤l.length}) ?_ (by (simp only [go_sem,hl,List.drop_length,leX,yB,yC];first|rfl|simp [lev,leN])) (by (simp only [go_sem,leX,yB,yC];try simp))
 intro yy xN0 xM0 xhN0 xhM0
 simp only [yB,yC]
 obtain ⟨j,hj⟩:=yy
 rcases j with _|j
 ·have hc:¬(0:Int)≤((0:Nat):Int)-1:=by omega
  have F0:=yA hc<|F0
  refine (fun zX=>goW) ?_
  refine zhY _ _ ?_
  simp only [go_sem,F0]
  all_goals (simp only [vR])
 have hlt:j<l.length:=by omega
 have hd:=drop_cons hlt
 have hc:(0:Int)≤((j+1:Nat):Int)-1:=by omega
 have hij:((j+1:Nat):Int)-1=((j:Nat):Int):=by omega
 have hc1:(0:Int)≤((j:Nat):Int):=by omega
 have hc2:((j:Nat):Int)<((l.length:Nat):Int):=by omega
 have hg0:=Ik hlt
 have hw:Go.RowKit.wrap64 (((j:Nat):Int)-1)=((j:Nat):Int)-1:=w64 (by omega)
 have hle:lev (l.drop j)=lev (l.drop (j+1))*256+UInt64.ofNat (l.getD j 0).toNat:=by rw [hd];exact (p1m (l.drop (j+1)) _).symm
 have F0:=yA hc<|yA hij<|yA hc1<|yA hc2<|yA hg0<|yA hw<|F0
 refine (fun zX=>goW) ?_
 refine xhN0 ⟨j,by omega⟩ _ ?_ ?_ ?_
 ·(show j<j+1;omega)
 ·(rw [hle];simp only [go_sem,leX,yB,yC];try simp)
 (simp only [go_sem,leX,yB,yC,F0];try simp)
theorem j1l (n:UInt64) (k:Nat) (hk:k≤4096):
 Ct Tryz.prog 37 [.w (.one (.pl (.u64 n))),.w (.one (.pl (.i (k:Int))))] (fun v m=>v=.w (.one (.pl (.str (Mq n k))))):=by
 have F0:=trivial
 refine Ct.go Tryz.func37 rfl Tryz.ntmps37 Tryz.results37 fun w0 ro zZ zhY=>?_
 refine (fun zX=>goW) ?_
 refine Bv [1] ?_
 simp only [Bj,Cx,Bq,yI,yK,Nat.reduceBEq,beq_self_eq_true,yS,yV,yY,yT,yE,reduceIte]
 refine Gx (fun y=>[(0,.w (.one (.pl (.u64 y.1.2.2)))),(5,.w (.one (.pl (.str y.1.2.1)))),(7,.w (.one (.pl (.i ((y.1.1:Nat):Int)))))]) (fun _=>[]) (fun y=>k-y.1.1) (⟨(0,[],n),xA _,rfl,rfl⟩:{y:Nat×List UInt8×UInt64//y.1≤k∧y.2.1.length=y.1∧y.2.1++Mq y.2.2 (k-y.1)=Mq n k}) ?_
 intro yy xN0 xM0 xhN0 xhM0
 simp only [yB,yC]
 obtain ⟨⟨i,s,x⟩,hi,hs,hx⟩:=yy
 rcases yZ i k with hlt|hge
 ·simp only at hi hs hx
  have hc:((i:Nat):Int)<((k:Nat):Int):=by omega
  have hsl:s.length+1≤9223372036854775807:=by omega
  have hz:¬(256:UInt64)=0:=by decide
  have hk1:k-i=(k-(i+1))+1:=by omega
  rw [hk1,Mq] at hx
  have hs1:Go.RowKit.wrap64 (((i:Nat):Int)+1)=((i+1:Nat):Int):=Gy (by omega) (by omega)
  have F0:=yA hc<|yA hsl<|yA hz<|yA hs1<|F0
  have zL:=fun S2=>xhN0 ⟨(i+1,s++[UInt8.ofNat x.toNat],x/256),hlt,by simp [hs],by rw [←hx];simp⟩ S2 (by (clear hs1;show k-(i+1)<k-i;omega))
  exact goW
 simp only at hi hs hx
 have hik:i=k:=by omega
 subst hik
 rw [Nat.sub_self,Mq,wY] at hx
 have hc:¬((i:Nat):Int)<((i:Nat):Int):=by omega
 have F0:=yA hc<|F0
 refine (fun zX=>goW) ?_
 refine zhY _ _ ?_
 simp only [go_sem,F0]
 all_goals (rw [hx])
end Go.Sy
namespace Go.Sy
open Go.Proofs
attribute [local irreducible] Bw HT Aj Jk onC onE onO onG goV goA goS Lx Bz
def Kq (x:UInt32) (k:Nat):UInt32:=Rx x k|||a0u x (32-k)
theorem b1q (x:UInt32):
 Ct Tryz.prog 116 [.w (.one (.pl (.u32 x))),.w (.one (.pl (.i 16)))] (fun v m=>v=.w (.one (.pl (.u32 (Kq x 16))))):=by
 have h1:UInt64.ofNat ((16:Int)%18446744073709551616).toNat&&&31=16:=rfl
 have h2:(32:UInt64)-16=16:=rfl
 have h3:UInt64.toNat 16=16:=rfl
 have h4:UInt64.toNat 16=16:=rfl
 have F0:=yA h1<|yA h2<|yA h3<|yA h4<|Kq.eq_1
 exact Ct.go Tryz.func116 rfl Tryz.ntmps116 Tryz.results116
theorem p0q (x:UInt32):
 Ct Tryz.prog 123 [.w (.one (.pl (.u32 x))),.w (.one (.pl (.i 16)))] (fun v m=>v=.w (.one (.pl (.u32 (Kq x 16))))):=by
 have h1:Go.RowKit.wrap64 16=16:=w64 (by decide)
 have F0:=yA h1<|Kq.eq_1
 have zd0:DQ 1 [5,6,7,8,9,10,11,12,4] [0,0,3,0,0,16,56,127,255] []:=⟨⟩
 exact Ct.go Tryz.func123 rfl Tryz.ntmps123 Tryz.results123
theorem d2f (x:UInt32):
 Ct Tryz.prog 116 [.w (.one (.pl (.u32 x))),.w (.one (.pl (.i 12)))] (fun v m=>v=.w (.one (.pl (.u32 (Kq x 12))))):=by
 have h1:UInt64.ofNat ((12:Int)%18446744073709551616).toNat&&&31=12:=rfl
 have h2:(32:UInt64)-12=20:=rfl
 have h3:UInt64.toNat 12=12:=rfl
 have h4:UInt64.toNat 20=20:=rfl
 have F0:=yA h1<|yA h2<|yA h3<|yA h4<|Kq.eq_1
 exact Ct.go Tryz.func116 rfl Tryz.ntmps116 Tryz.results116
theorem p1s (x:UInt32):
 Ct Tryz.prog 123 [.w (.one (.pl (.u32 x))),.w (.one (.pl (.i 12)))] (fun v m=>v=.w (.one (.pl (.u32 (Kq x 12))))):=by
 have h1:Go.RowKit.wrap64 20=20:=w64 (by decide)
 have F0:=yA h1<|Kq.eq_1
 have zd0:DQ 1 [5,6,7,8,9,10,11,12,4] [0,0,3,0,0,16,56,127,255] []:=⟨⟩
 exact Ct.go Tryz.func123 rfl Tryz.ntmps123 Tryz.results123
theorem k2y (x:UInt32):
 Ct Tryz.prog 116 [.w (.one (.pl (.u32 x))),.w (.one (.pl (.i 8)))] (fun v m=>v=.w (.one (.pl (.u32 (Kq x 8))))):=by
 have h1:UInt64.ofNat ((8:Int)%18446744073709551616).toNat&&&31=8:=rfl
 have h2:(32:UInt64)-8=24:=rfl
 have h3:UInt64.toNat 8=8:=rfl
 have h4:UInt64.toNat 24=24:=rfl
 have F0:=yA h1<|yA h2<|yA h3<|yA h4<|Kq.eq_1
 exact Ct.go Tryz.func116 rfl Tryz.ntmps116 Tryz.results116
theorem a2y (x:UInt32):
 Ct Tryz.prog 123 [.w (.one (.pl (.u32 x))),.w (.one (.pl (.i 8)))] (fun v m=>v=.w (.one (.pl (.u32 (Kq x 8))))):=by
 have h1:Go.RowKit.wrap64 24=24:=w64 (by decide)
 have F0:=yA h1<|Kq.eq_1
 have zd0:DQ 1 [5,6,7,8,9,10,11,12,4] [0,0,3,0,0,16,56,127,255] []:=⟨⟩
 exact Ct.go Tryz.func123 rfl Tryz.ntmps123 Tryz.results123
theorem k2z (x:UInt32):
 Ct Tryz.prog 116 [.w (.one (.pl (.u32 x))),.w (.one (.pl (.i 7)))] (fun v m=>v=.w (.one (.pl (.u32 (Kq x 7))))):=by
 have h1:UInt64.ofNat ((7:Int)%18446744073709551616).toNat&&&31=7:=rfl
 have h2:(32:UInt64)-7=25:=rfl
 have h3:UInt64.toNat 7=7:=rfl
 have h4:UInt64.toNat 25=25:=rfl
 have F0:=yA h1<|yA h2<|yA h3<|yA h4<|Kq.eq_1
 exact Ct.go Tryz.func116 rfl Tryz.ntmps116 Tryz.results116
theorem a2z (x:UInt32):
 Ct Tryz.prog 123 [.w (.one (.pl (.u32 x))),.w (.one (.pl (.i 7)))] (fun v m=>v=.w (.one (.pl (.u32 (Kq x 7))))):=by
 have h1:Go.RowKit.wrap64 25=25:=w64 (by decide)
 have F0:=yA h1<|Kq.eq_1
 have zd0:DQ 1 [5,6,7,8,9,10,11,12,4] [0,0,3,0,0,16,56,127,255] []:=⟨⟩
 exact Ct.go Tryz.func123 rfl Tryz.ntmps123 Tryz.results123
theorem rotl (x:UInt32) (k:Nat) (hk:k=16∨k=12∨k=8∨k=7):Ct Tryz.prog 116 [.w (.one (.pl (.u32 x))),.w (.one (.pl (.i (k:Int))))] (fun v m=>v=.w (.one (.pl (.u32 (Kq x k))))):=by
 rcases hk with rfl|rfl|rfl|rfl
 ·exact b1q x
 ·exact d2f x
 ·exact k2y x
 exact k2z x
theorem left (x:UInt32) (k:Nat) (hk:k=16∨k=12∨k=8∨k=7):Ct Tryz.prog 123 [.w (.one (.pl (.u32 x))),.w (.one (.pl (.i (k:Int))))] (fun v m=>v=.w (.one (.pl (.u32 (Kq x k))))):=by
 rcases hk with rfl|rfl|rfl|rfl
 ·exact p0q x
 ·exact p1s x
 ·exact a2y x
 exact a2z x
def g0s (l:List UInt8):UInt32:=(l.getD 0 0).toUInt32|||Rx (l.getD 1 0).toUInt32 8|||Rx (l.getD 2 0).toUInt32 16|||Rx (l.getD 3 0).toUInt32 24
theorem p2t (l:List UInt8) (hl:4≤l.length) (ex:Bool):
 Ct Tryz.prog 86 [.w (.one (.pl (.R ex 1 (Av l))))] (fun v m=>v=.w (.one (.pl (.u32 (g0s l))))):=by
 skip
 have g0:(Av l).getD 0 []=[.u8 (l.getD 0 0)]:=Ik (by omega)
 have c0:(0:Int)<((l.length:Nat):Int):=by omega
 have g1:(Av l).getD 1 []=[.u8 (l.getD 1 0)]:=Ik (by omega)
 have c1:(1:Int)<((l.length:Nat):Int):=by omega
 have g2:(Av l).getD 2 []=[.u8 (l.getD 2 0)]:=Ik (by omega)
 have c2:(2:Int)<((l.length:Nat):Int):=by omega
 have g3:(Av l).getD 3 []=[.u8 (l.getD 3 0)]:=Ik (by omega)
 have c3:(3:Int)<((l.length:Nat):Int):=by omega
 have F0:=yA g0<|yA g1<|yA g2<|yA g3<|yA c0<|yA c1<|yA c2<|yA c3<|g0s.eq_1
 have zd0:DQ 1 [3,4,5,6,7,8,9,10,11,12,13,14,15,16,17,18,19,20,21,22,23,24,2] [0,1,3,7,0,16,48,112,240,511,0,1024,3072,7168,15360,32767,0,65536,196608,458752,983040,2097151,4194303] []:=⟨⟩
 exact Ct.go Tryz.func86 rfl Tryz.ntmps86 Tryz.results86
end Go.Sy
namespace Go.Sy
open Go.Proofs
attribute [local irreducible] Bw HT Aj Jk onC onE onO onG goV goA goS Lx Bz
def h0q (q:List UInt32) (a b d k:Nat):List UInt32:=a2b Kq (j2h q a b) d a k
theorem Zx (q:List UInt32) (a b d k:Nat):(h0q q a b d k).length=q.length:=by rw [h0q,f0x,g0q]
theorem j2y (q:List UInt32) (hq:q.length=16) (a b d:Nat) (ha:a<16) (hb:b<16) (hd:d<16) (k:Nat) (hk:k=16∨k=12∨k=8∨k=7):
 CtM Tryz.prog 115 [.w (.one (.pl (.i (a:Int)))),.w (.one (.pl (.i (b:Int)))),.w (.one (.pl (.i (d:Int)))),.w (.one (.pl (.i (k:Int)))),.w (.one (.p 500001 []))] [(500001,⟨false,[.p 500000 []]⟩),(500000,⟨false,Jy q⟩)] (fun v m=>v=.tup []∧m=[(500001,⟨false,[.p 500000 []]⟩),(500000,⟨false,Jy (h0q q a b d k)⟩)]):=by
 have ia:=c1m ha
 have ja:a+1≤16:=ha
 have ib:=c1m hb
 have jb:b+1≤16:=hb
 have id:=c1m hd
 have jd:d+1≤16:=hd
 have rotk:=fun x=>rotl x k hk
 have F0:=yA hq<|yA ha<|yA hb<|yA hd<|yA ia<|yA ib<|yA id<|yA ja<|yA jb<|yA jd<|yA z0o<|yA f1i<|yA @o0m<|yA @j2u<|yA (@j2o Kq)<|yA g0q<|yA f0x<|h0q.eq_1
 have cq:=yA (fun x=>Ct.cv (rotk x))<|trivial
 have zF:FG [9,10,11,12,13,14,15,16,17,18,19,20,21,22,23,24,25,26,27,28,29,30,31,32,33,34,35,36,37,38]:=trivial
 have zd0:DR 0 [9,10,11,12,13,14,15,16,17,18,19,20,21] [0,0,1,7,15,0,0,32,224,480,1023,1,4095,8191] []:=trivial
 have zd1:DR 1 [22,23,24,25,26,27,28,29,30,31,32,33,34,35,36,37,38] [0,0,0,0,4,28,60,0,0,128,896,1920,4092,0,16380,1,65535,131071] []:=trivial
 exact CtM.run2 Tryz.func115 rfl Tryz.ntmps115 Tryz.results115
theorem f1k (q:List UInt32) (hq:q.length=16) (a b d:Nat) (ha:a<16) (hb:b<16) (hd:d<16) (k:Nat) (hk:k=16∨k=12∨k=8∨k=7):CtM Tryz.prog 115 ([.w (.one (.pl (.i (a:Int)))),.w (.one (.pl (.i (b:Int)))),.w (.one (.pl (.i (d:Int)))),.w (.one (.pl (.i (k:Int))))]++[500001].map fun k=>.w (.one (.p k []))) [(500001,⟨false,[.p 500000 []]⟩),(500000,⟨false,Jy q⟩)] (fun v m=>v=.tup []∧m=[(500001,⟨false,[.p 500000 []]⟩),(500000,⟨false,Jy (h0q q a b d k)⟩)]):=j2y q hq a b d ha hb hd k hk
end Go.Sy
namespace Go.Sy
open Go.Proofs
attribute [local irreducible] Bw HT Aj Jk onC onE onO onG goV goA goS Lx Bz
def qd1 (a b d:UInt32):UInt32:=Kq (d^^^(a+b)) 16
def qc1 (a b c d:UInt32):UInt32:=c+qd1 a b d
def qb1 (a b c d:UInt32):UInt32:=Kq (b^^^qc1 a b c d) 12
def qA (a b c d:UInt32):UInt32:=(a+b)+qb1 a b c d
def qD (a b c d:UInt32):UInt32:=Kq (qd1 a b d^^^qA a b c d) 8
def qC (a b c d:UInt32):UInt32:=qc1 a b c d+qD a b c d
def qB (a b c d:UInt32):UInt32:=Kq (qb1 a b c d^^^qC a b c d) 7
def Nq (q:List UInt32) (a b c d:Nat):List UInt32:=h0q (h0q (h0q (h0q q a b d 16) c d b 12) a b d 8) c d b 7
theorem m0i (q:List UInt32) (a b c d:Nat):(Nq q a b c d).length=q.length:=by rw [Nq,Zx,Zx,Zx,Zx]
theorem i1q (q:List UInt32) (hq:q.length=16) (a b c d:Nat) (ha:a<16) (hb:b<16) (hc:c<16) (hd:d<16):
 CtM Tryz.prog 87 [.w (.one (.p 500000 [])),.w (.one (.pl (.i (a:Int)))),.w (.one (.pl (.i (b:Int)))),.w (.one (.pl (.i (c:Int)))),.w (.one (.pl (.i (d:Int))))] [(500000,⟨false,Jy q⟩)] (Told (fun v m=>v=.tup []∧m=[(500000,⟨false,Jy (Nq q a b c d)⟩)])):=by
 skip
 have F0:=yA hq<|Nq.eq_1
 have cq:=yA (yA (CF.mk [5] [(500001,5),(500000,500000)]) (f1k q (by simp only [Zx,hq]) a b d ha hb hd 16 (.inl rfl)))<|yA (yA (CF.mk [5] [(500001,5),(500000,500000)]) (f1k (h0q q a b d 16) (by simp only [Zx,hq]) c d b hc hd hb 12 (.inr (.inl rfl))))<|yA (yA (CF.mk [5] [(500001,5),(500000,500000)]) (f1k (h0q (h0q q a b d 16) c d b 12) (by simp only [Zx,hq]) a b d ha hb hd 8 (.inr (.inr (.inl rfl)))))<|yA (yA (CF.mk [5] [(500001,5),(500000,500000)]) (f1k (h0q (h0q (h0q q a b d 16) c d b 12) a b d 8) (by simp only [Zx,hq]) c d b hc hd hb 7 (.inr (.inr (.inr rfl)))))<|trivial
 have zF:FG [11,12,13,14,15,16,17,18,19,20,21,22,23,24,25,26,27,28,29,30,31]:=trivial
 exact CtM.run2 Tryz.func87 rfl Tryz.ntmps87 Tryz.results87
theorem y0k (q:List UInt32) (hq:q.length=16) (a b c d:Nat) (ha:a<16) (hb:b<16) (hc:c<16) (hd:d<16):CtM Tryz.prog 87 [.w (.one (.p 500000 [])),.w (.one (.pl (.i (a:Int)))),.w (.one (.pl (.i (b:Int)))),.w (.one (.pl (.i (c:Int)))),.w (.one (.pl (.i (d:Int))))] [(500000,⟨false,Jy q⟩)] (fun v m=>v=.tup []∧m=[(500000,⟨false,Jy (Nq q a b c d)⟩)]):=(i1q q hq a b c d ha hb hc hd).told
theorem i1y (x0 x1 x2 x3 x4 x5 x6 x7 x8 x9 x10 x11 x12 x13 x14 x15:UInt32):Nq [x0,x1,x2,x3,x4,x5,x6,x7,x8,x9,x10,x11,x12,x13,x14,x15] 0 4 8 12=[(qA x0 x4 x8 x12),x1,x2,x3,(qB x0 x4 x8 x12),x5,x6,x7,(qC x0 x4 x8 x12),x9,x10,x11,(qD x0 x4 x8 x12),x13,x14,x15]:=rfl
theorem i1x (x0 x1 x2 x3 x4 x5 x6 x7 x8 x9 x10 x11 x12 x13 x14 x15:UInt32):Nq [x0,x1,x2,x3,x4,x5,x6,x7,x8,x9,x10,x11,x12,x13,x14,x15] 1 5 9 13=[x0,(qA x1 x5 x9 x13),x2,x3,x4,(qB x1 x5 x9 x13),x6,x7,x8,(qC x1 x5 x9 x13),x10,x11,x12,(qD x1 x5 x9 x13),x14,x15]:=rfl
theorem i1w (x0 x1 x2 x3 x4 x5 x6 x7 x8 x9 x10 x11 x12 x13 x14 x15:UInt32):Nq [x0,x1,x2,x3,x4,x5,x6,x7,x8,x9,x10,x11,x12,x13,x14,x15] 2 6 10 14=[x0,x1,(qA x2 x6 x10 x14),x3,x4,x5,(qB x2 x6 x10 x14),x7,x8,x9,(qC x2 x6 x10 x14),x11,x12,x13,(qD x2 x6 x10 x14),x15]:=rfl
theorem i1v (x0 x1 x2 x3 x4 x5 x6 x7 x8 x9 x10 x11 x12 x13 x14 x15:UInt32):Nq [x0,x1,x2,x3,x4,x5,x6,x7,x8,x9,x10,x11,x12,x13,x14,x15] 3 7 11 15=[x0,x1,x2,(qA x3 x7 x11 x15),x4,x5,x6,(qB x3 x7 x11 x15),x8,x9,x10,(qC x3 x7 x11 x15),x12,x13,x14,(qD x3 x7 x11 x15)]:=rfl
theorem i1u (x0 x1 x2 x3 x4 x5 x6 x7 x8 x9 x10 x11 x12 x13 x14 x15:UInt32):Nq [x0,x1,x2,x3,x4,x5,x6,x7,x8,x9,x10,x11,x12,x13,x14,x15] 0 5 10 15=[(qA x0 x5 x10 x15),x1,x2,x3,x4,(qB x0 x5 x10 x15),x6,x7,x8,x9,(qC x0 x5 x10 x15),x11,x12,x13,x14,(qD x0 x5 x10 x15)]:=rfl
theorem i1t (x0 x1 x2 x3 x4 x5 x6 x7 x8 x9 x10 x11 x12 x13 x14 x15:UInt32):Nq [x0,x1,x2,x3,x4,x5,x6,x7,x8,x9,x10,x11,x12,x13,x14,x15] 1 6 11 12=[x0,(qA x1 x6 x11 x12),x2,x3,x4,x5,(qB x1 x6 x11 x12),x7,x8,x9,x10,(qC x1 x6 x11 x12),(qD x1 x6 x11 x12),x13,x14,x15]:=rfl
theorem i1s (x0 x1 x2 x3 x4 x5 x6 x7 x8 x9 x10 x11 x12 x13 x14 x15:UInt32):Nq [x0,x1,x2,x3,x4,x5,x6,x7,x8,x9,x10,x11,x12,x13,x14,x15] 2 7 8 13=[x0,x1,(qA x2 x7 x8 x13),x3,x4,x5,x6,(qB x2 x7 x8 x13),(qC x2 x7 x8 x13),x9,x10,x11,x12,(qD x2 x7 x8 x13),x14,x15]:=rfl
theorem i1r (x0 x1 x2 x3 x4 x5 x6 x7 x8 x9 x10 x11 x12 x13 x14 x15:UInt32):Nq [x0,x1,x2,x3,x4,x5,x6,x7,x8,x9,x10,x11,x12,x13,x14,x15] 3 4 9 14=[x0,x1,x2,(qA x3 x4 x9 x14),(qB x3 x4 x9 x14),x5,x6,x7,x8,(qC x3 x4 x9 x14),x10,x11,x12,x13,(qD x3 x4 x9 x14),x15]:=rfl
def q0o (q:List UInt32):Nat→List UInt32
 |0=>q
 |i+1=>Nq (q0o q i) i (4+i) (8+i) (12+i)
def q0j (q:List UInt32):Nat→List UInt32
 |0=>q
 |i+1=>Nq (q0j q i) i (4+(i+1)%4) (8+(i+2)%4) (12+(i+3)%4)
theorem q0n (q:List UInt32): ∀ i,(q0o q i).length=q.length
 |0=>rfl
 |i+1=>by rw [q0o,m0i,q0n q i]
theorem a1a (q:List UInt32): ∀ i,(q0j q i).length=q.length
 |0=>rfl
 |i+1=>by rw [q0j,m0i,a1a q i]
end Go.Sy
namespace Go.Sy
open Go.Proofs
attribute [local irreducible] Bw HT Aj Jk onC onE onO onG goV goA goS Lx Bz
structure W16 where
 x0:UInt32
 x1:UInt32
 x2:UInt32
 x3:UInt32
 x4:UInt32
 x5:UInt32
 x6:UInt32
 x7:UInt32
 x8:UInt32
 x9:UInt32
 x10:UInt32
 x11:UInt32
 x12:UInt32
 x13:UInt32
 x14:UInt32
 x15:UInt32
def W16.l (w:W16):List UInt32:=[w.x0,w.x1,w.x2,w.x3,w.x4,w.x5,w.x6,w.x7,w.x8,w.x9,w.x10,w.x11,w.x12,w.x13,w.x14,w.x15]
def W16.ls (w:W16):List L:=[.pl (.u32 w.x0),.pl (.u32 w.x1),.pl (.u32 w.x2),.pl (.u32 w.x3),.pl (.u32 w.x4),.pl (.u32 w.x5),.pl (.u32 w.x6),.pl (.u32 w.x7),.pl (.u32 w.x8),.pl (.u32 w.x9),.pl (.u32 w.x10),.pl (.u32 w.x11),.pl (.u32 w.x12),.pl (.u32 w.x13),.pl (.u32 w.x14),.pl (.u32 w.x15)]
theorem W16.ls_l (w:W16):w.ls=Jy w.l:=rfl
theorem W16.l_len (w:W16):w.l.length=16:=rfl
def W16.col (w:W16):W16:=⟨(qA w.x0 w.x4 w.x8 w.x12),(qA w.x1 w.x5 w.x9 w.x13),(qA w.x2 w.x6 w.x10 w.x14),(qA w.x3 w.x7 w.x11 w.x15),(qB w.x0 w.x4 w.x8 w.x12),(qB w.x1 w.x5 w.x9 w.x13),(qB w.x2 w.x6 w.x10 w.x14),(qB w.x3 w.x7 w.x11 w.x15),(qC w.x0 w.x4 w.x8 w.x12),(qC w.x1 w.x5 w.x9 w.x13),(qC w.x2 w.x6 w.x10 w.x14),(qC w.x3 w.x7 w.x11 w.x15),(qD w.x0 w.x4 w.x8 w.x12),(qD w.x1 w.x5 w.x9 w.x13),(qD w.x2 w.x6 w.x10 w.x14),(qD w.x3 w.x7 w.x11 w.x15)⟩
def W16.diag (w:W16):W16:=⟨(qA w.x0 w.x5 w.x10 w.x15),(qA w.x1 w.x6 w.x11 w.x12),(qA w.x2 w.x7 w.x8 w.x13),(qA w.x3 w.x4 w.x9 w.x14),(qB w.x3 w.x4 w.x9 w.x14),(qB w.x0 w.x5 w.x10 w.x15),(qB w.x1 w.x6 w.x11 w.x12),(qB w.x2 w.x7 w.x8 w.x13),(qC w.x2 w.x7 w.x8 w.x13),(qC w.x3 w.x4 w.x9 w.x14),(qC w.x0 w.x5 w.x10 w.x15),(qC w.x1 w.x6 w.x11 w.x12),(qD w.x1 w.x6 w.x11 w.x12),(qD w.x2 w.x7 w.x8 w.x13),(qD w.x3 w.x4 w.x9 w.x14),(qD w.x0 w.x5 w.x10 w.x15)⟩
theorem o0g (w:W16):q0o w.l 4=w.col.l:=by
 simp only [q0o,W16.l,xV,Nat.reduceAdd,i1y,i1x,i1w,i1v];rfl
theorem q0i (w:W16):q0j w.l 4=w.diag.l:=by
 simp only [q0j,W16.l,xV,Nat.reduceAdd,Nat.reduceMod,i1u,i1t,i1s,i1r];rfl
def a0j :Nat→W16→W16
 |0,w=>w
 |k+1,w=>(a0j k w).col.diag
def e1v :List UInt32→List UInt32→List UInt8
 |a::l,b::k=>Mq (a+b).toUInt64 4++e1v l k
 |_,_=>[]
def a0c (w:W16):List UInt8:=e1v (a0j 10 w).l w.l
def e0e (key:List UInt8) (counter:UInt32) (nonce:List UInt8):W16:=⟨1634760805,857760878,2036477234,1797285236,g0s (key.drop 0),g0s (key.drop 4),g0s (key.drop 8),g0s (key.drop 12),g0s (key.drop 16),g0s (key.drop 20),g0s (key.drop 24),g0s (key.drop 28),counter,g0s (nonce.drop 0),g0s (nonce.drop 4),g0s (nonce.drop 8)⟩
theorem o0j : ∀ (a b:List UInt32),a.length=b.length→(e1v a b).length=4*a.length
 | [],[],_=>rfl
 | [],_::_,h=>by simp at h
 |_::_,[],h=>by simp at h
 |a::l,b::k,h=>by
  simp only [e1v,yG,Ay,xD,o0j l k (by simpa using h)];omega
theorem a0p (w:W16):(a0c w).length=64:=o0j _ _ rfl
theorem d0e {l:List UInt32} {i:Nat} (h:i<l.length):List.take 1 (List.drop i (Jy l))=[.pl (.u32 (l.getD i 0))]:=by
 rw [xM (by simpa [Jy] using h),wE,wH]
 simp [Jy,List.getD,yO h]
theorem a0t (l:List UInt32):(Jy l).length=l.length:=by simp [Jy]
theorem t0z (k:Nat) (l:List UInt32):(Jy l).any (L.has k)=false:=by
 rw [xC]
 intro x hx
 obtain ⟨y,_,rfl⟩:=xG.mp hx
 simp [L.has]
theorem n0o (k:Nat) (l:List UInt32):(Jy l).map (Uq k)=Jy l:=by simp only [Jy,List.map_map];rfl
theorem p1g (k:Nat) (w:W16):w.ls.any (L.has k)=false:=by rw [W16.ls_l];exact t0z k _
theorem c1i (k:Nat) (w:W16):w.ls.map (Uq k)=w.ls:=by rw [W16.ls_l];exact n0o k _
attribute [go_sem] t0z n0o p1g c1i
theorem d0s {l:List UInt32} {j:Nat} (h:j<l.length):l.drop j=l.getD j 0::l.drop (j+1):=by
 rw [xM h];congr 1;simp [List.getD,yO h]
theorem p0a {q:List UInt8} {j:Nat} (x:UInt8) (h:j<q.length):Az (List.take j q)++[L.pl (PL.u8 x)]++Az (List.drop (j+1) q)=Az (q.set j x):=by
 rw [uJ,if_pos h];simp [Az]
theorem q2v (x:UInt32):Mq x.toUInt64 4=[(a0u x 0).toUInt8,(a0u x 8).toUInt8,(a0u x 16).toUInt8,(a0u x 24).toUInt8]:=by
 have e: ∀ y:UInt64,(y/256).toNat=y.toNat/256:=fun y=>by rw [vV];rfl
 have hx:=x.toNat_lt
 have s: ∀ k:Nat,(a0u x k).toNat=x.toNat/2 ^ k:=fun k=>by
  have h2:x.toNat/2 ^ k≤x.toNat:=Nat.div_le_self _ _
  simp only [a0u,UInt32.toNat_ofNat']
  exact yN (by omega)
 have g: ∀ (y:UInt32) (n:Nat),y.toNat=n→UInt8.ofNat n=y.toUInt8:=fun y n h=>by
  apply vJ.mp
  rw [←h,vM,UInt32.toNat_toUInt8]
 simp only [Mq,List.cons.injEq,and_true]
 refine ⟨?_,?_,?_,?_⟩
 all_goals refine g _ _ ?_
 all_goals simp only [s,e,UInt32.toNat_toUInt64,Nat.div_div_eq_div_mul]
 all_goals simp
theorem set4 {q:List UInt8} {j:Nat} (h:j+4≤q.length) (a b c d:UInt8):((((q.set j a).set (j+1) b).set (j+2) c).set (j+3) d).take (j+4)=q.take j++[a,b,c,d]:=by
 apply List.ext_getElem
 ·simp;omega
 intro i h1 h2
 simp only [yH,List.length_set] at h1
 rw [List.getElem_take]
 simp only [List.getElem_set]
 rcases yZ i j with g|g
 ·rw [if_neg (by omega),if_neg (by omega),if_neg (by omega),if_neg (by omega),List.getElem_append_left (by simp;omega),List.getElem_take]
 rw [List.getElem_append_right (by simp;omega)]
 have hj:(q.take j).length=j:=by rw [yH];omega
 have:i=j∨i=j+1∨i=j+2∨i=j+3:=by omega
 rcases this with rfl|rfl|rfl|rfl
 all_goals simp [hj]
theorem block_ (key:List UInt8) (hk:key.length=32) (counter:UInt32) (nonce:List UInt8) (hn:nonce.length=12):
 Ct Tryz.prog 56 [.w (.agg (Az key)),.w (.one (.pl (.u32 counter))),.w (.agg (Az nonce))] (fun v m=>v=.w (.agg (Az (a0c (e0e key counter nonce))))):=by
 obtain ⟨Wi,hW⟩: ∃ Wi,e0e key counter nonce=Wi:=⟨_,rfl⟩
 rw [hW]
 have F0:=yA hk<|yA hn<|yA @Gj<|yA (@yU UInt8)<|(@yH UInt8)
 refine Ct.k Tryz.func56 rfl Tryz.ntmps56 (congrArg Array.toList Tryz.results56) (by simp) fun w0 ro=>?_
 refine b0q fun zZ zhZ=>?_
 iterate 249 first
  |(refine Ez (x:=.seq (.region 3 _ _) _) [8,20,21,22,23,24,25,26,27,28,29] ?_;simp only [go_sem,St.forget,fgt];refine Oz fun zN zM zhN zhM=>?_)
  |(refine Ez (x:=.seq (.region 8 _ _) _) [9,31,32,33,34,35,36,37,38,39,40] ?_;simp only [go_sem,St.forget,fgt];refine Oz fun zN zM zhN zhM=>?_)
  |refine Oz fun zN zM zhN zhM=>?_
  |refine zhK _ ?_
  |(refine zhN _ ?_;clear zhN zhM)
  |(refine Lj fun zK zhK=>?_;simp only [go_sem,F0,Int.reduceTMod];(repeat' (first|apply yA|intro _)))
  |(refine Cw fun zK zhK=>?_;simp only [go_sem,F0,Int.reduceTMod];(repeat' (first|apply yA|intro _)))
  |refine Cj fun zB zbn zbx zbr zbi=>?_
  |refine Gq ?_
  |(refine zbn _ ?_;clear zbn zbx zbr zbi)
  |(refine zhM _ _ ?_;clear zhN zhM)
  |refine Jv ?_
  |(refine zbx _ ?_;clear zbn zbx zbr zbi)
  |refine Jz (x:=.seq (.region 3 _ _) _) 9 ?_
  |refine Jz (x:=.seq (.region 8 _ _) _) 4 ?_
  |((all_goals refine Cv (fun k=>k) (fun _ _=>rfl) (by first|rfl|(simp only [go_sem,F0,Int.reduceTMod]<;>rfl)) ((p2t _ (by first|(simp [hk];done)|(simp [hn];done)|(simp only [yU,yH,hk,hn];omega)) _).plain fun _ _ h=>h) ?_);(all_goals (rintro v m ⟨hR,hm⟩;subst hR;subst hm));(all_goals refine yA (by first|rfl|simp only [go_sem,F0,Int.reduceTMod]) (yA (by first|rfl|simp only [go_sem,F0,Int.reduceTMod]) ?_));(all_goals simp only [go_sem,F0,Int.reduceTMod]);(all_goals repeat' (first|apply yA|intro _)))
  |refine Fw fun zN zM zhN zhM=>?_
  |(refine Dw ?_ ?_;focus (first|rfl|(simp [go_sem,F0,Int.reduceTMod];done)))
  |(refine Dk ?_ ?_;focus (first|rfl|(simp [go_sem,F0,Int.reduceTMod];done)))
 refine Bv [0,1,2,3,5,8,9,17,18,19,20,21,22,23,24,25,26,27,28,29,30,31,32,33,34,35,36,37,38,39,40,41] ?_
 simp only [Bj,Cx,Bq,yI,yK,Nat.reduceBEq,beq_self_eq_true,yS,yV,yY,yT,yE,reduceIte]
 refine Uw (fun y=>[(42,.w (.one (.pl (.i ((y.1:Nat):Int)))))]) (fun y=>[(7,⟨false,(a0j y.1 Wi).ls⟩)]) (fun y=>10-y.1) (⟨0,xA _⟩:{y:Nat//y≤10}) ?_ ?_ ?_
 ·(simp only [go_sem,leX,yB,yC];try simp)
 ·(simp only [a0j,go_sem,leX,yB,yC];first|done|rfl|(subst hW;simp [a0j,e0e,W16.ls,leX,look];done))
 intro ⟨k,hk9⟩ zN zM zhN zhM
 simp only [yB,yC]
 have yN0:=zhN
 rcases yZ k 10 with hlt|hge
 ·have hcq:((k:Nat):Int)<10:=by omega
  have hs1:Go.RowKit.wrap64 (((k:Nat):Int)+1)=((k+1:Nat):Int):=Gy (by omega) (by omega)
  obtain ⟨q,hq⟩: ∃ q,a0j k Wi=q:=⟨_,rfl⟩
  simp only [hq,W16.ls_l]
  have F0:=yA hcq<|yA hs1<|F0
  iterate 12 first
   |(refine Lj fun zK zhK=>?_;simp only [go_sem,F0,Int.reduceTMod];(repeat' (first|apply yA|intro _)))
   |refine zhK _ ?_
   |refine Cj fun zB zbn zbx zbr zbi=>?_
   |refine Gq ?_
   |(refine zhN _ ?_;clear zhN zhM)
   |refine Fw fun zN zM zhN zhM=>?_
   |(refine Dw ?_ ?_;focus (first|rfl|(simp [go_sem,F0,Int.reduceTMod];done)))
  refine Bv [0,1,2,3,5,8,9,17,18,19,20,21,22,23,24,25,26,27,28,29,30,31,32,33,34,35,36,37,38,39,40,41,43] ?_
  simp only [Bj,Cx,Bq,yI,yK,Nat.reduceBEq,beq_self_eq_true,yS,yV,yY,yT,yE,reduceIte]
  refine Uw (fun y=>[(44,.w (.one (.pl (.i ((y.1:Nat):Int)))))]) (fun y=>[(7,⟨false,Jy (q0o q.l y.1)⟩)]) (fun y=>4-y.1) (⟨0,xA _⟩:{y:Nat//y≤4}) ?_ ?_ ?_
  ·(simp only [go_sem,leX,yB,yC,F0];try simp)
  ·(simp only [go_sem,leX,q0o,yB,yC,F0];try simp)
  intro yy zN zM zhN zhM
  simp only [yB,yC]
  have yN1:=zhN
  obtain ⟨i,hi4⟩:=yy
  rcases Nat.lt_or_eq_of_le hi4 with hli|rfl
  ·have hcq:((i:Nat):Int)<4:=by omega
   have hi16:i<16:=by omega
   obtain ⟨s,hs⟩: ∃ s,q0o q.l i=s:=⟨_,rfl⟩
   have hsl:s.length=16:=by rw [←hs,q0n];exact rfl
   have hfin:q0o q.l (i+1)=Nq s i (4+i) (8+i) (12+i):=by rw [q0o,hs]
   have hz:=y0k s hsl i (4+i) (8+i) (12+i) (by omega) (by omega) (by omega) (by omega)
   simp only [hs]
   have F0:=yA hcq<|yA z0o<|yA hfin<|yA hsl<|yA (wl4 hi16)<|yA (wl8 hi16)<|yA (p2d hi16)<|yA (wp1 hi16)<|F0
   have cq:=yA (CtM.ch [(500000,7)] (hz))<|trivial
   have zL:=fun S2=>yN1 ⟨i+1,hli⟩ S2 (by exact yP hli (yQ i))
   exact HT.run2
  obtain ⟨c,hc⟩: ∃ c,q0o q.l 4=c:=⟨_,rfl⟩
  have hcl:c.length=16:=by rw [←hc,q0n];rfl
  have hcc:=(o0g q).symm.trans hc
  simp only [hc]
  iterate 12 first
   |(refine Lj fun zK zhK=>?_;simp only [go_sem,F0,Int.reduceTMod];(repeat' (first|apply yA|intro _)))
   |refine zhK _ ?_
   |(refine zhM _ _ ?_;clear zhN zhM)
   |refine Jv ?_
   |(refine zbx _ ?_;clear zbn zbx zbr zbi)
   |(refine zhN _ ?_;clear zhN zhM)
   |refine Cj fun zB zbn zbx zbr zbi=>?_
   |refine Fw fun zN zM zhN zhM=>?_
   |(refine Dk ?_ ?_;focus (first|rfl|(simp [go_sem,F0,Int.reduceTMod];done)))
  refine Bv [0,1,2,3,5,8,9,11,17,18,19,20,21,22,23,24,25,26,27,28,29,30,31,32,33,34,35,36,37,38,39,40,41,43,44,45,46,47,48,49,50,51,52,53,54,55] ?_
  simp only [Bj,Cx,Bq,yI,yK,Nat.reduceBEq,beq_self_eq_true,yS,yV,yY,yT,yE,reduceIte]
  refine Uw (fun y=>[(56,.w (.one (.pl (.i ((y.1:Nat):Int)))))]) (fun y=>[(7,⟨false,Jy (q0j c y.1)⟩)]) (fun y=>4-y.1) (⟨0,xA _⟩:{y:Nat//y≤4}) ?_ ?_ ?_
  ·(simp only [go_sem,leX,yB,yC,F0];try simp)
  ·(simp only [go_sem,leX,q0j,yB,yC,F0];try simp)
  intro yy zN zM zhN zhM
  simp only [yB,yC]
  have yN2:=zhN
  obtain ⟨i,hi4⟩:=yy
  rcases Nat.lt_or_eq_of_le hi4 with hli|rfl
  ·have hcq:((i:Nat):Int)<4:=by omega
   have hi16:i<16:=by omega
   obtain ⟨s,hs⟩: ∃ s,q0j c i=s:=⟨_,rfl⟩
   have hsl:s.length=16:=by rw [←hs,a1a];exact hcl
   have hfin:q0j c (i+1)=Nq s i (4+(i+1)%4) (8+(i+2)%4) (12+(i+3)%4):=by rw [q0j,hs]
   have hz:=y0k s hsl i (4+(i+1)%4) (8+(i+2)%4) (12+(i+3)%4) (by omega) (by omega) (by omega) (by omega)
   simp only [hs]
   have F0:=yA hcq<|yA z0o<|yA hfin<|yA hsl<|yA (wp1 hi16)<|yA (wp2 hi16)<|yA (wp3 hi16)<|yA tm4<|yA (wl4 (lt4 (n:=i+1)))<|yA (wl8 (lt4 (n:=i+2)))<|yA (p2d (lt4 (n:=i+3)))<|F0
   have cq:=yA (CtM.ch [(500000,7)] (hz))<|trivial
   have zL:=fun S2=>yN2 ⟨i+1,hli⟩ S2 (by exact yP hli (yQ i))
   exact HT.run2
  have hfin:(a0j (k+1) Wi).ls=Jy (q0j c 4):=by rw [a0j,hq,W16.ls_l,←q0i,hcc]
  have F0:=yA hfin<|F0
  have zL:=fun S2=>yN0 ⟨k+1,hlt⟩ S2 (by (exact yP hlt (yQ k)))
  exact HT.w
 obtain rfl:k=10:=by omega
 have hcq:¬((10:Nat):Int)<10:=by omega
 obtain ⟨v,hv⟩: ∃ v,a0j 10 Wi=v:=⟨_,rfl⟩
 simp only [hv]
 have F0:=yA hcq<|F0
 iterate 15 first
  |(refine Lj fun zK zhK=>?_;simp only [go_sem,F0,Int.reduceTMod];(repeat' (first|apply yA|intro _)))
  |refine zhK _ ?_
  |(refine zhM _ _ ?_;clear zhN zhM)
  |refine Jv ?_
  |(refine zbx _ ?_;clear zbn zbx zbr zbi)
  |(refine zhN _ ?_;clear zhN zhM)
  |refine Cj fun zB zbn zbx zbr zbi=>?_
  |refine Fw fun zN zM zhN zhM=>?_
  |(refine Dk ?_ ?_;focus (first|rfl|(simp [go_sem,F0,Int.reduceTMod];done)))
 refine Bv [0,1,2,3,5,8,9,11,12,17,18,19,20,21,22,23,24,25,26,27,28,29,30,31,32,33,34,35,36,37,38,39,40,41,42,43,44,45,46,47,48,49,50,51,52,53,54,55,56,57,58,59,60,61,62,63,64,65,66,67,68,69,70,71,72,73,74] ?_
 simp only [Bj,Cx,Bq,yI,yK,Nat.reduceBEq,beq_self_eq_true,yS,yV,yY,yT,yE,reduceIte]
 refine Uw (fun y=>[(75,.w (.one (.pl (.i ((y.1.1:Nat):Int)))))]) (fun y=>[(7,⟨false,Jy v.l⟩),(10,⟨false,Jy Wi.l⟩),(13,⟨false,Az y.1.2⟩)]) (fun y=>16-y.1.1) (⟨(0,List.replicate 64 0),xA _,by simp,by simp⟩:{y:Nat×List UInt8//y.1≤16∧y.2.length=64∧y.2.take (4*y.1)++e1v (v.l.drop y.1) (Wi.l.drop y.1)=e1v v.l Wi.l}) ?_ ?_ ?_
 ·(simp only [go_sem,leX,yB,yC];try simp)
 ·(simp only [go_sem,leX,yB,yC];first|done|rfl|(subst hW;simp [W16.ls,W16.l,Jy,e0e,leX,look];done))
 intro yy zN zM zhN zhM
 simp only [yB,yC]
 have yN1:=zhN
 obtain ⟨⟨i,q⟩,hi,hq,hz⟩:=yy
 simp only at hi hq hz
 have hvl:v.l.length=16:=rfl
 have hwl:Wi.l.length=16:=rfl
 rcases yZ i 16 with hlt|hge
 ·obtain ⟨a,ha⟩: ∃ a,v.l.getD i 0=a:=⟨_,rfl⟩
  obtain ⟨b,hb⟩: ∃ b,Wi.l.getD i 0=b:=⟨_,rfl⟩
  have h1:=d0e (l:=v.l) (i:=i) (by omega)
  have h2:=d0e (l:=Wi.l) (i:=i) (by omega)
  rw [ha] at h1
  rw [hb] at h2
  have hda:=d0s (l:=v.l) (j:=i) (by omega)
  have hdb:=d0s (l:=Wi.l) (j:=i) (by omega)
  rw [ha] at hda
  rw [hb] at hdb
  rw [hda,hdb,e1v,q2v] at hz
  have hl1:=a0t v.l
  have hl2:=a0t Wi.l
  rw [hvl] at hl1
  rw [hwl] at hl2
  have hcq:((i:Nat):Int)<16:=by omega
  have hc0:(0:Int)≤((i:Nat):Int):=by omega
  have hk2:i+1≤16:=by omega
  obtain ⟨b0,hb0⟩: ∃ x,(a0u (a+b) 0).toUInt8=x:=⟨_,rfl⟩
  obtain ⟨b1,hb1⟩: ∃ x,(a0u (a+b) 8).toUInt8=x:=⟨_,rfl⟩
  obtain ⟨b2,hb2⟩: ∃ x,(a0u (a+b) 16).toUInt8=x:=⟨_,rfl⟩
  obtain ⟨b3,hb3⟩: ∃ x,(a0u (a+b) 24).toUInt8=x:=⟨_,rfl⟩
  rw [hb0,hb1,hb2,hb3] at hz
  obtain ⟨r1,hr1⟩: ∃ r,q.set (4*i) b0=r:=⟨_,rfl⟩
  obtain ⟨r2,hr2⟩: ∃ r,r1.set (4*i+1) b1=r:=⟨_,rfl⟩
  obtain ⟨r3,hr3⟩: ∃ r,r2.set (4*i+2) b2=r:=⟨_,rfl⟩
  obtain ⟨r4,hr4⟩: ∃ r,r3.set (4*i+3) b3=r:=⟨_,rfl⟩
  have g1:r1.length=64:=by rw [←hr1];simp [hq]
  have g2:r2.length=64:=by rw [←hr2];simp [g1]
  have g3:r3.length=64:=by rw [←hr3];simp [g2]
  have g4:r4.length=64:=by rw [←hr4];simp [g3]
  have p0:=p0a (q:=q) (j:=4*i) b0 (by omega)
  have p1:=p0a (q:=r1) (j:=4*i+1) b1 (by omega)
  have p2:=p0a (q:=r2) (j:=4*i+2) b2 (by omega)
  have p3:=p0a (q:=r3) (j:=4*i+3) b3 (by omega)
  rw [hr1] at p0
  rw [hr2] at p1
  rw [hr3] at p2
  rw [hr4] at p3
  have n1:r4.take (4*(i+1))++e1v (v.l.drop (i+1)) (Wi.l.drop (i+1))=e1v v.l Wi.l:=by
   have:=set4 (q:=q) (j:=4*i) (by omega) b0 b1 b2 b3
   rw [hr1,hr2,hr3,hr4] at this
   rw [←hz,vZ,this,wM]
  have d0:(0:Int)≤((4*i:Nat):Int)∧((4*i:Nat):Int)<64∧(0:Int)≤((4*i+1:Nat):Int)∧((4*i+1:Nat):Int)<64∧(0:Int)≤((4*i+2:Nat):Int)∧((4*i+2:Nat):Int)<64∧(0:Int)≤((4*i+3:Nat):Int)∧((4*i+3:Nat):Int)<64:=by omega
  have d1:4*i+1≤64∧4*i+1+1≤64∧4*i+2+1≤64∧4*i+3+1≤64:=by omega
  obtain ⟨hs1,hw8,hw4,hw5,hw6,hw7⟩:Go.RowKit.wrap64 (((i:Nat):Int)+1)=((i+1:Nat):Int)∧Go.RowKit.wrap64 (((4*i:Nat):Int)+0)=((4*i:Nat):Int)∧Go.RowKit.wrap64 (4*((i:Nat):Int))=((4*i:Nat):Int)∧Go.RowKit.wrap64 (((4*i:Nat):Int)+1)=((4*i+1:Nat):Int)∧Go.RowKit.wrap64 (((4*i:Nat):Int)+2)=((4*i+2:Nat):Int)∧Go.RowKit.wrap64 (((4*i:Nat):Int)+3)=((4*i+3:Nat):Int):=⟨Gy (by omega) (by omega),Gy (by omega) (by omega),Gy (by omega) (by omega),Gy (by omega) (by omega),Gy (by omega) (by omega),Gy (by omega) (by omega)⟩
  have F0:=yA h1<|yA h2<|yA hl1<|yA hl2<|yA hcq<|yA hc0<|yA hk2<|yA hb0<|yA hb1<|yA hb2<|yA hb3<|yA hq<|yA g1<|yA g2<|yA g3<|yA g4<|yA p0<|yA p1<|yA p2<|yA p3<|yA d0<|yA d1<|yA hs1<|yA hw4<|yA hw5<|yA hw6<|yA hw7<|yA hw8<|F0
  iterate 101 first
   |(refine Ez (x:=.seq (.region 32 _ _) _) [16,86,87,88,89,90,91,92,93,94,95,96,97,98] ?_;simp only [go_sem,St.forget,fgt];refine Oz fun zN zM zhN zhM=>?_)
   |refine Oz fun zN zM zhN zhM=>?_
   |refine zhK _ ?_
   |(refine zhN _ ?_;clear zhN zhM)
   |(refine Lj fun zK zhK=>?_;simp only [go_sem,F0,Int.reduceTMod];(repeat' (first|apply yA|intro _)))
   |(refine Cw fun zK zhK=>?_;simp only [go_sem,F0,Int.reduceTMod];(repeat' (first|apply yA|intro _)))
   |refine Cj fun zB zbn zbx zbr zbi=>?_
   |refine Gq ?_
   |(refine zbn _ ?_;clear zbn zbx zbr zbi)
   |(refine zhM _ _ ?_;clear zhN zhM)
   |(refine w0i (id:=30) [78,79,80,81,82,83,84,15] [0,1,3,0,8,24,63,127] [] mixed (by kernel_rfl) (by simp only [go_sem]) fun zK zhK=>?_;simp only [go_sem,F0,Int.reduceTMod];(repeat' (first|apply yA|intro _)))
   |refine zhK _ _ trivial ?_
   |refine Jz (x:=.seq (.region 32 _ _) _) 5 ?_
   |refine Jv ?_
   |(refine zbx _ ?_;clear zbn zbx zbr zbi)
   |refine Fw fun zN zM zhN zhM=>?_
   |(refine Dw ?_ ?_;focus (first|rfl|(simp [go_sem,F0,Int.reduceTMod];done)))
   |(refine Dk ?_ ?_;focus (first|rfl|(simp [go_sem,F0,Int.reduceTMod];done)))
  refine zhN ⟨(i+1,r4),hlt,g4,n1⟩ _ ?_ ?_ ?_
  ·(exact yP hlt (yQ i))
  ·(simp only [go_sem,leX,yB,yC];try simp)
  (simp only [go_sem,leX,yB,yC];try simp)
 obtain rfl:i=16:=by omega
 have hcq:¬((16:Nat):Int)<16:=by omega
 have hfin:q=a0c Wi:=by
  rw [a0c,hv,←hz,xY (by omega),xE (by omega)];simp [e1v]
 have F0:=yA hcq<|yA hq<|F0
 have zE:=congrArg (fun x=>V.w (W.agg (Az x))) hfin
 exact HT.w
end Go.Sy
namespace Go.Sy
open Go.Proofs
attribute [local irreducible] Bw HT Aj Jk onC onE onO onG goV goA goS Lx Bz
def W16.sh (w:W16):W16:=⟨w.x0,w.x1,w.x2,w.x3,w.x5,w.x6,w.x7,w.x4,w.x10,w.x11,w.x8,w.x9,w.x15,w.x12,w.x13,w.x14⟩
def W16.unsh (w:W16):W16:=⟨w.x0,w.x1,w.x2,w.x3,w.x7,w.x4,w.x5,w.x6,w.x10,w.x11,w.x8,w.x9,w.x13,w.x14,w.x15,w.x12⟩
theorem b1n (w:W16):w.sh.col.unsh=w.diag:=rfl
theorem k2x (x0 x1 x2 x3 x4 x5 x6 x7 x8 x9 x10 x11 x12 x13 x14 x15:UInt32):
 Ct Tryz.prog 98 [.w (.agg [.pl (.u32 x0),.pl (.u32 x1),.pl (.u32 x2),.pl (.u32 x3),.pl (.u32 x4),.pl (.u32 x5),.pl (.u32 x6),.pl (.u32 x7),.pl (.u32 x8),.pl (.u32 x9),.pl (.u32 x10),.pl (.u32 x11),.pl (.u32 x12),.pl (.u32 x13),.pl (.u32 x14),.pl (.u32 x15)])] (fun v m=>v=.w (.agg (⟨x0,x1,x2,x3,x4,x5,x6,x7,x8,x9,x10,x11,x12,x13,x14,x15⟩:W16).col.ls)):=by
 have F0:=trivial
 have zF:FG [9,10,11,12,13,14,15,16,17,18,19,20,21,22,23,24,25,26,27,28,29,30,31,32,33,34,35,36,37,38,39,40,41,42,43,44,45,46,47,48,49,50,51,52,53,54,55,56,57,58,59,60,61,62,63,64,65,66,67,68,69,70,71,72]:=trivial
 have ck0:=fun x=>Ct.cv (p0q x)
 have ck1:=fun x=>Ct.cv (p1s x)
 have ck2:=fun x=>Ct.cv (a2y x)
 have ck3:=fun x=>Ct.cv (a2z x)
 have cq:=yA ck0<|yA ck1<|yA ck2<|yA ck3<|yA ck0<|yA ck1<|yA ck2<|yA ck3<|yA ck0<|yA ck1<|yA ck2<|yA ck3<|yA ck0<|yA ck1<|yA ck2<|yA ck3<|trivial
 have zd0:DQ 4 [11,12,13,14,15,16,17,18,19,20,21,22,23,24,25,26,4,5,6,7] [0,0,3,7,0,0,48,112,0,0,768,1792,0,0,12288,28672,15,65791,200703,524287] []:=⟨⟩
 have zU:=yA ur<|trivial
 exact Ct.go Tryz.func98 rfl Tryz.ntmps98 Tryz.results98
theorem o0u (x0 x1 x2 x3 x4 x5 x6 x7 x8 x9 x10 x11 x12 x13 x14 x15:UInt32):
 Ct Tryz.prog 97 [.w (.agg [.pl (.u32 x0),.pl (.u32 x1),.pl (.u32 x2),.pl (.u32 x3),.pl (.u32 x4),.pl (.u32 x5),.pl (.u32 x6),.pl (.u32 x7),.pl (.u32 x8),.pl (.u32 x9),.pl (.u32 x10),.pl (.u32 x11),.pl (.u32 x12),.pl (.u32 x13),.pl (.u32 x14),.pl (.u32 x15)]),.w (.one (.pl (.i 1)))] (fun v m=>v=.w (.agg (⟨x0,x1,x2,x3,x4,x5,x6,x7,x8,x9,x10,x11,x12,x13,x14,x15⟩:W16).sh.ls)):=by
 have F0:=@xB
 have zF:FG [9,10,12,13,14,15,16,17,18,19,20,21,22,23,24,25,26,27,28,29,30,31]:=trivial
 have zd0:DQ 8 [14,15,16,17,18,19,20,21,22,23,24,25,26,27,28] [0,0,0,0,8,0,0,96,248,504,4,2044,4092,1,16383,32767] []:=⟨⟩
 have zU:=yA ur<|yA ur<|yA ur<|yA ur<|yA ur<|trivial
 exact Ct.go Tryz.func97 rfl Tryz.ntmps97 Tryz.results97
theorem o0t (x0 x1 x2 x3 x4 x5 x6 x7 x8 x9 x10 x11 x12 x13 x14 x15:UInt32):
 Ct Tryz.prog 97 [.w (.agg [.pl (.u32 x0),.pl (.u32 x1),.pl (.u32 x2),.pl (.u32 x3),.pl (.u32 x4),.pl (.u32 x5),.pl (.u32 x6),.pl (.u32 x7),.pl (.u32 x8),.pl (.u32 x9),.pl (.u32 x10),.pl (.u32 x11),.pl (.u32 x12),.pl (.u32 x13),.pl (.u32 x14),.pl (.u32 x15)]),.w (.one (.pl (.i (-1))))] (fun v m=>v=.w (.agg (⟨x0,x1,x2,x3,x4,x5,x6,x7,x8,x9,x10,x11,x12,x13,x14,x15⟩:W16).unsh.ls)):=by
 have F0:=@xB
 have zF:FG [9,10,12,13,14,15,16,17,18,19,20,21,22,23,24,25,26,27,28,29,30,31]:=trivial
 have zd0:DQ 8 [14,15,16,17,18,19,20,21,22,23,24,25,26,27,28] [0,0,0,0,8,0,0,96,248,504,4,2044,4092,1,16383,32767] []:=⟨⟩
 have zU:=yA ur<|yA ur<|yA ur<|yA ur<|yA ur<|trivial
 exact Ct.go Tryz.func97 rfl Tryz.ntmps97 Tryz.results97
theorem f1x (w:W16):Ct Tryz.prog 98 [.w (.agg w.ls)] (fun v m=>v=.w (.agg w.col.ls)):=k2x w.x0 w.x1 w.x2 w.x3 w.x4 w.x5 w.x6 w.x7 w.x8 w.x9 w.x10 w.x11 w.x12 w.x13 w.x14 w.x15
theorem i1j (w:W16):Ct Tryz.prog 97 [.w (.agg w.ls),.w (.one (.pl (.i 1)))] (fun v m=>v=.w (.agg w.sh.ls)):=o0u w.x0 w.x1 w.x2 w.x3 w.x4 w.x5 w.x6 w.x7 w.x8 w.x9 w.x10 w.x11 w.x12 w.x13 w.x14 w.x15
theorem w0w (w:W16):Ct Tryz.prog 97 [.w (.agg w.ls),.w (.one (.pl (.i (-1))))] (fun v m=>v=.w (.agg w.unsh.ls)):=o0t w.x0 w.x1 w.x2 w.x3 w.x4 w.x5 w.x6 w.x7 w.x8 w.x9 w.x10 w.x11 w.x12 w.x13 w.x14 w.x15
end Go.Sy
namespace Go.Sy
open Go.Proofs
attribute [local irreducible] Bw HT Aj Jk onC onE onO onG goV goA goS Lx Bz
def p2f (al:List UInt8):W16:=⟨(lev ((al.drop 0).take 4)).toUInt32,(lev ((al.drop 4).take 4)).toUInt32,(lev ((al.drop 8).take 4)).toUInt32,(lev ((al.drop 12).take 4)).toUInt32,(lev ((al.drop 16).take 4)).toUInt32,(lev ((al.drop 20).take 4)).toUInt32,(lev ((al.drop 24).take 4)).toUInt32,(lev ((al.drop 28).take 4)).toUInt32,(lev ((al.drop 32).take 4)).toUInt32,(lev ((al.drop 36).take 4)).toUInt32,(lev ((al.drop 40).take 4)).toUInt32,(lev ((al.drop 44).take 4)).toUInt32,(lev ((al.drop 48).take 4)).toUInt32,(lev ((al.drop 52).take 4)).toUInt32,(lev ((al.drop 56).take 4)).toUInt32,(lev ((al.drop 60).take 4)).toUInt32⟩
theorem w0n {l:List UInt8} (h:4≤l.length):(lev (l.take 4)).toUInt32=g0s l:=by
 match l,h with
 |a::b::c::d::r,_=>
  have ha:=a.toNat_lt
  have hb:=b.toNat_lt
  have hc:=c.toNat_lt
  have hd:=d.toNat_lt
  have s: ∀ (x:UInt8) (k:Nat),k≤24→(Rx x.toUInt32 k).toNat=x.toNat*2 ^ k:=fun x k hk=>by
   have hx:=x.toNat_lt
   have h2:2 ^ k≤2 ^ 24:=uL (by decide) hk
   have h3:x.toNat*2 ^ k≤255*2 ^ 24:=Nat.mul_le_mul (by omega) h2
   simp only [Rx,UInt32.toNat_ofNat',UInt8.toNat_toUInt32]
   exact yN (by omega)
  have o1:(a.toUInt32|||Rx b.toUInt32 8).toNat=a.toNat+b.toNat*256:=by
   rw [UInt32.toNat_or,s b 8 (by decide),UInt8.toNat_toUInt32,Nat.or_comm,vF,←Nat.two_pow_add_eq_or_of_lt (i:=8) ha];omega
  have o2:(a.toUInt32|||Rx b.toUInt32 8|||Rx c.toUInt32 16).toNat=a.toNat+b.toNat*256+c.toNat*65536:=by
   rw [UInt32.toNat_or,s c 16 (by decide),o1,Nat.or_comm,vF,←Nat.two_pow_add_eq_or_of_lt (i:=16) (by omega)];omega
  have o3:(a.toUInt32|||Rx b.toUInt32 8|||Rx c.toUInt32 16|||Rx d.toUInt32 24).toNat=a.toNat+b.toNat*256+c.toNat*65536+d.toNat*16777216:=by
   rw [UInt32.toNat_or,s d 24 (by decide),o2,Nat.or_comm,vF,←Nat.two_pow_add_eq_or_of_lt (i:=24) (by omega)];omega
  apply UInt32.toNat_inj.mp
  show _=(a.toUInt32|||Rx b.toUInt32 8|||Rx c.toUInt32 16|||Rx d.toUInt32 24).toNat
  rw [o3,UInt64.toNat_toUInt32]
  show (lev [a,b,c,d]).toNat%_=_
  rw [Sq (by simp)]
  simp only [leN];omega
theorem p1h (c:UInt32):(lev (Mq c.toUInt64 4)).toUInt32=c:=by
 apply UInt32.toNat_inj.mp
 have h:=c.toNat_lt
 rw [UInt64.toNat_toUInt32,Sq (by rw [Ay];decide),j0q,UInt32.toNat_toUInt64]
 have e:(256:Nat) ^ 4=4294967296:=rfl
 rw [e];omega
theorem n1u (key:List UInt8) (hk:key.length=32) (c:UInt32) (nonce:List UInt8) (hn:nonce.length=12):p2f (101::120::112::97::110::100::32::51::50::45::98::121::116::101::32::107::(key++Mq c.toUInt64 4++nonce))=e0e key c nonce:=by
 have lc:(Mq c.toUInt64 4).length=4:=Ay _ _
 have hd: ∀ j,j≤28→(lev (((key++Mq c.toUInt64 4++nonce).drop j).take 4)).toUInt32=g0s (key.drop j):=fun j hj=>by
  rw [wM,List.drop_append_of_le_length (by omega),List.take_append_of_le_length (by rw [yU];omega),w0n (by rw [yU];omega)]
 have h32:(key++Mq c.toUInt64 4++nonce).drop 32=Mq c.toUInt64 4++nonce:=by rw [wM,List.drop_left' hk]
 have hcn:(lev (((key++Mq c.toUInt64 4++nonce).drop 32).take 4)).toUInt32=c:=by rw [h32,List.take_left' lc,p1h]
 have hno: ∀ j,j≤8→(lev (((key++Mq c.toUInt64 4++nonce).drop (36+j)).take 4)).toUInt32=g0s (nonce.drop j):=fun j hj=>by
  have:(key++Mq c.toUInt64 4++nonce).drop (36+j)=nonce.drop j:=by
   rw [←wO,List.drop_left' (by rw [yG,hk,lc])]
  rw [this,w0n (by rw [yU];omega)]
 generalize key++Mq c.toUInt64 4++nonce=r at*
 have e4: ∀ k,List.drop (16+k) (101::120::112::97::110::100::32::51::50::45::98::121::116::101::32::107::r)=List.drop k r:=fun k=>by rw [←wO];rfl
 simp only [p2f,e0e,W16.mk.injEq]
 refine ⟨rfl,rfl,rfl,rfl,?_,?_,?_,?_,?_,?_,?_,?_,?_,?_,?_,?_⟩
 ·rw [show 16=16+0 from rfl,e4];exact hd 0 (by decide)
 ·rw [show 20=16+4 from rfl,e4];exact hd 4 (by decide)
 ·rw [show 24=16+8 from rfl,e4];exact hd 8 (by decide)
 ·rw [show 28=16+12 from rfl,e4];exact hd 12 (by decide)
 ·rw [show 32=16+16 from rfl,e4];exact hd 16 (by decide)
 ·rw [show 36=16+20 from rfl,e4];exact hd 20 (by decide)
 ·rw [show 40=16+24 from rfl,e4];exact hd 24 (by decide)
 ·rw [show 44=16+28 from rfl,e4];exact hd 28 (by decide)
 ·rw [show 48=16+32 from rfl,e4];exact hcn
 ·rw [show 52=16+36 from rfl,e4];exact hno 0 (by decide)
 ·rw [show 56=16+40 from rfl,e4];exact hno 4 (by decide)
 rw [show 60=16+44 from rfl,e4];exact hno 8 (by decide)
theorem h1o (key:List UInt8) (hk:key.length=32) (counter:UInt32) (nonce:List UInt8) (hn:nonce.length=12):
 Ct Tryz.prog 69 [.w (.agg (Az key)),.w (.one (.pl (.u32 counter))),.w (.agg (Az nonce))] (fun v m=>v=.w (.agg (Az (a0c (e0e key counter nonce))))):=by
 obtain ⟨al,hal⟩: ∃ al,101::120::112::97::110::100::32::51::50::45::98::121::116::101::32::107::(key++Mq counter.toUInt64 4++nonce)=al:=⟨_,rfl⟩
 obtain ⟨Wi,hW⟩: ∃ Wi,e0e key counter nonce=Wi:=⟨_,rfl⟩
 rw [hW]
 have hrW:=n1u key hk counter nonce hn
 rw [hal,hW] at hrW
 have hll:al.length=64:=by rw [←hal];simp [Ay,hk,hn]
 have F0:=yA hk<|yA hn<|yA hal<|hll
 refine Ct.k Tryz.func69 rfl Tryz.ntmps69 (congrArg Array.toList Tryz.results69) (by simp) fun w0 ro=>?_
 refine b0q fun zZ zhZ=>?_
 iterate 332 first
  |(refine Ez (x:=.seq (.region 4 _ _) _) [9,25,26,27,28,29,30,31,32,33,34,35,36,37,38,39,40,41,42] ?_;simp only [go_sem,St.forget,fgt];refine Oz fun zN zM zhN zhM=>?_)
  |refine Oz fun zN zM zhN zhM=>?_
  |refine zhK _ ?_
  |(refine zhN _ ?_;clear zhN zhM)
  |(refine Lj fun zK zhK=>?_;simp only [go_sem,Ay,Int.reduceTMod,Int.reduceTDiv,yF,F0];(repeat' (first|apply yA|intro _)))
  |refine Cj fun zB zbn zbx zbr zbi=>?_
  |refine zhK _ _ trivial ?_
  |refine Gq ?_
  |(refine Sk (id:=6) [27,28,29,30,31,32,33,34,35,36,37,38,39,40,41] [0,1,0,4,0,0,32,0,128,384,1008,2032,4080,3,16383,32767] [] mixed (by kernel_rfl) (by simp only [go_sem]) fun zK zhK=>?_;simp only [go_sem,Ay,Int.reduceTMod,Int.reduceTDiv,yF,F0];(repeat' (first|apply yA|intro _)))
  |(refine zbn _ ?_;clear zbn zbx zbr zbi)
  |(refine Cw fun zK zhK=>?_;simp only [go_sem,Ay,Int.reduceTMod,Int.reduceTDiv,yF,F0];(repeat' (first|apply yA|intro _)))
  |(refine zhM _ _ ?_;clear zhN zhM)
  |(refine w0i (id:=1) [14,15,16,17,18,19,20,21,22,23,7] [0,1,3,0,8,24,63,0,128,511,1023] [] mixed (by kernel_rfl) (by simp only [go_sem]) fun zK zhK=>?_;simp only [go_sem,Ay,Int.reduceTMod,Int.reduceTDiv,yF,F0];(repeat' (first|apply yA|intro _)))
  |refine Jz (x:=.seq (.region 4 _ _) _) 17 ?_
  |refine Jv ?_
  |(refine zbx _ ?_;clear zbn zbx zbr zbi)
  |((all_goals refine Ck (fun k=>k) _ [] (fun _ _=>rfl) (by first|rfl|(simp only [go_sem,Ay,Int.reduceTMod,Int.reduceTDiv,yF,F0]<;>rfl)) ((p0i _ (by first|(simp [yH,yU];done)|(simp [yH,yU];omega))).plain fun _ _ h=>h) ?_ ?_);(all_goals try (refine yA ?_ (yA ?_ (yA ?_ ?_))<;>first|rfl|simp only [go_sem]));(all_goals simp only [go_sem,Ay,Int.reduceTMod,Int.reduceTDiv,yF,F0]);(all_goals repeat' (first|apply yA|intro _)))
  |((all_goals refine Ck (fun k=>k) _ [] (fun _ _=>rfl) (by first|rfl|(simp only [go_sem,Ay,Int.reduceTMod,Int.reduceTDiv,yF,F0]<;>rfl)) ((j1l _ 4 (by decide)).plain fun _ _ h=>h) ?_ ?_);(all_goals try (refine yA ?_ (yA ?_ (yA ?_ ?_))<;>first|rfl|simp only [go_sem]));(all_goals simp only [go_sem,Ay,Int.reduceTMod,Int.reduceTDiv,yF,F0]);(all_goals repeat' (first|apply yA|intro _)))
  |refine Fw fun zN zM zhN zhM=>?_
  |(refine Dw ?_ ?_;focus (first|rfl|(simp [go_sem,Ay,Int.reduceTMod,Int.reduceTDiv,yF,F0];done)))
  |(refine Dk ?_ ?_;focus (first|rfl|(simp [go_sem,Ay,Int.reduceTMod,Int.reduceTDiv,yF,F0];done)))
 refine Bv [0,1,2,3,5,7,9,14,15,16,17,18,19,20,21,22,23,24,25,26,27,28,29,30,31,32,33,34,35,36,37,38,39,40,41,42,43] ?_
 simp only [Bj,Cx,Bq,yI,yK,Nat.reduceBEq,beq_self_eq_true,yS,yV,yY,yT,yE,reduceIte]
 refine Uw (fun y=>[(44,.w (.one (.pl (.i ((y.1:Nat):Int)))))]) (fun y=>[(10,⟨false,(a0j y.1 Wi).ls⟩)]) (fun y=>10-y.1) (⟨0,xA _⟩:{y:Nat//y≤10}) ?_ ?_ ?_
 ·(simp only [go_sem,leX,yB,yC];try simp)
 ·(simp only [a0j,go_sem,leX,yB,yC];first|done|rfl|(rw [←hrW];simp [a0j,p2f,W16.ls,leX,look];done))
 intro ⟨k,hk9⟩ zN zM zhN zhM
 simp only [yB,yC]
 rcases yZ k 10 with hlt|hge
 ·have hcq:((k:Nat):Int)<10:=by omega
  have hs1:Go.RowKit.wrap64 (((k:Nat):Int)+1)=((k+1:Nat):Int):=Gy (by omega) (by omega)
  obtain ⟨v,hv⟩: ∃ v,a0j k Wi=v:=⟨_,rfl⟩
  have hdg:=b1n v.col
  simp only [hv]
  refine Lj fun zK zhK=>?_
  simp only [go_sem,Ay,Int.reduceTMod,Int.reduceTDiv,yF,F0,W16.ls,hcq,hs1]
  repeat' (first|apply yA|intro _)
  refine zhK _ ?_
  refine Fw fun zN zM zhN zhM=>?_
  (refine Dw ?_ ?_;focus (first|rfl|(simp [go_sem,Ay,Int.reduceTMod,Int.reduceTDiv,yF,F0,W16.ls,hcq,hs1];done)))
  refine Gq ?_
  refine zhN _ ?_;clear zhN zhM
  refine Fw fun zN zM zhN zhM=>?_
  refine Cj fun zB zbn zbx zbr zbi=>?_
  refine Cw fun zK zhK=>?_
  simp only [go_sem,Ay,Int.reduceTMod,Int.reduceTDiv,yF,F0,W16.ls,hcq,hs1]
  repeat' (first|apply yA|intro _)
  all_goals (refine Cv (fun k=>k) (fun _ _=>rfl) ?_ ((f1x v).plain fun _ _ h=>h) ?_;focus (first|rfl|(simp only [go_sem,Ay,Int.reduceTMod,Int.reduceTDiv,yF,F0,W16.ls,hcq,hs1]<;>rfl)))
  all_goals (rintro v m ⟨hR,hm⟩;subst hR;subst hm)
  all_goals refine yA (by first|rfl|simp only [go_sem,Ay,Int.reduceTMod,Int.reduceTDiv,yF,F0,W16.ls,hcq,hs1]) (yA (by first|rfl|simp only [go_sem,Ay,Int.reduceTMod,Int.reduceTDiv,yF,F0,W16.ls,hcq,hs1]) ?_)
  all_goals simp only [go_sem,Ay,Int.reduceTMod,Int.reduceTDiv,yF,F0,W16.ls,hcq,hs1]
  all_goals repeat' (first|apply yA|intro _)
  all_goals (refine Cv (fun k=>k) (fun _ _=>rfl) ?_ ((i1j v.col).plain fun _ _ h=>h) ?_;focus (first|rfl|(simp only [go_sem,Ay,Int.reduceTMod,Int.reduceTDiv,yF,F0,W16.ls,hcq,hs1]<;>rfl)))
  all_goals (rintro v m ⟨hR,hm⟩;subst hR;subst hm)
  all_goals refine yA (by first|rfl|simp only [go_sem,Ay,Int.reduceTMod,Int.reduceTDiv,yF,F0,W16.ls,hcq,hs1]) (yA (by first|rfl|simp only [go_sem,Ay,Int.reduceTMod,Int.reduceTDiv,yF,F0,W16.ls,hcq,hs1]) ?_)
  all_goals simp only [go_sem,Ay,Int.reduceTMod,Int.reduceTDiv,yF,F0,W16.ls,hcq,hs1]
  all_goals repeat' (first|apply yA|intro _)
  all_goals (refine Cv (fun k=>k) (fun _ _=>rfl) ?_ ((f1x v.col.sh).plain fun _ _ h=>h) ?_;focus (first|rfl|(simp only [go_sem,Ay,Int.reduceTMod,Int.reduceTDiv,yF,F0,W16.ls,hcq,hs1]<;>rfl)))
  all_goals (rintro v m ⟨hR,hm⟩;subst hR;subst hm)
  all_goals refine yA (by first|rfl|simp only [go_sem,Ay,Int.reduceTMod,Int.reduceTDiv,yF,F0,W16.ls,hcq,hs1]) (yA (by first|rfl|simp only [go_sem,Ay,Int.reduceTMod,Int.reduceTDiv,yF,F0,W16.ls,hcq,hs1]) ?_)
  all_goals simp only [go_sem,Ay,Int.reduceTMod,Int.reduceTDiv,yF,F0,W16.ls,hcq,hs1]
  all_goals repeat' (first|apply yA|intro _)
  all_goals (refine Cv (fun k=>k) (fun _ _=>rfl) ?_ ((w0w v.col.sh.col).plain fun _ _ h=>h) ?_;focus (first|rfl|(simp only [go_sem,Ay,Int.reduceTMod,Int.reduceTDiv,yF,F0,W16.ls,hcq,hs1]<;>rfl)))
  all_goals (rintro v m ⟨hR,hm⟩;subst hR;subst hm)
  all_goals refine yA (by first|rfl|simp only [go_sem,Ay,Int.reduceTMod,Int.reduceTDiv,yF,F0,W16.ls,hcq,hs1]) (yA (by first|rfl|simp only [go_sem,Ay,Int.reduceTMod,Int.reduceTDiv,yF,F0,W16.ls,hcq,hs1]) ?_)
  all_goals simp only [go_sem,Ay,Int.reduceTMod,Int.reduceTDiv,yF,F0,W16.ls,hcq,hs1]
  all_goals repeat' (first|apply yA|intro _)
  refine zhK _ ?_
  refine zbn _ ?_;clear zbn zbx zbr zbi
  refine zhN _ ?_;clear zhN zhM
  refine Cw fun zK zhK=>?_
  simp only [go_sem,Ay,Int.reduceTMod,Int.reduceTDiv,yF,F0,W16.ls,hcq,hs1]
  repeat' (first|apply yA|intro _)
  refine zhK _ ?_
  refine zhN ⟨k+1,hlt⟩ _ ?_ ?_ ?_
  ·(exact yP hlt (yQ k))
  ·(simp only [go_sem,leX,yB,yC];try simp)
  (simp only [a0j,hv,go_sem,leX,yB,yC];first|done|rfl|(simp [a0j,hv,leX,look];done))
 obtain rfl:k=10:=by omega
 have hcq:¬((10:Nat):Int)<10:=by omega
 obtain ⟨v,hv⟩: ∃ v,a0j 10 Wi=v:=⟨_,rfl⟩
 simp only [hv]
 iterate 15 first
  |(refine Lj fun zK zhK=>?_;simp only [go_sem,Ay,Int.reduceTMod,Int.reduceTDiv,yF,F0,hcq];(repeat' (first|apply yA|intro _)))
  |refine zhK _ ?_
  |(refine zhM _ _ ?_;clear zhN zhM)
  |refine Jv ?_
  |(refine zbx _ ?_;clear zbn zbx zbr zbi)
  |(refine zhN _ ?_;clear zhN zhM)
  |refine Cj fun zB zbn zbx zbr zbi=>?_
  |refine Fw fun zN zM zhN zhM=>?_
  |(refine Dk ?_ ?_;focus (first|rfl|(simp [go_sem,Ay,Int.reduceTMod,Int.reduceTDiv,yF,F0,hcq];done)))
 refine Bv [0,1,2,3,5,7,9,14,15,16,17,18,19,20,21,22,23,24,25,26,27,28,29,30,31,32,33,34,35,36,37,38,39,40,41,42,43,44,45,46,47,48,49,50,51] ?_
 simp only [Bj,Cx,Bq,yI,yK,Nat.reduceBEq,beq_self_eq_true,yS,yV,yY,yT,yE,reduceIte]
 refine Uw (fun y=>[(52,.w (.one (.pl (.i ((y.1.1:Nat):Int))))),(11,.w (.one (.pl (.str y.1.2))))]) (fun y=>[(10,⟨false,Jy v.l⟩),(8,⟨false,Jy Wi.l⟩)]) (fun y=>16-y.1.1) (⟨(0,[]),xA _,rfl,by simp⟩:{y:Nat×List UInt8//y.1≤16∧y.2.length=4*y.1∧y.2++e1v (v.l.drop y.1) (Wi.l.drop y.1)=e1v v.l Wi.l}) ?_ ?_ ?_
 ·(simp only [go_sem,leX,yB,yC];try simp)
 ·(simp only [go_sem,leX,yB,yC];first|done|rfl|(rw [←hrW];simp [W16.ls,W16.l,Jy,p2f,leX,look];done))
 intro yy zN zM zhN zhM
 simp only [yB,yC]
 obtain ⟨⟨i,q⟩,hi,hq,hz⟩:=yy
 simp only at hi hq hz
 have hvl:v.l.length=16:=rfl
 have hwl:Wi.l.length=16:=rfl
 rcases yZ i 16 with hlt|hge
 ·obtain ⟨a,ha⟩: ∃ a,v.l.getD i 0=a:=⟨_,rfl⟩
  obtain ⟨b,hb⟩: ∃ b,Wi.l.getD i 0=b:=⟨_,rfl⟩
  have hl1:=a0t v.l
  have hl2:=a0t Wi.l
  rw [hvl] at hl1
  rw [hwl] at hl2
  have hij:i/4*4+i%4=i:=by omega
  have two: ∀ l:List UInt32,l.length=16→List.take 1 (List.drop (i%4) (List.take 4 (List.drop (i/4*4) (Jy l))))=[.pl (.u32 (l.getD i 0))]:=fun l hl=>by
   rw [List.drop_take,List.take_take,wO,hij,vD (by omega),d0e (by omega)]
  have h1:=two v.l hvl
  have h2:=two Wi.l hwl
  rw [ha] at h1
  rw [hb] at h2
  have hda:=d0s (l:=v.l) (j:=i) (by omega)
  have hdb:=d0s (l:=Wi.l) (j:=i) (by omega)
  rw [ha] at hda
  rw [hb] at hdb
  rw [hda,hdb,e1v] at hz
  have hcq:((i:Nat):Int)<16:=by omega
  have htd:((i:Nat):Int).tdiv 4=((i/4:Nat):Int):=rfl
  have htm:((i:Nat):Int).tmod 4=((i%4:Nat):Int):=rfl
  have d0:(0:Int)≤((i/4:Nat):Int)∧((i/4:Nat):Int)<4∧(0:Int)≤((i%4:Nat):Int)∧((i%4:Nat):Int)<4:=by omega
  have d1:i/4*4+4≤16∧i%4+1≤4:=by omega
  have hml:q.length+4≤9223372036854775807:=by omega
  obtain ⟨hs1,hw4⟩:Go.RowKit.wrap64 (((i:Nat):Int)+1)=((i+1:Nat):Int)∧Go.RowKit.wrap64 (((i/4:Nat):Int))=((i/4:Nat):Int):=⟨Gy (by omega) (by omega),Gy rfl (by omega)⟩
  have F156:=yA h1<|yA h2<|yA hl1<|yA hl2<|yA hcq<|yA htd<|yA htm<|yA d0<|yA d1<|yA hml<|yA hs1<|hw4
  refine Lj fun zK zhK=>?_
  simp only [go_sem,Ay,Int.reduceTMod,Int.reduceTDiv,yF,F0,hcq,F156]
  repeat' (first|apply yA|intro _)
  refine zhK _ ?_
  refine Fw fun zN zM zhN zhM=>?_
  (refine Dw ?_ ?_;focus (first|rfl|(simp [go_sem,Ay,Int.reduceTMod,Int.reduceTDiv,yF,F0,hcq,F156];done)))
  refine Gq ?_
  refine zhN _ ?_;clear zhN zhM
  refine Fw fun zN zM zhN zhM=>?_
  refine Cj fun zB zbn zbx zbr zbi=>?_
  refine Lj fun zK zhK=>?_
  simp only [go_sem,Ay,Int.reduceTMod,Int.reduceTDiv,yF,F0,hcq,F156]
  repeat' (first|apply yA|intro _)
  refine zhK _ ?_
  refine Sk (id:=17) [55,56,57,58,59,60,61,62,63,64,65,66,67,68,69,70,71,72,73,11] [0,0,2,0,8,6,62,126,0,256,0,1024,768,7936,16128,32766,65534,131070,262143,524287] [] mixed (by kernel_rfl) (by simp only [go_sem]) fun zK zhK=>?_
  simp only [go_sem,Ay,Int.reduceTMod,Int.reduceTDiv,yF,F0,hcq,F156]
  repeat' (first|apply yA|intro _)
  all_goals refine Ck (fun k=>k) _ [] (fun _ _=>rfl) (by first|rfl|(simp only [go_sem,Ay,Int.reduceTMod,Int.reduceTDiv,yF,F0,hcq,F156]<;>rfl)) ((j1l _ 4 (by decide)).plain fun _ _ h=>h) ?_ ?_
  all_goals try (refine yA ?_ (yA ?_ (yA ?_ ?_))<;>first|rfl|simp only [go_sem])
  all_goals simp only [go_sem,Ay,Int.reduceTMod,Int.reduceTDiv,yF,F0,hcq,F156]
  all_goals repeat' (first|apply yA|intro _)
  refine zhK _ _ trivial ?_
  refine zbn _ ?_;clear zbn zbx zbr zbi
  refine zhN _ ?_;clear zhN zhM
  refine Cw fun zK zhK=>?_
  simp only [go_sem,Ay,Int.reduceTMod,Int.reduceTDiv,yF,F0,hcq,F156]
  repeat' (first|apply yA|intro _)
  refine zhK _ ?_
  refine zhN ⟨(i+1,q++Mq (a+b).toUInt64 4),hlt,by simp [Ay,hq,vZ],by rw [←hz,wM]⟩ _ ?_ ?_ ?_
  ·(exact yP hlt (yQ i))
  ·(simp only [go_sem,leX,yB,yC];try simp)
  (simp only [go_sem,leX,yB,yC];try simp)
 obtain rfl:i=16:=by omega
 have hcq:¬((16:Nat):Int)<16:=by omega
 have hfin:q=a0c Wi:=by
  rw [a0c,hv,←hz,xY (by omega)];simp [e1v]
 have hq64:q.length=64:=by omega
 have htk:List.take 64 q=q:=xE (by omega)
 have hdr:List.drop 64 (List.replicate 64 (0:UInt8))=[]:=rfl
 have hmi:min 64 64=64:=rfl
 have F163:=yA hcq<|yA hq64<|yA htk<|yA hdr<|hmi
 refine Lj fun zK zhK=>?_
 simp only [go_sem,Ay,Int.reduceTMod,Int.reduceTDiv,yF,F0,hcq,F163]
 repeat' (first|apply yA|intro _)
 refine zhK _ ?_
 refine Fw fun zN zM zhN zhM=>?_
 (refine Dk ?_ ?_;focus (first|rfl|(simp [go_sem,Ay,Int.reduceTMod,Int.reduceTDiv,yF,F0,hcq,F163];done)))
 refine Jv ?_
 refine zhM _ _ ?_;clear zhN zhM
 refine zhM _ _ ?_;clear zhN zhM
 refine zbx _ ?_;clear zbn zbx zbr zbi
 refine zhN _ ?_;clear zhN zhM
 refine Lj fun zK zhK=>?_
 simp only [go_sem,Ay,Int.reduceTMod,Int.reduceTDiv,yF,F0,hcq,F163]
 repeat' (first|apply yA|intro _)
 refine zhK _ ?_
 refine Fw fun zN zM zhN zhM=>?_
 refine m0e (id:=20) [75,76,77] (by simp only [go_sem]) fun zK zhK=>?_
 simp only [go_sem,Ay,Int.reduceTMod,Int.reduceTDiv,yF,F0,hcq,F163]
 repeat' (first|apply yA|intro _)
 refine zhK _ _ ?_
 refine zhN _ ?_;clear zhN zhM
 refine Lj fun zK zhK=>?_
 simp only [go_sem,Ay,Int.reduceTMod,Int.reduceTDiv,yF,F0,hcq,F163]
 repeat' (first|apply yA|intro _)
 refine zhK _ ?_
 refine Tk ?_
 refine zhZ _ _ ?_
 simp only [go_sem,Ay,Int.reduceTMod,Int.reduceTDiv,yF,F0,hcq,F163]
 all_goals (first|(rw [hfin];done)|(rw [hfin];rfl))
end Go.Sy
namespace Go.Sy
open Go.Proofs
attribute [local irreducible] Bw HT Aj Jk onC onE onO onG goV goA goS Lx Bz
def f0y (f:Nat→UInt8):Nat→List UInt8→List UInt8
 |_,[]=>[]
 |n,x::l=>(x^^^f n)::f0y f (n+1) l
theorem Pj (f:Nat→UInt8): ∀ (l:List UInt8) (n:Nat),(f0y f n l).length=l.length
 | [],_=>rfl
 |x::l,n=>by simp [f0y,Pj f l]
theorem e1w (f:Nat→UInt8): ∀ (l:List UInt8) (n i:Nat),i<l.length→(f0y f n l)[i]? =some (l.getD i 0^^^f (n+i))
 | [],_,i,h=>by simp at h
 |x::l,n,0,h=>by simp [f0y]
 |x::l,n,i+1,h=>by
  simp only [f0y,List.getElem?_cons_succ]
  rw [e1w f l (n+1) i (by simpa using h)]
  simp only [List.getD_cons_succ]
  rw [show n+1+i=n+(i+1) from by omega]
theorem h0o (f:Nat→UInt8): ∀ (a b:List UInt8) (n:Nat),f0y f n (a++b)=f0y f n a++f0y f (n+a.length) b
 | [],b,n=>by simp [f0y]
 |x::a,b,n=>by
  simp only [yB,f0y,h0o f a b,xD]
  rw [show n+1+a.length=n+(a.length+1) from by omega]
def e0v (f:Nat→UInt8) (b:List UInt8) (i:Nat):List UInt8:=(f0y f 0 b).take i++b.drop i
theorem b0i {f:Nat→UInt8} {b:List UInt8} {i:Nat} (h:i≤b.length):(e0v f b i).length=b.length:=by
 simp only [e0v,yG,yH,yU,Pj];omega
theorem s0t (f:Nat→UInt8) (b:List UInt8):e0v f b 0=b:=by simp [e0v]
theorem o1o (f:Nat→UInt8) (b:List UInt8):e0v f b b.length=f0y f 0 b:=by
 rw [e0v,List.drop_length,wY,xE (by rw [Pj];exact xL _)]
theorem o1n {f:Nat→UInt8} {b:List UInt8} {i:Nat} (h:i<b.length):(e0v f b i).getD i 0=b.getD i 0:=by
 have ht:((f0y f 0 b).take i).length=i:=by rw [yH,Pj];omega
 rw [e0v,List.getD,vP (by omega),ht,Nat.sub_self,uG,vB];rfl
theorem o1m {f:Nat→UInt8} {b:List UInt8} {i:Nat} (h:i<b.length):(e0v f b i).set i (b.getD i 0^^^f i)=e0v f b (i+1):=by
 have ht:((f0y f 0 b).take i).length=i:=by rw [yH,Pj];omega
 have hx:=e1w f b 0 i h
 rw [xV] at hx
 obtain ⟨hlt,e⟩:=wL.mp hx
 rw [e0v,e0v,List.set_append_right _ _ (by omega),ht,Nat.sub_self,xM h,List.set_cons_zero,wI hlt,e]
 simp
theorem Lv {q:List UInt8} {i:Nat} (h:i<q.length):List.take 1 (List.drop i q)=[q.getD i 0]:=by
 rw [xM h,wE,wH]
 simp [List.getD,yO h]
theorem Fj (x:UInt8):Az [x]=[.pl (.u8 x)]:=rfl
def ksB (key:List UInt8) (counter:UInt32) (nonce:List UInt8) (i:Nat):UInt8:=(a0c (e0e key (counter+UInt32.ofNat (i/64)) nonce)).getD (i%64) 0
def u0d (key:List UInt8) (counter:UInt32) (nonce b:List UInt8):List UInt8:=f0y (ksB key counter nonce) 0 b
def byV (bs:List UInt8) (e:Int) (v:V) (m:List (Nat×Ob)):Prop:=v=.tup [.one (.pl (.R false 1 (Av bs))),.one (.pl (.i e))]∧m=[]
theorem r1x {a a':L} {b:W} (h: ∀ d y,a.den d y→a'.den d y) (d:Va) (y:Value) (hv:(V.tup [.one a,b]).den d y):(V.tup [.one a',b]).den d y:=by
 obtain ⟨vs,rfl,hv⟩:=hv
 refine ⟨vs,rfl,?_⟩
 generalize vs.toList=l at hv
 cases hv with
 |cons h1 h2=>exact .cons (h d _ h1) h2
theorem k0l {ex:Bool} {sz:Nat} {rows:List (List PL)} (d:Va) (y:Value) (h:(L.pl (.R ex sz rows)).den d y):(L.pl (.R false sz rows)).den d y:=by
 simp only [L.den] at h ⊢
 rw [PL.den] at h ⊢
 rcases h with h|⟨blk,off,cap,h1,h2,h3,h4,h5⟩|⟨a,cap,h1,h2,h3,h4⟩
 ·exact .inl h
 ·exact .inr (.inl ⟨blk,off,cap,h1,h2,h3,fun h=>(by cases h),h5⟩)
 exact .inr (.inr ⟨a,cap,h1,h2,h3,fun h=>(by cases h)⟩)
theorem b2l {e:Int} {m:List (Nat×Ob)} {sz:Nat} {ex:Bool}:Told (byV [] e) (.tup [.one (.pl (.R ex sz [])),.one (.pl (.i e))]) m:=
 i0w (r1x (a':=.pl (.R false 1 (Av []))) fun d y h=>k0l d y (r0d h)) (told_plain rfl ⟨rfl,rfl⟩)
theorem i2e {e:Int} {m:List (Nat×Ob)} {ex:Bool} (l:List UInt8):Told (byV l e) (.tup [.one (.pl (.R ex 1 (Av l))),.one (.pl (.i e))]) m:=
 i0w (r1x fun d y h=>k0l d y h) (told_plain rfl ⟨rfl,rfl⟩)
theorem r1y {k n:Nat} {e:Int} {m:List (Nat×Ob)} {b:Bool} {l:List UInt8} (hk:look m k=some ⟨b,Az l⟩) (hn:n=l.length) (hlt:k<500000:=by decide):Told (byV l e) (.tup [.one (.s k [] n 1),.one (.pl (.i e))]) m:=by
 refine c0e k (l.map .u8) (by rw [hk,Uz]) hlt ?_
 simp only [r0q,yL,vO,x0v,g0d hn,u0h]
 exact told_plain rfl ⟨rfl,rfl⟩
def byO (l:List UInt8) (e:Int) (v:V) (m:List (Nat×Ob)):Prop:=v=.tup [.one (.s 0 [] l.length 1),.one (.pl (.i e))]∧m=[(0,⟨true,Az l⟩)]
theorem v0y {m:List (Nat×Ob)} {j n:Nat} {e:Int} {l:List UInt8} (hn:n=l.length) (h:look m j=some ⟨true,Az l⟩) (hj:j<500000:=by decide):Told (byO l e) (.tup [.one (.s j [] n 1),.one (.pl (.i e))]) m:=
 Zw ⟨only j,.tup [.one (.s 0 [] l.length 1),.one (.pl (.i e))],[(0,⟨true,Az l⟩)],by rw [hn];rfl,f0z h hj,rfl,rfl⟩
theorem k2l (key:List UInt8) (hk:key.length=32) (counter:UInt32) (nonce:List UInt8) (hn:nonce.length=12) (b:List UInt8) (ex:Bool) (hb:¬1600<b.length) (ho:64*(4294967296-counter.toNat)<b.length):
 Ct Tryz.prog 33 [.w (.agg (Az key)),.w (.one (.pl (.u32 counter))),.w (.agg (Az nonce)),.w (.one (.pl (.R ex 1 (Av b))))] (Told (byV [] 11)):=by
 have h1:¬(1600:Int)<((b.length:Nat):Int):=by omega
 have hc:=counter.toNat_lt
 have htd:((b.length+63:Nat):Int).tdiv 64=(((b.length+63)/64:Nat):Int):=rfl
 have hlt:(((4294967296-counter.toNat:Nat):Int)<(((b.length+63)/64:Nat):Int)):=by omega
 have hl2:((64*(4294967296-counter.toNat):Nat):Int)<((b.length:Nat):Int):=by omega
 obtain ⟨hw1,hw2,hw3,hw4⟩:Go.RowKit.wrap64 (((b.length:Nat):Int)+63)=((b.length+63:Nat):Int)∧Go.RowKit.wrap64 (4294967296-((counter.toNat:Nat):Int))=((4294967296-counter.toNat:Nat):Int)∧Go.RowKit.wrap64 ((((b.length+63)/64:Nat):Int))=(((b.length+63)/64:Nat):Int)∧Go.RowKit.wrap64 (64*((4294967296-counter.toNat:Nat):Int))=((64*(4294967296-counter.toNat):Nat):Int):=⟨Gy (by omega) (by omega),Gy (by omega) (by omega),Gy rfl (by omega),Gy (by omega) (by omega)⟩
 have F0:=yA hk<|yA hn<|yA h1<|yA htd<|yA hlt<|yA hl2<|yA hw1<|yA hw2<|yA hw3<|hw4
 refine Ct.go Tryz.func33 rfl Tryz.ntmps33 Tryz.results33 fun w0 ro zZ zhY=>?_
 refine (fun zX=>goW) ?_
 refine zhY _ _ ?_
 simp only [go_sem,F0]
 all_goals (exact b2l)
theorem u1g (key:List UInt8) (hk:key.length=32) (counter:UInt32) (nonce:List UInt8) (hn:nonce.length=12) (b:List UInt8) (ex:Bool) (hb:¬1600<b.length) (ho:¬64*(4294967296-counter.toNat)<b.length):
 Ct Tryz.prog 33 [.w (.agg (Az key)),.w (.one (.pl (.u32 counter))),.w (.agg (Az nonce)),.w (.one (.pl (.R ex 1 (Av b))))] (Told (byO (u0d key counter nonce b) 0)):=by
 obtain ⟨f,hf⟩: ∃ f,ksB key counter nonce=f:=⟨_,rfl⟩
 have hcap:b.length≤140737488355328:=by omega
 have h1:¬(1600:Int)<((b.length:Nat):Int):=by omega
 have hc:=counter.toNat_lt
 have htd:((b.length+63:Nat):Int).tdiv 64=(((b.length+63)/64:Nat):Int):=rfl
 have hlt:¬(((4294967296-counter.toNat:Nat):Int)<(((b.length+63)/64:Nat):Int)):=by omega
 have hl2:¬((64*(4294967296-counter.toNat):Nat):Int)<((b.length:Nat):Int):=by omega
 obtain ⟨hw1,hw2,hw3,hw4⟩:Go.RowKit.wrap64 (((b.length:Nat):Int)+63)=((b.length+63:Nat):Int)∧Go.RowKit.wrap64 (4294967296-((counter.toNat:Nat):Int))=((4294967296-counter.toNat:Nat):Int)∧Go.RowKit.wrap64 ((((b.length+63)/64:Nat):Int))=(((b.length+63)/64:Nat):Int)∧Go.RowKit.wrap64 (64*((4294967296-counter.toNat:Nat):Int))=((64*(4294967296-counter.toNat):Nat):Int):=⟨Gy (by omega) (by omega),Gy (by omega) (by omega),Gy rfl (by omega),Gy (by omega) (by omega)⟩
 have F0:=yA hk<|yA hn<|yA h1<|yA htd<|yA hlt<|yA hl2<|yA hw1<|yA hw2<|yA hw3<|yA hw4<|yA hcap<|@xV
 refine Ct.go Tryz.func33 rfl Tryz.ntmps33 Tryz.results33 fun w0 ro zZ zhY=>?_
 refine (fun zX=>goW) ?_
 refine Bv [0,2,3,14,15,16,17,18,19,20,21,22,23,24,25,26,27] ?_
 simp only [Bj,Cx,Bq,yI,yK,Nat.reduceBEq,beq_self_eq_true,yS,yV,yY,yT,yE,reduceIte]
 refine Gx (fun y=>[(11,.w (.one (.pl (.i ((64*y.1:Nat):Int)))))]) (fun y=>[(25,⟨true,Az (e0v f b (min (64*y.1) b.length))⟩)]) (fun y=>b.length-64*y.1) (⟨0,xA _⟩:{y:Nat//y≤26}) ?_ (by (simp only [go_sem,leX,yB,yC];try simp)) (by (simp only [s0t,Nat.mul_zero,Nat.zero_min,go_sem,leX,yB,yC];try simp [s0t]))
 intro ⟨j,hj⟩ xN0 xM0 xhN0 xhM0
 simp only [yB,yC]
 rcases yZ (64*j) b.length with hlt1|hge1
 ·have hmj:min (64*j) b.length=64*j:=by clear hw1 hw2 hw3 hw4 F0;omega
  have hpl0:=b0i (f:=f) (b:=b) (i:=64*j) (by clear hw1 hw2 hw3 hw4 F0;omega)
  simp only [hmj]
  have hcq:((64*j:Nat):Int)<((b.length:Nat):Int):=by clear hw1 hw2 hw3 hw4 F0;omega
  obtain ⟨kb,hkb⟩: ∃ kb,a0c (e0e key (counter+UInt32.ofNat j) nonce)=kb:=⟨_,rfl⟩
  have hkl:kb.length=64:=by rw [←hkb];exact a0p _
  have htd2:((64*j:Nat):Int).tdiv 64=((j:Nat):Int):=by rw [show ((64*j:Nat):Int).tdiv 64=((64*j/64:Nat):Int) from rfl];omega
  have hu:UInt32.ofNat (((j:Nat):Int)%4294967296).toNat=UInt32.ofNat j:=by rw [show (((j:Nat):Int)%4294967296).toNat=j from by clear hw1 hw2 hw3 hw4 F0;omega]
  obtain ⟨hw7,hw8⟩:Go.RowKit.wrap64 ((j:Nat):Int)=((j:Nat):Int)∧True:=⟨Gy rfl (by clear hw1 hw2 hw3 hw4 F0;omega),trivial⟩
  have F0:=yA hpl0<|yA hcq<|yA hkl<|yA htd2<|yA hu<|yA hkb<|yA hw7<|F0
  have cq:=yA (Ct.cv (block_ key hk (counter+UInt32.ofNat j) nonce hn))<|trivial
  refine (fun zX=>goW) ?_
  refine Gx (fun y=>[(13,.w (.one (.pl (.i ((y.1:Nat):Int)))))]) (fun y=>[(25,⟨true,Az (e0v f b y.1)⟩)]) (fun y=>64*j+64-y.1) (⟨64*j,xL _,by clear hw1 hw2 hw3 hw4 F0 hw7;clear F0;omega⟩:{y:Nat//64*j≤y∧y≤min (64*j+64) b.length}) ?_ (by (simp only [go_sem,leX,yB,yC];try simp)) (by (simp only [hmj,go_sem,leX,yB,yC];try simp))
  intro ⟨i,hi1,hi2⟩ xN1 xM1 xhN1 xhM1
  simp only [yB,yC]
  rcases yZ i (min (64*j+64) b.length) with hlt2|hge2
  ·have hib:i<b.length:=by clear hw1 hw2 hw3 hw4 F0 hw7;clear F0;omega
   have hpl:=b0i (f:=f) (b:=b) (i:=i) (by clear hw1 hw2 hw3 hw4 F0 hw7;clear F0;omega)
   have h1':=Lv (q:=e0v f b i) (i:=i) (by clear hw1 hw2 hw3 hw4 F0 hw7;clear F0;omega)
   rw [o1n hib] at h1'
   have h2':=Lv (q:=kb) (i:=i-64*j) (by clear hw1 hw2 hw3 hw4 F0 hw7;clear F0;omega)
   have hfi:kb.getD (i-64*j) 0=f i:=by
    rw [←hf,←hkb,ksB,show i/64=j from by clear hw1 hw2 hw3 hw4 F0 hw7;clear F0;omega,show i%64=i-64*j from by clear hw1 hw2 hw3 hw4 F0 hw7;clear F0;omega]
   rw [hfi] at h2'
   have hps:=o1m (f:=f) hib
   have hput:=p0a (q:=e0v f b i) (j:=i) (b.getD i 0^^^f i) (by clear hw1 hw2 hw3 hw4 F0 hw7;clear F0;omega)
   rw [hps] at hput
   have hcq2:((i:Nat):Int)<((min (64*j+64) b.length:Nat):Int):=by clear hw1 hw2 hw3 hw4 F0 hw7;clear F0;omega
   have hmn:(if ((b.length:Nat):Int)<((64*j+64:Nat):Int) then ((b.length:Nat):Int) else ((64*j+64:Nat):Int))=((min (64*j+64) b.length:Nat):Int):=by clear hw1 hw2 hw3 hw4 F0 hw7;clear F0;split<;>omega
   have d0:(0:Int)≤((i:Nat):Int)∧((i:Nat):Int)<((b.length:Nat):Int)∧(0:Int)≤((i-64*j:Nat):Int)∧((i-64*j:Nat):Int)<64:=by clear hw1 hw2 hw3 hw4 F0 hw7;clear F0;omega
   have d1:i+1≤b.length∧i-64*j+1≤64:=by clear hw1 hw2 hw3 hw4 F0 hw7;clear F0;omega
   obtain ⟨hs1,hw5,hw6⟩:Go.RowKit.wrap64 (((i:Nat):Int)+1)=((i+1:Nat):Int)∧Go.RowKit.wrap64 (((64*j:Nat):Int)+64)=((64*j+64:Nat):Int)∧Go.RowKit.wrap64 (((i:Nat):Int)-((64*j:Nat):Int))=((i-64*j:Nat):Int):=⟨Gy (by clear hw1 hw2 hw3 hw4 F0 hw7;clear F0;omega) (by clear hw1 hw2 hw3 hw4 F0 hw7;clear F0;omega),Gy (by clear hw1 hw2 hw3 hw4 F0 hw7;clear F0;omega) (by clear hw1 hw2 hw3 hw4 F0 hw7;clear F0;omega),Gy (by clear hw1 hw2 hw3 hw4 F0 hw7;clear F0;omega) (by clear hw1 hw2 hw3 hw4 F0 hw7;clear F0;omega)⟩
   have F0:=yA hpl<|yA h1'<|yA h2'<|yA hput<|yA hcq2<|yA hmn<|yA d0<|yA d1<|yA hkl<|yA @Fj<|yA hs1<|yA hw5<|yA hw6<|F0
   have zd0:DQ 13 [52,53,54,55,56,57,58,59,60,61,62] [0,0,3,7,0,0,48,112,240,511,1023,2047] []:=⟨⟩
   refine (fun zX=>goW) ?_
   refine xhN1 ⟨i+1,Nat.le_succ_of_le hi1,hlt2⟩ _ ?_ ?_ ?_
   ·(exact yP (Nat.lt_of_lt_of_le hlt2 (Nat.min_le_left _ _)) (yQ i))
   ·(simp only [go_sem,leX,yB,yC];try simp)
   (simp only [go_sem,leX,yB,yC];try simp)
  obtain rfl:i=min (64*j+64) b.length:=by clear hw1 hw2 hw3 hw4 F0 hw7;clear F0;omega
  have hpl:=b0i (f:=f) (b:=b) (i:=min (64*j+64) b.length) (by clear hw1 hw2 hw3 hw4 F0 hw7;clear F0;omega)
  have hcq2:¬((min (64*j+64) b.length:Nat):Int)<((min (64*j+64) b.length:Nat):Int):=by clear hw1 hw2 hw3 hw4 F0 hw7;clear F0;omega
  have hmn:(if ((b.length:Nat):Int)<((64*j+64:Nat):Int) then ((b.length:Nat):Int) else ((64*j+64:Nat):Int))=((min (64*j+64) b.length:Nat):Int):=by clear hw1 hw2 hw3 hw4 F0 hw7;clear F0;split<;>omega
  have hjn:64*(j+1)=64*j+64:=by clear hw1 hw2 hw3 hw4 F0 hw7;clear F0;omega
  have hjd:b.length-64*(j+1)<b.length-64*j:=by clear hw1 hw2 hw3 hw4 F0 hw7;clear F0;omega
  obtain ⟨hw5,hw6⟩:Go.RowKit.wrap64 (((64*j:Nat):Int)+64)=((64*j+64:Nat):Int)∧True:=⟨Gy (by clear hw1 hw2 hw3 hw4 F0 hw7;clear F0;omega) (by clear hw1 hw2 hw3 hw4 F0 hw7;clear F0;omega),trivial⟩
  have F0:=yA hpl<|yA hcq2<|yA hmn<|yA hw5<|F0
  refine (fun zX=>goW) ?_
  refine xhN0 ⟨j+1,by clear hw1 hw2 hw3 hw4 F0 hw7;clear F0;omega⟩ _ ?_ ?_ ?_
  ·(exact hjd)
  ·(simp only [hjn,go_sem,leX,yB,yC];try simp)
  (simp only [hjn,go_sem,leX,yB,yC];try simp)
 have hmj:min (64*j) b.length=b.length:=by clear hw1 hw2 hw3 hw4 F0;omega
 have hpl0:=b0i (f:=f) (b:=b) (i:=b.length) (xL _)
 simp only [hmj]
 have hcq:¬((64*j:Nat):Int)<((b.length:Nat):Int):=by clear hw1 hw2 hw3 hw4 F0;omega
 have hfin:e0v f b b.length=u0d key counter nonce b:=by rw [o1o,u0d,hf]
 have F0:=yA hpl0<|yA hcq<|F0
 refine (fun zX=>goW) ?_
 refine zhY _ _ ?_
 simp only [go_sem,F0]
 all_goals (rw [hfin];exact v0y (by simp [u0d,Pj]) (by simp [look]))
end Go.Sy
namespace Go.Sy
namespace Rk
open Go.Proofs
attribute [local irreducible] Bw HT Aj Jk onC onE onO onG goV goA goS Lx Bz
def r2z (l:List UInt8) (v:V) (m:List (Nat×Ob)):Prop:=v=.w (.one (.pl (.R false 1 (Av l))))∧m=[]
theorem d2b {k n:Nat} {m:List (Nat×Ob)} {b:Bool} {l:List UInt8} (hk:look m k=some ⟨b,Az l⟩) (hn:n=l.length) (hlt:k<500000:=by decide):Told (r2z l) (.w (.one (.s k [] n 1))) m:=by
 refine c0e k (l.map .u8) (by rw [hk,Uz]) hlt ?_
 simp only [r0q,x0v,g0d hn]
 exact told_plain rfl ⟨rfl,rfl⟩
theorem q0p {sz:Nat}: ∀ {rows:List (List PL)},(∀ r∈rows,r.length=sz)→chunks sz rows.length rows.flatten=rows
 | [],_=>rfl
 |r::rs,h=>by
  have h1:=h r (by simp)
  rw [xD,chunks,wV,List.take_left' h1,List.drop_left' h1,q0p fun q hq=>h q (by simp [hq])]
theorem h0x {sz:Nat}: ∀ {rows:List (List PL)},(∀ r∈rows,r.length=sz)→rows.flatten.length=rows.length*sz
 | [],_=>by simp
 |r::rs,h=>by
  rw [wV,yG,h r (by simp),h0x fun q hq=>h q (by simp [hq]),xD,wN,Nat.one_mul,vL]
theorem n1i {k n sz:Nat} {rows:List (List PL)} (h: ∀ r∈rows,r.length=sz) (hn:n=rows.length):e0o k rows.flatten (.s k [] n sz)=.pl (.R false sz rows):=by
 subst hn
 simp only [e0o,if_true,rd,pok,psz,h0x h,and_self,q0p h]
theorem q1b {ks:List Gz} (hk: ∀ k∈ks,k.ok): ∀ r∈ks.map b0x,r.length=65:=by
 intro r hr
 obtain ⟨k,h1,rfl⟩:=xG.mp hr
 exact Aq (hk k h1)
def k1m (n:Int):UInt8:=UInt8.ofNat (n%256).toNat
def be4 (n:Int):List UInt8:=[k1m (r0x n 24),k1m (r0x n 16),k1m (r0x n 8),k1m n]
theorem l1c (n:Int):(be4 n).length=4:=rfl
def j0u (key:List UInt8) (last n:Int):List UInt8:=key++(be4 last++be4 n)
theorem m0s {key:List UInt8} (hk:key.length=32) (last n:Int):(j0u key last n).length=40:=by simp [j0u,hk,l1c]
theorem b1v {n:Int} (h:0≤n) (h':n≤1073741824):Go.RowKit.wrap64 (n.tdiv 16777216)=r0x n 24∧Go.RowKit.wrap64 (n.tdiv 65536)=r0x n 16∧Go.RowKit.wrap64 (n.tdiv 256)=r0x n 8:=by
 rw [uH h,uH h,uH h]
 unfold r0x
 rw [Int.fdiv_eq_ediv_of_nonneg _ (by decide),Int.fdiv_eq_ediv_of_nonneg _ (by decide),Int.fdiv_eq_ediv_of_nonneg _ (by decide)]
 refine ⟨?_,?_,?_⟩<;>(unfold Go.RowKit.wrap64;simp;omega)
theorem f0e {n:Int}:inN n=true↔0≤n∧n≤1073741824:=by simp [inN]
def r0w (c:List UInt8):List UInt8:=Bk.r0t c [1]
def r0v (c:List UInt8):List UInt8:=Bk.r0t c [2]
theorem b0k (c:List UInt8):(r0w c).length=32:=Bk.p0o _ _
theorem Zj (c:List UInt8):(r0v c).length=32:=Bk.p0o _ _
theorem q2q (c:List UInt8) (hc:c.length=32):
 CtM Tryz.prog 14 [.w (.agg (Az c))] [(1000002,⟨false,gFi⟩),(1000004,⟨false,Bk.j0h⟩)] (Told (fun v m=>v=.tup [.agg (Az (r0w c)),.agg (Az (r0v c))]∧m=[])):=by
 have hA:=(Bk.s2e c [1] false false (by omega) (by simp)).told
 have hB:=(Bk.s2e c [2] false false (by omega) (by simp)).told
 obtain ⟨k1,hk1⟩: ∃ k,r0w c=k:=⟨_,rfl⟩
 obtain ⟨k2,hk2⟩: ∃ k,r0v c=k:=⟨_,rfl⟩
 rw [show Bk.r0t c [1]=k1 from hk1] at hA
 rw [show Bk.r0t c [2]=k2 from hk2] at hB
 have hl1:k1.length=32:=by rw [←hk1];exact b0k _
 have hl2:k2.length=32:=by rw [←hk2];exact Zj _
 have hch:chunks 1 32 (c.map PL.u8)=Av c:=Gj hc
 rw [hk1,hk2]
 have F0:=yA hc<|yA hl1<|yA hl2<|hch
 refine CtM.go Tryz.func14 rfl Tryz.ntmps14 Tryz.results14 fun w0 ro may fx zZ zhY=>?_
 have cq:=yA hA<|yA (CtM.ch [] (hB) (vw:=true))<|trivial
 have zr0:DS 1:=⟨⟩
 have zq:DP 0 5 [4,5,6,7,8] [0,0,3,0,0,31,63,127] []∧DN 3 8∧True:=⟨⟨⟩,⟨⟩,trivial⟩
 refine (fun zX=>goW) ?_
 refine zhY _ _ ?_
 simp only [go_sem,F0]
 all_goals (exact told_plain (by simp [Dv,Ew,Az]) ⟨rfl,rfl⟩)
theorem n2r (c:List UInt8) (hc:c.length=32):
 CtM Tryz.prog 22 [.w (.agg (Az c))] [(1000003,⟨false,gFi⟩)] (Told (fun v m=>v=.w (.agg (Az (r0w c)))∧m=[])):=by
 have hX:=z0j c hc
 have hM:=(Bk.a2x c [1] (by omega) (by simp)).told
 obtain ⟨k1,hk1⟩: ∃ k,r0w c=k:=⟨_,rfl⟩
 rw [show Bk.r0t c [1]=k1 from hk1] at hM
 have hl1:k1.length=32:=by rw [←hk1];exact b0k _
 rw [hk1]
 have F0:=yA hc<|hl1
 refine CtM.go Tryz.func22 rfl Tryz.ntmps22 Tryz.results22 fun w0 ro may fx zZ zhY=>?_
 have cq:=yA ((hX.plain fun _ _ h=>h))<|yA (CtM.ch [] (hM))<|trivial
 refine (fun zX=>goW) ?_
 refine zhY _ _ ?_
 simp only [go_sem,F0]
 all_goals (exact told_plain (by simp [Dv,Ew,Az]) ⟨rfl,rfl⟩)
theorem e2d (c:List UInt8) (hc:c.length=32):
 CtM Tryz.prog 23 [.w (.agg (Az c))] [(1000003,⟨false,gFi⟩)] (Told (fun v m=>v=.w (.agg (Az (r0v c)))∧m=[])):=by
 have hX:=z0j c hc
 have hM:=(Bk.a2x c [2] (by omega) (by simp)).told
 obtain ⟨k1,hk1⟩: ∃ k,r0v c=k:=⟨_,rfl⟩
 rw [show Bk.r0t c [2]=k1 from hk1] at hM
 have hl1:k1.length=32:=by rw [←hk1];exact Zj _
 rw [hk1]
 have F0:=yA hc<|hl1
 refine CtM.go Tryz.func23 rfl Tryz.ntmps23 Tryz.results23 fun w0 ro may fx zZ zhY=>?_
 have cq:=yA ((hX.plain fun _ _ h=>h))<|yA (CtM.ch [] (hM))<|trivial
 refine (fun zX=>goW) ?_
 refine zhY _ _ ?_
 simp only [go_sem,F0]
 all_goals (exact told_plain (by simp [Dv,Ew,Az]) ⟨rfl,rfl⟩)
theorem i2l (ad hd:List UInt8) (ex1 ex2:Bool) (h:ad.length+hd.length≤140737488355328):
 CtM Tryz.prog 16 [.w (.one (.pl (.R ex1 1 (Av ad)))),.w (.one (.pl (.R ex2 1 (Av hd))))] [] (Told (r2z (ad++hd))):=by
 have h0:ad.length≤140737488355328:=by omega
 have F0:=yA h<|h0
 refine CtM.go Tryz.func16 rfl Tryz.ntmps16 Tryz.results16 fun w0 ro may fx zZ zhY=>?_
 refine (fun zX=>goW) ?_
 refine zhY _ _ ?_
 simp only [go_sem,F0]
 all_goals (exact d2b (b:=true) (l:=ad++hd) (by simp [look]) (by simp))
theorem o2b (root own peer send:List UInt8) (out:Int) (recv:List UInt8) (inn last:Int) (can hear:Bool) (ks:List Gz) (hr:root.length=32) (hw:own.length=32) (hp:peer.length=32) (hs:send.length=32) (hv:recv.length=32) (hk: ∀ k∈ks,k.ok) (h12:ks.length≤12):
 CtM Tryz.prog 17 [.w (.agg (rtC root own peer send out recv inn last can hear ks))] [] (Told (fun v m=>v=.w (.agg (rtC root own peer send out recv inn last can hear ks))∧m=[])):=by
 have hcap:ks.length*72≤140737488355328:=by omega
 have hr65:=q1b hk
 have hfl:=h0x hr65
 rw [xO] at hfl
 have F0:=yA rtC.eq_1<|yA hr<|yA hw<|yA hp<|yA hs<|yA hv<|yA @Aw<|yA hcap<|hfl
 refine CtM.go Tryz.func17 rfl Tryz.ntmps17 Tryz.results17 fun w0 ro may fx zZ zhY=>?_
 refine (fun zX=>goW) ?_
 refine zhY _ _ ?_
 simp only [go_sem,F0]
 all_goals (exact c0e 3 (b:=.b true) (ks.map b0x).flatten (by simp [look]) (by decide) (by simp only [r0q,x0v,xQ,z0g,yL,vO,u0h,n1i hr65 (xO _).symm];exact told_plain (by simp [Dv,Ew,Az]) ⟨by simp [rtC,Az],rfl⟩))
theorem q1g (key:List UInt8) (hk:key.length=32) (last n:Int) (h1:¬last<0) (h2:¬1073741824<last) (h3:¬n<0) (h4:¬1073741824<n):
 CtM Tryz.prog 13 [.w (.agg (Az key++[.pl (.i last),.pl (.i n)]))] [] (Told (byV (j0u key last n) 0)):=by
 have F0:=yA hk<|yA h1<|yA h2<|yA h3<|h4
 refine CtM.k Tryz.func13 rfl Tryz.ntmps13 (congrArg Array.toList Tryz.results13) (by simp) fun w0 ro may fx=>?_
 refine b0q fun zZ zhZ=>?_
 iterate 65 first
  |(refine Ez (x:=.seq (.region 5 _ _) _) [6,35,36,37,38,39,40,41,42,43,44,45,46,47,48,49,50,51] ?_;simp only [go_sem,St.forget,fgt];refine Oz fun zN zM zhN zhM=>?_)
  |refine Oz fun zN zM zhN zhM=>?_
  |refine zhK _ ?_
  |(refine Lj fun zK zhK=>?_;simp only [go_sem,F0];(repeat' (first|apply yA|intro _)))
  |(refine zhN _ ?_;clear zhN zhM)
  |(refine Cw fun zK zhK=>?_;simp only [go_sem,F0];(repeat' (first|apply yA|intro _)))
  |refine Gq ?_
  |refine Cj fun zB zbn zbx zbr zbi=>?_
  |(refine zbn _ ?_;clear zbn zbx zbr zbi)
  |(refine zhM _ _ ?_;clear zhN zhM)
  |refine Jz (x:=.seq (.region 5 _ _) _) 3 ?_
  |refine Jv ?_
  |(refine zbx _ ?_;clear zbn zbx zbr zbi)
  |refine Tk ?_
  |(refine zhZ _ _ ?_;simp only [go_sem,F0];(all_goals (exact r1y (b:=true) (l:=j0u key last n) (by simp [look,j0u,Az,be4,k1m]) (by simp [j0u,be4,hk]))))
  |refine Fw fun zN zM zhN zhM=>?_
  |(refine Dk ?_ ?_;focus (first|rfl|(simp [go_sem,F0];done)))
  |(refine Dw ?_ ?_;focus (first|rfl|(simp [go_sem,F0];done)))
theorem s2p (n:Int) (h:0≤n) (h2:n≤1073741824):
 Ct Tryz.prog 39 [.w (.one (.pl (.i n)))] (fun v m=>v=.w (.one (.pl (.str (be4 n))))):=by
 have F0:=trivial
 refine Ct.go Tryz.func39 rfl Tryz.ntmps39 Tryz.results39 fun w0 ro zZ zhY=>?_
 refine (fun zX=>goW) ?_
 refine zhY _ _ ?_
 simp only [go_sem,F0]
 all_goals (simp only [be4,k1m,(b1v h h2).1,(b1v h h2).2.1,(b1v h h2).2.2])
theorem g2c (key:List UInt8) (hk:key.length=32) (last n:Int) (e1:inN last=true) (e2:inN n=true):
 CtM Tryz.prog 20 [.w (.agg (Az key++[.pl (.i last),.pl (.i n)]))] [] (Told (byV (j0u key last n) 0)):=by
 have u1:=h1y last
 have u2:=h1y n
 rw [e1] at u1
 rw [e2] at u2
 have hX:=z0j key hk
 have b1:=s2p last (f0e.mp e1).1 (f0e.mp e1).2
 have b2:=s2p n (f0e.mp e2).1 (f0e.mp e2).2
 obtain ⟨p,hp⟩: ∃ p,be4 last=p:=⟨_,rfl⟩
 obtain ⟨q,hq⟩: ∃ q,be4 n=q:=⟨_,rfl⟩
 have hpl:p.length=4:=by rw [←hp];rfl
 have hql:q.length=4:=by rw [←hq];rfl
 have hfin:j0u key last n=key++(p++q):=by rw [j0u,hp,hq]
 rw [hp] at b1
 rw [hq] at b2
 rw [hfin]
 have F0:=yA hk<|yA hpl<|hql
 refine CtM.go Tryz.func20 rfl Tryz.ntmps20 Tryz.results20 fun w0 ro may fx zZ zhY=>?_
 have cq:=yA ((u1.plain fun _ _ h=>h))<|yA ((u2.plain fun _ _ h=>h))<|yA ((hX.plain fun _ _ h=>h))<|yA ((b1.plain fun _ _ h=>h))<|yA ((b2.plain fun _ _ h=>h))<|trivial
 have zr0:DS 3:=⟨⟩
 have zq:DP 0 10 [14,15,16,17,18,19,20,21,22,23] [0,1,3,0,8,31,63,0,128,447,1023,2047,4095,8191] []∧DN 4 14∧True:=⟨⟨⟩,⟨⟩,trivial⟩
 refine (fun zX=>goW) ?_
 refine zhY _ _ ?_
 simp only [go_sem,F0]
 all_goals (exact r1y (b:=true) (l:=key++(p++q)) (by simp [look]) (by simp [hk,hpl,hql]))
end Rk
end Go.Sy
