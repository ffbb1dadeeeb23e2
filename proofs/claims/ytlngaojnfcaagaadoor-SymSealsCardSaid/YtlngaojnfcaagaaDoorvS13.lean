/- Walks and what they compute. CONDITIONS: those that each theorem names. -/
import Derived.Test.YtlngaojnfcaagaaDoorvS1
import Derived.Test.YtlngaojnfcaagaaDoorvS2
import Derived.Test.YtlngaojnfcaagaaDoorvS4
import Derived.Test.YtlngaojnfcaagaaDoorvE4
import Derived.Test.YtlngaojnfcaagaaDoorvE3
set_option linter.unusedVariables false
set_option linter.unusedSimpArgs false
set_option maxHeartbeats 1600000
set_option maxRecDepth 100000
namespace Go.Sy
namespace Bk
open Go.Proofs
attribute [local irreducible] Fz HT Cw Oj onC onE onO onG goV goA goS Qv Ey
theorem s1v :UInt64.toNat 2=2:=rfl
theorem s1t :UInt64.toNat 4=4:=rfl
theorem s1s :UInt64.toNat 5=5:=rfl
theorem s1r :UInt64.toNat 7=7:=rfl
theorem s1q :UInt64.toNat 8=8:=rfl
theorem f1f :UInt64.toNat 12=12:=rfl
theorem f1e :UInt64.toNat 14=14:=rfl
theorem f1d :UInt64.toNat 15=15:=rfl
theorem f1c :UInt64.toNat 16=16:=rfl
theorem f1b :UInt64.toNat 24=24:=rfl
theorem e1z :UInt64.toNat 26=26:=rfl
theorem e1y :UInt64.toNat 32=32:=rfl
theorem e1x :UInt64.toNat 40=40:=rfl
theorem e1w :UInt64.toNat 52=52:=rfl
theorem e1v :UInt64.toNat 62=62:=rfl
theorem s1u :UInt64.toNat 256=256:=rfl
attribute [go_sem] s1v s1t s1s s1r s1q f1f f1e f1d f1c f1b e1z e1y e1x e1w e1v s1u
theorem drop_cons {l:List UInt8} {j:Nat} (h:j<l.length):l.drop j=l.getD j 0::l.drop (j+1):=by
 rw [List.drop_eq_getElem_cons h];congr 1;simp [List.getD,List.getElem?_eq_getElem h]
theorem Kv {a:Int} {n:Nat} (h:a=(n:Int)) (hn:n≤9223372036854775807):Go.RowKit.wrap64 a=(n:Int):=by subst h;exact w64 (by omega)
def Hy (x:UInt32) (k:Nat):UInt32:=Qq x k|||a0f x (32-k)
theorem w0e (x:UInt32):
 Ct Tryd.prog 55 [.w (.one (.pl (.u32 x))),.w (.one (.pl (.i (-16))))] (fun v m=>v=.w (.one (.pl (.u32 (Hy x 16))))):=by
 have h1:UInt64.ofNat ((-16:Int)%18446744073709551616).toNat&&&31=16:=rfl
 have h2:(32:UInt64)-16=16:=rfl
 have h3:UInt64.toNat 16=16:=rfl
 have h4:UInt64.toNat 16=16:=rfl
 have F0:=And.intro h1<|And.intro h2<|And.intro h3<|h4
 refine Ct.k Tryd.func55 rfl Tryd.ntmps55 (congrArg Array.toList Tryd.results55) (by simp) fun w0 ro=>?_
 refine Dx fun zZ zhZ=>?_
 iterate 8 first
  |(refine Dz fun zK zhK=>?_;simp only [go_sem,Hy,F0];(repeat' (first|apply And.intro|intro _)))
  |refine zhK _ ?_
  |refine Ck ?_
  |(refine zhZ _ _ ?_;simp only [go_sem,Hy,F0];(all_goals rfl))
theorem m0q (x:UInt32):
 Ct Tryd.prog 65 [.w (.one (.pl (.u32 x))),.w (.one (.pl (.i 16)))] (fun v m=>v=.w (.one (.pl (.u32 (Hy x 16))))):=by
 have h1:Go.RowKit.wrap64 16=16:=w64 (by decide)
 refine Ct.k Tryd.func65 rfl Tryd.ntmps65 (congrArg Array.toList Tryd.results65) (by simp) fun w0 ro=>?_
 refine Dx fun zZ zhZ=>?_
 refine Dz fun zK zhK=>?_
 simp only [go_sem,h1,Hy]
 repeat' (first|apply And.intro|intro _)
 refine zhK _ ?_
 refine d0c (id:=1) [5,6,7,8,9,10,11,12,4] [0,0,3,0,0,16,56,127,255] [] mixed (by kernel_rfl) (by simp only [go_sem]) fun zK zhK=>?_
 simp only [go_sem,h1,Hy]
 repeat' (first|apply And.intro|intro _)
 refine zhK _ _ trivial ?_
 refine Ck ?_
 refine zhZ _ _ ?_
 simp only [go_sem,h1,Hy]
 all_goals rfl
theorem t1q (x:UInt32):
 Ct Tryd.prog 55 [.w (.one (.pl (.u32 x))),.w (.one (.pl (.i (-12))))] (fun v m=>v=.w (.one (.pl (.u32 (Hy x 20))))):=by
 have h1:UInt64.ofNat ((-12:Int)%18446744073709551616).toNat&&&31=20:=rfl
 have h2:(32:UInt64)-20=12:=rfl
 have h3:UInt64.toNat 20=20:=rfl
 have h4:UInt64.toNat 12=12:=rfl
 have F0:=And.intro h1<|And.intro h2<|And.intro h3<|h4
 refine Ct.k Tryd.func55 rfl Tryd.ntmps55 (congrArg Array.toList Tryd.results55) (by simp) fun w0 ro=>?_
 refine Dx fun zZ zhZ=>?_
 iterate 8 first
  |(refine Dz fun zK zhK=>?_;simp only [go_sem,Hy,F0];(repeat' (first|apply And.intro|intro _)))
  |refine zhK _ ?_
  |refine Ck ?_
  |(refine zhZ _ _ ?_;simp only [go_sem,Hy,F0];(all_goals rfl))
theorem i1g (x:UInt32):
 Ct Tryd.prog 65 [.w (.one (.pl (.u32 x))),.w (.one (.pl (.i 20)))] (fun v m=>v=.w (.one (.pl (.u32 (Hy x 20))))):=by
 have h1:Go.RowKit.wrap64 12=12:=w64 (by decide)
 refine Ct.k Tryd.func65 rfl Tryd.ntmps65 (congrArg Array.toList Tryd.results65) (by simp) fun w0 ro=>?_
 refine Dx fun zZ zhZ=>?_
 refine Dz fun zK zhK=>?_
 simp only [go_sem,h1,Hy]
 repeat' (first|apply And.intro|intro _)
 refine zhK _ ?_
 refine d0c (id:=1) [5,6,7,8,9,10,11,12,4] [0,0,3,0,0,16,56,127,255] [] mixed (by kernel_rfl) (by simp only [go_sem]) fun zK zhK=>?_
 simp only [go_sem,h1,Hy]
 repeat' (first|apply And.intro|intro _)
 refine zhK _ _ trivial ?_
 refine Ck ?_
 refine zhZ _ _ ?_
 simp only [go_sem,h1,Hy]
 all_goals rfl
theorem t1p (x:UInt32):
 Ct Tryd.prog 55 [.w (.one (.pl (.u32 x))),.w (.one (.pl (.i (-8))))] (fun v m=>v=.w (.one (.pl (.u32 (Hy x 24))))):=by
 have h1:UInt64.ofNat ((-8:Int)%18446744073709551616).toNat&&&31=24:=rfl
 have h2:(32:UInt64)-24=8:=rfl
 have h3:UInt64.toNat 24=24:=rfl
 have h4:UInt64.toNat 8=8:=rfl
 have F0:=And.intro h1<|And.intro h2<|And.intro h3<|h4
 refine Ct.k Tryd.func55 rfl Tryd.ntmps55 (congrArg Array.toList Tryd.results55) (by simp) fun w0 ro=>?_
 refine Dx fun zZ zhZ=>?_
 iterate 8 first
  |(refine Dz fun zK zhK=>?_;simp only [go_sem,Hy,F0];(repeat' (first|apply And.intro|intro _)))
  |refine zhK _ ?_
  |refine Ck ?_
  |(refine zhZ _ _ ?_;simp only [go_sem,Hy,F0];(all_goals rfl))
theorem i1f (x:UInt32):
 Ct Tryd.prog 65 [.w (.one (.pl (.u32 x))),.w (.one (.pl (.i 24)))] (fun v m=>v=.w (.one (.pl (.u32 (Hy x 24))))):=by
 have h1:Go.RowKit.wrap64 8=8:=w64 (by decide)
 refine Ct.k Tryd.func65 rfl Tryd.ntmps65 (congrArg Array.toList Tryd.results65) (by simp) fun w0 ro=>?_
 refine Dx fun zZ zhZ=>?_
 refine Dz fun zK zhK=>?_
 simp only [go_sem,h1,Hy]
 repeat' (first|apply And.intro|intro _)
 refine zhK _ ?_
 refine d0c (id:=1) [5,6,7,8,9,10,11,12,4] [0,0,3,0,0,16,56,127,255] [] mixed (by kernel_rfl) (by simp only [go_sem]) fun zK zhK=>?_
 simp only [go_sem,h1,Hy]
 repeat' (first|apply And.intro|intro _)
 refine zhK _ _ trivial ?_
 refine Ck ?_
 refine zhZ _ _ ?_
 simp only [go_sem,h1,Hy]
 all_goals rfl
theorem t1o (x:UInt32):
 Ct Tryd.prog 55 [.w (.one (.pl (.u32 x))),.w (.one (.pl (.i (-7))))] (fun v m=>v=.w (.one (.pl (.u32 (Hy x 25))))):=by
 have h1:UInt64.ofNat ((-7:Int)%18446744073709551616).toNat&&&31=25:=rfl
 have h2:(32:UInt64)-25=7:=rfl
 have h3:UInt64.toNat 25=25:=rfl
 have h4:UInt64.toNat 7=7:=rfl
 have F0:=And.intro h1<|And.intro h2<|And.intro h3<|h4
 refine Ct.k Tryd.func55 rfl Tryd.ntmps55 (congrArg Array.toList Tryd.results55) (by simp) fun w0 ro=>?_
 refine Dx fun zZ zhZ=>?_
 iterate 8 first
  |(refine Dz fun zK zhK=>?_;simp only [go_sem,Hy,F0];(repeat' (first|apply And.intro|intro _)))
  |refine zhK _ ?_
  |refine Ck ?_
  |(refine zhZ _ _ ?_;simp only [go_sem,Hy,F0];(all_goals rfl))
theorem i1e (x:UInt32):
 Ct Tryd.prog 65 [.w (.one (.pl (.u32 x))),.w (.one (.pl (.i 25)))] (fun v m=>v=.w (.one (.pl (.u32 (Hy x 25))))):=by
 have h1:Go.RowKit.wrap64 7=7:=w64 (by decide)
 refine Ct.k Tryd.func65 rfl Tryd.ntmps65 (congrArg Array.toList Tryd.results65) (by simp) fun w0 ro=>?_
 refine Dx fun zZ zhZ=>?_
 refine Dz fun zK zhK=>?_
 simp only [go_sem,h1,Hy]
 repeat' (first|apply And.intro|intro _)
 refine zhK _ ?_
 refine d0c (id:=1) [5,6,7,8,9,10,11,12,4] [0,0,3,0,0,16,56,127,255] [] mixed (by kernel_rfl) (by simp only [go_sem]) fun zK zhK=>?_
 simp only [go_sem,h1,Hy]
 repeat' (first|apply And.intro|intro _)
 refine zhK _ _ trivial ?_
 refine Ck ?_
 refine zhZ _ _ ?_
 simp only [go_sem,h1,Hy]
 all_goals rfl
def f2e :List Nat:=[0,1,2,3,4,5,6,7,8,9,10,11,12,13,14,15,14,10,4,8,9,15,13,6,1,12,0,2,11,7,5,3,11,8,12,0,5,2,15,13,10,14,3,6,7,1,9,4,7,9,3,1,13,12,11,14,2,6,5,10,4,0,15,8,9,0,5,7,2,4,10,15,14,1,11,12,6,8,3,13,2,12,6,10,0,11,8,3,4,13,7,5,15,14,1,9,12,5,1,15,14,13,4,10,0,7,6,3,9,2,8,11,13,11,7,14,12,1,3,9,5,0,15,4,8,6,2,10,6,15,14,9,11,3,0,8,12,2,13,7,1,4,10,5,10,2,8,4,7,6,1,5,15,11,9,14,3,12,13,0]
def o1l :List UInt8:=[48,49,50,51,52,53,54,55,56,57,97,98,99,100,101,102,101,97,52,56,57,102,100,54,49,99,48,50,98,55,53,51,98,56,99,48,53,50,102,100,97,101,51,54,55,49,57,52,55,57,51,49,100,99,98,101,50,54,53,97,52,48,102,56,57,48,53,55,50,52,97,102,101,49,98,99,54,56,51,100,50,99,54,97,48,98,56,51,52,100,55,53,102,101,49,57,99,53,49,102,101,100,52,97,48,55,54,51,57,50,56,98,100,98,55,101,99,49,51,57,53,48,102,52,56,54,50,97,54,102,101,57,98,51,48,56,99,50,100,55,49,52,97,53,97,50,56,52,55,54,49,53,102,98,57,101,51,99,100,48]
def f0k (r i:Nat):Nat:=f2e.getD (16*r+i) 0
def f0q :List L:=f2e.map fun (n:Nat)=>L.pl (PL.i (n:Int))
theorem t0v {r i:Nat} (hr:r<10) (hi:i<16):f0k r i<16:=by
 have: ∀ r<10,∀ i<16,f0k r i<16:=by decide+kernel
 exact this r hr i hi
theorem m0k :f0q.length=160:=rfl
theorem u1p {r:Nat} (hr:r<10):List.take 16 (List.drop (r*16) f0q)=[.pl (.i ((f0k r 0:Nat):Int)),.pl (.i ((f0k r 1:Nat):Int)),.pl (.i ((f0k r 2:Nat):Int)),.pl (.i ((f0k r 3:Nat):Int)),.pl (.i ((f0k r 4:Nat):Int)),.pl (.i ((f0k r 5:Nat):Int)),.pl (.i ((f0k r 6:Nat):Int)),.pl (.i ((f0k r 7:Nat):Int)),.pl (.i ((f0k r 8:Nat):Int)),.pl (.i ((f0k r 9:Nat):Int)),.pl (.i ((f0k r 10:Nat):Int)),.pl (.i ((f0k r 11:Nat):Int)),.pl (.i ((f0k r 12:Nat):Int)),.pl (.i ((f0k r 13:Nat):Int)),.pl (.i ((f0k r 14:Nat):Int)),.pl (.i ((f0k r 15:Nat):Int))]:=by
 have:r=0∨r=1∨r=2∨r=3∨r=4∨r=5∨r=6∨r=7∨r=8∨r=9:=by omega
 rcases this with rfl|rfl|rfl|rfl|rfl|rfl|rfl|rfl|rfl|rfl
 all_goals rfl
def d2i (c:UInt8):Nat:=if 97≤c then (c-97).toNat+10 else (c-48).toNat
theorem t0w {r i:Nat} (hr:r<10) (hi:i<16):d2i (o1l.getD (16*r+i) 0)=f0k r i:=by
 have: ∀ r<10,∀ i<16,d2i (o1l.getD (16*r+i) 0)=f0k r i:=by decide+kernel
 exact this r hr i hi
theorem Xw :o1l.length=160:=rfl
theorem a0c :(List.append (List.append ([48,49,50,51,52,53,54,55,56,57,97,98,99,100,101,102,101,97,52,56,57,102,100,54,49,99,48,50,98,55,53,51,98,56,99,48,53,50,102,100]:List UInt8) [97,101,51,54,55,49,57,52,55,57,51,49,100,99,98,101,50,54,53,97,52,48,102,56,57,48,53,55,50,52,97,102,101,49,98,99,54,56,51,100]) (List.append ([50,99,54,97,48,98,56,51,52,100,55,53,102,101,49,57,99,53,49,102,101,100,52,97,48,55,54,51,57,50,56,98,100,98,55,101,99,49,51,57]:List UInt8) [53,48,102,52,56,54,50,97,54,102,101,57,98,51,48,56,99,50,100,55,49,52,97,53,97,50,56,52,55,54,49,53,102,98,57,101,51,99,100,48]))=o1l:=rfl
theorem u1o (r i:Nat) (hr:r<10) (hi:i<16) (hq:97≤o1l.getD (16*r+i) 0):
 Ct Tryd.prog 64 [.w (.one (.pl (.i (r:Int)))),.w (.one (.pl (.i (i:Int))))] (fun v m=>v=.w (.one (.pl (.i ((f0k r i:Nat):Int))))):=by
 obtain ⟨c,hc⟩: ∃ c,o1l.getD (16*r+i) 0=c:=⟨_,rfl⟩
 have hd:=t0w hr hi
 rw [hc] at hd hq
 have hw:Go.RowKit.wrap64 (16*((r:Nat):Int))=((16*r:Nat):Int):=Kv (by omega) (by omega)
 have hw2:Go.RowKit.wrap64 (((16*r:Nat):Int)+((i:Nat):Int))=((16*r+i:Nat):Int):=Kv (by omega) (by omega)
 have g0:(0:Int)≤((16*r+i:Nat):Int):=by omega
 have g1:((16*r+i:Nat):Int)<160:=by omega
 have hx:=c.toNat_lt
 have hS:=hc
 have hun:f0k r i=(c-97).toNat+10:=by rw [←hd,d2i,if_pos hq]
 have hz:=(c-97).toNat_lt
 have hw3:Go.RowKit.wrap64 ((((c-97).toNat:Nat):Int)+10)=(((c-97).toNat+10:Nat):Int):=Kv (by omega) (by omega)
 have F0:=And.intro hS<|And.intro hw<|And.intro hw2<|And.intro g0<|And.intro g1<|And.intro hq<|And.intro hw3<|hun
 refine Ct.k Tryd.func64 rfl Tryd.ntmps64 (congrArg Array.toList Tryd.results64) (by simp) fun w0 ro=>?_
 refine Dx fun zZ zhZ=>?_
 iterate 13 first
  |(refine Dz fun zK zhK=>?_;simp only [go_sem,a0c,Xw,F0];(repeat' (first|apply And.intro|intro _)))
  |refine zhK _ ?_
  |refine Ck ?_
  |(refine zhM _ _ ?_;clear zhN zhM)
  |(refine zhZ _ _ ?_;simp only [go_sem,a0c,Xw,F0];(all_goals rfl))
  |refine Bq fun zN zM zhN zhM=>?_
  |(refine Bz ?_ ?_;focus (first|rfl|(simp [go_sem,a0c,Xw,F0];done)))
theorem u1n (r i:Nat) (hr:r<10) (hi:i<16) (hq:¬97≤o1l.getD (16*r+i) 0):
 Ct Tryd.prog 64 [.w (.one (.pl (.i (r:Int)))),.w (.one (.pl (.i (i:Int))))] (fun v m=>v=.w (.one (.pl (.i ((f0k r i:Nat):Int))))):=by
 obtain ⟨c,hc⟩: ∃ c,o1l.getD (16*r+i) 0=c:=⟨_,rfl⟩
 have hd:=t0w hr hi
 rw [hc] at hd hq
 have hw:Go.RowKit.wrap64 (16*((r:Nat):Int))=((16*r:Nat):Int):=Kv (by omega) (by omega)
 have hw2:Go.RowKit.wrap64 (((16*r:Nat):Int)+((i:Nat):Int))=((16*r+i:Nat):Int):=Kv (by omega) (by omega)
 have g0:(0:Int)≤((16*r+i:Nat):Int):=by omega
 have g1:((16*r+i:Nat):Int)<160:=by omega
 have hx:=c.toNat_lt
 have hS:=hc
 have hun:f0k r i=(c-48).toNat:=by rw [←hd,d2i,if_neg hq]
 have F0:=And.intro hS<|And.intro hw<|And.intro hw2<|And.intro g0<|And.intro g1<|And.intro hq<|hun
 refine Ct.k Tryd.func64 rfl Tryd.ntmps64 (congrArg Array.toList Tryd.results64) (by simp) fun w0 ro=>?_
 refine Dx fun zZ zhZ=>?_
 iterate 14 first
  |(refine Dz fun zK zhK=>?_;simp only [go_sem,a0c,Xw,F0];(repeat' (first|apply And.intro|intro _)))
  |refine zhK _ ?_
  |refine Cq ?_
  |(refine zhN _ ?_;clear zhN zhM)
  |refine Ck ?_
  |(refine zhZ _ _ ?_;simp only [go_sem,a0c,Xw,F0];(all_goals rfl))
  |refine Bq fun zN zM zhN zhM=>?_
  |(refine Bj ?_ ?_;focus (first|rfl|(simp [go_sem,a0c,Xw,F0];done)))
theorem a2z (r i:Nat) (hr:r<10) (hi:i<16):Ct Tryd.prog 64 [.w (.one (.pl (.i (r:Int)))),.w (.one (.pl (.i (i:Int))))] (fun v m=>v=.w (.one (.pl (.i ((f0k r i:Nat):Int))))):=by
 by_cases hq:97≤o1l.getD (16*r+i) 0
 · exact u1o r i hr hi hq
 · exact u1n r i hr hi hq
end Bk
end Go.Sy
namespace Go.Sy
namespace Bk
open Go.Proofs
attribute [local irreducible] Fz HT Cw Oj onC onE onO onG goV goA goS Qv Ey
def ma1 (a b x:UInt32):UInt32:=a+(b+x)
def md1 (a b d x:UInt32):UInt32:=Hy (d^^^ma1 a b x) 16
def mc1 (a b c d x:UInt32):UInt32:=c+md1 a b d x
def mb1 (a b c d x:UInt32):UInt32:=Hy (b^^^mc1 a b c d x) 20
def mA (a b c d x y:UInt32):UInt32:=ma1 a b x+(mb1 a b c d x+y)
def mD (a b c d x y:UInt32):UInt32:=Hy (md1 a b d x^^^mA a b c d x y) 24
def mC (a b c d x y:UInt32):UInt32:=mc1 a b c d x+mD a b c d x y
def mB (a b c d x y:UInt32):UInt32:=Hy (mb1 a b c d x^^^mC a b c d x y) 25
def o0g (q:List UInt32) (a b c d:Nat) (x y:UInt32):List UInt32:=r1f Hy (y1p (r1f Hy (l1k (r1f Hy (y1p (r1f Hy (l1k q a b x) d a 16) c d) b c 20) a b y) d a 24) c d) b c 25
theorem r0e (q:List UInt32) (a b c d:Nat) (x y:UInt32):(o0g q a b c d x y).length=q.length:=by simp only [o0g,e0q,f0i,i0o]
theorem e2i (q:List UInt32) (hq:q.length=16) (a b c d:Nat) (ha:a<16) (hb:b<16) (hc:c<16) (hd:d<16) (x y:UInt32):
 CtM Tryd.prog 54 [.w (.one (.pl (.i (a:Int)))),.w (.one (.pl (.i (b:Int)))),.w (.one (.pl (.i (c:Int)))),.w (.one (.pl (.i (d:Int)))),.w (.one (.pl (.u32 x))),.w (.one (.pl (.u32 y))),.w (.one (.p 500000 []))] [(500000,⟨false,Jq q⟩)] (fun v m=>v=.tup []∧m=[(500000,⟨false,Jq (o0g q a b c d x y)⟩)]):=by
 have ia:=w0t ha
 have ja:a+1≤16:=ha
 have ib:=w0t hb
 have jb:b+1≤16:=hb
 have ic:=w0t hc
 have jc:c+1≤16:=hc
 have id:=w0t hd
 have jd:d+1≤16:=hd
 have F0:=And.intro hq<|And.intro ha<|And.intro ia<|And.intro ja<|And.intro hb<|And.intro ib<|And.intro jb<|And.intro hc<|And.intro ic<|And.intro jc<|And.intro hd<|And.intro id<|And.intro jd<|And.intro u0l<|And.intro @l0w<|And.intro @z1b<|And.intro @z1c<|And.intro (@y1w Hy)<|And.intro i0o<|And.intro f0i<|And.intro e0q<|o0g.eq_1
 have cq:=And.intro (fun x=>Ct.cv (w0e x))<|And.intro (fun x=>Ct.cv (t1q x))<|And.intro (fun x=>Ct.cv (t1p x))<|And.intro (fun x=>Ct.cv (t1o x))<|trivial
 have zF:FG [13,14,15,16,17,18,19,20,21,22,23,24,25,26,27,28,29,30,31,32,33,34,35,36,37,38,39,40,41,42,43,44,45,46,47,48,49,50,51,52,53,54,55,56,57,58,59,60,61,62,63,64,65,66,67,68,69,70,71,72,73,74,75,76,77,78,79,80,81,82,83,84,85,86,87,88]:=trivial
 have zd0:DR 0 [13,14,15,16,17,18,19,20,21,22] [0,1,3,0,8,24,0,120,255,511,1023] []:=trivial
 have zd1:DR 1 [23,24,25,26,27,28,29,30,31,32] [0,0,2,6,0,16,48,126,254,511,1023] []:=trivial
 have zd2:DR 2 [33,34,35,36,37,38,39,40] [0,1,3,0,8,24,63,127,255] []:=trivial
 have zd3:DR 3 [41,42,43,44,45,46,47,48,49,50] [0,0,2,6,0,16,48,126,254,511,1023] []:=trivial
 have zd4:DR 4 [51,52,53,54,55,56,57,58,59,60] [0,1,3,0,8,24,0,120,255,511,1023] []:=trivial
 have zd5:DR 5 [61,62,63,64,65,66,67,68,69,70] [0,0,2,6,0,16,48,126,254,511,1023] []:=trivial
 have zd6:DR 6 [71,72,73,74,75,76,77,78] [0,1,3,0,8,24,63,127,255] []:=trivial
 have zd7:DR 7 [79,80,81,82,83,84,85,86,87,88] [0,0,2,6,0,16,48,126,254,511,1023] []:=trivial
 exact CtM.run2 Tryd.func54 rfl Tryd.ntmps54 Tryd.results54
theorem b2w (q:List UInt32) (hq:q.length=16) (a b c d:Nat) (ha:a<16) (hb:b<16) (hc:c<16) (hd:d<16) (x y:UInt32):CtM Tryd.prog 54 ([.w (.one (.pl (.i (a:Int)))),.w (.one (.pl (.i (b:Int)))),.w (.one (.pl (.i (c:Int)))),.w (.one (.pl (.i (d:Int)))),.w (.one (.pl (.u32 x))),.w (.one (.pl (.u32 y)))]++[500000].map fun k=>.w (.one (.p k []))) [(500000,⟨false,Jq q⟩)] (fun v m=>v=.tup []∧m=[(500000,⟨false,Jq (o0g q a b c d x y)⟩)]):=e2i q hq a b c d ha hb hc hd x y
theorem r1w (x0 x1 x2 x3 x4 x5 x6 x7 x8 x9 x10 x11 x12 x13 x14 x15 x y:UInt32):o0g [x0,x1,x2,x3,x4,x5,x6,x7,x8,x9,x10,x11,x12,x13,x14,x15] 0 4 8 12 x y=[(mA x0 x4 x8 x12 x y),x1,x2,x3,(mB x0 x4 x8 x12 x y),x5,x6,x7,(mC x0 x4 x8 x12 x y),x9,x10,x11,(mD x0 x4 x8 x12 x y),x13,x14,x15]:=rfl
theorem r1v (x0 x1 x2 x3 x4 x5 x6 x7 x8 x9 x10 x11 x12 x13 x14 x15 x y:UInt32):o0g [x0,x1,x2,x3,x4,x5,x6,x7,x8,x9,x10,x11,x12,x13,x14,x15] 1 5 9 13 x y=[x0,(mA x1 x5 x9 x13 x y),x2,x3,x4,(mB x1 x5 x9 x13 x y),x6,x7,x8,(mC x1 x5 x9 x13 x y),x10,x11,x12,(mD x1 x5 x9 x13 x y),x14,x15]:=rfl
theorem r1u (x0 x1 x2 x3 x4 x5 x6 x7 x8 x9 x10 x11 x12 x13 x14 x15 x y:UInt32):o0g [x0,x1,x2,x3,x4,x5,x6,x7,x8,x9,x10,x11,x12,x13,x14,x15] 2 6 10 14 x y=[x0,x1,(mA x2 x6 x10 x14 x y),x3,x4,x5,(mB x2 x6 x10 x14 x y),x7,x8,x9,(mC x2 x6 x10 x14 x y),x11,x12,x13,(mD x2 x6 x10 x14 x y),x15]:=rfl
theorem r1t (x0 x1 x2 x3 x4 x5 x6 x7 x8 x9 x10 x11 x12 x13 x14 x15 x y:UInt32):o0g [x0,x1,x2,x3,x4,x5,x6,x7,x8,x9,x10,x11,x12,x13,x14,x15] 3 7 11 15 x y=[x0,x1,x2,(mA x3 x7 x11 x15 x y),x4,x5,x6,(mB x3 x7 x11 x15 x y),x8,x9,x10,(mC x3 x7 x11 x15 x y),x12,x13,x14,(mD x3 x7 x11 x15 x y)]:=rfl
theorem c2a (x0 x1 x2 x3 x4 x5 x6 x7 x8 x9 x10 x11 x12 x13 x14 x15 x y:UInt32):o0g [x0,x1,x2,x3,x4,x5,x6,x7,x8,x9,x10,x11,x12,x13,x14,x15] 0 5 10 15 x y=[(mA x0 x5 x10 x15 x y),x1,x2,x3,x4,(mB x0 x5 x10 x15 x y),x6,x7,x8,x9,(mC x0 x5 x10 x15 x y),x11,x12,x13,x14,(mD x0 x5 x10 x15 x y)]:=rfl
theorem b2z (x0 x1 x2 x3 x4 x5 x6 x7 x8 x9 x10 x11 x12 x13 x14 x15 x y:UInt32):o0g [x0,x1,x2,x3,x4,x5,x6,x7,x8,x9,x10,x11,x12,x13,x14,x15] 1 6 11 12 x y=[x0,(mA x1 x6 x11 x12 x y),x2,x3,x4,x5,(mB x1 x6 x11 x12 x y),x7,x8,x9,x10,(mC x1 x6 x11 x12 x y),(mD x1 x6 x11 x12 x y),x13,x14,x15]:=rfl
theorem b2y (x0 x1 x2 x3 x4 x5 x6 x7 x8 x9 x10 x11 x12 x13 x14 x15 x y:UInt32):o0g [x0,x1,x2,x3,x4,x5,x6,x7,x8,x9,x10,x11,x12,x13,x14,x15] 2 7 8 13 x y=[x0,x1,(mA x2 x7 x8 x13 x y),x3,x4,x5,x6,(mB x2 x7 x8 x13 x y),(mC x2 x7 x8 x13 x y),x9,x10,x11,x12,(mD x2 x7 x8 x13 x y),x14,x15]:=rfl
theorem b2x (x0 x1 x2 x3 x4 x5 x6 x7 x8 x9 x10 x11 x12 x13 x14 x15 x y:UInt32):o0g [x0,x1,x2,x3,x4,x5,x6,x7,x8,x9,x10,x11,x12,x13,x14,x15] 3 4 9 14 x y=[x0,x1,x2,(mA x3 x4 x9 x14 x y),(mB x3 x4 x9 x14 x y),x5,x6,x7,x8,(mC x3 x4 x9 x14 x y),x10,x11,x12,x13,(mD x3 x4 x9 x14 x y),x15]:=rfl
end Bk
end Go.Sy
namespace Go.Sy
namespace Bk
open Go.Proofs
attribute [local irreducible] Fz HT Cw Oj onC onE onO onG goV goA goS Qv Ey
def s0g (b:List UInt8) (k:Nat):UInt32:=(lev ((b.drop (4*k)).take 4)).toUInt32
theorem q0k {x:UInt32} {b:UInt8} (h:x.toNat<16777216):(Qq x 8|||b.toUInt32).toNat=x.toNat*256+b.toNat:=by
 have hb:=b.toNat_lt
 have s:(Qq x 8).toNat=x.toNat*2 ^ 8:=by
  simp only [Qq,UInt32.toNat_ofNat']
  exact Nat.mod_eq_of_lt (by omega)
 rw [UInt32.toNat_or,s,UInt8.toNat_toUInt32,Nat.mul_comm,←Nat.two_pow_add_eq_or_of_lt (i:=8) hb]
theorem l1s {b0 b1 b2 b3:UInt8}:Qq (Qq (Qq (Qq 0 8|||b3.toUInt32) 8|||b2.toUInt32) 8|||b1.toUInt32) 8|||b0.toUInt32=(lev [b0,b1,b2,b3]).toUInt32:=by
 have h0:=b0.toNat_lt
 have h1:=b1.toNat_lt
 have h2:=b2.toNat_lt
 have h3:=b3.toNat_lt
 have e0:((0:UInt32)).toNat=0:=rfl
 have e3:=q0k (x:=0) (b:=b3) (by rw [e0];decide)
 have e2:=q0k (x:=Qq 0 8|||b3.toUInt32) (b:=b2) (by rw [e3,e0];omega)
 have e1:=q0k (x:=Qq (Qq 0 8|||b3.toUInt32) 8|||b2.toUInt32) (b:=b1) (by rw [e2,e3,e0];omega)
 have ee:=q0k (x:=Qq (Qq (Qq 0 8|||b3.toUInt32) 8|||b2.toUInt32) 8|||b1.toUInt32) (b:=b0) (by rw [e1,e2,e3,e0];omega)
 apply UInt32.toNat_inj.mp
 rw [ee,e1,e2,e3,e0,UInt64.toNat_toUInt32]
 rw [Rx (by simp)]
 simp only [leN];omega
theorem d2q {l:List UInt8} {j:Nat} (h:j+4≤l.length):(l.drop j).take 4=[l.getD j 0,l.getD (j+1) 0,l.getD (j+2) 0,l.getD (j+3) 0]:=by
 rw [drop_cons (by omega),drop_cons (l:=l) (j:=j+1) (by omega),drop_cons (l:=l) (j:=j+1+1) (by omega),drop_cons (l:=l) (j:=j+1+1+1) (by omega)]
 rfl
theorem Ux {q:List UInt8} {i:Nat} (h:i<q.length):List.take 1 (List.drop i q)=[q.getD i 0]:=by
 rw [List.drop_eq_getElem_cons h,List.take_succ_cons,List.take_zero]
 simp [List.getD,List.getElem?_eq_getElem h]
theorem Dq (x:UInt8):Aq [x]=[.pl (.u8 x)]:=rfl
theorem c0f {l:List UInt32} {i:Nat} (h:i<l.length):List.take 1 (List.drop i (Jq l))=[.pl (.u32 (l.getD i 0))]:=by
 rw [List.drop_eq_getElem_cons (by simpa [Jq] using h),List.take_succ_cons,List.take_zero]
 simp [Jq,List.getD,List.getElem?_eq_getElem h]
theorem a0e (l:List UInt32):(Jq l).length=l.length:=by simp [Jq]
theorem q0f (k:Nat) (l:List UInt32):(Jq l).any (L.has k)=false:=by
 rw [List.any_eq_false]
 intro x hx
 obtain ⟨y,_,rfl⟩:=List.mem_map.mp hx
 simp [L.has]
theorem l0d (k:Nat) (l:List UInt32):(Jq l).map (Sz k)=Jq l:=by simp only [Jq,List.map_map];rfl
theorem g0y {q:List UInt32} {j:Nat} (x:UInt32) (h:j<q.length):List.take j (Jq q)++[L.pl (PL.u32 x)]++List.drop (j+1) (Jq q)=Jq (q.set j x):=by
 rw [List.set_eq_take_append_cons_drop,if_pos h];simp [Jq]
theorem Nv {q:List UInt32} {i j:Nat} {x:UInt32} (h:i<q.length):(q.set i x).getD j 0=if i=j then x else q.getD j 0:=by
 simp only [List.getD,List.getElem?_set]
 split
 · rename_i e;subst e;simp [h]
 · rfl
structure W16 where
 x0:UInt32
 x1:UInt32
 x2:UInt32
 x3:UInt32
 x4:UInt32
 x5:UInt32
 x6:UInt32
 x7:UInt32
 x8:UInt32
 x9:UInt32
 x10:UInt32
 x11:UInt32
 x12:UInt32
 x13:UInt32
 x14:UInt32
 x15:UInt32
def W16.ls (w:W16):List L:=[.pl (.u32 w.x0),.pl (.u32 w.x1),.pl (.u32 w.x2),.pl (.u32 w.x3),.pl (.u32 w.x4),.pl (.u32 w.x5),.pl (.u32 w.x6),.pl (.u32 w.x7),.pl (.u32 w.x8),.pl (.u32 w.x9),.pl (.u32 w.x10),.pl (.u32 w.x11),.pl (.u32 w.x12),.pl (.u32 w.x13),.pl (.u32 w.x14),.pl (.u32 w.x15)]
def W16.l (w:W16):List UInt32:=[w.x0,w.x1,w.x2,w.x3,w.x4,w.x5,w.x6,w.x7,w.x8,w.x9,w.x10,w.x11,w.x12,w.x13,w.x14,w.x15]
theorem W16.ls_l (w:W16):w.ls=Jq w.l:=rfl
theorem W16.l_len (w:W16):w.l.length=16:=rfl
theorem h1t (k:Nat) (w:W16):w.ls.any (L.has k)=false:=by simp [W16.ls,L.has]
theorem w0q (k:Nat) (w:W16):w.ls.map (Sz k)=w.ls:=rfl
theorem o1n (k:Nat):f0q.any (L.has k)=false:=by
 rw [List.any_eq_false]
 intro x hx
 obtain ⟨y,_,rfl⟩:=List.mem_map.mp hx
 simp [L.has]
theorem h1e (k:Nat):f0q.map (Sz k)=f0q:=by simp only [f0q,List.map_map];rfl
attribute [go_sem] q0f l0d h1t w0q o1n h1e
def W16.col (y:Nat→UInt32) (w:W16):W16:=⟨(mA w.x0 w.x4 w.x8 w.x12 (y 0) (y 1)),(mA w.x1 w.x5 w.x9 w.x13 (y 2) (y 3)),(mA w.x2 w.x6 w.x10 w.x14 (y 4) (y 5)),(mA w.x3 w.x7 w.x11 w.x15 (y 6) (y 7)),(mB w.x0 w.x4 w.x8 w.x12 (y 0) (y 1)),(mB w.x1 w.x5 w.x9 w.x13 (y 2) (y 3)),(mB w.x2 w.x6 w.x10 w.x14 (y 4) (y 5)),(mB w.x3 w.x7 w.x11 w.x15 (y 6) (y 7)),(mC w.x0 w.x4 w.x8 w.x12 (y 0) (y 1)),(mC w.x1 w.x5 w.x9 w.x13 (y 2) (y 3)),(mC w.x2 w.x6 w.x10 w.x14 (y 4) (y 5)),(mC w.x3 w.x7 w.x11 w.x15 (y 6) (y 7)),(mD w.x0 w.x4 w.x8 w.x12 (y 0) (y 1)),(mD w.x1 w.x5 w.x9 w.x13 (y 2) (y 3)),(mD w.x2 w.x6 w.x10 w.x14 (y 4) (y 5)),(mD w.x3 w.x7 w.x11 w.x15 (y 6) (y 7))⟩
def W16.diag (y:Nat→UInt32) (w:W16):W16:=⟨(mA w.x0 w.x5 w.x10 w.x15 (y 8) (y 9)),(mA w.x1 w.x6 w.x11 w.x12 (y 10) (y 11)),(mA w.x2 w.x7 w.x8 w.x13 (y 12) (y 13)),(mA w.x3 w.x4 w.x9 w.x14 (y 14) (y 15)),(mB w.x3 w.x4 w.x9 w.x14 (y 14) (y 15)),(mB w.x0 w.x5 w.x10 w.x15 (y 8) (y 9)),(mB w.x1 w.x6 w.x11 w.x12 (y 10) (y 11)),(mB w.x2 w.x7 w.x8 w.x13 (y 12) (y 13)),(mC w.x2 w.x7 w.x8 w.x13 (y 12) (y 13)),(mC w.x3 w.x4 w.x9 w.x14 (y 14) (y 15)),(mC w.x0 w.x5 w.x10 w.x15 (y 8) (y 9)),(mC w.x1 w.x6 w.x11 w.x12 (y 10) (y 11)),(mD w.x1 w.x6 w.x11 w.x12 (y 10) (y 11)),(mD w.x2 w.x7 w.x8 w.x13 (y 12) (y 13)),(mD w.x3 w.x4 w.x9 w.x14 (y 14) (y 15)),(mD w.x0 w.x5 w.x10 w.x15 (y 8) (y 9))⟩
def c0h (b:List UInt8) (r i:Nat):UInt32:=s0g b (f0k r i)
def Zx (b:List UInt8):Nat→W16→W16
 |0,w=>w
 |k+1,w=>((Zx b k w).col (c0h b k)).diag (c0h b k)
def f0l (b:List UInt8) (k:Nat) (q:List UInt32):Nat→List UInt32
 |0=>q
 |i+1=>o0g (f0l b k q i) i (4+i) (8+i) (12+i) (c0h b k (2*i)) (c0h b k (2*i+1))
def n0i (b:List UInt8) (k:Nat) (q:List UInt32):Nat→List UInt32
 |0=>q
 |i+1=>o0g (n0i b k q i) i (4+(i+1)%4) (8+(i+2)%4) (12+(i+3)%4) (c0h b k (8+2*i)) (c0h b k (9+2*i))
theorem i0c (b:List UInt8) (k:Nat) (q:List UInt32): ∀ i,(f0l b k q i).length=q.length
 |0=>rfl
 |i+1=>by rw [f0l,r0e,i0c b k q i]
theorem u0x (b:List UInt8) (k:Nat) (q:List UInt32): ∀ i,(n0i b k q i).length=q.length
 |0=>rfl
 |i+1=>by rw [n0i,r0e,u0x b k q i]
theorem l0p (b:List UInt8) (k:Nat) (w:W16):f0l b k w.l 4=(w.col (c0h b k)).l:=by
 simp only [f0l,W16.l,Nat.zero_add,Nat.mul_zero,Nat.add_zero,Nat.mul_one,Nat.reduceAdd,Nat.reduceMul,r1w,r1v,r1u,r1t];rfl
theorem n0g (b:List UInt8) (k:Nat) (w:W16):n0i b k w.l 4=(w.diag (c0h b k)).l:=by
 simp only [n0i,W16.l,Nat.zero_add,Nat.mul_zero,Nat.add_zero,Nat.mul_one,Nat.reduceAdd,Nat.reduceMul,Nat.reduceMod,c2a,b2z,b2y,b2x];rfl
def y1h (r:Nat):List L:=(List.range 16).map fun i=>L.pl (PL.i ((f0k r i:Nat):Int))
theorem l0j (r:Nat):(y1h r).length=16:=by simp [y1h]
theorem row_one (r:Nat) {i:Nat} (h:i<16):List.take 1 (List.drop i (y1h r))=[L.pl (PL.i ((f0k r i:Nat):Int))]:=by
 rw [List.drop_eq_getElem_cons (by rw [l0j];exact h),List.take_succ_cons,List.take_zero];simp [y1h]
theorem o1k {r:Nat} (hr:r<10):List.take 16 (List.drop (r*16) f0q)=y1h r:=by rw [u1p hr];rfl
theorem o1m (k r:Nat):(y1h r).any (L.has k)=false:=by
 rw [List.any_eq_false]
 intro x hx
 obtain ⟨y,_,rfl⟩:=List.mem_map.mp hx
 simp [L.has]
attribute [go_sem] o1m
structure H8 where
 h0:UInt32
 h1:UInt32
 h2:UInt32
 h3:UInt32
 h4:UInt32
 h5:UInt32
 h6:UInt32
 h7:UInt32
def H8.ls (w:H8):List L:=[.pl (.u32 w.h0),.pl (.u32 w.h1),.pl (.u32 w.h2),.pl (.u32 w.h3),.pl (.u32 w.h4),.pl (.u32 w.h5),.pl (.u32 w.h6),.pl (.u32 w.h7)]
theorem w1h (k:Nat) (w:H8):w.ls.map (Sz k)=w.ls:=rfl
attribute [go_sem] w1h
def c2f (h:H8) (len:Nat) (last:Bool):W16:=⟨h.h0,h.h1,h.h2,h.h3,h.h4,h.h5,h.h6,h.h7,1779033703,3144134277,1013904242,2773480762,1359893119^^^UInt32.ofNat len,2600822924,if last then ~~~528734635 else 528734635,1541459225⟩
def e2c (h:H8) (w:W16):H8:=⟨h.h0^^^(w.x0^^^w.x8),h.h1^^^(w.x1^^^w.x9),h.h2^^^(w.x2^^^w.x10),h.h3^^^(w.x3^^^w.x11),h.h4^^^(w.x4^^^w.x12),h.h5^^^(w.x5^^^w.x13),h.h6^^^(w.x6^^^w.x14),h.h7^^^(w.x7^^^w.x15)⟩
def g0d (h:H8) (b:List UInt8) (len:Nat) (last:Bool):H8:=e2c h (Zx b 10 (c2f h len last))
end Bk
end Go.Sy
namespace Go.Sy
namespace Bk
open Go.Proofs
attribute [local irreducible] Fz HT Cw Oj onC onE onO onG goV goA goS Qv Ey
def Bw (h:H8) (held:List UInt8) (n len:Int):List L:=h.ls++(Aq held++[.pl (.i n),.pl (.i len)])
structure HashOk (held:List UInt8) (n len:Int):Prop where
 lo:0≤n
 hi:n≤64
 le:n≤len
 mx:len≤1073741824
 md:(len-n)%64=0
 nz:n=0→len=0
 rest: ∀ j,n.toNat≤j→j<64→held.getD j 0=0
noncomputable def Xq (held:List UInt8) (n len:Int):Int:=if Classical.propDecidable (HashOk held n len)|>.decide then 0 else 9
noncomputable def Tj (held:List UInt8) (n len:Int):Bool:=!(Classical.propDecidable (HashOk held n len)|>.decide)
section
variable {held:List UInt8} {n len:Int}
theorem e0b (h:HashOk held n len):Xq held n len=0:=by unfold Xq;simp [h]
theorem e0c (h:¬HashOk held n len):Xq held n len=9:=by unfold Xq;simp [h]
theorem c0n (h:HashOk held n len):Tj held n len=false:=by unfold Tj;simp [h]
theorem b0c (h:¬HashOk held n len):Tj held n len=true:=by unfold Tj;simp [h]
theorem b0l {l:List UInt8} {o m i:Nat} (h:o+i<l.length) (hi:i<m):List.take 1 (List.drop i (List.take m (List.drop o l)))=[l.getD (o+i) 0]:=by
 have hl:i<(List.take m (List.drop o l)).length:=by rw [List.length_take,List.length_drop];omega
 rw [List.drop_eq_getElem_cons hl,List.take_succ_cons,List.take_zero]
 simp [List.getElem_take,List.getElem_drop,List.getD,List.getElem?_eq_getElem h]
end
theorem w1a (h0 h1 h2 h3 h4 h5 h6 h7:UInt32) (held:List UInt8) (hh:held.length=64) (n len:Int) (g1:n<0):
 Ct Tryd.prog 40 [.w (.agg (Bw ⟨h0,h1,h2,h3,h4,h5,h6,h7⟩ held n len))] (fun v m=>v=.w (.one (.pl (.i (Xq held n len))))):=by
 refine Ct.k Tryd.func40 rfl Tryd.ntmps40 (congrArg Array.toList Tryd.results40) (by simp) fun w0 ro=>?_
 refine Dx fun zZ zhZ=>?_
 iterate 11 first
  |(refine Dz fun zK zhK=>?_;simp only [go_sem,Bw,H8.ls,hh,g1];(repeat' (first|apply And.intro|intro _)))
  |refine zhK _ ?_
  |refine Ck ?_
  |(refine zhM _ _ ?_;clear zhN zhM)
  |(refine zhZ _ _ ?_;simp only [go_sem,Bw,H8.ls,hh,g1];(all_goals (rw [e0c (fun h=>absurd h.lo (by omega))])))
  |refine Bq fun zN zM zhN zhM=>?_
  |(refine Bz ?_ ?_;focus (first|rfl|(simp [go_sem,Bw,H8.ls,hh,g1];done)))
theorem v1z (h0 h1 h2 h3 h4 h5 h6 h7:UInt32) (held:List UInt8) (hh:held.length=64) (n len:Int) (g1:¬n<0) (g2:64<n):
 Ct Tryd.prog 40 [.w (.agg (Bw ⟨h0,h1,h2,h3,h4,h5,h6,h7⟩ held n len))] (fun v m=>v=.w (.one (.pl (.i (Xq held n len))))):=by
 have F0:=And.intro hh<|And.intro g1<|g2
 refine Ct.k Tryd.func40 rfl Tryd.ntmps40 (congrArg Array.toList Tryd.results40) (by simp) fun w0 ro=>?_
 refine Dx fun zZ zhZ=>?_
 iterate 11 first
  |(refine Dz fun zK zhK=>?_;simp only [go_sem,Bw,H8.ls,F0];(repeat' (first|apply And.intro|intro _)))
  |refine zhK _ ?_
  |refine Ck ?_
  |(refine zhM _ _ ?_;clear zhN zhM)
  |(refine zhZ _ _ ?_;simp only [go_sem,Bw,H8.ls,F0];(all_goals (rw [e0c (fun h=>absurd h.hi (by omega))])))
  |refine Bq fun zN zM zhN zhM=>?_
  |(refine Bz ?_ ?_;focus (first|rfl|(simp [go_sem,Bw,H8.ls,F0];done)))
theorem v1y (h0 h1 h2 h3 h4 h5 h6 h7:UInt32) (held:List UInt8) (hh:held.length=64) (n len:Int) (g1:¬n<0) (g2:¬64<n) (g3:len<n):
 Ct Tryd.prog 40 [.w (.agg (Bw ⟨h0,h1,h2,h3,h4,h5,h6,h7⟩ held n len))] (fun v m=>v=.w (.one (.pl (.i (Xq held n len))))):=by
 have F0:=And.intro hh<|And.intro g1<|And.intro g2<|g3
 refine Ct.k Tryd.func40 rfl Tryd.ntmps40 (congrArg Array.toList Tryd.results40) (by simp) fun w0 ro=>?_
 refine Dx fun zZ zhZ=>?_
 iterate 11 first
  |(refine Dz fun zK zhK=>?_;simp only [go_sem,Bw,H8.ls,F0];(repeat' (first|apply And.intro|intro _)))
  |refine zhK _ ?_
  |refine Ck ?_
  |(refine zhM _ _ ?_;clear zhN zhM)
  |(refine zhZ _ _ ?_;simp only [go_sem,Bw,H8.ls,F0];(all_goals (rw [e0c (fun h=>absurd h.le (by omega))])))
  |refine Bq fun zN zM zhN zhM=>?_
  |(refine Bz ?_ ?_;focus (first|rfl|(simp [go_sem,Bw,H8.ls,F0];done)))
theorem v1x (h0 h1 h2 h3 h4 h5 h6 h7:UInt32) (held:List UInt8) (hh:held.length=64) (n len:Int) (g1:¬n<0) (g2:¬64<n) (g3:¬len<n) (g4:1073741824<len):
 Ct Tryd.prog 40 [.w (.agg (Bw ⟨h0,h1,h2,h3,h4,h5,h6,h7⟩ held n len))] (fun v m=>v=.w (.one (.pl (.i (Xq held n len))))):=by
 have F0:=And.intro hh<|And.intro g1<|And.intro g2<|And.intro g3<|g4
 refine Ct.k Tryd.func40 rfl Tryd.ntmps40 (congrArg Array.toList Tryd.results40) (by simp) fun w0 ro=>?_
 refine Dx fun zZ zhZ=>?_
 iterate 11 first
  |(refine Dz fun zK zhK=>?_;simp only [go_sem,Bw,H8.ls,F0];(repeat' (first|apply And.intro|intro _)))
  |refine zhK _ ?_
  |refine Ck ?_
  |(refine zhM _ _ ?_;clear zhN zhM)
  |(refine zhZ _ _ ?_;simp only [go_sem,Bw,H8.ls,F0];(all_goals (rw [e0c (fun h=>absurd h.mx (by omega))])))
  |refine Bq fun zN zM zhN zhM=>?_
  |(refine Bz ?_ ?_;focus (first|rfl|(simp [go_sem,Bw,H8.ls,F0];done)))
theorem v1w (h0 h1 h2 h3 h4 h5 h6 h7:UInt32) (held:List UInt8) (hh:held.length=64) (k l:Nat) (e1:k≤64) (e2:k≤l) (e3:l≤1073741824) (e4:¬(l-k)%64=0):
 Ct Tryd.prog 40 [.w (.agg (Bw ⟨h0,h1,h2,h3,h4,h5,h6,h7⟩ held (k:Int) (l:Int)))] (fun v m=>v=.w (.one (.pl (.i (Xq held (k:Int) (l:Int)))))):=by
 have g1:¬((k:Nat):Int)<0:=by omega
 have g2:¬(64:Int)<((k:Nat):Int):=by omega
 have g3:¬((l:Nat):Int)<((k:Nat):Int):=by omega
 have g4:¬(1073741824:Int)<((l:Nat):Int):=by omega
 have gs:Go.RowKit.wrap64 (((l:Nat):Int)-((k:Nat):Int))=((l-k:Nat):Int):=Kv (by omega) (by omega)
 have gm:(((l-k:Nat):Int)).tmod 64=(((l-k)%64:Nat):Int):=rfl
 have h9:(0:Int)≤((k:Nat):Int):=by omega
 have h10:((k:Nat):Int)≤64:=by omega
 have g5:¬(((l-k)%64:Nat):Int)=0:=by omega
 have F0:=And.intro hh<|And.intro g1<|And.intro g2<|And.intro g3<|And.intro g4<|And.intro gs<|And.intro gm<|And.intro h9<|And.intro h10<|g5
 refine Ct.k Tryd.func40 rfl Tryd.ntmps40 (congrArg Array.toList Tryd.results40) (by simp) fun w0 ro=>?_
 refine Dx fun zZ zhZ=>?_
 iterate 11 first
  |(refine Dz fun zK zhK=>?_;simp only [go_sem,Bw,H8.ls,F0];(repeat' (first|apply And.intro|intro _)))
  |refine zhK _ ?_
  |refine Ck ?_
  |(refine zhM _ _ ?_;clear zhN zhM)
  |(refine zhZ _ _ ?_;simp only [go_sem,Bw,H8.ls,F0];(all_goals (rw [e0c (fun h=>absurd h.md (by omega))])))
  |refine Bq fun zN zM zhN zhM=>?_
  |(refine Bz ?_ ?_;focus (first|rfl|(simp [go_sem,Bw,H8.ls,F0];done)))
theorem v1v (h0 h1 h2 h3 h4 h5 h6 h7:UInt32) (held:List UInt8) (hh:held.length=64) (k l:Nat) (e1:k≤64) (e2:k≤l) (e3:l≤1073741824) (e4:(l-k)%64=0) (e5:k=0) (e6:0<l):
 Ct Tryd.prog 40 [.w (.agg (Bw ⟨h0,h1,h2,h3,h4,h5,h6,h7⟩ held (k:Int) (l:Int)))] (fun v m=>v=.w (.one (.pl (.i (Xq held (k:Int) (l:Int)))))):=by
 have g1:¬((k:Nat):Int)<0:=by omega
 have g2:¬(64:Int)<((k:Nat):Int):=by omega
 have g3:¬((l:Nat):Int)<((k:Nat):Int):=by omega
 have g4:¬(1073741824:Int)<((l:Nat):Int):=by omega
 have gs:Go.RowKit.wrap64 (((l:Nat):Int)-((k:Nat):Int))=((l-k:Nat):Int):=Kv (by omega) (by omega)
 have gm:(((l-k:Nat):Int)).tmod 64=(((l-k)%64:Nat):Int):=rfl
 have h9:(0:Int)≤((k:Nat):Int):=by omega
 have h10:((k:Nat):Int)≤64:=by omega
 have g5:(((l-k)%64:Nat):Int)=0:=by omega
 have g6:((k:Nat):Int)=0:=by omega
 have g7:(0:Int)<((l:Nat):Int):=by omega
 have g8:=eq_true g6
 have F0:=And.intro hh<|And.intro g1<|And.intro g2<|And.intro g3<|And.intro g4<|And.intro gs<|And.intro gm<|And.intro h9<|And.intro h10<|And.intro g5<|And.intro g8<|g7
 refine Ct.k Tryd.func40 rfl Tryd.ntmps40 (congrArg Array.toList Tryd.results40) (by simp) fun w0 ro=>?_
 refine Dx fun zZ zhZ=>?_
 iterate 11 first
  |(refine Dz fun zK zhK=>?_;simp only [go_sem,Bw,H8.ls,F0];(repeat' (first|apply And.intro|intro _)))
  |refine zhK _ ?_
  |refine Ck ?_
  |(refine zhM _ _ ?_;clear zhN zhM)
  |(refine zhZ _ _ ?_;simp only [go_sem,Bw,H8.ls,F0];(all_goals (rw [e0c (fun h=>absurd (h.nz g6) (by omega))])))
  |refine Bq fun zN zM zhN zhM=>?_
  |(refine Bz ?_ ?_;focus (first|rfl|(simp [go_sem,Bw,H8.ls,F0];done)))
theorem p1l (h0 h1 h2 h3 h4 h5 h6 h7:UInt32) (held:List UInt8) (hh:held.length=64) (k l:Nat) (e1:k≤64) (e2:k≤l) (e3:l≤1073741824) (e4:(l-k)%64=0) (e5:¬k=0):
 Ct Tryd.prog 40 [.w (.agg (Bw ⟨h0,h1,h2,h3,h4,h5,h6,h7⟩ held (k:Int) (l:Int)))] (fun v m=>v=.w (.one (.pl (.i (Xq held (k:Int) (l:Int)))))):=by
 have g1:¬((k:Nat):Int)<0:=by omega
 have g2:¬(64:Int)<((k:Nat):Int):=by omega
 have g3:¬((l:Nat):Int)<((k:Nat):Int):=by omega
 have g4:¬(1073741824:Int)<((l:Nat):Int):=by omega
 have gs:Go.RowKit.wrap64 (((l:Nat):Int)-((k:Nat):Int))=((l-k:Nat):Int):=Kv (by omega) (by omega)
 have gm:(((l-k:Nat):Int)).tmod 64=(((l-k)%64:Nat):Int):=rfl
 have h9:(0:Int)≤((k:Nat):Int):=by omega
 have h10:((k:Nat):Int)≤64:=by omega
 have g5:(((l-k)%64:Nat):Int)=0:=by omega
 have g6:¬((k:Nat):Int)=0:=by omega
 have F0:=And.intro hh<|And.intro g1<|And.intro g2<|And.intro g3<|And.intro g4<|And.intro gs<|And.intro gm<|And.intro h9<|And.intro h10<|And.intro g5<|g6
 refine Ct.k Tryd.func40 rfl Tryd.ntmps40 (congrArg Array.toList Tryd.results40) (by simp) fun w0 ro=>?_
 refine Dx fun zZ zhZ=>?_
 iterate 12 first
  |(refine Dz fun zK zhK=>?_;simp only [go_sem,Bw,H8.ls,F0];(repeat' (first|apply And.intro|intro _)))
  |refine zhK _ ?_
  |refine Cq ?_
  |(refine zhN _ ?_;clear zhN zhM)
  |refine Cx fun zB zbn zbx zbr zbi=>?_
  |refine Bq fun zN zM zhN zhM=>?_
  |(refine Bj ?_ ?_;focus (first|rfl|(simp [go_sem,Bw,H8.ls,F0];done)))
 refine Fq [0,1,5,6,7,8,9,10,11,12,13,14,15,16,17,18,19,20,21,22,23,24,25,26,27,28,29,30,31,32,33,34,35,36,37,38,39,40,41,42,43,44,45,46] ?_
 simp only [Gz,Gj,Fj,List.contains_cons,List.contains_nil,Nat.reduceBEq,beq_self_eq_true,Bool.or_false,Bool.or_true,Bool.true_or,Bool.false_or,Bool.false_eq_true,reduceIte]
 refine Ik (fun y=>[(49,.w (.one (.pl (.i ((y.1:Nat):Int)))))]) (fun _=>[]) (fun y=>64-y.1) (⟨0,Nat.zero_le _,fun j hj=>absurd hj (Nat.not_lt_zero j)⟩:{y:Nat//y≤64-k∧∀ j,j<y→held.getD (k+j) 0=0}) ?_ ?_ ?_
 · (simp only [go_sem,leX,List.cons_append,List.nil_append];try simp)
 · (simp only [go_sem,leX,List.cons_append,List.nil_append];try simp)
 intro yy zN zM zhN zhM
 simp only [List.cons_append,List.nil_append]
 obtain ⟨i,hi,hz⟩:=yy
 have hd:(i<64-k∧¬held.getD (k+i) 0=0)∨(i<64-k∧held.getD (k+i) 0=0)∨i=64-k:=by
  by_cases h:i=64-k
  · exact .inr (.inr h)
  · have:i<64-k:=by omega
    by_cases h2:held.getD (k+i) 0=0
    · exact .inr (.inl ⟨this,h2⟩)
    · exact .inl ⟨this,h2⟩
 rcases hd with ⟨hlt,hb⟩|⟨hlt,hb⟩|rfl
 · have hcq:((i:Nat):Int)<((64-k:Nat):Int):=by omega
   have hc0:(0:Int)≤((i:Nat):Int):=by omega
   have hk1:k+i<held.length:=by omega
   have hk2:k+(64-k)≤64:=by omega
   have hk3:i+1≤64-k:=by omega
   have hk4:=b0l (m:=64-k) hk1 (by omega)
   have hbq:(held.getD (k+i) 0=0)=False:=eq_false hb
   have F7:=And.intro hcq<|And.intro hc0<|And.intro hk2<|And.intro hk3<|And.intro hk4<|hbq
   iterate 22 first
    |(refine Dz fun zK zhK=>?_;simp only [go_sem,Bw,H8.ls,F0,Dq,F7];(repeat' (first|apply And.intro|intro _)))
    |refine zhK _ ?_
    |(refine zhM _ _ ?_;clear zhN zhM)
    |(refine zbr _ ?_;clear zbn zbx zbr zbi)
    |refine Cq ?_
    |(refine zhN _ ?_;clear zhN zhM)
    |refine Cx fun zB zbn zbx zbr zbi=>?_
    |refine Ck ?_
    |(refine zhZ _ _ ?_;simp only [go_sem,Bw,H8.ls,F0,Dq,F7];(all_goals (rw [e0c (fun h=>hb (h.rest (k+i) (by simp) (by omega)))])))
    |refine Bq fun zN zM zhN zhM=>?_
    |(refine Bz ?_ ?_;focus (first|rfl|(simp [go_sem,Bw,H8.ls,F0,Dq,F7];done)))
 · have hcq:((i:Nat):Int)<((64-k:Nat):Int):=by omega
   have hc0:(0:Int)≤((i:Nat):Int):=by omega
   have hk1:k+i<held.length:=by omega
   have hk2:k+(64-k)≤64:=by omega
   have hk3:i+1≤64-k:=by omega
   have hk4:=b0l (m:=64-k) hk1 (by omega)
   have hbq:(held.getD (k+i) 0=0)=True:=eq_true hb
   have hs1:Go.RowKit.wrap64 (((i:Nat):Int)+1)=((i+1:Nat):Int):=Kv (by omega) (by omega)
   have F14:=And.intro hcq<|And.intro hc0<|And.intro hk2<|And.intro hk3<|And.intro hk4<|And.intro hbq<|hs1
   iterate 18 first
    |refine zhK _ ?_
    |(refine Dz fun zK zhK=>?_;simp only [go_sem,Bw,H8.ls,F0,Dq,F14];(repeat' (first|apply And.intro|intro _)))
    |refine Cq ?_
    |(refine zhN _ ?_;clear zhN zhM)
    |refine Cx fun zB zbn zbx zbr zbi=>?_
    |(refine zbn _ ?_;clear zbn zbx zbr zbi)
    |(refine Cv fun zK zhK=>?_;simp only [go_sem,Bw,H8.ls,F0,Dq,F14];(repeat' (first|apply And.intro|intro _)))
    |refine Bq fun zN zM zhN zhM=>?_
    |(refine Bz ?_ ?_;focus (first|rfl|(simp [go_sem,Bw,H8.ls,F0,Dq,F14];done)))
    |(refine Bj ?_ ?_;focus (first|rfl|(simp [go_sem,Bw,H8.ls,F0,Dq,F14];done)))
   refine zhN ⟨i+1,by omega,fun j hj=>by rcases Nat.lt_succ_iff_lt_or_eq.mp hj with h|rfl;exact hz j h;exact hb⟩ _ ?_ ?_ ?_
   · (show 64-(i+1)<64-i;clear hs1;omega)
   · (simp only [go_sem,leX,List.cons_append,List.nil_append];try simp)
   · (simp only [go_sem,leX,List.cons_append,List.nil_append];try simp)
 · have hcq:¬((64-k:Nat):Int)<((64-k:Nat):Int):=by omega
   refine Dz fun zK zhK=>?_
   simp only [go_sem,Bw,H8.ls,F0,hcq]
   repeat' (first|apply And.intro|intro _)
   refine zhK _ ?_
   refine Bq fun zN zM zhN zhM=>?_
   (refine Bj ?_ ?_;focus (first|rfl|(simp [go_sem,Bw,H8.ls,F0,hcq];done)))
   refine Fx ?_
   refine zhM _ _ ?_;clear zhN zhM
   refine zhM _ _ ?_;clear zhN zhM
   refine zbx _ ?_;clear zbn zbx zbr zbi
   refine zhN _ ?_;clear zhN zhM
   refine Dz fun zK zhK=>?_
   simp only [go_sem,Bw,H8.ls,F0,hcq]
   repeat' (first|apply And.intro|intro _)
   refine zhK _ ?_
   refine Ck ?_
   refine zhZ _ _ ?_
   simp only [go_sem,Bw,H8.ls,F0,hcq]
   all_goals (rw [e0b ⟨by omega,by omega,by omega,by omega,by omega,by omega,fun j hj hl=>by have:=hz (j-k) (by simp at hj;omega);rwa [show k+(j-k)=j from by simp at hj;omega] at this⟩])
theorem p1k (h0 h1 h2 h3 h4 h5 h6 h7:UInt32) (held:List UInt8) (hh:held.length=64) (k l:Nat) (e1:k≤64) (e2:k≤l) (e3:l≤1073741824) (e4:(l-k)%64=0) (e5:k=0) (e6:l=0):
 Ct Tryd.prog 40 [.w (.agg (Bw ⟨h0,h1,h2,h3,h4,h5,h6,h7⟩ held (k:Int) (l:Int)))] (fun v m=>v=.w (.one (.pl (.i (Xq held (k:Int) (l:Int)))))):=by
 have g1:¬((k:Nat):Int)<0:=by omega
 have g2:¬(64:Int)<((k:Nat):Int):=by omega
 have g3:¬((l:Nat):Int)<((k:Nat):Int):=by omega
 have g4:¬(1073741824:Int)<((l:Nat):Int):=by omega
 have gs:Go.RowKit.wrap64 (((l:Nat):Int)-((k:Nat):Int))=((l-k:Nat):Int):=Kv (by omega) (by omega)
 have gm:(((l-k:Nat):Int)).tmod 64=(((l-k)%64:Nat):Int):=rfl
 have h9:(0:Int)≤((k:Nat):Int):=by omega
 have h10:((k:Nat):Int)≤64:=by omega
 have g5:(((l-k)%64:Nat):Int)=0:=by omega
 have g6:((k:Nat):Int)=0:=by omega
 have g7:¬(0:Int)<((l:Nat):Int):=by omega
 have g8:=eq_true g6
 have F0:=And.intro hh<|And.intro g1<|And.intro g2<|And.intro g3<|And.intro g4<|And.intro gs<|And.intro gm<|And.intro h9<|And.intro h10<|And.intro g5<|And.intro g8<|g7
 refine Ct.k Tryd.func40 rfl Tryd.ntmps40 (congrArg Array.toList Tryd.results40) (by simp) fun w0 ro=>?_
 refine Dx fun zZ zhZ=>?_
 iterate 12 first
  |(refine Dz fun zK zhK=>?_;simp only [go_sem,Bw,H8.ls,F0];(repeat' (first|apply And.intro|intro _)))
  |refine zhK _ ?_
  |refine Cq ?_
  |(refine zhN _ ?_;clear zhN zhM)
  |refine Cx fun zB zbn zbx zbr zbi=>?_
  |refine Bq fun zN zM zhN zhM=>?_
  |(refine Bj ?_ ?_;focus (first|rfl|(simp [go_sem,Bw,H8.ls,F0];done)))
 refine Fq [0,1,5,6,7,8,9,10,11,12,13,14,15,16,17,18,19,20,21,22,23,24,25,26,27,28,29,30,31,32,33,34,35,36,37,38,39,40,41,42,43,44,45,46] ?_
 simp only [Gz,Gj,Fj,List.contains_cons,List.contains_nil,Nat.reduceBEq,beq_self_eq_true,Bool.or_false,Bool.or_true,Bool.true_or,Bool.false_or,Bool.false_eq_true,reduceIte]
 refine Ik (fun y=>[(49,.w (.one (.pl (.i ((y.1:Nat):Int)))))]) (fun _=>[]) (fun y=>64-y.1) (⟨0,Nat.zero_le _,fun j hj=>absurd hj (Nat.not_lt_zero j)⟩:{y:Nat//y≤64-k∧∀ j,j<y→held.getD (k+j) 0=0}) ?_ ?_ ?_
 · (simp only [go_sem,leX,List.cons_append,List.nil_append];try simp)
 · (simp only [go_sem,leX,List.cons_append,List.nil_append];try simp)
 intro yy zN zM zhN zhM
 simp only [List.cons_append,List.nil_append]
 obtain ⟨i,hi,hz⟩:=yy
 have hd:(i<64-k∧¬held.getD (k+i) 0=0)∨(i<64-k∧held.getD (k+i) 0=0)∨i=64-k:=by
  by_cases h:i=64-k
  · exact .inr (.inr h)
  · have:i<64-k:=by omega
    by_cases h2:held.getD (k+i) 0=0
    · exact .inr (.inl ⟨this,h2⟩)
    · exact .inl ⟨this,h2⟩
 rcases hd with ⟨hlt,hb⟩|⟨hlt,hb⟩|rfl
 · have hcq:((i:Nat):Int)<((64-k:Nat):Int):=by omega
   have hc0:(0:Int)≤((i:Nat):Int):=by omega
   have hk1:k+i<held.length:=by omega
   have hk2:k+(64-k)≤64:=by omega
   have hk3:i+1≤64-k:=by omega
   have hk4:=b0l (m:=64-k) hk1 (by omega)
   have hbq:(held.getD (k+i) 0=0)=False:=eq_false hb
   have F7:=And.intro hcq<|And.intro hc0<|And.intro hk2<|And.intro hk3<|And.intro hk4<|hbq
   iterate 22 first
    |(refine Dz fun zK zhK=>?_;simp only [go_sem,Bw,H8.ls,F0,Dq,F7];(repeat' (first|apply And.intro|intro _)))
    |refine zhK _ ?_
    |(refine zhM _ _ ?_;clear zhN zhM)
    |(refine zbr _ ?_;clear zbn zbx zbr zbi)
    |refine Cq ?_
    |(refine zhN _ ?_;clear zhN zhM)
    |refine Cx fun zB zbn zbx zbr zbi=>?_
    |refine Ck ?_
    |(refine zhZ _ _ ?_;simp only [go_sem,Bw,H8.ls,F0,Dq,F7];(all_goals (rw [e0c (fun h=>hb (h.rest (k+i) (by simp) (by omega)))])))
    |refine Bq fun zN zM zhN zhM=>?_
    |(refine Bz ?_ ?_;focus (first|rfl|(simp [go_sem,Bw,H8.ls,F0,Dq,F7];done)))
 · have hcq:((i:Nat):Int)<((64-k:Nat):Int):=by omega
   have hc0:(0:Int)≤((i:Nat):Int):=by omega
   have hk1:k+i<held.length:=by omega
   have hk2:k+(64-k)≤64:=by omega
   have hk3:i+1≤64-k:=by omega
   have hk4:=b0l (m:=64-k) hk1 (by omega)
   have hbq:(held.getD (k+i) 0=0)=True:=eq_true hb
   have hs1:Go.RowKit.wrap64 (((i:Nat):Int)+1)=((i+1:Nat):Int):=Kv (by omega) (by omega)
   have F14:=And.intro hcq<|And.intro hc0<|And.intro hk2<|And.intro hk3<|And.intro hk4<|And.intro hbq<|hs1
   iterate 18 first
    |refine zhK _ ?_
    |(refine Dz fun zK zhK=>?_;simp only [go_sem,Bw,H8.ls,F0,Dq,F14];(repeat' (first|apply And.intro|intro _)))
    |refine Cq ?_
    |(refine zhN _ ?_;clear zhN zhM)
    |refine Cx fun zB zbn zbx zbr zbi=>?_
    |(refine zbn _ ?_;clear zbn zbx zbr zbi)
    |(refine Cv fun zK zhK=>?_;simp only [go_sem,Bw,H8.ls,F0,Dq,F14];(repeat' (first|apply And.intro|intro _)))
    |refine Bq fun zN zM zhN zhM=>?_
    |(refine Bz ?_ ?_;focus (first|rfl|(simp [go_sem,Bw,H8.ls,F0,Dq,F14];done)))
    |(refine Bj ?_ ?_;focus (first|rfl|(simp [go_sem,Bw,H8.ls,F0,Dq,F14];done)))
   refine zhN ⟨i+1,by omega,fun j hj=>by rcases Nat.lt_succ_iff_lt_or_eq.mp hj with h|rfl;exact hz j h;exact hb⟩ _ ?_ ?_ ?_
   · (show 64-(i+1)<64-i;clear hs1;omega)
   · (simp only [go_sem,leX,List.cons_append,List.nil_append];try simp)
   · (simp only [go_sem,leX,List.cons_append,List.nil_append];try simp)
 · have hcq:¬((64-k:Nat):Int)<((64-k:Nat):Int):=by omega
   refine Dz fun zK zhK=>?_
   simp only [go_sem,Bw,H8.ls,F0,hcq]
   repeat' (first|apply And.intro|intro _)
   refine zhK _ ?_
   refine Bq fun zN zM zhN zhM=>?_
   (refine Bj ?_ ?_;focus (first|rfl|(simp [go_sem,Bw,H8.ls,F0,hcq];done)))
   refine Fx ?_
   refine zhM _ _ ?_;clear zhN zhM
   refine zhM _ _ ?_;clear zhN zhM
   refine zbx _ ?_;clear zbn zbx zbr zbi
   refine zhN _ ?_;clear zhN zhM
   refine Dz fun zK zhK=>?_
   simp only [go_sem,Bw,H8.ls,F0,hcq]
   repeat' (first|apply And.intro|intro _)
   refine zhK _ ?_
   refine Ck ?_
   refine zhZ _ _ ?_
   simp only [go_sem,Bw,H8.ls,F0,hcq]
   all_goals (rw [e0b ⟨by omega,by omega,by omega,by omega,by omega,by omega,fun j hj hl=>by have:=hz (j-k) (by simp at hj;omega);rwa [show k+(j-k)=j from by simp at hj;omega] at this⟩])
theorem j0i (h0 h1 h2 h3 h4 h5 h6 h7:UInt32) (held:List UInt8) (hh:held.length=64) (n len:Int):Ct Tryd.prog 40 [.w (.agg (Bw ⟨h0,h1,h2,h3,h4,h5,h6,h7⟩ held n len))] (fun v m=>v=.w (.one (.pl (.i (Xq held n len))))):=by
 by_cases g1:n<0
 · exact w1a h0 h1 h2 h3 h4 h5 h6 h7 held hh n len g1
 by_cases g2:64<n
 · exact v1z h0 h1 h2 h3 h4 h5 h6 h7 held hh n len g1 g2
 by_cases g3:len<n
 · exact v1y h0 h1 h2 h3 h4 h5 h6 h7 held hh n len g1 g2 g3
 by_cases g4:1073741824<len
 · exact v1x h0 h1 h2 h3 h4 h5 h6 h7 held hh n len g1 g2 g3 g4
 obtain ⟨k,rfl⟩: ∃ k:Nat,n=(k:Int):=⟨n.toNat,by omega⟩
 obtain ⟨l,rfl⟩: ∃ l:Nat,len=(l:Int):=⟨len.toNat,by omega⟩
 have e1:k≤64:=by omega
 have e2:k≤l:=by omega
 have e3:l≤1073741824:=by omega
 by_cases e4:(l-k)%64=0
 · by_cases e5:k=0
   · by_cases e6:0<l
     · exact v1v h0 h1 h2 h3 h4 h5 h6 h7 held hh k l e1 e2 e3 e4 e5 e6
     · exact p1k h0 h1 h2 h3 h4 h5 h6 h7 held hh k l e1 e2 e3 e4 e5 (by omega)
   · exact p1l h0 h1 h2 h3 h4 h5 h6 h7 held hh k l e1 e2 e3 e4 e5
 · exact v1w h0 h1 h2 h3 h4 h5 h6 h7 held hh k l e1 e2 e3 e4
end Bk
end Go.Sy
namespace Go.Sy
namespace Bk
open Go.Proofs
attribute [local irreducible] Fz HT Cw Oj onC onE onO onG goV goA goS Qv Ey
theorem w1e (h0 h1 h2 h3 h4 h5 h6 h7:UInt32) (held:List UInt8) (hh:held.length=64) (n len:Int) (g1:n<0):
 Ct Tryd.prog 46 [.w (.agg (Bw ⟨h0,h1,h2,h3,h4,h5,h6,h7⟩ held n len))] (fun v m=>v=.w (.one (.pl (.b (Tj held n len))))):=by
 refine Ct.k Tryd.func46 rfl Tryd.ntmps46 (congrArg Array.toList Tryd.results46) (by simp) fun w0 ro=>?_
 refine Dx fun zZ zhZ=>?_
 iterate 11 first
  |(refine Dz fun zK zhK=>?_;simp only [go_sem,Bw,H8.ls,hh,g1];(repeat' (first|apply And.intro|intro _)))
  |refine zhK _ ?_
  |refine Ck ?_
  |(refine zhM _ _ ?_;clear zhN zhM)
  |(refine zhZ _ _ ?_;simp only [go_sem,Bw,H8.ls,hh,g1];(all_goals (rw [b0c (fun h=>absurd h.lo (by omega))])))
  |refine Bq fun zN zM zhN zhM=>?_
  |(refine Bz ?_ ?_;focus (first|rfl|(simp [go_sem,Bw,H8.ls,hh,g1];done)))
theorem w1d (h0 h1 h2 h3 h4 h5 h6 h7:UInt32) (held:List UInt8) (hh:held.length=64) (n len:Int) (g1:¬n<0) (g2:64<n):
 Ct Tryd.prog 46 [.w (.agg (Bw ⟨h0,h1,h2,h3,h4,h5,h6,h7⟩ held n len))] (fun v m=>v=.w (.one (.pl (.b (Tj held n len))))):=by
 have F0:=And.intro hh<|And.intro g1<|g2
 refine Ct.k Tryd.func46 rfl Tryd.ntmps46 (congrArg Array.toList Tryd.results46) (by simp) fun w0 ro=>?_
 refine Dx fun zZ zhZ=>?_
 iterate 11 first
  |(refine Dz fun zK zhK=>?_;simp only [go_sem,Bw,H8.ls,F0];(repeat' (first|apply And.intro|intro _)))
  |refine zhK _ ?_
  |refine Ck ?_
  |(refine zhM _ _ ?_;clear zhN zhM)
  |(refine zhZ _ _ ?_;simp only [go_sem,Bw,H8.ls,F0];(all_goals (rw [b0c (fun h=>absurd h.hi (by omega))])))
  |refine Bq fun zN zM zhN zhM=>?_
  |(refine Bz ?_ ?_;focus (first|rfl|(simp [go_sem,Bw,H8.ls,F0];done)))
theorem w1c (h0 h1 h2 h3 h4 h5 h6 h7:UInt32) (held:List UInt8) (hh:held.length=64) (n len:Int) (g1:¬n<0) (g2:¬64<n) (g3:len<0):
 Ct Tryd.prog 46 [.w (.agg (Bw ⟨h0,h1,h2,h3,h4,h5,h6,h7⟩ held n len))] (fun v m=>v=.w (.one (.pl (.b (Tj held n len))))):=by
 have F0:=And.intro hh<|And.intro g1<|And.intro g2<|g3
 refine Ct.k Tryd.func46 rfl Tryd.ntmps46 (congrArg Array.toList Tryd.results46) (by simp) fun w0 ro=>?_
 refine Dx fun zZ zhZ=>?_
 iterate 11 first
  |(refine Dz fun zK zhK=>?_;simp only [go_sem,Bw,H8.ls,F0];(repeat' (first|apply And.intro|intro _)))
  |refine zhK _ ?_
  |refine Ck ?_
  |(refine zhM _ _ ?_;clear zhN zhM)
  |(refine zhZ _ _ ?_;simp only [go_sem,Bw,H8.ls,F0];(all_goals (rw [b0c (fun h=>absurd h.le (by omega))])))
  |refine Bq fun zN zM zhN zhM=>?_
  |(refine Bz ?_ ?_;focus (first|rfl|(simp [go_sem,Bw,H8.ls,F0];done)))
theorem w1b (h0 h1 h2 h3 h4 h5 h6 h7:UInt32) (held:List UInt8) (hh:held.length=64) (n len:Int) (g1:¬n<0) (g2:¬64<n) (g3:¬len<0) (g4:1073741824<len):
 Ct Tryd.prog 46 [.w (.agg (Bw ⟨h0,h1,h2,h3,h4,h5,h6,h7⟩ held n len))] (fun v m=>v=.w (.one (.pl (.b (Tj held n len))))):=by
 have F0:=And.intro hh<|And.intro g1<|And.intro g2<|And.intro g3<|g4
 refine Ct.k Tryd.func46 rfl Tryd.ntmps46 (congrArg Array.toList Tryd.results46) (by simp) fun w0 ro=>?_
 refine Dx fun zZ zhZ=>?_
 iterate 11 first
  |(refine Dz fun zK zhK=>?_;simp only [go_sem,Bw,H8.ls,F0];(repeat' (first|apply And.intro|intro _)))
  |refine zhK _ ?_
  |refine Ck ?_
  |(refine zhM _ _ ?_;clear zhN zhM)
  |(refine zhZ _ _ ?_;simp only [go_sem,Bw,H8.ls,F0];(all_goals (rw [b0c (fun h=>absurd h.mx (by omega))])))
  |refine Bq fun zN zM zhN zhM=>?_
  |(refine Bz ?_ ?_;focus (first|rfl|(simp [go_sem,Bw,H8.ls,F0];done)))
theorem c2k (h0 h1 h2 h3 h4 h5 h6 h7:UInt32) (held:List UInt8) (hh:held.length=64) (k l:Nat) (e1:k≤64) (e3:l≤1073741824) (e4:l%64=0) (e5:0<l):
 Ct Tryd.prog 46 [.w (.agg (Bw ⟨h0,h1,h2,h3,h4,h5,h6,h7⟩ held (k:Int) (l:Int)))] (fun v m=>v=.w (.one (.pl (.b (Tj held (k:Int) (l:Int)))))):=by
 have g1:¬((k:Nat):Int)<0:=by omega
 have g2:¬(64:Int)<((k:Nat):Int):=by omega
 have g3:¬((l:Nat):Int)<0:=by omega
 have g4:¬(1073741824:Int)<((l:Nat):Int):=by omega
 have gm:(((l:Nat):Int)).tmod 64=((l%64:Nat):Int):=rfl
 have g5:((l%64:Nat):Int)=0:=by omega
 have g6:(0:Int)<((l:Nat):Int):=by omega
 have F0:=And.intro hh<|And.intro g1<|And.intro g2<|And.intro g3<|And.intro g4<|And.intro gm<|And.intro g5<|g6
 refine Ct.k Tryd.func46 rfl Tryd.ntmps46 (congrArg Array.toList Tryd.results46) (by simp) fun w0 ro=>?_
 refine Dx fun zZ zhZ=>?_
 iterate 21 first
  |refine zhK _ ?_
  |(refine Dz fun zK zhK=>?_;simp only [go_sem,Bw,H8.ls,F0];(repeat' (first|apply And.intro|intro _)))
  |(refine zhN _ ?_;clear zhN zhM)
  |refine Cq ?_
  |(refine Cv fun zK zhK=>?_;simp only [go_sem,Bw,H8.ls,F0];(repeat' (first|apply And.intro|intro _)))
  |refine Cx fun zB zbn zbx zbr zbi=>?_
  |refine Bq fun zN zM zhN zhM=>?_
  |(refine Bj ?_ ?_;focus (first|rfl|(simp [go_sem,Bw,H8.ls,F0];done)))
  |(refine Bz ?_ ?_;focus (first|rfl|(simp [go_sem,Bw,H8.ls,F0];done)))
 refine Fq [0,6,7,8,9,10,11,12,13,14,15,16,17,18,19,20,21,22,23,24,25,26,27,28,29,30,31,32,33,34] ?_
 simp only [Gz,Gj,Fj,List.contains_cons,List.contains_nil,Nat.reduceBEq,beq_self_eq_true,Bool.or_false,Bool.or_true,Bool.true_or,Bool.false_or,Bool.false_eq_true,reduceIte]
 refine Ik (fun y=>[(36,.w (.one (.pl (.i ((y.1:Nat):Int)))))]) (fun _=>[]) (fun y=>64-y.1) (⟨0,Nat.zero_le _,fun j hj=>absurd hj (Nat.not_lt_zero j)⟩:{y:Nat//y≤64∧∀ j,j<y→k≤j→held.getD j 0=0}) ?_ ?_ ?_
 · (simp only [go_sem,leX,List.cons_append,List.nil_append];try simp)
 · (simp only [go_sem,leX,List.cons_append,List.nil_append];try simp)
 intro yy zN zM zhN zhM
 simp only [List.cons_append,List.nil_append]
 obtain ⟨i,hi,hz⟩:=yy
 have hd:(i<64∧i<k)∨(i<64∧¬i<k∧held.getD i 0=0)∨(i<64∧¬i<k∧¬held.getD i 0=0)∨i=64:=by
  generalize held.getD i 0=z
  by_cases g1:i=64
  · simp [g1]
  · have g2:i<64:=by omega
    by_cases g3:i<k
    · exact .inl ⟨g2,g3⟩
    · by_cases g4:z=0
      · exact .inr (.inl ⟨g2,g3,g4⟩)
      · exact .inr (.inr (.inl ⟨g2,g3,g4⟩))
 rcases hd with ⟨hlt,hin⟩|⟨hlt,hin,hb⟩|⟨hlt,hin,hb⟩|rfl
 · have hcq:((i:Nat):Int)<64:=by omega
   have hc0:(0:Int)≤((i:Nat):Int):=by omega
   have hs1:Go.RowKit.wrap64 (((i:Nat):Int)+1)=((i+1:Nat):Int):=Kv (by omega) (by omega)
   have hk1:=Ux (q:=held) (i:=i) (by omega)
   have hk2:i+1≤64:=by omega
   have hni:¬((k:Nat):Int)≤((i:Nat):Int):=by omega
   have F11:=And.intro hcq<|And.intro hc0<|And.intro hs1<|And.intro hk1<|And.intro hk2<|hni
   iterate 18 first
    |refine zhK _ ?_
    |(refine Dz fun zK zhK=>?_;simp only [go_sem,Bw,H8.ls,F0,Dq,F11];(repeat' (first|apply And.intro|intro _)))
    |refine Cq ?_
    |(refine zhN _ ?_;clear zhN zhM)
    |refine Cx fun zB zbn zbx zbr zbi=>?_
    |(refine zbn _ ?_;clear zbn zbx zbr zbi)
    |(refine Cv fun zK zhK=>?_;simp only [go_sem,Bw,H8.ls,F0,Dq,F11];(repeat' (first|apply And.intro|intro _)))
    |refine Bq fun zN zM zhN zhM=>?_
    |(refine Bz ?_ ?_;focus (first|rfl|(simp [go_sem,Bw,H8.ls,F0,Dq,F11];done)))
    |(refine Bj ?_ ?_;focus (first|rfl|(simp [go_sem,Bw,H8.ls,F0,Dq,F11];done)))
   refine zhN ⟨i+1,by omega,fun j hj hk=>by rcases Nat.lt_succ_iff_lt_or_eq.mp hj with h|rfl;exact hz j h hk;omega⟩ _ ?_ ?_ ?_
   · (show 64-(i+1)<64-i;clear hs1;omega)
   · (simp only [go_sem,leX,List.cons_append,List.nil_append];try simp)
   · (simp only [go_sem,leX,List.cons_append,List.nil_append];try simp)
 · have hcq:((i:Nat):Int)<64:=by omega
   have hc0:(0:Int)≤((i:Nat):Int):=by omega
   have hs1:Go.RowKit.wrap64 (((i:Nat):Int)+1)=((i+1:Nat):Int):=Kv (by omega) (by omega)
   have hk1:=Ux (q:=held) (i:=i) (by omega)
   have hk2:i+1≤64:=by omega
   have hni:((k:Nat):Int)≤((i:Nat):Int):=by omega
   have hbq:=eq_true hb
   have F18:=And.intro hcq<|And.intro hc0<|And.intro hs1<|And.intro hk1<|And.intro hk2<|And.intro hni<|hbq
   iterate 18 first
    |refine zhK _ ?_
    |(refine Dz fun zK zhK=>?_;simp only [go_sem,Bw,H8.ls,F0,Dq,F18];(repeat' (first|apply And.intro|intro _)))
    |refine Cq ?_
    |(refine zhN _ ?_;clear zhN zhM)
    |refine Cx fun zB zbn zbx zbr zbi=>?_
    |(refine zbn _ ?_;clear zbn zbx zbr zbi)
    |(refine Cv fun zK zhK=>?_;simp only [go_sem,Bw,H8.ls,F0,Dq,F18];(repeat' (first|apply And.intro|intro _)))
    |refine Bq fun zN zM zhN zhM=>?_
    |(refine Bz ?_ ?_;focus (first|rfl|(simp [go_sem,Bw,H8.ls,F0,Dq,F18];done)))
    |(refine Bj ?_ ?_;focus (first|rfl|(simp [go_sem,Bw,H8.ls,F0,Dq,F18];done)))
   refine zhN ⟨i+1,by omega,fun j hj hk=>by rcases Nat.lt_succ_iff_lt_or_eq.mp hj with h|rfl;exact hz j h hk;exact hb⟩ _ ?_ ?_ ?_
   · (show 64-(i+1)<64-i;clear hs1;omega)
   · (simp only [go_sem,leX,List.cons_append,List.nil_append];try simp)
   · (simp only [go_sem,leX,List.cons_append,List.nil_append];try simp)
 · have hcq:((i:Nat):Int)<64:=by omega
   have hc0:(0:Int)≤((i:Nat):Int):=by omega
   have hs1:Go.RowKit.wrap64 (((i:Nat):Int)+1)=((i+1:Nat):Int):=Kv (by omega) (by omega)
   have hk1:=Ux (q:=held) (i:=i) (by omega)
   have hk2:i+1≤64:=by omega
   have hni:((k:Nat):Int)≤((i:Nat):Int):=by omega
   have hbq:=eq_false hb
   have F25:=And.intro hcq<|And.intro hc0<|And.intro hs1<|And.intro hk1<|And.intro hk2<|And.intro hni<|hbq
   iterate 22 first
    |(refine Dz fun zK zhK=>?_;simp only [go_sem,Bw,H8.ls,F0,Dq,F25];(repeat' (first|apply And.intro|intro _)))
    |refine zhK _ ?_
    |(refine zhM _ _ ?_;clear zhN zhM)
    |(refine zbr _ ?_;clear zbn zbx zbr zbi)
    |refine Cq ?_
    |(refine zhN _ ?_;clear zhN zhM)
    |refine Cx fun zB zbn zbx zbr zbi=>?_
    |refine Ck ?_
    |(refine zhZ _ _ ?_;simp only [go_sem,Bw,H8.ls,F0,Dq,F25];(all_goals (rw [b0c (fun h=>hb (h.rest i (by simp;omega) (by omega)))])))
    |refine Bq fun zN zM zhN zhM=>?_
    |(refine Bz ?_ ?_;focus (first|rfl|(simp [go_sem,Bw,H8.ls,F0,Dq,F25];done)))
 · have hcq:¬((64:Nat):Int)<64:=by omega
   have hbd:Tj held ((k:Nat):Int) ((l:Nat):Int)= !(decide (((k:Nat):Int)=64)):=by
    by_cases e:((k:Nat):Int)=64
    · rw [c0n ⟨by omega,by omega,by omega,by omega,by omega,by omega,fun j hj hl=>hz j hl (by simpa using hj)⟩];rw [decide_eq_true e];rfl
    · rw [b0c (fun h=>e (by have:=h.md;have:=h.le;have:=h.nz;have:=h.lo;omega))];rw [decide_eq_false e];rfl
   iterate 13 first
    |(refine Dz fun zK zhK=>?_;simp only [go_sem,Bw,H8.ls,F0,hcq];(repeat' (first|apply And.intro|intro _)))
    |refine zhK _ ?_
    |(refine zhM _ _ ?_;clear zhN zhM)
    |refine Fx ?_
    |(refine zbx _ ?_;clear zbn zbx zbr zbi)
    |(refine zhN _ ?_;clear zhN zhM)
    |refine Ck ?_
    |(refine zhZ _ _ ?_;simp only [go_sem,Bw,H8.ls,F0,hcq];(all_goals (rw [hbd])))
    |refine Bq fun zN zM zhN zhM=>?_
    |(refine Bj ?_ ?_;focus (first|rfl|(simp [go_sem,Bw,H8.ls,F0,hcq];done)))
theorem c2j (h0 h1 h2 h3 h4 h5 h6 h7:UInt32) (held:List UInt8) (hh:held.length=64) (k l:Nat) (e1:k≤64) (e3:l≤1073741824) (e4:l%64=0) (e5:l=0):
 Ct Tryd.prog 46 [.w (.agg (Bw ⟨h0,h1,h2,h3,h4,h5,h6,h7⟩ held (k:Int) (l:Int)))] (fun v m=>v=.w (.one (.pl (.b (Tj held (k:Int) (l:Int)))))):=by
 have g1:¬((k:Nat):Int)<0:=by omega
 have g2:¬(64:Int)<((k:Nat):Int):=by omega
 have g3:¬((l:Nat):Int)<0:=by omega
 have g4:¬(1073741824:Int)<((l:Nat):Int):=by omega
 have gm:(((l:Nat):Int)).tmod 64=((l%64:Nat):Int):=rfl
 have g5:((l%64:Nat):Int)=0:=by omega
 have g6:¬(0:Int)<((l:Nat):Int):=by omega
 have F0:=And.intro hh<|And.intro g1<|And.intro g2<|And.intro g3<|And.intro g4<|And.intro gm<|And.intro g5<|g6
 refine Ct.k Tryd.func46 rfl Tryd.ntmps46 (congrArg Array.toList Tryd.results46) (by simp) fun w0 ro=>?_
 refine Dx fun zZ zhZ=>?_
 iterate 20 first
  |(refine Dz fun zK zhK=>?_;simp only [go_sem,Bw,H8.ls,F0];(repeat' (first|apply And.intro|intro _)))
  |refine zhK _ ?_
  |refine Cq ?_
  |(refine zhN _ ?_;clear zhN zhM)
  |refine Cx fun zB zbn zbx zbr zbi=>?_
  |refine Bq fun zN zM zhN zhM=>?_
  |(refine Bj ?_ ?_;focus (first|rfl|(simp [go_sem,Bw,H8.ls,F0];done)))
 refine Fq [0,6,7,8,9,10,11,12,13,14,15,16,17,18,19,20,21,22,23,24,25,26,27,28,29,30,31,32,33,34] ?_
 simp only [Gz,Gj,Fj,List.contains_cons,List.contains_nil,Nat.reduceBEq,beq_self_eq_true,Bool.or_false,Bool.or_true,Bool.true_or,Bool.false_or,Bool.false_eq_true,reduceIte]
 refine Ik (fun y=>[(36,.w (.one (.pl (.i ((y.1:Nat):Int)))))]) (fun _=>[]) (fun y=>64-y.1) (⟨0,Nat.zero_le _,fun j hj=>absurd hj (Nat.not_lt_zero j)⟩:{y:Nat//y≤64∧∀ j,j<y→k≤j→held.getD j 0=0}) ?_ ?_ ?_
 · (simp only [go_sem,leX,List.cons_append,List.nil_append];try simp)
 · (simp only [go_sem,leX,List.cons_append,List.nil_append];try simp)
 intro yy zN zM zhN zhM
 simp only [List.cons_append,List.nil_append]
 obtain ⟨i,hi,hz⟩:=yy
 have hd:(i<64∧i<k)∨(i<64∧¬i<k∧held.getD i 0=0)∨(i<64∧¬i<k∧¬held.getD i 0=0)∨i=64:=by
  generalize held.getD i 0=z
  by_cases g1:i=64
  · simp [g1]
  · have g2:i<64:=by omega
    by_cases g3:i<k
    · exact .inl ⟨g2,g3⟩
    · by_cases g4:z=0
      · exact .inr (.inl ⟨g2,g3,g4⟩)
      · exact .inr (.inr (.inl ⟨g2,g3,g4⟩))
 rcases hd with ⟨hlt,hin⟩|⟨hlt,hin,hb⟩|⟨hlt,hin,hb⟩|rfl
 · have hcq:((i:Nat):Int)<64:=by omega
   have hc0:(0:Int)≤((i:Nat):Int):=by omega
   have hs1:Go.RowKit.wrap64 (((i:Nat):Int)+1)=((i+1:Nat):Int):=Kv (by omega) (by omega)
   have hk1:=Ux (q:=held) (i:=i) (by omega)
   have hk2:i+1≤64:=by omega
   have hni:¬((k:Nat):Int)≤((i:Nat):Int):=by omega
   have F10:=And.intro hcq<|And.intro hc0<|And.intro hs1<|And.intro hk1<|And.intro hk2<|hni
   iterate 18 first
    |refine zhK _ ?_
    |(refine Dz fun zK zhK=>?_;simp only [go_sem,Bw,H8.ls,F0,Dq,F10];(repeat' (first|apply And.intro|intro _)))
    |refine Cq ?_
    |(refine zhN _ ?_;clear zhN zhM)
    |refine Cx fun zB zbn zbx zbr zbi=>?_
    |(refine zbn _ ?_;clear zbn zbx zbr zbi)
    |(refine Cv fun zK zhK=>?_;simp only [go_sem,Bw,H8.ls,F0,Dq,F10];(repeat' (first|apply And.intro|intro _)))
    |refine Bq fun zN zM zhN zhM=>?_
    |(refine Bz ?_ ?_;focus (first|rfl|(simp [go_sem,Bw,H8.ls,F0,Dq,F10];done)))
    |(refine Bj ?_ ?_;focus (first|rfl|(simp [go_sem,Bw,H8.ls,F0,Dq,F10];done)))
   refine zhN ⟨i+1,by omega,fun j hj hk=>by rcases Nat.lt_succ_iff_lt_or_eq.mp hj with h|rfl;exact hz j h hk;omega⟩ _ ?_ ?_ ?_
   · (show 64-(i+1)<64-i;clear hs1;omega)
   · (simp only [go_sem,leX,List.cons_append,List.nil_append];try simp)
   · (simp only [go_sem,leX,List.cons_append,List.nil_append];try simp)
 · have hcq:((i:Nat):Int)<64:=by omega
   have hc0:(0:Int)≤((i:Nat):Int):=by omega
   have hs1:Go.RowKit.wrap64 (((i:Nat):Int)+1)=((i+1:Nat):Int):=Kv (by omega) (by omega)
   have hk1:=Ux (q:=held) (i:=i) (by omega)
   have hk2:i+1≤64:=by omega
   have hni:((k:Nat):Int)≤((i:Nat):Int):=by omega
   have hbq:=eq_true hb
   have F17:=And.intro hcq<|And.intro hc0<|And.intro hs1<|And.intro hk1<|And.intro hk2<|And.intro hni<|hbq
   iterate 18 first
    |refine zhK _ ?_
    |(refine Dz fun zK zhK=>?_;simp only [go_sem,Bw,H8.ls,F0,Dq,F17];(repeat' (first|apply And.intro|intro _)))
    |refine Cq ?_
    |(refine zhN _ ?_;clear zhN zhM)
    |refine Cx fun zB zbn zbx zbr zbi=>?_
    |(refine zbn _ ?_;clear zbn zbx zbr zbi)
    |(refine Cv fun zK zhK=>?_;simp only [go_sem,Bw,H8.ls,F0,Dq,F17];(repeat' (first|apply And.intro|intro _)))
    |refine Bq fun zN zM zhN zhM=>?_
    |(refine Bz ?_ ?_;focus (first|rfl|(simp [go_sem,Bw,H8.ls,F0,Dq,F17];done)))
    |(refine Bj ?_ ?_;focus (first|rfl|(simp [go_sem,Bw,H8.ls,F0,Dq,F17];done)))
   refine zhN ⟨i+1,by omega,fun j hj hk=>by rcases Nat.lt_succ_iff_lt_or_eq.mp hj with h|rfl;exact hz j h hk;exact hb⟩ _ ?_ ?_ ?_
   · (show 64-(i+1)<64-i;clear hs1;omega)
   · (simp only [go_sem,leX,List.cons_append,List.nil_append];try simp)
   · (simp only [go_sem,leX,List.cons_append,List.nil_append];try simp)
 · have hcq:((i:Nat):Int)<64:=by omega
   have hc0:(0:Int)≤((i:Nat):Int):=by omega
   have hs1:Go.RowKit.wrap64 (((i:Nat):Int)+1)=((i+1:Nat):Int):=Kv (by omega) (by omega)
   have hk1:=Ux (q:=held) (i:=i) (by omega)
   have hk2:i+1≤64:=by omega
   have hni:((k:Nat):Int)≤((i:Nat):Int):=by omega
   have hbq:=eq_false hb
   have F24:=And.intro hcq<|And.intro hc0<|And.intro hs1<|And.intro hk1<|And.intro hk2<|And.intro hni<|hbq
   iterate 22 first
    |(refine Dz fun zK zhK=>?_;simp only [go_sem,Bw,H8.ls,F0,Dq,F24];(repeat' (first|apply And.intro|intro _)))
    |refine zhK _ ?_
    |(refine zhM _ _ ?_;clear zhN zhM)
    |(refine zbr _ ?_;clear zbn zbx zbr zbi)
    |refine Cq ?_
    |(refine zhN _ ?_;clear zhN zhM)
    |refine Cx fun zB zbn zbx zbr zbi=>?_
    |refine Ck ?_
    |(refine zhZ _ _ ?_;simp only [go_sem,Bw,H8.ls,F0,Dq,F24];(all_goals (rw [b0c (fun h=>hb (h.rest i (by simp;omega) (by omega)))])))
    |refine Bq fun zN zM zhN zhM=>?_
    |(refine Bz ?_ ?_;focus (first|rfl|(simp [go_sem,Bw,H8.ls,F0,Dq,F24];done)))
 · have hcq:¬((64:Nat):Int)<64:=by omega
   have hbd:Tj held ((k:Nat):Int) ((l:Nat):Int)= !(decide (((k:Nat):Int)=0)):=by
    by_cases e:((k:Nat):Int)=0
    · rw [c0n ⟨by omega,by omega,by omega,by omega,by omega,by omega,fun j hj hl=>hz j hl (by simpa using hj)⟩];rw [decide_eq_true e];rfl
    · rw [b0c (fun h=>e (by have:=h.md;have:=h.le;have:=h.nz;have:=h.lo;omega))];rw [decide_eq_false e];rfl
   iterate 13 first
    |(refine Dz fun zK zhK=>?_;simp only [go_sem,Bw,H8.ls,F0,hcq];(repeat' (first|apply And.intro|intro _)))
    |refine zhK _ ?_
    |(refine zhM _ _ ?_;clear zhN zhM)
    |refine Fx ?_
    |(refine zbx _ ?_;clear zbn zbx zbr zbi)
    |(refine zhN _ ?_;clear zhN zhM)
    |refine Ck ?_
    |(refine zhZ _ _ ?_;simp only [go_sem,Bw,H8.ls,F0,hcq];(all_goals (rw [hbd])))
    |refine Bq fun zN zM zhN zhM=>?_
    |(refine Bj ?_ ?_;focus (first|rfl|(simp [go_sem,Bw,H8.ls,F0,hcq];done)))
theorem c2i (h0 h1 h2 h3 h4 h5 h6 h7:UInt32) (held:List UInt8) (hh:held.length=64) (k l:Nat) (e1:k≤64) (e3:l≤1073741824) (e4:¬l%64=0):
 Ct Tryd.prog 46 [.w (.agg (Bw ⟨h0,h1,h2,h3,h4,h5,h6,h7⟩ held (k:Int) (l:Int)))] (fun v m=>v=.w (.one (.pl (.b (Tj held (k:Int) (l:Int)))))):=by
 have g1:¬((k:Nat):Int)<0:=by omega
 have g2:¬(64:Int)<((k:Nat):Int):=by omega
 have g3:¬((l:Nat):Int)<0:=by omega
 have g4:¬(1073741824:Int)<((l:Nat):Int):=by omega
 have gm:(((l:Nat):Int)).tmod 64=((l%64:Nat):Int):=rfl
 have g5:¬((l%64:Nat):Int)=0:=by omega
 have F0:=And.intro hh<|And.intro g1<|And.intro g2<|And.intro g3<|And.intro g4<|And.intro gm<|g5
 refine Ct.k Tryd.func46 rfl Tryd.ntmps46 (congrArg Array.toList Tryd.results46) (by simp) fun w0 ro=>?_
 refine Dx fun zZ zhZ=>?_
 iterate 20 first
  |(refine Dz fun zK zhK=>?_;simp only [go_sem,Bw,H8.ls,F0];(repeat' (first|apply And.intro|intro _)))
  |refine zhK _ ?_
  |refine Cq ?_
  |(refine zhN _ ?_;clear zhN zhM)
  |refine Cx fun zB zbn zbx zbr zbi=>?_
  |refine Bq fun zN zM zhN zhM=>?_
  |(refine Bj ?_ ?_;focus (first|rfl|(simp [go_sem,Bw,H8.ls,F0];done)))
 refine Fq [0,6,7,8,9,10,11,12,13,14,15,16,17,18,19,20,21,22,23,24,25,26,27,28,29,30,31,32,33,34] ?_
 simp only [Gz,Gj,Fj,List.contains_cons,List.contains_nil,Nat.reduceBEq,beq_self_eq_true,Bool.or_false,Bool.or_true,Bool.true_or,Bool.false_or,Bool.false_eq_true,reduceIte]
 refine Ik (fun y=>[(36,.w (.one (.pl (.i ((y.1:Nat):Int)))))]) (fun _=>[]) (fun y=>64-y.1) (⟨0,Nat.zero_le _,fun j hj=>absurd hj (Nat.not_lt_zero j)⟩:{y:Nat//y≤64∧∀ j,j<y→k≤j→held.getD j 0=0}) ?_ ?_ ?_
 · (simp only [go_sem,leX,List.cons_append,List.nil_append];try simp)
 · (simp only [go_sem,leX,List.cons_append,List.nil_append];try simp)
 intro yy zN zM zhN zhM
 simp only [List.cons_append,List.nil_append]
 obtain ⟨i,hi,hz⟩:=yy
 have hd:(i<64∧i<k)∨(i<64∧¬i<k∧held.getD i 0=0)∨(i<64∧¬i<k∧¬held.getD i 0=0)∨i=64:=by
  generalize held.getD i 0=z
  by_cases g1:i=64
  · simp [g1]
  · have g2:i<64:=by omega
    by_cases g3:i<k
    · exact .inl ⟨g2,g3⟩
    · by_cases g4:z=0
      · exact .inr (.inl ⟨g2,g3,g4⟩)
      · exact .inr (.inr (.inl ⟨g2,g3,g4⟩))
 rcases hd with ⟨hlt,hin⟩|⟨hlt,hin,hb⟩|⟨hlt,hin,hb⟩|rfl
 · have hcq:((i:Nat):Int)<64:=by omega
   have hc0:(0:Int)≤((i:Nat):Int):=by omega
   have hs1:Go.RowKit.wrap64 (((i:Nat):Int)+1)=((i+1:Nat):Int):=Kv (by omega) (by omega)
   have hk1:=Ux (q:=held) (i:=i) (by omega)
   have hk2:i+1≤64:=by omega
   have hni:¬((k:Nat):Int)≤((i:Nat):Int):=by omega
   have F10:=And.intro hcq<|And.intro hc0<|And.intro hs1<|And.intro hk1<|And.intro hk2<|hni
   iterate 18 first
    |refine zhK _ ?_
    |(refine Dz fun zK zhK=>?_;simp only [go_sem,Bw,H8.ls,F0,Dq,F10];(repeat' (first|apply And.intro|intro _)))
    |refine Cq ?_
    |(refine zhN _ ?_;clear zhN zhM)
    |refine Cx fun zB zbn zbx zbr zbi=>?_
    |(refine zbn _ ?_;clear zbn zbx zbr zbi)
    |(refine Cv fun zK zhK=>?_;simp only [go_sem,Bw,H8.ls,F0,Dq,F10];(repeat' (first|apply And.intro|intro _)))
    |refine Bq fun zN zM zhN zhM=>?_
    |(refine Bz ?_ ?_;focus (first|rfl|(simp [go_sem,Bw,H8.ls,F0,Dq,F10];done)))
    |(refine Bj ?_ ?_;focus (first|rfl|(simp [go_sem,Bw,H8.ls,F0,Dq,F10];done)))
   refine zhN ⟨i+1,by omega,fun j hj hk=>by rcases Nat.lt_succ_iff_lt_or_eq.mp hj with h|rfl;exact hz j h hk;omega⟩ _ ?_ ?_ ?_
   · (show 64-(i+1)<64-i;clear hs1;omega)
   · (simp only [go_sem,leX,List.cons_append,List.nil_append];try simp)
   · (simp only [go_sem,leX,List.cons_append,List.nil_append];try simp)
 · have hcq:((i:Nat):Int)<64:=by omega
   have hc0:(0:Int)≤((i:Nat):Int):=by omega
   have hs1:Go.RowKit.wrap64 (((i:Nat):Int)+1)=((i+1:Nat):Int):=Kv (by omega) (by omega)
   have hk1:=Ux (q:=held) (i:=i) (by omega)
   have hk2:i+1≤64:=by omega
   have hni:((k:Nat):Int)≤((i:Nat):Int):=by omega
   have hbq:=eq_true hb
   have F17:=And.intro hcq<|And.intro hc0<|And.intro hs1<|And.intro hk1<|And.intro hk2<|And.intro hni<|hbq
   iterate 18 first
    |refine zhK _ ?_
    |(refine Dz fun zK zhK=>?_;simp only [go_sem,Bw,H8.ls,F0,Dq,F17];(repeat' (first|apply And.intro|intro _)))
    |refine Cq ?_
    |(refine zhN _ ?_;clear zhN zhM)
    |refine Cx fun zB zbn zbx zbr zbi=>?_
    |(refine zbn _ ?_;clear zbn zbx zbr zbi)
    |(refine Cv fun zK zhK=>?_;simp only [go_sem,Bw,H8.ls,F0,Dq,F17];(repeat' (first|apply And.intro|intro _)))
    |refine Bq fun zN zM zhN zhM=>?_
    |(refine Bz ?_ ?_;focus (first|rfl|(simp [go_sem,Bw,H8.ls,F0,Dq,F17];done)))
    |(refine Bj ?_ ?_;focus (first|rfl|(simp [go_sem,Bw,H8.ls,F0,Dq,F17];done)))
   refine zhN ⟨i+1,by omega,fun j hj hk=>by rcases Nat.lt_succ_iff_lt_or_eq.mp hj with h|rfl;exact hz j h hk;exact hb⟩ _ ?_ ?_ ?_
   · (show 64-(i+1)<64-i;clear hs1;omega)
   · (simp only [go_sem,leX,List.cons_append,List.nil_append];try simp)
   · (simp only [go_sem,leX,List.cons_append,List.nil_append];try simp)
 · have hcq:((i:Nat):Int)<64:=by omega
   have hc0:(0:Int)≤((i:Nat):Int):=by omega
   have hs1:Go.RowKit.wrap64 (((i:Nat):Int)+1)=((i+1:Nat):Int):=Kv (by omega) (by omega)
   have hk1:=Ux (q:=held) (i:=i) (by omega)
   have hk2:i+1≤64:=by omega
   have hni:((k:Nat):Int)≤((i:Nat):Int):=by omega
   have hbq:=eq_false hb
   have F24:=And.intro hcq<|And.intro hc0<|And.intro hs1<|And.intro hk1<|And.intro hk2<|And.intro hni<|hbq
   iterate 22 first
    |(refine Dz fun zK zhK=>?_;simp only [go_sem,Bw,H8.ls,F0,Dq,F24];(repeat' (first|apply And.intro|intro _)))
    |refine zhK _ ?_
    |(refine zhM _ _ ?_;clear zhN zhM)
    |(refine zbr _ ?_;clear zbn zbx zbr zbi)
    |refine Cq ?_
    |(refine zhN _ ?_;clear zhN zhM)
    |refine Cx fun zB zbn zbx zbr zbi=>?_
    |refine Ck ?_
    |(refine zhZ _ _ ?_;simp only [go_sem,Bw,H8.ls,F0,Dq,F24];(all_goals (rw [b0c (fun h=>hb (h.rest i (by simp;omega) (by omega)))])))
    |refine Bq fun zN zM zhN zhM=>?_
    |(refine Bz ?_ ?_;focus (first|rfl|(simp [go_sem,Bw,H8.ls,F0,Dq,F24];done)))
 · have hcq:¬((64:Nat):Int)<64:=by omega
   have hbd:Tj held ((k:Nat):Int) ((l:Nat):Int)= !(decide (((k:Nat):Int)=((l%64:Nat):Int))):=by
    by_cases e:((k:Nat):Int)=((l%64:Nat):Int)
    · rw [c0n ⟨by omega,by omega,by omega,by omega,by omega,by omega,fun j hj hl=>hz j hl (by simpa using hj)⟩];rw [decide_eq_true e];rfl
    · rw [b0c (fun h=>e (by have:=h.md;have:=h.le;have:=h.nz;have:=h.lo;omega))];rw [decide_eq_false e];rfl
   iterate 13 first
    |(refine Dz fun zK zhK=>?_;simp only [go_sem,Bw,H8.ls,F0,hcq];(repeat' (first|apply And.intro|intro _)))
    |refine zhK _ ?_
    |(refine zhM _ _ ?_;clear zhN zhM)
    |refine Fx ?_
    |(refine zbx _ ?_;clear zbn zbx zbr zbi)
    |(refine zhN _ ?_;clear zhN zhM)
    |refine Ck ?_
    |(refine zhZ _ _ ?_;simp only [go_sem,Bw,H8.ls,F0,hcq];(all_goals (rw [hbd])))
    |refine Bq fun zN zM zhN zhM=>?_
    |(refine Bj ?_ ?_;focus (first|rfl|(simp [go_sem,Bw,H8.ls,F0,hcq];done)))
theorem r0i (h0 h1 h2 h3 h4 h5 h6 h7:UInt32) (held:List UInt8) (hh:held.length=64) (n len:Int):Ct Tryd.prog 46 [.w (.agg (Bw ⟨h0,h1,h2,h3,h4,h5,h6,h7⟩ held n len))] (fun v m=>v=.w (.one (.pl (.b (Tj held n len))))):=by
 by_cases g1:n<0
 · exact w1e h0 h1 h2 h3 h4 h5 h6 h7 held hh n len g1
 by_cases g2:64<n
 · exact w1d h0 h1 h2 h3 h4 h5 h6 h7 held hh n len g1 g2
 by_cases g3:len<0
 · exact w1c h0 h1 h2 h3 h4 h5 h6 h7 held hh n len g1 g2 g3
 by_cases g4:1073741824<len
 · exact w1b h0 h1 h2 h3 h4 h5 h6 h7 held hh n len g1 g2 g3 g4
 obtain ⟨k,rfl⟩: ∃ k:Nat,n=(k:Int):=⟨n.toNat,by omega⟩
 obtain ⟨l,rfl⟩: ∃ l:Nat,len=(l:Int):=⟨len.toNat,by omega⟩
 have e1:k≤64:=by omega
 have e3:l≤1073741824:=by omega
 by_cases e4:l%64=0
 · by_cases e5:0<l
   · exact c2k h0 h1 h2 h3 h4 h5 h6 h7 held hh k l e1 e3 e4 e5
   · exact c2j h0 h1 h2 h3 h4 h5 h6 h7 held hh k l e1 e3 e4 (by omega)
 · exact c2i h0 h1 h2 h3 h4 h5 h6 h7 held hh k l e1 e3 e4
end Bk
end Go.Sy
