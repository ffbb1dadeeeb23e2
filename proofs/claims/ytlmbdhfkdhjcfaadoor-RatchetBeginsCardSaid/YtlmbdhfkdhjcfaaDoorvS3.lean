/- Walks: words turned; the order of the words. -/
import Derived.Test.YtlmbdhfkdhjcfaaDoorvS1
import Derived.Test.YtlmbdhfkdhjcfaaDoorvS2
set_option linter.unusedVariables false
set_option linter.unusedSimpArgs false
set_option maxHeartbeats 800000
set_option maxRecDepth 100000
namespace Go.Sy
namespace Bk
open Go.Proofs
attribute [local irreducible] Dv HT Cz Px onC onE onO onG goV goA goS Qx Dw
theorem c2i :UInt64.toNat 2=2:=rfl
theorem c2h :UInt64.toNat 4=4:=rfl
theorem c2g :UInt64.toNat 5=5:=rfl
theorem c2f :UInt64.toNat 7=7:=rfl
theorem c2e :UInt64.toNat 8=8:=rfl
theorem x1p :UInt64.toNat 12=12:=rfl
theorem x1o :UInt64.toNat 14=14:=rfl
theorem x1n :UInt64.toNat 15=15:=rfl
theorem x1m :UInt64.toNat 16=16:=rfl
theorem x1l :UInt64.toNat 24=24:=rfl
theorem x1k :UInt64.toNat 26=26:=rfl
theorem x1j :UInt64.toNat 32=32:=rfl
theorem x1i :UInt64.toNat 40=40:=rfl
theorem x1h :UInt64.toNat 52=52:=rfl
theorem x1g :UInt64.toNat 62=62:=rfl
theorem q1o :UInt64.toNat 256=256:=rfl
attribute [go_sem] c2i c2h c2g c2f c2e x1p x1o x1n x1m x1l x1k x1j x1i x1h x1g q1o
theorem drop_cons {l:List UInt8} {j:Nat} (h:j<l.length):l.drop j=l.getD j 0::l.drop (j+1):=by
 rw [List.drop_eq_getElem_cons h];congr 1;simp [List.getD,List.getElem?_eq_getElem h]
theorem Ny {a:Int} {n:Nat} (h:a=(n:Int)) (hn:n≤9223372036854775807):Go.RowKit.wrap64 a=(n:Int):=by subst h;exact w64 (by omega)
def Ow (x:UInt32) (k:Nat):UInt32:=Zz x k|||j0i x (32-k)
theorem r1i (x:UInt32):
 Ct Tryd.prog 85 [.w (.one (.pl (.u32 x))),.w (.one (.pl (.i (-16))))] (fun v m=>v=.w (.one (.pl (.u32 (Ow x 16))))):=by
 have h1:UInt64.ofNat ((-16:Int)%18446744073709551616).toNat&&&31=16:=rfl
 have h2:(32:UInt64)-16=16:=rfl
 have h3:UInt64.toNat 16=16:=rfl
 have h4:UInt64.toNat 16=16:=rfl
 have F0:=And.intro h1<|And.intro h2<|And.intro h3<|h4
 refine Ct.k Tryd.func85 rfl Tryd.ntmps85 (congrArg Array.toList Tryd.results85) (by simp) fun w0 ro=>?_
 refine Dj fun zZ zhZ=>?_
 iterate 8 first
  |(refine Cx fun zK zhK=>?_;simp only [go_sem,Ow,F0];(repeat' (first|apply And.intro|intro _)))
  |refine zhK _ ?_
  |refine Dx ?_
  |(refine zhZ _ _ ?_;simp only [go_sem,Ow,F0];(all_goals rfl))
theorem f1u (x:UInt32):
 Ct Tryd.prog 83 [.w (.one (.pl (.u32 x))),.w (.one (.pl (.i 16)))] (fun v m=>v=.w (.one (.pl (.u32 (Ow x 16))))):=by
 have h1:Go.RowKit.wrap64 16=16:=w64 (by decide)
 refine Ct.k Tryd.func83 rfl Tryd.ntmps83 (congrArg Array.toList Tryd.results83) (by simp) fun w0 ro=>?_
 refine Dj fun zZ zhZ=>?_
 refine Cx fun zK zhK=>?_
 simp only [go_sem,h1,Ow]
 repeat' (first|apply And.intro|intro _)
 refine zhK _ ?_
 refine r0v (id:=1) [5,6,7,8,9,10,11,12,4] [0,0,3,0,0,16,56,127,255] [] mixed (by kernel_rfl) (by simp only [go_sem]) fun zK zhK=>?_
 simp only [go_sem,h1,Ow]
 repeat' (first|apply And.intro|intro _)
 refine zhK _ _ trivial ?_
 refine Dx ?_
 refine zhZ _ _ ?_
 simp only [go_sem,h1,Ow]
 all_goals rfl
theorem r1h (x:UInt32):
 Ct Tryd.prog 85 [.w (.one (.pl (.u32 x))),.w (.one (.pl (.i (-12))))] (fun v m=>v=.w (.one (.pl (.u32 (Ow x 20))))):=by
 have h1:UInt64.ofNat ((-12:Int)%18446744073709551616).toNat&&&31=20:=rfl
 have h2:(32:UInt64)-20=12:=rfl
 have h3:UInt64.toNat 20=20:=rfl
 have h4:UInt64.toNat 12=12:=rfl
 have F0:=And.intro h1<|And.intro h2<|And.intro h3<|h4
 refine Ct.k Tryd.func85 rfl Tryd.ntmps85 (congrArg Array.toList Tryd.results85) (by simp) fun w0 ro=>?_
 refine Dj fun zZ zhZ=>?_
 iterate 8 first
  |(refine Cx fun zK zhK=>?_;simp only [go_sem,Ow,F0];(repeat' (first|apply And.intro|intro _)))
  |refine zhK _ ?_
  |refine Dx ?_
  |(refine zhZ _ _ ?_;simp only [go_sem,Ow,F0];(all_goals rfl))
theorem f1t (x:UInt32):
 Ct Tryd.prog 83 [.w (.one (.pl (.u32 x))),.w (.one (.pl (.i 20)))] (fun v m=>v=.w (.one (.pl (.u32 (Ow x 20))))):=by
 have h1:Go.RowKit.wrap64 12=12:=w64 (by decide)
 refine Ct.k Tryd.func83 rfl Tryd.ntmps83 (congrArg Array.toList Tryd.results83) (by simp) fun w0 ro=>?_
 refine Dj fun zZ zhZ=>?_
 refine Cx fun zK zhK=>?_
 simp only [go_sem,h1,Ow]
 repeat' (first|apply And.intro|intro _)
 refine zhK _ ?_
 refine r0v (id:=1) [5,6,7,8,9,10,11,12,4] [0,0,3,0,0,16,56,127,255] [] mixed (by kernel_rfl) (by simp only [go_sem]) fun zK zhK=>?_
 simp only [go_sem,h1,Ow]
 repeat' (first|apply And.intro|intro _)
 refine zhK _ _ trivial ?_
 refine Dx ?_
 refine zhZ _ _ ?_
 simp only [go_sem,h1,Ow]
 all_goals rfl
theorem r1g (x:UInt32):
 Ct Tryd.prog 85 [.w (.one (.pl (.u32 x))),.w (.one (.pl (.i (-8))))] (fun v m=>v=.w (.one (.pl (.u32 (Ow x 24))))):=by
 have h1:UInt64.ofNat ((-8:Int)%18446744073709551616).toNat&&&31=24:=rfl
 have h2:(32:UInt64)-24=8:=rfl
 have h3:UInt64.toNat 24=24:=rfl
 have h4:UInt64.toNat 8=8:=rfl
 have F0:=And.intro h1<|And.intro h2<|And.intro h3<|h4
 refine Ct.k Tryd.func85 rfl Tryd.ntmps85 (congrArg Array.toList Tryd.results85) (by simp) fun w0 ro=>?_
 refine Dj fun zZ zhZ=>?_
 iterate 8 first
  |(refine Cx fun zK zhK=>?_;simp only [go_sem,Ow,F0];(repeat' (first|apply And.intro|intro _)))
  |refine zhK _ ?_
  |refine Dx ?_
  |(refine zhZ _ _ ?_;simp only [go_sem,Ow,F0];(all_goals rfl))
theorem f1s (x:UInt32):
 Ct Tryd.prog 83 [.w (.one (.pl (.u32 x))),.w (.one (.pl (.i 24)))] (fun v m=>v=.w (.one (.pl (.u32 (Ow x 24))))):=by
 have h1:Go.RowKit.wrap64 8=8:=w64 (by decide)
 refine Ct.k Tryd.func83 rfl Tryd.ntmps83 (congrArg Array.toList Tryd.results83) (by simp) fun w0 ro=>?_
 refine Dj fun zZ zhZ=>?_
 refine Cx fun zK zhK=>?_
 simp only [go_sem,h1,Ow]
 repeat' (first|apply And.intro|intro _)
 refine zhK _ ?_
 refine r0v (id:=1) [5,6,7,8,9,10,11,12,4] [0,0,3,0,0,16,56,127,255] [] mixed (by kernel_rfl) (by simp only [go_sem]) fun zK zhK=>?_
 simp only [go_sem,h1,Ow]
 repeat' (first|apply And.intro|intro _)
 refine zhK _ _ trivial ?_
 refine Dx ?_
 refine zhZ _ _ ?_
 simp only [go_sem,h1,Ow]
 all_goals rfl
theorem r1f (x:UInt32):
 Ct Tryd.prog 85 [.w (.one (.pl (.u32 x))),.w (.one (.pl (.i (-7))))] (fun v m=>v=.w (.one (.pl (.u32 (Ow x 25))))):=by
 have h1:UInt64.ofNat ((-7:Int)%18446744073709551616).toNat&&&31=25:=rfl
 have h2:(32:UInt64)-25=7:=rfl
 have h3:UInt64.toNat 25=25:=rfl
 have h4:UInt64.toNat 7=7:=rfl
 have F0:=And.intro h1<|And.intro h2<|And.intro h3<|h4
 refine Ct.k Tryd.func85 rfl Tryd.ntmps85 (congrArg Array.toList Tryd.results85) (by simp) fun w0 ro=>?_
 refine Dj fun zZ zhZ=>?_
 iterate 8 first
  |(refine Cx fun zK zhK=>?_;simp only [go_sem,Ow,F0];(repeat' (first|apply And.intro|intro _)))
  |refine zhK _ ?_
  |refine Dx ?_
  |(refine zhZ _ _ ?_;simp only [go_sem,Ow,F0];(all_goals rfl))
theorem f1r (x:UInt32):
 Ct Tryd.prog 83 [.w (.one (.pl (.u32 x))),.w (.one (.pl (.i 25)))] (fun v m=>v=.w (.one (.pl (.u32 (Ow x 25))))):=by
 have h1:Go.RowKit.wrap64 7=7:=w64 (by decide)
 refine Ct.k Tryd.func83 rfl Tryd.ntmps83 (congrArg Array.toList Tryd.results83) (by simp) fun w0 ro=>?_
 refine Dj fun zZ zhZ=>?_
 refine Cx fun zK zhK=>?_
 simp only [go_sem,h1,Ow]
 repeat' (first|apply And.intro|intro _)
 refine zhK _ ?_
 refine r0v (id:=1) [5,6,7,8,9,10,11,12,4] [0,0,3,0,0,16,56,127,255] [] mixed (by kernel_rfl) (by simp only [go_sem]) fun zK zhK=>?_
 simp only [go_sem,h1,Ow]
 repeat' (first|apply And.intro|intro _)
 refine zhK _ _ trivial ?_
 refine Dx ?_
 refine zhZ _ _ ?_
 simp only [go_sem,h1,Ow]
 all_goals rfl
def e2a :List Nat:=[0,1,2,3,4,5,6,7,8,9,10,11,12,13,14,15,14,10,4,8,9,15,13,6,1,12,0,2,11,7,5,3,11,8,12,0,5,2,15,13,10,14,3,6,7,1,9,4,7,9,3,1,13,12,11,14,2,6,5,10,4,0,15,8,9,0,5,7,2,4,10,15,14,1,11,12,6,8,3,13,2,12,6,10,0,11,8,3,4,13,7,5,15,14,1,9,12,5,1,15,14,13,4,10,0,7,6,3,9,2,8,11,13,11,7,14,12,1,3,9,5,0,15,4,8,6,2,10,6,15,14,9,11,3,0,8,12,2,13,7,1,4,10,5,10,2,8,4,7,6,1,5,15,11,9,14,3,12,13,0]
def l1i :List UInt8:=[48,49,50,51,52,53,54,55,56,57,97,98,99,100,101,102,101,97,52,56,57,102,100,54,49,99,48,50,98,55,53,51,98,56,99,48,53,50,102,100,97,101,51,54,55,49,57,52,55,57,51,49,100,99,98,101,50,54,53,97,52,48,102,56,57,48,53,55,50,52,97,102,101,49,98,99,54,56,51,100,50,99,54,97,48,98,56,51,52,100,55,53,102,101,49,57,99,53,49,102,101,100,52,97,48,55,54,51,57,50,56,98,100,98,55,101,99,49,51,57,53,48,102,52,56,54,50,97,54,102,101,57,98,51,48,56,99,50,100,55,49,52,97,53,97,50,56,52,55,54,49,53,102,98,57,101,51,99,100,48]
def e0d (r i:Nat):Nat:=e2a.getD (16*r+i) 0
def i0r :List L:=e2a.map fun (n:Nat)=>L.pl (PL.i (n:Int))
theorem s0m {r i:Nat} (hr:r<10) (hi:i<16):e0d r i<16:=by
 have: ∀ r<10,∀ i<16,e0d r i<16:=by decide+kernel
 exact this r hr i hi
theorem l0a :i0r.length=160:=rfl
theorem s1a {r:Nat} (hr:r<10):List.take 16 (List.drop (r*16) i0r)=[.pl (.i ((e0d r 0:Nat):Int)),.pl (.i ((e0d r 1:Nat):Int)),.pl (.i ((e0d r 2:Nat):Int)),.pl (.i ((e0d r 3:Nat):Int)),.pl (.i ((e0d r 4:Nat):Int)),.pl (.i ((e0d r 5:Nat):Int)),.pl (.i ((e0d r 6:Nat):Int)),.pl (.i ((e0d r 7:Nat):Int)),.pl (.i ((e0d r 8:Nat):Int)),.pl (.i ((e0d r 9:Nat):Int)),.pl (.i ((e0d r 10:Nat):Int)),.pl (.i ((e0d r 11:Nat):Int)),.pl (.i ((e0d r 12:Nat):Int)),.pl (.i ((e0d r 13:Nat):Int)),.pl (.i ((e0d r 14:Nat):Int)),.pl (.i ((e0d r 15:Nat):Int))]:=by
 have:r=0∨r=1∨r=2∨r=3∨r=4∨r=5∨r=6∨r=7∨r=8∨r=9:=by omega
 rcases this with rfl|rfl|rfl|rfl|rfl|rfl|rfl|rfl|rfl|rfl
 all_goals rfl
def b2n (c:UInt8):Nat:=if 97≤c then (c-97).toNat+10 else (c-48).toNat
theorem s0n {r i:Nat} (hr:r<10) (hi:i<16):b2n (l1i.getD (16*r+i) 0)=e0d r i:=by
 have: ∀ r<10,∀ i<16,b2n (l1i.getD (16*r+i) 0)=e0d r i:=by decide+kernel
 exact this r hr i hi
theorem Uv :l1i.length=160:=rfl
theorem Xz :(List.append (List.append ([48,49,50,51,52,53,54,55,56,57,97,98,99,100,101,102,101,97,52,56,57,102,100,54,49,99,48,50,98,55,53,51,98,56,99,48,53,50,102,100]:List UInt8) [97,101,51,54,55,49,57,52,55,57,51,49,100,99,98,101,50,54,53,97,52,48,102,56,57,48,53,55,50,52,97,102,101,49,98,99,54,56,51,100]) (List.append ([50,99,54,97,48,98,56,51,52,100,55,53,102,101,49,57,99,53,49,102,101,100,52,97,48,55,54,51,57,50,56,98,100,98,55,101,99,49,51,57]:List UInt8) [53,48,102,52,56,54,50,97,54,102,101,57,98,51,48,56,99,50,100,55,49,52,97,53,97,50,56,52,55,54,49,53,102,98,57,101,51,99,100,48]))=l1i:=rfl
theorem r1z (r i:Nat) (hr:r<10) (hi:i<16) (hq:97≤l1i.getD (16*r+i) 0):
 Ct Tryd.prog 80 [.w (.one (.pl (.i (r:Int)))),.w (.one (.pl (.i (i:Int))))] (fun v m=>v=.w (.one (.pl (.i ((e0d r i:Nat):Int))))):=by
 obtain ⟨c,hc⟩: ∃ c,l1i.getD (16*r+i) 0=c:=⟨_,rfl⟩
 have hd:=s0n hr hi
 rw [hc] at hd hq
 have hw:Go.RowKit.wrap64 (16*((r:Nat):Int))=((16*r:Nat):Int):=Ny (by omega) (by omega)
 have hw2:Go.RowKit.wrap64 (((16*r:Nat):Int)+((i:Nat):Int))=((16*r+i:Nat):Int):=Ny (by omega) (by omega)
 have g0:(0:Int)≤((16*r+i:Nat):Int):=by omega
 have g1:((16*r+i:Nat):Int)<160:=by omega
 have hx:=c.toNat_lt
 have hS:=hc
 have hun:e0d r i=(c-97).toNat+10:=by rw [←hd,b2n,if_pos hq]
 have hz:=(c-97).toNat_lt
 have hw3:Go.RowKit.wrap64 ((((c-97).toNat:Nat):Int)+10)=(((c-97).toNat+10:Nat):Int):=Ny (by omega) (by omega)
 have F0:=And.intro hS<|And.intro hw<|And.intro hw2<|And.intro g0<|And.intro g1<|And.intro hq<|And.intro hw3<|hun
 refine Ct.k Tryd.func80 rfl Tryd.ntmps80 (congrArg Array.toList Tryd.results80) (by simp) fun w0 ro=>?_
 refine Dj fun zZ zhZ=>?_
 iterate 13 first
  |(refine Cx fun zK zhK=>?_;simp only [go_sem,Xz,Uv,F0];(repeat' (first|apply And.intro|intro _)))
  |refine zhK _ ?_
  |refine Dx ?_
  |(refine zhM _ _ ?_;clear zhN zhM)
  |(refine zhZ _ _ ?_;simp only [go_sem,Xz,Uv,F0];(all_goals rfl))
  |refine Bz fun zN zM zhN zhM=>?_
  |(refine Bv ?_ ?_;focus (first|rfl|(simp [go_sem,Xz,Uv,F0];done)))
theorem r1y (r i:Nat) (hr:r<10) (hi:i<16) (hq:¬97≤l1i.getD (16*r+i) 0):
 Ct Tryd.prog 80 [.w (.one (.pl (.i (r:Int)))),.w (.one (.pl (.i (i:Int))))] (fun v m=>v=.w (.one (.pl (.i ((e0d r i:Nat):Int))))):=by
 obtain ⟨c,hc⟩: ∃ c,l1i.getD (16*r+i) 0=c:=⟨_,rfl⟩
 have hd:=s0n hr hi
 rw [hc] at hd hq
 have hw:Go.RowKit.wrap64 (16*((r:Nat):Int))=((16*r:Nat):Int):=Ny (by omega) (by omega)
 have hw2:Go.RowKit.wrap64 (((16*r:Nat):Int)+((i:Nat):Int))=((16*r+i:Nat):Int):=Ny (by omega) (by omega)
 have g0:(0:Int)≤((16*r+i:Nat):Int):=by omega
 have g1:((16*r+i:Nat):Int)<160:=by omega
 have hx:=c.toNat_lt
 have hS:=hc
 have hun:e0d r i=(c-48).toNat:=by rw [←hd,b2n,if_neg hq]
 have F0:=And.intro hS<|And.intro hw<|And.intro hw2<|And.intro g0<|And.intro g1<|And.intro hq<|hun
 refine Ct.k Tryd.func80 rfl Tryd.ntmps80 (congrArg Array.toList Tryd.results80) (by simp) fun w0 ro=>?_
 refine Dj fun zZ zhZ=>?_
 iterate 14 first
  |(refine Cx fun zK zhK=>?_;simp only [go_sem,Xz,Uv,F0];(repeat' (first|apply And.intro|intro _)))
  |refine zhK _ ?_
  |refine Cw ?_
  |(refine zhN _ ?_;clear zhN zhM)
  |refine Dx ?_
  |(refine zhZ _ _ ?_;simp only [go_sem,Xz,Uv,F0];(all_goals rfl))
  |refine Bz fun zN zM zhN zhM=>?_
  |(refine Cy ?_ ?_;focus (first|rfl|(simp [go_sem,Xz,Uv,F0];done)))
theorem y1t (r i:Nat) (hr:r<10) (hi:i<16):Ct Tryd.prog 80 [.w (.one (.pl (.i (r:Int)))),.w (.one (.pl (.i (i:Int))))] (fun v m=>v=.w (.one (.pl (.i ((e0d r i:Nat):Int))))):=by
 by_cases hq:97≤l1i.getD (16*r+i) 0
 · exact r1z r i hr hi hq
 · exact r1y r i hr hi hq
end Bk
end Go.Sy
