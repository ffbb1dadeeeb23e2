/- Walks: words turned; the order of the words. -/
import Derived.Test.YtkfcbhgkpknagaaGreatDoorvE3
import Derived.Test.YtkfcbhgkpknagaaGreatDoorvS1
import Derived.Test.YtkfcbhgkpknagaaGreatDoorvS2
set_option linter.unusedVariables false
set_option linter.unusedSimpArgs false
set_option maxHeartbeats 800000
set_option maxRecDepth 100000
namespace Go.Sy
namespace Bk
open Go.Proofs
attribute [local irreducible] Bw HT Aj Jk onC onE onO onG goV goA goS Lx Bz
theorem c2k :UInt64.toNat 2=2:=rfl
theorem c2i :UInt64.toNat 4=4:=rfl
theorem c2h :UInt64.toNat 5=5:=rfl
theorem c2g :UInt64.toNat 7=7:=rfl
theorem c2f :UInt64.toNat 8=8:=rfl
theorem m1s :UInt64.toNat 12=12:=rfl
theorem m1r :UInt64.toNat 14=14:=rfl
theorem m1q :UInt64.toNat 15=15:=rfl
theorem m1p :UInt64.toNat 16=16:=rfl
theorem m1o :UInt64.toNat 24=24:=rfl
theorem m1n :UInt64.toNat 26=26:=rfl
theorem m1m :UInt64.toNat 32=32:=rfl
theorem m1l :UInt64.toNat 40=40:=rfl
theorem m1k :UInt64.toNat 52=52:=rfl
theorem m1j :UInt64.toNat 62=62:=rfl
theorem c2j :UInt64.toNat 256=256:=rfl
attribute [go_sem] c2k c2i c2h c2g c2f m1s m1r m1q m1p m1o m1n m1m m1l m1k m1j c2j
theorem drop_cons {l:List UInt8} {j:Nat} (h:j<l.length):l.drop j=l.getD j 0::l.drop (j+1):=by
 rw [xM h];congr 1;simp [List.getD,yO h]
theorem Gy {a:Int} {n:Nat} (h:a=(n:Int)) (hn:n≤9223372036854775807):Go.RowKit.wrap64 a=(n:Int):=by subst h;exact w64 (by omega)
def Kq (x:UInt32) (k:Nat):UInt32:=Rx x k|||a0u x (32-k)
theorem b1q (x:UInt32):
 Ct Tryz.prog 116 [.w (.one (.pl (.u32 x))),.w (.one (.pl (.i (-16))))] (fun v m=>v=.w (.one (.pl (.u32 (Kq x 16))))):=by
 have h1:UInt64.ofNat ((-16:Int)%18446744073709551616).toNat&&&31=16:=rfl
 have h2:(32:UInt64)-16=16:=rfl
 have h3:UInt64.toNat 16=16:=rfl
 have h4:UInt64.toNat 16=16:=rfl
 have F0:=yA h1<|yA h2<|yA h3<|yA h4<|Kq.eq_1
 exact Ct.go Tryz.func116 rfl Tryz.ntmps116 Tryz.results116
theorem p0q (x:UInt32):
 Ct Tryz.prog 123 [.w (.one (.pl (.u32 x))),.w (.one (.pl (.i 16)))] (fun v m=>v=.w (.one (.pl (.u32 (Kq x 16))))):=by
 have h1:Go.RowKit.wrap64 16=16:=w64 (by decide)
 have F0:=yA h1<|Kq.eq_1
 have zd0:DQ 1 [5,6,7,8,9,10,11,12,4] [0,0,3,0,0,16,56,127,255] []:=⟨⟩
 exact Ct.go Tryz.func123 rfl Tryz.ntmps123 Tryz.results123
theorem d2e (x:UInt32):
 Ct Tryz.prog 116 [.w (.one (.pl (.u32 x))),.w (.one (.pl (.i (-12))))] (fun v m=>v=.w (.one (.pl (.u32 (Kq x 20))))):=by
 have h1:UInt64.ofNat ((-12:Int)%18446744073709551616).toNat&&&31=20:=rfl
 have h2:(32:UInt64)-20=12:=rfl
 have h3:UInt64.toNat 20=20:=rfl
 have h4:UInt64.toNat 12=12:=rfl
 have F0:=yA h1<|yA h2<|yA h3<|yA h4<|Kq.eq_1
 exact Ct.go Tryz.func116 rfl Tryz.ntmps116 Tryz.results116
theorem p1r (x:UInt32):
 Ct Tryz.prog 123 [.w (.one (.pl (.u32 x))),.w (.one (.pl (.i 20)))] (fun v m=>v=.w (.one (.pl (.u32 (Kq x 20))))):=by
 have h1:Go.RowKit.wrap64 12=12:=w64 (by decide)
 have F0:=yA h1<|Kq.eq_1
 have zd0:DQ 1 [5,6,7,8,9,10,11,12,4] [0,0,3,0,0,16,56,127,255] []:=⟨⟩
 exact Ct.go Tryz.func123 rfl Tryz.ntmps123 Tryz.results123
theorem d2d (x:UInt32):
 Ct Tryz.prog 116 [.w (.one (.pl (.u32 x))),.w (.one (.pl (.i (-8))))] (fun v m=>v=.w (.one (.pl (.u32 (Kq x 24))))):=by
 have h1:UInt64.ofNat ((-8:Int)%18446744073709551616).toNat&&&31=24:=rfl
 have h2:(32:UInt64)-24=8:=rfl
 have h3:UInt64.toNat 24=24:=rfl
 have h4:UInt64.toNat 8=8:=rfl
 have F0:=yA h1<|yA h2<|yA h3<|yA h4<|Kq.eq_1
 exact Ct.go Tryz.func116 rfl Tryz.ntmps116 Tryz.results116
theorem p1q (x:UInt32):
 Ct Tryz.prog 123 [.w (.one (.pl (.u32 x))),.w (.one (.pl (.i 24)))] (fun v m=>v=.w (.one (.pl (.u32 (Kq x 24))))):=by
 have h1:Go.RowKit.wrap64 8=8:=w64 (by decide)
 have F0:=yA h1<|Kq.eq_1
 have zd0:DQ 1 [5,6,7,8,9,10,11,12,4] [0,0,3,0,0,16,56,127,255] []:=⟨⟩
 exact Ct.go Tryz.func123 rfl Tryz.ntmps123 Tryz.results123
theorem d2c (x:UInt32):
 Ct Tryz.prog 116 [.w (.one (.pl (.u32 x))),.w (.one (.pl (.i (-7))))] (fun v m=>v=.w (.one (.pl (.u32 (Kq x 25))))):=by
 have h1:UInt64.ofNat ((-7:Int)%18446744073709551616).toNat&&&31=25:=rfl
 have h2:(32:UInt64)-25=7:=rfl
 have h3:UInt64.toNat 25=25:=rfl
 have h4:UInt64.toNat 7=7:=rfl
 have F0:=yA h1<|yA h2<|yA h3<|yA h4<|Kq.eq_1
 exact Ct.go Tryz.func116 rfl Tryz.ntmps116 Tryz.results116
theorem p1p (x:UInt32):
 Ct Tryz.prog 123 [.w (.one (.pl (.u32 x))),.w (.one (.pl (.i 25)))] (fun v m=>v=.w (.one (.pl (.u32 (Kq x 25))))):=by
 have h1:Go.RowKit.wrap64 7=7:=w64 (by decide)
 have F0:=yA h1<|Kq.eq_1
 have zd0:DQ 1 [5,6,7,8,9,10,11,12,4] [0,0,3,0,0,16,56,127,255] []:=⟨⟩
 exact Ct.go Tryz.func123 rfl Tryz.ntmps123 Tryz.results123
def s2d :List Nat:=[0,1,2,3,4,5,6,7,8,9,10,11,12,13,14,15,14,10,4,8,9,15,13,6,1,12,0,2,11,7,5,3,11,8,12,0,5,2,15,13,10,14,3,6,7,1,9,4,7,9,3,1,13,12,11,14,2,6,5,10,4,0,15,8,9,0,5,7,2,4,10,15,14,1,11,12,6,8,3,13,2,12,6,10,0,11,8,3,4,13,7,5,15,14,1,9,12,5,1,15,14,13,4,10,0,7,6,3,9,2,8,11,13,11,7,14,12,1,3,9,5,0,15,4,8,6,2,10,6,15,14,9,11,3,0,8,12,2,13,7,1,4,10,5,10,2,8,4,7,6,1,5,15,11,9,14,3,12,13,0]
def w1k :List UInt8:=[48,49,50,51,52,53,54,55,56,57,97,98,99,100,101,102,101,97,52,56,57,102,100,54,49,99,48,50,98,55,53,51,98,56,99,48,53,50,102,100,97,101,51,54,55,49,57,52,55,57,51,49,100,99,98,101,50,54,53,97,52,48,102,56,57,48,53,55,50,52,97,102,101,49,98,99,54,56,51,100,50,99,54,97,48,98,56,51,52,100,55,53,102,101,49,57,99,53,49,102,101,100,52,97,48,55,54,51,57,50,56,98,100,98,55,101,99,49,51,57,53,48,102,52,56,54,50,97,54,102,101,57,98,51,48,56,99,50,100,55,49,52,97,53,97,50,56,52,55,54,49,53,102,98,57,101,51,99,100,48]
def g0v (r i:Nat):Nat:=s2d.getD (16*r+i) 0
def j0h :List L:=s2d.map fun (n:Nat)=>L.pl (PL.i (n:Int))
theorem y0t {r i:Nat} (hr:r<10) (hi:i<16):g0v r i<16:=by
 have: ∀ r<10,∀ i<16,g0v r i<16:=by decide+kernel
 exact this r hr i hi
theorem p0h :j0h.length=160:=rfl
theorem e2i {r:Nat} (hr:r<10):List.take 16 (List.drop (r*16) j0h)=[.pl (.i ((g0v r 0:Nat):Int)),.pl (.i ((g0v r 1:Nat):Int)),.pl (.i ((g0v r 2:Nat):Int)),.pl (.i ((g0v r 3:Nat):Int)),.pl (.i ((g0v r 4:Nat):Int)),.pl (.i ((g0v r 5:Nat):Int)),.pl (.i ((g0v r 6:Nat):Int)),.pl (.i ((g0v r 7:Nat):Int)),.pl (.i ((g0v r 8:Nat):Int)),.pl (.i ((g0v r 9:Nat):Int)),.pl (.i ((g0v r 10:Nat):Int)),.pl (.i ((g0v r 11:Nat):Int)),.pl (.i ((g0v r 12:Nat):Int)),.pl (.i ((g0v r 13:Nat):Int)),.pl (.i ((g0v r 14:Nat):Int)),.pl (.i ((g0v r 15:Nat):Int))]:=by
 have:r=0∨r=1∨r=2∨r=3∨r=4∨r=5∨r=6∨r=7∨r=8∨r=9:=by omega
 rcases this with rfl|rfl|rfl|rfl|rfl|rfl|rfl|rfl|rfl|rfl
 all_goals rfl
def p2h (c:UInt8):Nat:=if 97≤c then (c-97).toNat+10 else (c-48).toNat
theorem y0u {r i:Nat} (hr:r<10) (hi:i<16):p2h (w1k.getD (16*r+i) 0)=g0v r i:=by
 have: ∀ r<10,∀ i<16,p2h (w1k.getD (16*r+i) 0)=g0v r i:=by decide+kernel
 exact this r hr i hi
theorem p0g :w1k.length=160:=rfl
theorem s0v :(List.append (List.append ([48,49,50,51,52,53,54,55,56,57,97,98,99,100,101,102,101,97,52,56,57,102,100,54,49,99,48,50,98,55,53,51,98,56,99,48,53,50,102,100]:List UInt8) [97,101,51,54,55,49,57,52,55,57,51,49,100,99,98,101,50,54,53,97,52,48,102,56,57,48,53,55,50,52,97,102,101,49,98,99,54,56,51,100]) (List.append ([50,99,54,97,48,98,56,51,52,100,55,53,102,101,49,57,99,53,49,102,101,100,52,97,48,55,54,51,57,50,56,98,100,98,55,101,99,49,51,57]:List UInt8) [53,48,102,52,56,54,50,97,54,102,101,57,98,51,48,56,99,50,100,55,49,52,97,53,97,50,56,52,55,54,49,53,102,98,57,101,51,99,100,48]))=w1k:=rfl
theorem e2h (r i:Nat) (hr:r<10) (hi:i<16) (hq:97≤w1k.getD (16*r+i) 0):
 Ct Tryz.prog 140 [.w (.one (.pl (.i (r:Int)))),.w (.one (.pl (.i (i:Int))))] (fun v m=>v=.w (.one (.pl (.i ((g0v r i:Nat):Int))))):=by
 obtain ⟨c,hc⟩: ∃ c,w1k.getD (16*r+i) 0=c:=⟨_,rfl⟩
 have hd:=y0u hr hi
 rw [hc] at hd hq
 have hw:Go.RowKit.wrap64 (16*((r:Nat):Int))=((16*r:Nat):Int):=Gy (by omega) (by omega)
 have hw2:Go.RowKit.wrap64 (((16*r:Nat):Int)+((i:Nat):Int))=((16*r+i:Nat):Int):=Gy (by omega) (by omega)
 have g0:(0:Int)≤((16*r+i:Nat):Int):=by omega
 have g1:((16*r+i:Nat):Int)<160:=by omega
 have hx:=c.toNat_lt
 have hS:=hc
 have hun:g0v r i=(c-97).toNat+10:=by rw [←hd,p2h,if_pos hq]
 have hz:=(c-97).toNat_lt
 have hw3:Go.RowKit.wrap64 ((((c-97).toNat:Nat):Int)+10)=(((c-97).toNat+10:Nat):Int):=Gy (by omega) (by omega)
 have F0:=yA hS<|yA @s0v<|yA @p0g<|yA hw<|yA hw2<|yA g0<|yA g1<|yA hq<|yA hw3<|hun
 exact Ct.go Tryz.func140 rfl Tryz.ntmps140 Tryz.results140
theorem e2g (r i:Nat) (hr:r<10) (hi:i<16) (hq:¬97≤w1k.getD (16*r+i) 0):
 Ct Tryz.prog 140 [.w (.one (.pl (.i (r:Int)))),.w (.one (.pl (.i (i:Int))))] (fun v m=>v=.w (.one (.pl (.i ((g0v r i:Nat):Int))))):=by
 obtain ⟨c,hc⟩: ∃ c,w1k.getD (16*r+i) 0=c:=⟨_,rfl⟩
 have hd:=y0u hr hi
 rw [hc] at hd hq
 have hw:Go.RowKit.wrap64 (16*((r:Nat):Int))=((16*r:Nat):Int):=Gy (by omega) (by omega)
 have hw2:Go.RowKit.wrap64 (((16*r:Nat):Int)+((i:Nat):Int))=((16*r+i:Nat):Int):=Gy (by omega) (by omega)
 have g0:(0:Int)≤((16*r+i:Nat):Int):=by omega
 have g1:((16*r+i:Nat):Int)<160:=by omega
 have hx:=c.toNat_lt
 have hS:=hc
 have hun:g0v r i=(c-48).toNat:=by rw [←hd,p2h,if_neg hq]
 have F0:=yA hS<|yA @s0v<|yA @p0g<|yA hw<|yA hw2<|yA g0<|yA g1<|yA hq<|hun
 exact Ct.go Tryz.func140 rfl Tryz.ntmps140 Tryz.results140
theorem l2y (r i:Nat) (hr:r<10) (hi:i<16):Ct Tryz.prog 140 [.w (.one (.pl (.i (r:Int)))),.w (.one (.pl (.i (i:Int))))] (fun v m=>v=.w (.one (.pl (.i ((g0v r i:Nat):Int))))):=by
 by_cases hq:97≤w1k.getD (16*r+i) 0
 ·exact e2h r i hr hi hq
 exact e2g r i hr hi hq
end Bk
end Go.Sy
