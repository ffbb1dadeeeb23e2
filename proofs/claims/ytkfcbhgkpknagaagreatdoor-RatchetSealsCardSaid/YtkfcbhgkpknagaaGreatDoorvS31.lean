/- Walks and what they compute. CONDITIONS: those that each theorem names. -/
import Derived.Test.YtkfcbhgkpknagaaGreatDoorvS28
import Derived.Test.YtkfcbhgkpknagaaGreatDoorvS29
import Derived.Test.YtkfcbhgkpknagaaGreatDoorvE3
import Derived.Test.YtkfcbhgkpknagaaGreatDoorvS30
set_option linter.unusedVariables false
set_option linter.unusedSimpArgs false
set_option maxHeartbeats 3200000
set_option maxRecDepth 100000
namespace Go.Sy
def k1n (k:List UInt8) (i:Nat):UInt8:=t1p (k.getD (i/8) 0) (i%8)%2
def oft (k:List UInt8) (u:Nat):Nat→Pt×Pt
 |0=>(⟨1,0⟩,⟨u,1⟩)
 |m+1=>if k1n k (254-m)=1 then (d0d (oft k u m).1 (oft k u m).2 u,w0k (oft k u m).2) else (w0k (oft k u m).1,d0d (oft k u m).1 (oft k u m).2 u)
theorem l0x (p:Pt):(w0k p).ok:=⟨Tx _ _,Tx _ _⟩
theorem g0a (p q:Pt) (u:Nat):(d0d p q u).ok:=⟨Tx _ _,Tx _ _⟩
theorem o1u (k:List UInt8) {u:Nat} (hu:u<p25): ∀ m,(oft k u m).1.ok∧(oft k u m).2.ok
 |0=>⟨⟨show (1:Nat)<p25 by decide,show (0:Nat)<p25 by decide⟩,⟨hu,show (1:Nat)<p25 by decide⟩⟩
 |m+1=>by
   simp only [oft]
   split
   ·exact ⟨g0a _ _ _,l0x _⟩
   exact ⟨l0x _,g0a _ _ _⟩
def lastB (k:List UInt8) (y:Nat):Bool:=decide (y<255)&&decide (k1n k y=1)
def n0a (k:List UInt8):List UInt8:=(k.getD 0 0&&&248)::((k.drop 1).take 30++[k.getD 31 0&&&127|||64])
theorem k0g {k:List UInt8} (h:k.length=32):(n0a k).length=32:=by
 simp [n0a,h]
theorem r2o {p:UInt8→Prop} (h: ∀ n<256,p (UInt8.ofNat n)) (x:UInt8):p x:=by
 have:=h x.toNat x.toNat_lt
 rwa [UInt8.ofNat_toNat] at this
theorem z1n (x:UInt8):x-x%8=x&&&248:=r2o (p:=fun x=>x-x%8=x&&&248) (by decide+kernel) x
theorem z1o (x:UInt8):x%64+64=x&&&127|||64:=r2o (p:=fun x=>x%64+64=x&&&127|||64) (by decide+kernel) x
theorem o0h (x:UInt8):x.toUInt64&&&1=if x%2=1 then 1 else 0:=r2o (p:=fun x=>x.toUInt64&&&1=if x%2=1 then 1 else 0) (by decide+kernel) x
theorem x00 :(0:UInt64)^^^0=0:=rfl
theorem x01 :(0:UInt64)^^^1=1:=rfl
theorem x10 :(1:UInt64)^^^0=1:=rfl
theorem x11 :(1:UInt64)^^^1=0:=rfl
def frN (l:List UInt8):Nat:=vQ (orW (l.getD 0 0) (l.getD 1 0) (l.getD 2 0) (l.getD 3 0) (l.getD 4 0) (l.getD 5 0) (l.getD 6 0) (l.getD 7 0)) (orW (l.getD 8 0) (l.getD 9 0) (l.getD 10 0) (l.getD 11 0) (l.getD 12 0) (l.getD 13 0) (l.getD 14 0) (l.getD 15 0)) (orW (l.getD 16 0) (l.getD 17 0) (l.getD 18 0) (l.getD 19 0) (l.getD 20 0) (l.getD 21 0) (l.getD 22 0) (l.getD 23 0)) (orW (l.getD 24 0) (l.getD 25 0) (l.getD 26 0) (l.getD 27 0) (l.getD 28 0) (l.getD 29 0) (l.getD 30 0) (l.getD 31 0)&&&9223372036854775807)%p25
theorem b2e (l:List UInt8):frN l<p25:=wP _ b0u
def t0c (k u:List UInt8):Nat:=fM (oft (n0a k) (frN u) 255).1.x (pw (oft (n0a k) (frN u) 255).1.z eP)
def wB (n:Nat):List UInt8:=by4 (UInt64.ofNat (n%18446744073709551616)) (UInt64.ofNat (n/18446744073709551616%18446744073709551616)) (UInt64.ofNat (n/18446744073709551616/18446744073709551616%18446744073709551616)) (UInt64.ofNat (n/18446744073709551616/18446744073709551616/18446744073709551616%18446744073709551616))
theorem Zy (n:Nat):(wB n).length=32:=rfl
theorem b2v {n:Nat} {a b c d:UInt64} (h:w4 n=[a,b,c,d]):by4 a b c d=wB n:=by
 have e:w4 n=[UInt64.ofNat (n%18446744073709551616),UInt64.ofNat (n/18446744073709551616%18446744073709551616),UInt64.ofNat (n/18446744073709551616/18446744073709551616%18446744073709551616),UInt64.ofNat (n/18446744073709551616/18446744073709551616/18446744073709551616%18446744073709551616)]:=rfl
 rw [e] at h
 simp only [List.cons.injEq,and_true] at h
 obtain ⟨rfl,rfl,rfl,rfl⟩:=h
 rfl
end Go.Sy
namespace Go.Sy
namespace Lk
open Go.Proofs
attribute [local irreducible] Bw HT Aj Jk onC onE onO onG goV goA goS Lx Bz
theorem Lv {q:List UInt8} {i:Nat} (h:i<q.length):List.take 1 (List.drop i q)=[q.getD i 0]:=by
 rw [xM h,wE,wH]
 simp [List.getD,yO h]
theorem Fj (x:UInt8):Az [x]=[.pl (.u8 x)]:=rfl
theorem q2p :((8:UInt8)=0)=False:=eq_false (by decide)
theorem m2m :((64:UInt8)=0)=False:=eq_false (by decide)
theorem m2n :((2:UInt8)=0)=False:=eq_false (by decide)
theorem i2a (x0 x1 x2 x3 x4 x5 x6 x7 x8 x9 x10 x11 x12 x13 x14 x15 x16 x17 x18 x19 x20 x21 x22 x23 x24 x25 x26 x27 x28 x29 x30 x31:UInt8):
 Ct Tryz.prog 46 [.w (.agg [.pl (.u8 x0),.pl (.u8 x1),.pl (.u8 x2),.pl (.u8 x3),.pl (.u8 x4),.pl (.u8 x5),.pl (.u8 x6),.pl (.u8 x7),.pl (.u8 x8),.pl (.u8 x9),.pl (.u8 x10),.pl (.u8 x11),.pl (.u8 x12),.pl (.u8 x13),.pl (.u8 x14),.pl (.u8 x15),.pl (.u8 x16),.pl (.u8 x17),.pl (.u8 x18),.pl (.u8 x19),.pl (.u8 x20),.pl (.u8 x21),.pl (.u8 x22),.pl (.u8 x23),.pl (.u8 x24),.pl (.u8 x25),.pl (.u8 x26),.pl (.u8 x27),.pl (.u8 x28),.pl (.u8 x29),.pl (.u8 x30),.pl (.u8 x31)])] (fun v m=>v=.w (.agg [.pl (.u8 (x0&&&248)),.pl (.u8 x1),.pl (.u8 x2),.pl (.u8 x3),.pl (.u8 x4),.pl (.u8 x5),.pl (.u8 x6),.pl (.u8 x7),.pl (.u8 x8),.pl (.u8 x9),.pl (.u8 x10),.pl (.u8 x11),.pl (.u8 x12),.pl (.u8 x13),.pl (.u8 x14),.pl (.u8 x15),.pl (.u8 x16),.pl (.u8 x17),.pl (.u8 x18),.pl (.u8 x19),.pl (.u8 x20),.pl (.u8 x21),.pl (.u8 x22),.pl (.u8 x23),.pl (.u8 x24),.pl (.u8 x25),.pl (.u8 x26),.pl (.u8 x27),.pl (.u8 x28),.pl (.u8 x29),.pl (.u8 x30),.pl (.u8 (x31&&&127|||64))])):=by
 have F0:=trivial
 exact Ct.go Tryz.func46 rfl Tryz.ntmps46 Tryz.results46
theorem v1j (x0 x1 x2 x3 x4 x5 x6 x7 x8 x9 x10 x11 x12 x13 x14 x15 x16 x17 x18 x19 x20 x21 x22 x23 x24 x25 x26 x27 x28 x29 x30 x31:UInt8):
 Ct Tryz.prog 61 [.w (.agg [.pl (.u8 x0),.pl (.u8 x1),.pl (.u8 x2),.pl (.u8 x3),.pl (.u8 x4),.pl (.u8 x5),.pl (.u8 x6),.pl (.u8 x7),.pl (.u8 x8),.pl (.u8 x9),.pl (.u8 x10),.pl (.u8 x11),.pl (.u8 x12),.pl (.u8 x13),.pl (.u8 x14),.pl (.u8 x15),.pl (.u8 x16),.pl (.u8 x17),.pl (.u8 x18),.pl (.u8 x19),.pl (.u8 x20),.pl (.u8 x21),.pl (.u8 x22),.pl (.u8 x23),.pl (.u8 x24),.pl (.u8 x25),.pl (.u8 x26),.pl (.u8 x27),.pl (.u8 x28),.pl (.u8 x29),.pl (.u8 x30),.pl (.u8 x31)])] (fun v m=>v=.w (.agg [.pl (.u8 (x0&&&248)),.pl (.u8 x1),.pl (.u8 x2),.pl (.u8 x3),.pl (.u8 x4),.pl (.u8 x5),.pl (.u8 x6),.pl (.u8 x7),.pl (.u8 x8),.pl (.u8 x9),.pl (.u8 x10),.pl (.u8 x11),.pl (.u8 x12),.pl (.u8 x13),.pl (.u8 x14),.pl (.u8 x15),.pl (.u8 x16),.pl (.u8 x17),.pl (.u8 x18),.pl (.u8 x19),.pl (.u8 x20),.pl (.u8 x21),.pl (.u8 x22),.pl (.u8 x23),.pl (.u8 x24),.pl (.u8 x25),.pl (.u8 x26),.pl (.u8 x27),.pl (.u8 x28),.pl (.u8 x29),.pl (.u8 x30),.pl (.u8 (x31&&&127|||64))])):=by
 have F0:=yA @q2p<|@m2m
 refine Ct.go Tryz.func61 rfl Tryz.ntmps61 Tryz.results61 fun w0 ro zZ zhY=>?_
 refine (fun zX=>goW) ?_
 refine zhY _ _ ?_
 simp only [go_sem,F0]
 all_goals (rw [←z1n,←z1o])
theorem o2o (l:List UInt8) (hl:l.length=32):Ct Tryz.prog 46 [.w (.agg (Az l))] (fun v m=>v=.w (.agg (Az (n0a l)))):=by
 obtain ⟨x0,l0,rfl,e0⟩:=Ak hl
 obtain ⟨x1,l1,rfl,e1⟩:=Ak e0
 obtain ⟨x2,l2,rfl,e2⟩:=Ak e1
 obtain ⟨x3,l3,rfl,e3⟩:=Ak e2
 obtain ⟨x4,l4,rfl,e4⟩:=Ak e3
 obtain ⟨x5,l5,rfl,e5⟩:=Ak e4
 obtain ⟨x6,l6,rfl,e6⟩:=Ak e5
 obtain ⟨x7,l7,rfl,e7⟩:=Ak e6
 obtain ⟨x8,l8,rfl,e8⟩:=Ak e7
 obtain ⟨x9,l9,rfl,e9⟩:=Ak e8
 obtain ⟨x10,l10,rfl,e10⟩:=Ak e9
 obtain ⟨x11,l11,rfl,e11⟩:=Ak e10
 obtain ⟨x12,l12,rfl,e12⟩:=Ak e11
 obtain ⟨x13,l13,rfl,e13⟩:=Ak e12
 obtain ⟨x14,l14,rfl,e14⟩:=Ak e13
 obtain ⟨x15,l15,rfl,e15⟩:=Ak e14
 obtain ⟨x16,l16,rfl,e16⟩:=Ak e15
 obtain ⟨x17,l17,rfl,e17⟩:=Ak e16
 obtain ⟨x18,l18,rfl,e18⟩:=Ak e17
 obtain ⟨x19,l19,rfl,e19⟩:=Ak e18
 obtain ⟨x20,l20,rfl,e20⟩:=Ak e19
 obtain ⟨x21,l21,rfl,e21⟩:=Ak e20
 obtain ⟨x22,l22,rfl,e22⟩:=Ak e21
 obtain ⟨x23,l23,rfl,e23⟩:=Ak e22
 obtain ⟨x24,l24,rfl,e24⟩:=Ak e23
 obtain ⟨x25,l25,rfl,e25⟩:=Ak e24
 obtain ⟨x26,l26,rfl,e26⟩:=Ak e25
 obtain ⟨x27,l27,rfl,e27⟩:=Ak e26
 obtain ⟨x28,l28,rfl,e28⟩:=Ak e27
 obtain ⟨x29,l29,rfl,e29⟩:=Ak e28
 obtain ⟨x30,l30,rfl,e30⟩:=Ak e29
 obtain ⟨x31,l31,rfl,e31⟩:=Ak e30
 obtain rfl:=xH e31
 exact i2a x0 x1 x2 x3 x4 x5 x6 x7 x8 x9 x10 x11 x12 x13 x14 x15 x16 x17 x18 x19 x20 x21 x22 x23 x24 x25 x26 x27 x28 x29 x30 x31
theorem d2r (l:List UInt8) (hl:l.length=32):Ct Tryz.prog 61 [.w (.agg (Az l))] (fun v m=>v=.w (.agg (Az (n0a l)))):=by
 obtain ⟨x0,l0,rfl,e0⟩:=Ak hl
 obtain ⟨x1,l1,rfl,e1⟩:=Ak e0
 obtain ⟨x2,l2,rfl,e2⟩:=Ak e1
 obtain ⟨x3,l3,rfl,e3⟩:=Ak e2
 obtain ⟨x4,l4,rfl,e4⟩:=Ak e3
 obtain ⟨x5,l5,rfl,e5⟩:=Ak e4
 obtain ⟨x6,l6,rfl,e6⟩:=Ak e5
 obtain ⟨x7,l7,rfl,e7⟩:=Ak e6
 obtain ⟨x8,l8,rfl,e8⟩:=Ak e7
 obtain ⟨x9,l9,rfl,e9⟩:=Ak e8
 obtain ⟨x10,l10,rfl,e10⟩:=Ak e9
 obtain ⟨x11,l11,rfl,e11⟩:=Ak e10
 obtain ⟨x12,l12,rfl,e12⟩:=Ak e11
 obtain ⟨x13,l13,rfl,e13⟩:=Ak e12
 obtain ⟨x14,l14,rfl,e14⟩:=Ak e13
 obtain ⟨x15,l15,rfl,e15⟩:=Ak e14
 obtain ⟨x16,l16,rfl,e16⟩:=Ak e15
 obtain ⟨x17,l17,rfl,e17⟩:=Ak e16
 obtain ⟨x18,l18,rfl,e18⟩:=Ak e17
 obtain ⟨x19,l19,rfl,e19⟩:=Ak e18
 obtain ⟨x20,l20,rfl,e20⟩:=Ak e19
 obtain ⟨x21,l21,rfl,e21⟩:=Ak e20
 obtain ⟨x22,l22,rfl,e22⟩:=Ak e21
 obtain ⟨x23,l23,rfl,e23⟩:=Ak e22
 obtain ⟨x24,l24,rfl,e24⟩:=Ak e23
 obtain ⟨x25,l25,rfl,e25⟩:=Ak e24
 obtain ⟨x26,l26,rfl,e26⟩:=Ak e25
 obtain ⟨x27,l27,rfl,e27⟩:=Ak e26
 obtain ⟨x28,l28,rfl,e28⟩:=Ak e27
 obtain ⟨x29,l29,rfl,e29⟩:=Ak e28
 obtain ⟨x30,l30,rfl,e30⟩:=Ak e29
 obtain ⟨x31,l31,rfl,e31⟩:=Ak e30
 obtain rfl:=xH e31
 exact v1j x0 x1 x2 x3 x4 x5 x6 x7 x8 x9 x10 x11 x12 x13 x14 x15 x16 x17 x18 x19 x20 x21 x22 x23 x24 x25 x26 x27 x28 x29 x30 x31
theorem from_ (l:List UInt8) (hl:l.length=32):CtM Tryz.prog 47 [.w (.agg (Az l))] [(1000001,⟨false,gPr⟩)] (Told (fun v m=>v=.w (.agg (w4C (frN l)))∧m=[])):=by
 obtain ⟨x0,l0,rfl,e0⟩:=Ak hl
 obtain ⟨x1,l1,rfl,e1⟩:=Ak e0
 obtain ⟨x2,l2,rfl,e2⟩:=Ak e1
 obtain ⟨x3,l3,rfl,e3⟩:=Ak e2
 obtain ⟨x4,l4,rfl,e4⟩:=Ak e3
 obtain ⟨x5,l5,rfl,e5⟩:=Ak e4
 obtain ⟨x6,l6,rfl,e6⟩:=Ak e5
 obtain ⟨x7,l7,rfl,e7⟩:=Ak e6
 obtain ⟨x8,l8,rfl,e8⟩:=Ak e7
 obtain ⟨x9,l9,rfl,e9⟩:=Ak e8
 obtain ⟨x10,l10,rfl,e10⟩:=Ak e9
 obtain ⟨x11,l11,rfl,e11⟩:=Ak e10
 obtain ⟨x12,l12,rfl,e12⟩:=Ak e11
 obtain ⟨x13,l13,rfl,e13⟩:=Ak e12
 obtain ⟨x14,l14,rfl,e14⟩:=Ak e13
 obtain ⟨x15,l15,rfl,e15⟩:=Ak e14
 obtain ⟨x16,l16,rfl,e16⟩:=Ak e15
 obtain ⟨x17,l17,rfl,e17⟩:=Ak e16
 obtain ⟨x18,l18,rfl,e18⟩:=Ak e17
 obtain ⟨x19,l19,rfl,e19⟩:=Ak e18
 obtain ⟨x20,l20,rfl,e20⟩:=Ak e19
 obtain ⟨x21,l21,rfl,e21⟩:=Ak e20
 obtain ⟨x22,l22,rfl,e22⟩:=Ak e21
 obtain ⟨x23,l23,rfl,e23⟩:=Ak e22
 obtain ⟨x24,l24,rfl,e24⟩:=Ak e23
 obtain ⟨x25,l25,rfl,e25⟩:=Ak e24
 obtain ⟨x26,l26,rfl,e26⟩:=Ak e25
 obtain ⟨x27,l27,rfl,e27⟩:=Ak e26
 obtain ⟨x28,l28,rfl,e28⟩:=Ak e27
 obtain ⟨x29,l29,rfl,e29⟩:=Ak e28
 obtain ⟨x30,l30,rfl,e30⟩:=Ak e29
 obtain ⟨x31,l31,rfl,e31⟩:=Ak e30
 obtain rfl:=xH e31
 exact o2a x0 x1 x2 x3 x4 x5 x6 x7 x8 x9 x10 x11 x12 x13 x14 x15 x16 x17 x18 x19 x20 x21 x22 x23 x24 x25 x26 x27 x28 x29 x30 x31
theorem l2d (l:List UInt8) (hl:l.length=32):CtM Tryz.prog 63 [.w (.agg (Az l))] [(1000000,⟨false,Dz Nw⟩)] (Told (fun v m=>v=.w (.agg (w4C (frN l)))∧m=[])):=by
 obtain ⟨x0,l0,rfl,e0⟩:=Ak hl
 obtain ⟨x1,l1,rfl,e1⟩:=Ak e0
 obtain ⟨x2,l2,rfl,e2⟩:=Ak e1
 obtain ⟨x3,l3,rfl,e3⟩:=Ak e2
 obtain ⟨x4,l4,rfl,e4⟩:=Ak e3
 obtain ⟨x5,l5,rfl,e5⟩:=Ak e4
 obtain ⟨x6,l6,rfl,e6⟩:=Ak e5
 obtain ⟨x7,l7,rfl,e7⟩:=Ak e6
 obtain ⟨x8,l8,rfl,e8⟩:=Ak e7
 obtain ⟨x9,l9,rfl,e9⟩:=Ak e8
 obtain ⟨x10,l10,rfl,e10⟩:=Ak e9
 obtain ⟨x11,l11,rfl,e11⟩:=Ak e10
 obtain ⟨x12,l12,rfl,e12⟩:=Ak e11
 obtain ⟨x13,l13,rfl,e13⟩:=Ak e12
 obtain ⟨x14,l14,rfl,e14⟩:=Ak e13
 obtain ⟨x15,l15,rfl,e15⟩:=Ak e14
 obtain ⟨x16,l16,rfl,e16⟩:=Ak e15
 obtain ⟨x17,l17,rfl,e17⟩:=Ak e16
 obtain ⟨x18,l18,rfl,e18⟩:=Ak e17
 obtain ⟨x19,l19,rfl,e19⟩:=Ak e18
 obtain ⟨x20,l20,rfl,e20⟩:=Ak e19
 obtain ⟨x21,l21,rfl,e21⟩:=Ak e20
 obtain ⟨x22,l22,rfl,e22⟩:=Ak e21
 obtain ⟨x23,l23,rfl,e23⟩:=Ak e22
 obtain ⟨x24,l24,rfl,e24⟩:=Ak e23
 obtain ⟨x25,l25,rfl,e25⟩:=Ak e24
 obtain ⟨x26,l26,rfl,e26⟩:=Ak e25
 obtain ⟨x27,l27,rfl,e27⟩:=Ak e26
 obtain ⟨x28,l28,rfl,e28⟩:=Ak e27
 obtain ⟨x29,l29,rfl,e29⟩:=Ak e28
 obtain ⟨x30,l30,rfl,e30⟩:=Ak e29
 obtain ⟨x31,l31,rfl,e31⟩:=Ak e30
 obtain rfl:=xH e31
 exact d2j x0 x1 x2 x3 x4 x5 x6 x7 x8 x9 x10 x11 x12 x13 x14 x15 x16 x17 x18 x19 x20 x21 x22 x23 x24 x25 x26 x27 x28 x29 x30 x31
theorem z1h :Dz (D16 0)=[.pl (.u64 0),.pl (.u64 0),.pl (.u64 0),.pl (.u64 0),.pl (.u64 0),.pl (.u64 0),.pl (.u64 0),.pl (.u64 0),.pl (.u64 0),.pl (.u64 0),.pl (.u64 0),.pl (.u64 0),.pl (.u64 0),.pl (.u64 0),.pl (.u64 0),.pl (.u64 0)]:=by rw [show D16 0=[0,0,0,0,0,0,0,0,0,0,0,0,0,0,0,0] from by decide+kernel];rfl
theorem e2x (k:List UInt8) (hk:k.length=32) (U:Nat) (hU:U<p25):
 CtM Tryz.prog 60 [.w (.agg (Az k)),.w (.one (.pl (.i 255))),.w (.agg (Dz (D16 U)))] [(1000000,⟨false,Dz Nw⟩)] (Told (fun v m=>v=.tup [.agg (ptC ⟨1,0⟩),.agg (ptC ⟨U,1⟩)]∧m=[])):=by
 obtain ⟨u,hu⟩: ∃ q,D16 U=q:=⟨_,rfl⟩
 have hul:u.length=32-16:=by rw [←hu];rfl
 simp only [ptC,hu,r1t,z1h]
 have F0:=yA hk<|hul
 refine CtM.go Tryz.func60 rfl Tryz.ntmps60 Tryz.results60 fun w0 ro may fx zZ zhY=>?_
 have zd0:DQ 2 [12,13,14,15,16] [0,1,0,0,12,3,63] [(2,5),(3,5),(4,5)]:=⟨⟩
 refine (fun zX=>goW) ?_
 refine zhY _ _ ?_
 simp only [go_sem,F0]
 all_goals (exact told_plain (by simp [Dv,Ew,Dz]) ⟨by first|rfl|simp,rfl⟩)
theorem e2y (k:List UInt8) (hk:k.length=32) (U:Nat) (hU:U<p25) (P1 P2 Q1 Q2:Nat) (l0:P1<p25) (l1:P2<p25) (l2:Q1<p25) (l3:Q2<p25) (i:Nat) (hi:i<255) (hrec:CtM Tryz.prog 60 [.w (.agg (Az k)),.w (.one (.pl (.i ((i+1:Nat):Int)))),.w (.agg (Dz (D16 U)))] [(1000000,⟨false,Dz Nw⟩)] (Told (fun v m=>v=.tup [.agg (ptC ⟨P1,P2⟩),.agg (ptC ⟨Q1,Q2⟩)]∧m=[]))) (hbit:k1n k i=1):
 CtM Tryz.prog 60 [.w (.agg (Az k)),.w (.one (.pl (.i ((i:Nat):Int)))),.w (.agg (Dz (D16 U)))] [(1000000,⟨false,Dz Nw⟩)] (Told (fun v m=>v=.tup [.agg (ptC (d0d ⟨P1,P2⟩ ⟨Q1,Q2⟩ U)),.agg (ptC (w0k ⟨Q1,Q2⟩))]∧m=[])):=by
 obtain ⟨lxx,lzz,lyy,lvv,luu⟩:P1<p25∧P2<p25∧Q1<p25∧Q2<p25∧U<p25:=⟨l0,l1,l2,l3,hU⟩
 have hW:=k2w P1 P2 Q1 Q2 U l0 l1 l2 l3 hU
 have hD:=n1v Q1 Q2 l2 l3
 obtain ⟨⟨w1,w2⟩,hw⟩: ∃ p,d0d ⟨P1,P2⟩ ⟨Q1,Q2⟩ U=p:=⟨_,rfl⟩
 obtain ⟨⟨d1,d2⟩,hd⟩: ∃ p,w0k ⟨Q1,Q2⟩=p:=⟨_,rfl⟩
 rw [hw] at hW ⊢
 rw [hd] at hD ⊢
 obtain ⟨wx,hwx⟩: ∃ q,D16 w1=q:=⟨_,rfl⟩
 have hwxl:wx.length=16:=by rw [←hwx];rfl
 obtain ⟨wz,hwz⟩: ∃ q,D16 w2=q:=⟨_,rfl⟩
 have hwzl:wz.length=16:=by rw [←hwz];rfl
 obtain ⟨dx,hdx⟩: ∃ q,D16 d1=q:=⟨_,rfl⟩
 have hdxl:dx.length=16:=by rw [←hdx];rfl
 obtain ⟨dz,hdz⟩: ∃ q,D16 d2=q:=⟨_,rfl⟩
 have hdzl:dz.length=16:=by rw [←hdz];rfl
 obtain ⟨xx,hxx⟩: ∃ q,D16 P1=q:=⟨_,rfl⟩
 have hxxl:xx.length=16:=by rw [←hxx];rfl
 have hxxd: ∀ i,i<16→(fL xx i).toNat<65536:=by rw [←hxx];exact Ej _
 have hxxv:Gw 65536 xx=P1:=by rw [←hxx];exact Cq (Mv lxx)
 obtain ⟨zz,hzz⟩: ∃ q,D16 P2=q:=⟨_,rfl⟩
 have hzzl:zz.length=16:=by rw [←hzz];rfl
 have hzzd: ∀ i,i<16→(fL zz i).toNat<65536:=by rw [←hzz];exact Ej _
 have hzzv:Gw 65536 zz=P2:=by rw [←hzz];exact Cq (Mv lzz)
 obtain ⟨yy,hyy⟩: ∃ q,D16 Q1=q:=⟨_,rfl⟩
 have hyyl:yy.length=16:=by rw [←hyy];rfl
 have hyyd: ∀ i,i<16→(fL yy i).toNat<65536:=by rw [←hyy];exact Ej _
 have hyyv:Gw 65536 yy=Q1:=by rw [←hyy];exact Cq (Mv lyy)
 obtain ⟨vv,hvv⟩: ∃ q,D16 Q2=q:=⟨_,rfl⟩
 have hvvl:vv.length=16:=by rw [←hvv];rfl
 have hvvd: ∀ i,i<16→(fL vv i).toNat<65536:=by rw [←hvv];exact Ej _
 have hvvv:Gw 65536 vv=Q2:=by rw [←hvv];exact Cq (Mv lvv)
 obtain ⟨uu,huu⟩: ∃ q,D16 U=q:=⟨_,rfl⟩
 have huul:uu.length=16:=by rw [←huu];rfl
 have huud: ∀ i,i<16→(fL uu i).toNat<65536:=by rw [←huu];exact Ej _
 have huuv:Gw 65536 uu=U:=by rw [←huu];exact Cq (Mv luu)
 simp only [ptC,hxx,hzz,hyy,hvv,huu,hwx,hwz,hdx,hdz] at hrec hW hD ⊢
 have o1:=Lv (q:=k) (i:=i/8) (by omega)
 obtain ⟨b,hb⟩: ∃ b,k.getD (i/8) 0=b:=⟨_,rfl⟩
 rw [hb] at o1
 have hbt:(t1p b (i%8)%2=1)=True:=by rw [←hb];exact eq_true hbit
 have hn:(((i:Nat):Int)=255)=False:=eq_false (by omega)
 have hj:(0:Int)≤((i/8:Nat):Int)∧((i/8:Nat):Int)<32∧i/8+1≤32∧(0:Int)≤((i%8:Nat):Int):=by omega
 have htd:((i:Nat):Int).tdiv 8=((i/8:Nat):Int):=rfl
 have htm:((i:Nat):Int).tmod 8=((i%8:Nat):Int):=rfl
 obtain ⟨hs1,hwd⟩:Go.RowKit.wrap64 (((i:Nat):Int)+1)=((i+1:Nat):Int)∧Go.RowKit.wrap64 ((i/8:Nat):Int)=((i/8:Nat):Int):=⟨Gy (by omega) (by omega),Gy rfl (by omega)⟩
 have F0:=yA hk<|yA hxxl<|yA hzzl<|yA hyyl<|yA hvvl<|yA huul<|yA hwxl<|yA hwzl<|yA hdxl<|yA hdzl<|yA o1<|yA hbt<|yA hn<|yA hj<|yA htd<|yA htm<|yA hs1<|yA hwd<|yA @Fj<|@m2n
 refine CtM.go Tryz.func60 rfl Tryz.ntmps60 Tryz.results60 fun w0 ro may fx zZ zhY=>?_
 have cq:=yA (CtM.ch [] (hrec.told))<|yA hW.told<|yA (CtM.ch [] (hD.told))<|trivial
 have zr0:DS 5:=⟨⟩
 have zq:DP 0 5 [34,35,36,37,38] [0,0,0,7,0,31,63,127] []∧DN 3 8∧True:=⟨⟨⟩,⟨⟩,trivial⟩
 refine (fun zX=>goW) ?_
 refine zhY _ _ ?_
 simp only [go_sem,F0]
 all_goals (exact told_plain (by simp [Dv,Ew,Dz]) ⟨by first|rfl|simp,rfl⟩)
theorem e2z (k:List UInt8) (hk:k.length=32) (U:Nat) (hU:U<p25) (P1 P2 Q1 Q2:Nat) (l0:P1<p25) (l1:P2<p25) (l2:Q1<p25) (l3:Q2<p25) (i:Nat) (hi:i<255) (hrec:CtM Tryz.prog 60 [.w (.agg (Az k)),.w (.one (.pl (.i ((i+1:Nat):Int)))),.w (.agg (Dz (D16 U)))] [(1000000,⟨false,Dz Nw⟩)] (Told (fun v m=>v=.tup [.agg (ptC ⟨P1,P2⟩),.agg (ptC ⟨Q1,Q2⟩)]∧m=[]))) (hbit:¬k1n k i=1):
 CtM Tryz.prog 60 [.w (.agg (Az k)),.w (.one (.pl (.i ((i:Nat):Int)))),.w (.agg (Dz (D16 U)))] [(1000000,⟨false,Dz Nw⟩)] (Told (fun v m=>v=.tup [.agg (ptC (w0k ⟨P1,P2⟩)),.agg (ptC (d0d ⟨P1,P2⟩ ⟨Q1,Q2⟩ U))]∧m=[])):=by
 obtain ⟨lxx,lzz,lyy,lvv,luu⟩:P1<p25∧P2<p25∧Q1<p25∧Q2<p25∧U<p25:=⟨l0,l1,l2,l3,hU⟩
 have hW:=k2w P1 P2 Q1 Q2 U l0 l1 l2 l3 hU
 have hD:=n1v P1 P2 l0 l1
 obtain ⟨⟨w1,w2⟩,hw⟩: ∃ p,d0d ⟨P1,P2⟩ ⟨Q1,Q2⟩ U=p:=⟨_,rfl⟩
 obtain ⟨⟨d1,d2⟩,hd⟩: ∃ p,w0k ⟨P1,P2⟩=p:=⟨_,rfl⟩
 rw [hw] at hW ⊢
 rw [hd] at hD ⊢
 obtain ⟨wx,hwx⟩: ∃ q,D16 w1=q:=⟨_,rfl⟩
 have hwxl:wx.length=16:=by rw [←hwx];rfl
 obtain ⟨wz,hwz⟩: ∃ q,D16 w2=q:=⟨_,rfl⟩
 have hwzl:wz.length=16:=by rw [←hwz];rfl
 obtain ⟨dx,hdx⟩: ∃ q,D16 d1=q:=⟨_,rfl⟩
 have hdxl:dx.length=16:=by rw [←hdx];rfl
 obtain ⟨dz,hdz⟩: ∃ q,D16 d2=q:=⟨_,rfl⟩
 have hdzl:dz.length=16:=by rw [←hdz];rfl
 obtain ⟨xx,hxx⟩: ∃ q,D16 P1=q:=⟨_,rfl⟩
 have hxxl:xx.length=16:=by rw [←hxx];rfl
 have hxxd: ∀ i,i<16→(fL xx i).toNat<65536:=by rw [←hxx];exact Ej _
 have hxxv:Gw 65536 xx=P1:=by rw [←hxx];exact Cq (Mv lxx)
 obtain ⟨zz,hzz⟩: ∃ q,D16 P2=q:=⟨_,rfl⟩
 have hzzl:zz.length=16:=by rw [←hzz];rfl
 have hzzd: ∀ i,i<16→(fL zz i).toNat<65536:=by rw [←hzz];exact Ej _
 have hzzv:Gw 65536 zz=P2:=by rw [←hzz];exact Cq (Mv lzz)
 obtain ⟨yy,hyy⟩: ∃ q,D16 Q1=q:=⟨_,rfl⟩
 have hyyl:yy.length=16:=by rw [←hyy];rfl
 have hyyd: ∀ i,i<16→(fL yy i).toNat<65536:=by rw [←hyy];exact Ej _
 have hyyv:Gw 65536 yy=Q1:=by rw [←hyy];exact Cq (Mv lyy)
 obtain ⟨vv,hvv⟩: ∃ q,D16 Q2=q:=⟨_,rfl⟩
 have hvvl:vv.length=16:=by rw [←hvv];rfl
 have hvvd: ∀ i,i<16→(fL vv i).toNat<65536:=by rw [←hvv];exact Ej _
 have hvvv:Gw 65536 vv=Q2:=by rw [←hvv];exact Cq (Mv lvv)
 obtain ⟨uu,huu⟩: ∃ q,D16 U=q:=⟨_,rfl⟩
 have huul:uu.length=16:=by rw [←huu];rfl
 have huud: ∀ i,i<16→(fL uu i).toNat<65536:=by rw [←huu];exact Ej _
 have huuv:Gw 65536 uu=U:=by rw [←huu];exact Cq (Mv luu)
 simp only [ptC,hxx,hzz,hyy,hvv,huu,hwx,hwz,hdx,hdz] at hrec hW hD ⊢
 have o1:=Lv (q:=k) (i:=i/8) (by omega)
 obtain ⟨b,hb⟩: ∃ b,k.getD (i/8) 0=b:=⟨_,rfl⟩
 rw [hb] at o1
 have hbt:(t1p b (i%8)%2=1)=False:=by rw [←hb];exact eq_false hbit
 have hn:(((i:Nat):Int)=255)=False:=eq_false (by omega)
 have hj:(0:Int)≤((i/8:Nat):Int)∧((i/8:Nat):Int)<32∧i/8+1≤32∧(0:Int)≤((i%8:Nat):Int):=by omega
 have htd:((i:Nat):Int).tdiv 8=((i/8:Nat):Int):=rfl
 have htm:((i:Nat):Int).tmod 8=((i%8:Nat):Int):=rfl
 obtain ⟨hs1,hwd⟩:Go.RowKit.wrap64 (((i:Nat):Int)+1)=((i+1:Nat):Int)∧Go.RowKit.wrap64 ((i/8:Nat):Int)=((i/8:Nat):Int):=⟨Gy (by omega) (by omega),Gy rfl (by omega)⟩
 have F0:=yA hk<|yA hxxl<|yA hzzl<|yA hyyl<|yA hvvl<|yA huul<|yA hwxl<|yA hwzl<|yA hdxl<|yA hdzl<|yA o1<|yA hbt<|yA hn<|yA hj<|yA htd<|yA htm<|yA hs1<|yA hwd<|yA @Fj<|@m2n
 refine CtM.go Tryz.func60 rfl Tryz.ntmps60 Tryz.results60 fun w0 ro may fx zZ zhY=>?_
 have cq:=yA (CtM.ch [] (hrec.told))<|yA hD.told<|yA (CtM.ch [] (hW.told))<|trivial
 have zr0:DS 6:=⟨⟩
 have zq:DP 0 5 [40,41,42,43,44] [0,1,0,0,0,31,63,127] []∧DN 3 8∧True:=⟨⟨⟩,⟨⟩,trivial⟩
 refine (fun zX=>goW) ?_
 refine zhY _ _ ?_
 simp only [go_sem,F0]
 all_goals (exact told_plain (by simp [Dv,Ew,Dz]) ⟨by first|rfl|simp,rfl⟩)
theorem a2s (k:List UInt8) (hk:k.length=32) (U:Nat) (hU:U<p25): ∀ (s i:Nat),i+s=255→CtM Tryz.prog 60 [.w (.agg (Az k)),.w (.one (.pl (.i ((i:Nat):Int)))),.w (.agg (Dz (D16 U)))] [(1000000,⟨false,Dz Nw⟩)] (Told (fun v m=>v=.tup [.agg (ptC (oft k U s).1),.agg (ptC (oft k U s).2)]∧m=[]))
 |0,i,h=>by
  obtain rfl:i=255:=by omega
  exact e2x k hk U hU
 |s+1,i,h=>by
  have hr:=a2s k hk U hU s (i+1) (by omega)
  obtain ⟨⟨a1,a2⟩,⟨a3,a4⟩⟩:=o1u k hU s
  simp only [oft]
  obtain ⟨⟨P1,P2⟩,hP⟩: ∃ p,(oft k U s).1=p:=⟨_,rfl⟩
  obtain ⟨⟨Q1,Q2⟩,hQ⟩: ∃ p,(oft k U s).2=p:=⟨_,rfl⟩
  rw [hP] at hr a1 a2 ⊢
  rw [hQ] at hr a3 a4 ⊢
  obtain rfl:i=254-s:=by omega
  by_cases hb:k1n k (254-s)=1
  ·rw [if_pos hb];exact e2y k hk U hU P1 P2 Q1 Q2 a1 a2 a3 a4 _ (by omega) hr hb
  rw [if_neg hb];exact e2z k hk U hU P1 P2 Q1 Q2 a1 a2 a3 a4 _ (by omega) hr hb
end Lk
end Go.Sy
