/- Walks and what they compute. CONDITIONS: those that each theorem names. -/
import Derived.Test.YtlmbdhfkdhjcfaaDoorvS19
import Derived.Test.YtlmbdhfkdhjcfaaDoorvS20
import Derived.Test.YtlmbdhfkdhjcfaaDoorvS21
set_option linter.unusedVariables false
set_option linter.unusedSimpArgs false
set_option maxHeartbeats 3200000
set_option maxRecDepth 100000
namespace Go.Sy
def b1u (k:List UInt8) (i:Nat):UInt8:=j1m (k.getD (i/8) 0) (i%8)%2
def oft (k:List UInt8) (u:Nat):Nat→Pt×Pt
 |0=>(⟨1,0⟩,⟨u,1⟩)
 |m+1=>if b1u k (254-m)=1 then (b0f (oft k u m).1 (oft k u m).2 u,q0u (oft k u m).2) else (q0u (oft k u m).1,b0f (oft k u m).1 (oft k u m).2 u)
theorem i0j (p:Pt):(q0u p).ok:=⟨Qq _ _,Qq _ _⟩
theorem d0r (p q:Pt) (u:Nat):(b0f p q u).ok:=⟨Qq _ _,Qq _ _⟩
theorem f1c (k:List UInt8) {u:Nat} (hu:u<p25): ∀ m,(oft k u m).1.ok∧(oft k u m).2.ok
 |0=>⟨⟨show (1:Nat)<p25 by decide,show (0:Nat)<p25 by decide⟩,⟨hu,show (1:Nat)<p25 by decide⟩⟩
 |m+1=>by
  simp only [oft]
  split
  ·exact ⟨d0r _ _ _,i0j _⟩
  ·exact ⟨i0j _,d0r _ _ _⟩
def lastB (k:List UInt8) (y:Nat):Bool:=decide (y<255)&&decide (b1u k y=1)
def j0g (k:List UInt8):List UInt8:=(k.getD 0 0&&&248)::((k.drop 1).take 30++[k.getD 31 0&&&127|||64])
theorem g0u {k:List UInt8} (h:k.length=32):(j0g k).length=32:=by
 simp [j0g,h]
theorem d2m {p:UInt8→Prop} (h: ∀ n<256,p (UInt8.ofNat n)) (x:UInt8):p x:=by
 have:=h x.toNat x.toNat_lt
 rwa [UInt8.ofNat_toNat] at this
theorem o1g (x:UInt8):x-x%8=x&&&248:=d2m (p:=fun x=>x-x%8=x&&&248) (by decide+kernel) x
theorem o1h (x:UInt8):x%64+64=x&&&127|||64:=d2m (p:=fun x=>x%64+64=x&&&127|||64) (by decide+kernel) x
theorem k0e (x:UInt8):x.toUInt64&&&1=if x%2=1 then 1 else 0:=d2m (p:=fun x=>x.toUInt64&&&1=if x%2=1 then 1 else 0) (by decide+kernel) x
theorem x00 :(0:UInt64)^^^0=0:=rfl
theorem x01 :(0:UInt64)^^^1=1:=rfl
theorem x10 :(1:UInt64)^^^0=1:=rfl
theorem x11 :(1:UInt64)^^^1=0:=rfl
def frN (l:List UInt8):Nat:=vQ (orW (l.getD 0 0) (l.getD 1 0) (l.getD 2 0) (l.getD 3 0) (l.getD 4 0) (l.getD 5 0) (l.getD 6 0) (l.getD 7 0)) (orW (l.getD 8 0) (l.getD 9 0) (l.getD 10 0) (l.getD 11 0) (l.getD 12 0) (l.getD 13 0) (l.getD 14 0) (l.getD 15 0)) (orW (l.getD 16 0) (l.getD 17 0) (l.getD 18 0) (l.getD 19 0) (l.getD 20 0) (l.getD 21 0) (l.getD 22 0) (l.getD 23 0)) (orW (l.getD 24 0) (l.getD 25 0) (l.getD 26 0) (l.getD 27 0) (l.getD 28 0) (l.getD 29 0) (l.getD 30 0) (l.getD 31 0)&&&9223372036854775807)%p25
theorem p1o (l:List UInt8):frN l<p25:=Nat.mod_lt _ a0e
def f1v (k u:List UInt8):Nat:=fM (oft (j0g k) (frN u) 255).1.x (pw (oft (j0g k) (frN u) 255).1.z eP)
def wB (n:Nat):List UInt8:=by4 (UInt64.ofNat (n%18446744073709551616)) (UInt64.ofNat (n/18446744073709551616%18446744073709551616)) (UInt64.ofNat (n/18446744073709551616/18446744073709551616%18446744073709551616)) (UInt64.ofNat (n/18446744073709551616/18446744073709551616/18446744073709551616%18446744073709551616))
theorem f0o (n:Nat):(wB n).length=32:=rfl
theorem q1d {n:Nat} {a b c d:UInt64} (h:w4 n=[a,b,c,d]):by4 a b c d=wB n:=by
 have e:w4 n=[UInt64.ofNat (n%18446744073709551616),UInt64.ofNat (n/18446744073709551616%18446744073709551616),UInt64.ofNat (n/18446744073709551616/18446744073709551616%18446744073709551616),UInt64.ofNat (n/18446744073709551616/18446744073709551616/18446744073709551616%18446744073709551616)]:=rfl
 rw [e] at h
 simp only [List.cons.injEq,and_true] at h
 obtain ⟨rfl,rfl,rfl,rfl⟩:=h
 rfl
end Go.Sy
namespace Go.Sy
namespace Lk
open Go.Proofs
attribute [local irreducible] Dv HT Cz Px onC onE onO onG goV goA goS Qx Dw
theorem Mj {q:List UInt8} {i:Nat} (h:i<q.length):List.take 1 (List.drop i q)=[q.getD i 0]:=by
 rw [List.drop_eq_getElem_cons h,List.take_succ_cons,List.take_zero]
 simp [List.getD,List.getElem?_eq_getElem h]
theorem Ay (x:UInt8):Az [x]=[.pl (.u8 x)]:=rfl
theorem z1g :((8:UInt8)=0)=False:=eq_false (by decide)
theorem p1f :((64:UInt8)=0)=False:=eq_false (by decide)
theorem Mx :((2:UInt8)=0)=False:=eq_false (by decide)
theorem v1q (x0 x1 x2 x3 x4 x5 x6 x7 x8 x9 x10 x11 x12 x13 x14 x15 x16 x17 x18 x19 x20 x21 x22 x23 x24 x25 x26 x27 x28 x29 x30 x31:UInt8):
 Ct Tryd.prog 20 [.w (.agg [.pl (.u8 x0),.pl (.u8 x1),.pl (.u8 x2),.pl (.u8 x3),.pl (.u8 x4),.pl (.u8 x5),.pl (.u8 x6),.pl (.u8 x7),.pl (.u8 x8),.pl (.u8 x9),.pl (.u8 x10),.pl (.u8 x11),.pl (.u8 x12),.pl (.u8 x13),.pl (.u8 x14),.pl (.u8 x15),.pl (.u8 x16),.pl (.u8 x17),.pl (.u8 x18),.pl (.u8 x19),.pl (.u8 x20),.pl (.u8 x21),.pl (.u8 x22),.pl (.u8 x23),.pl (.u8 x24),.pl (.u8 x25),.pl (.u8 x26),.pl (.u8 x27),.pl (.u8 x28),.pl (.u8 x29),.pl (.u8 x30),.pl (.u8 x31)])] (fun v m=>v=.w (.agg [.pl (.u8 (x0&&&248)),.pl (.u8 x1),.pl (.u8 x2),.pl (.u8 x3),.pl (.u8 x4),.pl (.u8 x5),.pl (.u8 x6),.pl (.u8 x7),.pl (.u8 x8),.pl (.u8 x9),.pl (.u8 x10),.pl (.u8 x11),.pl (.u8 x12),.pl (.u8 x13),.pl (.u8 x14),.pl (.u8 x15),.pl (.u8 x16),.pl (.u8 x17),.pl (.u8 x18),.pl (.u8 x19),.pl (.u8 x20),.pl (.u8 x21),.pl (.u8 x22),.pl (.u8 x23),.pl (.u8 x24),.pl (.u8 x25),.pl (.u8 x26),.pl (.u8 x27),.pl (.u8 x28),.pl (.u8 x29),.pl (.u8 x30),.pl (.u8 (x31&&&127|||64))])):=by
 refine Ct.k Tryd.func20 rfl Tryd.ntmps20 (congrArg Array.toList Tryd.results20) (by simp) fun w0 ro=>?_
 refine Dj fun zZ zhZ=>?_
 iterate 10 first
  |(refine Cx fun zK zhK=>?_;simp only [go_sem];(repeat' (first|apply And.intro|intro _)))
  |refine zhK _ ?_
  |refine Dx ?_
  |(refine zhZ _ _ ?_;simp only [go_sem];(all_goals (rfl)))
theorem k1v (x0 x1 x2 x3 x4 x5 x6 x7 x8 x9 x10 x11 x12 x13 x14 x15 x16 x17 x18 x19 x20 x21 x22 x23 x24 x25 x26 x27 x28 x29 x30 x31:UInt8):
 Ct Tryd.prog 29 [.w (.agg [.pl (.u8 x0),.pl (.u8 x1),.pl (.u8 x2),.pl (.u8 x3),.pl (.u8 x4),.pl (.u8 x5),.pl (.u8 x6),.pl (.u8 x7),.pl (.u8 x8),.pl (.u8 x9),.pl (.u8 x10),.pl (.u8 x11),.pl (.u8 x12),.pl (.u8 x13),.pl (.u8 x14),.pl (.u8 x15),.pl (.u8 x16),.pl (.u8 x17),.pl (.u8 x18),.pl (.u8 x19),.pl (.u8 x20),.pl (.u8 x21),.pl (.u8 x22),.pl (.u8 x23),.pl (.u8 x24),.pl (.u8 x25),.pl (.u8 x26),.pl (.u8 x27),.pl (.u8 x28),.pl (.u8 x29),.pl (.u8 x30),.pl (.u8 x31)])] (fun v m=>v=.w (.agg [.pl (.u8 (x0&&&248)),.pl (.u8 x1),.pl (.u8 x2),.pl (.u8 x3),.pl (.u8 x4),.pl (.u8 x5),.pl (.u8 x6),.pl (.u8 x7),.pl (.u8 x8),.pl (.u8 x9),.pl (.u8 x10),.pl (.u8 x11),.pl (.u8 x12),.pl (.u8 x13),.pl (.u8 x14),.pl (.u8 x15),.pl (.u8 x16),.pl (.u8 x17),.pl (.u8 x18),.pl (.u8 x19),.pl (.u8 x20),.pl (.u8 x21),.pl (.u8 x22),.pl (.u8 x23),.pl (.u8 x24),.pl (.u8 x25),.pl (.u8 x26),.pl (.u8 x27),.pl (.u8 x28),.pl (.u8 x29),.pl (.u8 x30),.pl (.u8 (x31&&&127|||64))])):=by
 refine Ct.k Tryd.func29 rfl Tryd.ntmps29 (congrArg Array.toList Tryd.results29) (by simp) fun w0 ro=>?_
 refine Dj fun zZ zhZ=>?_
 iterate 10 first
  |(refine Cx fun zK zhK=>?_;simp only [go_sem,z1g,p1f];(repeat' (first|apply And.intro|intro _)))
  |refine zhK _ ?_
  |refine Dx ?_
  |(refine zhZ _ _ ?_;simp only [go_sem,z1g,p1f];(all_goals (rw [←o1g,←o1h])))
theorem a2z (l:List UInt8) (hl:l.length=32):Ct Tryd.prog 20 [.w (.agg (Az l))] (fun v m=>v=.w (.agg (Az (j0g l)))):=by
 obtain ⟨x0,l0,rfl,e0⟩:=Bj hl
 obtain ⟨x1,l1,rfl,e1⟩:=Bj e0
 obtain ⟨x2,l2,rfl,e2⟩:=Bj e1
 obtain ⟨x3,l3,rfl,e3⟩:=Bj e2
 obtain ⟨x4,l4,rfl,e4⟩:=Bj e3
 obtain ⟨x5,l5,rfl,e5⟩:=Bj e4
 obtain ⟨x6,l6,rfl,e6⟩:=Bj e5
 obtain ⟨x7,l7,rfl,e7⟩:=Bj e6
 obtain ⟨x8,l8,rfl,e8⟩:=Bj e7
 obtain ⟨x9,l9,rfl,e9⟩:=Bj e8
 obtain ⟨x10,l10,rfl,e10⟩:=Bj e9
 obtain ⟨x11,l11,rfl,e11⟩:=Bj e10
 obtain ⟨x12,l12,rfl,e12⟩:=Bj e11
 obtain ⟨x13,l13,rfl,e13⟩:=Bj e12
 obtain ⟨x14,l14,rfl,e14⟩:=Bj e13
 obtain ⟨x15,l15,rfl,e15⟩:=Bj e14
 obtain ⟨x16,l16,rfl,e16⟩:=Bj e15
 obtain ⟨x17,l17,rfl,e17⟩:=Bj e16
 obtain ⟨x18,l18,rfl,e18⟩:=Bj e17
 obtain ⟨x19,l19,rfl,e19⟩:=Bj e18
 obtain ⟨x20,l20,rfl,e20⟩:=Bj e19
 obtain ⟨x21,l21,rfl,e21⟩:=Bj e20
 obtain ⟨x22,l22,rfl,e22⟩:=Bj e21
 obtain ⟨x23,l23,rfl,e23⟩:=Bj e22
 obtain ⟨x24,l24,rfl,e24⟩:=Bj e23
 obtain ⟨x25,l25,rfl,e25⟩:=Bj e24
 obtain ⟨x26,l26,rfl,e26⟩:=Bj e25
 obtain ⟨x27,l27,rfl,e27⟩:=Bj e26
 obtain ⟨x28,l28,rfl,e28⟩:=Bj e27
 obtain ⟨x29,l29,rfl,e29⟩:=Bj e28
 obtain ⟨x30,l30,rfl,e30⟩:=Bj e29
 obtain ⟨x31,l31,rfl,e31⟩:=Bj e30
 obtain rfl:=List.eq_nil_of_length_eq_zero e31
 exact v1q x0 x1 x2 x3 x4 x5 x6 x7 x8 x9 x10 x11 x12 x13 x14 x15 x16 x17 x18 x19 x20 x21 x22 x23 x24 x25 x26 x27 x28 x29 x30 x31
theorem r1s (l:List UInt8) (hl:l.length=32):Ct Tryd.prog 29 [.w (.agg (Az l))] (fun v m=>v=.w (.agg (Az (j0g l)))):=by
 obtain ⟨x0,l0,rfl,e0⟩:=Bj hl
 obtain ⟨x1,l1,rfl,e1⟩:=Bj e0
 obtain ⟨x2,l2,rfl,e2⟩:=Bj e1
 obtain ⟨x3,l3,rfl,e3⟩:=Bj e2
 obtain ⟨x4,l4,rfl,e4⟩:=Bj e3
 obtain ⟨x5,l5,rfl,e5⟩:=Bj e4
 obtain ⟨x6,l6,rfl,e6⟩:=Bj e5
 obtain ⟨x7,l7,rfl,e7⟩:=Bj e6
 obtain ⟨x8,l8,rfl,e8⟩:=Bj e7
 obtain ⟨x9,l9,rfl,e9⟩:=Bj e8
 obtain ⟨x10,l10,rfl,e10⟩:=Bj e9
 obtain ⟨x11,l11,rfl,e11⟩:=Bj e10
 obtain ⟨x12,l12,rfl,e12⟩:=Bj e11
 obtain ⟨x13,l13,rfl,e13⟩:=Bj e12
 obtain ⟨x14,l14,rfl,e14⟩:=Bj e13
 obtain ⟨x15,l15,rfl,e15⟩:=Bj e14
 obtain ⟨x16,l16,rfl,e16⟩:=Bj e15
 obtain ⟨x17,l17,rfl,e17⟩:=Bj e16
 obtain ⟨x18,l18,rfl,e18⟩:=Bj e17
 obtain ⟨x19,l19,rfl,e19⟩:=Bj e18
 obtain ⟨x20,l20,rfl,e20⟩:=Bj e19
 obtain ⟨x21,l21,rfl,e21⟩:=Bj e20
 obtain ⟨x22,l22,rfl,e22⟩:=Bj e21
 obtain ⟨x23,l23,rfl,e23⟩:=Bj e22
 obtain ⟨x24,l24,rfl,e24⟩:=Bj e23
 obtain ⟨x25,l25,rfl,e25⟩:=Bj e24
 obtain ⟨x26,l26,rfl,e26⟩:=Bj e25
 obtain ⟨x27,l27,rfl,e27⟩:=Bj e26
 obtain ⟨x28,l28,rfl,e28⟩:=Bj e27
 obtain ⟨x29,l29,rfl,e29⟩:=Bj e28
 obtain ⟨x30,l30,rfl,e30⟩:=Bj e29
 obtain ⟨x31,l31,rfl,e31⟩:=Bj e30
 obtain rfl:=List.eq_nil_of_length_eq_zero e31
 exact k1v x0 x1 x2 x3 x4 x5 x6 x7 x8 x9 x10 x11 x12 x13 x14 x15 x16 x17 x18 x19 x20 x21 x22 x23 x24 x25 x26 x27 x28 x29 x30 x31
theorem from_ (l:List UInt8) (hl:l.length=32):CtM Tryd.prog 21 [.w (.agg (Az l))] [(1000001,⟨false,[.pl (.u64 18446744073709551597),.pl (.u64 18446744073709551615),.pl (.u64 18446744073709551615),.pl (.u64 9223372036854775807)]⟩)] (Told (fun v m=>v=.w (.agg (w4C (frN l)))∧m=[])):=by
 obtain ⟨x0,l0,rfl,e0⟩:=Bj hl
 obtain ⟨x1,l1,rfl,e1⟩:=Bj e0
 obtain ⟨x2,l2,rfl,e2⟩:=Bj e1
 obtain ⟨x3,l3,rfl,e3⟩:=Bj e2
 obtain ⟨x4,l4,rfl,e4⟩:=Bj e3
 obtain ⟨x5,l5,rfl,e5⟩:=Bj e4
 obtain ⟨x6,l6,rfl,e6⟩:=Bj e5
 obtain ⟨x7,l7,rfl,e7⟩:=Bj e6
 obtain ⟨x8,l8,rfl,e8⟩:=Bj e7
 obtain ⟨x9,l9,rfl,e9⟩:=Bj e8
 obtain ⟨x10,l10,rfl,e10⟩:=Bj e9
 obtain ⟨x11,l11,rfl,e11⟩:=Bj e10
 obtain ⟨x12,l12,rfl,e12⟩:=Bj e11
 obtain ⟨x13,l13,rfl,e13⟩:=Bj e12
 obtain ⟨x14,l14,rfl,e14⟩:=Bj e13
 obtain ⟨x15,l15,rfl,e15⟩:=Bj e14
 obtain ⟨x16,l16,rfl,e16⟩:=Bj e15
 obtain ⟨x17,l17,rfl,e17⟩:=Bj e16
 obtain ⟨x18,l18,rfl,e18⟩:=Bj e17
 obtain ⟨x19,l19,rfl,e19⟩:=Bj e18
 obtain ⟨x20,l20,rfl,e20⟩:=Bj e19
 obtain ⟨x21,l21,rfl,e21⟩:=Bj e20
 obtain ⟨x22,l22,rfl,e22⟩:=Bj e21
 obtain ⟨x23,l23,rfl,e23⟩:=Bj e22
 obtain ⟨x24,l24,rfl,e24⟩:=Bj e23
 obtain ⟨x25,l25,rfl,e25⟩:=Bj e24
 obtain ⟨x26,l26,rfl,e26⟩:=Bj e25
 obtain ⟨x27,l27,rfl,e27⟩:=Bj e26
 obtain ⟨x28,l28,rfl,e28⟩:=Bj e27
 obtain ⟨x29,l29,rfl,e29⟩:=Bj e28
 obtain ⟨x30,l30,rfl,e30⟩:=Bj e29
 obtain ⟨x31,l31,rfl,e31⟩:=Bj e30
 obtain rfl:=List.eq_nil_of_length_eq_zero e31
 exact a2n x0 x1 x2 x3 x4 x5 x6 x7 x8 x9 x10 x11 x12 x13 x14 x15 x16 x17 x18 x19 x20 x21 x22 x23 x24 x25 x26 x27 x28 x29 x30 x31
theorem y1a (l:List UInt8) (hl:l.length=32):CtM Tryd.prog 31 [.w (.agg (Az l))] [(1000000,⟨false,Aw Mk⟩)] (Told (fun v m=>v=.w (.agg (w4C (frN l)))∧m=[])):=by
 obtain ⟨x0,l0,rfl,e0⟩:=Bj hl
 obtain ⟨x1,l1,rfl,e1⟩:=Bj e0
 obtain ⟨x2,l2,rfl,e2⟩:=Bj e1
 obtain ⟨x3,l3,rfl,e3⟩:=Bj e2
 obtain ⟨x4,l4,rfl,e4⟩:=Bj e3
 obtain ⟨x5,l5,rfl,e5⟩:=Bj e4
 obtain ⟨x6,l6,rfl,e6⟩:=Bj e5
 obtain ⟨x7,l7,rfl,e7⟩:=Bj e6
 obtain ⟨x8,l8,rfl,e8⟩:=Bj e7
 obtain ⟨x9,l9,rfl,e9⟩:=Bj e8
 obtain ⟨x10,l10,rfl,e10⟩:=Bj e9
 obtain ⟨x11,l11,rfl,e11⟩:=Bj e10
 obtain ⟨x12,l12,rfl,e12⟩:=Bj e11
 obtain ⟨x13,l13,rfl,e13⟩:=Bj e12
 obtain ⟨x14,l14,rfl,e14⟩:=Bj e13
 obtain ⟨x15,l15,rfl,e15⟩:=Bj e14
 obtain ⟨x16,l16,rfl,e16⟩:=Bj e15
 obtain ⟨x17,l17,rfl,e17⟩:=Bj e16
 obtain ⟨x18,l18,rfl,e18⟩:=Bj e17
 obtain ⟨x19,l19,rfl,e19⟩:=Bj e18
 obtain ⟨x20,l20,rfl,e20⟩:=Bj e19
 obtain ⟨x21,l21,rfl,e21⟩:=Bj e20
 obtain ⟨x22,l22,rfl,e22⟩:=Bj e21
 obtain ⟨x23,l23,rfl,e23⟩:=Bj e22
 obtain ⟨x24,l24,rfl,e24⟩:=Bj e23
 obtain ⟨x25,l25,rfl,e25⟩:=Bj e24
 obtain ⟨x26,l26,rfl,e26⟩:=Bj e25
 obtain ⟨x27,l27,rfl,e27⟩:=Bj e26
 obtain ⟨x28,l28,rfl,e28⟩:=Bj e27
 obtain ⟨x29,l29,rfl,e29⟩:=Bj e28
 obtain ⟨x30,l30,rfl,e30⟩:=Bj e29
 obtain ⟨x31,l31,rfl,e31⟩:=Bj e30
 obtain rfl:=List.eq_nil_of_length_eq_zero e31
 exact r1l x0 x1 x2 x3 x4 x5 x6 x7 x8 x9 x10 x11 x12 x13 x14 x15 x16 x17 x18 x19 x20 x21 x22 x23 x24 x25 x26 x27 x28 x29 x30 x31
theorem o1a :Aw (D16 0)=[.pl (.u64 0),.pl (.u64 0),.pl (.u64 0),.pl (.u64 0),.pl (.u64 0),.pl (.u64 0),.pl (.u64 0),.pl (.u64 0),.pl (.u64 0),.pl (.u64 0),.pl (.u64 0),.pl (.u64 0),.pl (.u64 0),.pl (.u64 0),.pl (.u64 0),.pl (.u64 0)]:=by rw [show D16 0=[0,0,0,0,0,0,0,0,0,0,0,0,0,0,0,0] from by decide+kernel];rfl
theorem s1p (k:List UInt8) (hk:k.length=32) (U:Nat) (hU:U<p25):
 CtM Tryd.prog 28 [.w (.agg (Az k)),.w (.one (.pl (.i 255))),.w (.agg (Aw (D16 U)))] [(1000000,⟨false,Aw Mk⟩)] (Told (fun v m=>v=.tup [.agg (ptC ⟨1,0⟩),.agg (ptC ⟨U,1⟩)]∧m=[])):=by
 obtain ⟨u,hu⟩: ∃ q,D16 U=q:=⟨_,rfl⟩
 have hul:u.length=32-16:=by rw [←hu];rfl
 simp only [ptC,hu,i1a,o1a]
 refine CtM.k Tryd.func28 rfl Tryd.ntmps28 (congrArg Array.toList Tryd.results28) (by simp) fun w0 ro may fx=>?_
 refine Dj fun zZ zhZ=>?_
 refine Cx fun zK zhK=>?_
 simp only [go_sem,hk,hul]
 repeat' (first|apply And.intro|intro _)
 refine zhK _ ?_
 refine Bz fun zN zM zhN zhM=>?_
 refine Cx fun zK zhK=>?_
 simp only [go_sem,hk,hul]
 repeat' (first|apply And.intro|intro _)
 refine zhK _ ?_
 (refine Bv ?_ ?_;focus (first|rfl|(simp [go_sem,hk,hul];done)))
 refine r0v (id:=2) [12,13,14,15,16] [0,1,0,0,12,3,63] [(2,5),(3,5),(4,5)] mixed (by kernel_rfl) (by simp only [go_sem]) fun zK zhK=>?_
 simp only [go_sem,hk,hul]
 repeat' (first|apply And.intro|intro _)
 refine zhK _ _ ?_ ?_
 focus (first|trivial|(simp only [go_sem];done)|(simp only [go_sem];simp;done)|(simp only [go_sem];simp;simp only [go_sem]))
 refine Dx ?_
 refine zhM _ _ ?_;clear zhN zhM
 refine zhZ _ _ ?_
 simp only [go_sem,hk,hul]
 all_goals (exact told_plain (by simp [Fj,Hz,Aw]) ⟨by first|rfl|simp,rfl⟩)
theorem s1q (k:List UInt8) (hk:k.length=32) (U:Nat) (hU:U<p25) (P1 P2 Q1 Q2:Nat) (l0:P1<p25) (l1:P2<p25) (l2:Q1<p25) (l3:Q2<p25) (i:Nat) (hi:i<255) (hrec:CtM Tryd.prog 28 [.w (.agg (Az k)),.w (.one (.pl (.i ((i+1:Nat):Int)))),.w (.agg (Aw (D16 U)))] [(1000000,⟨false,Aw Mk⟩)] (Told (fun v m=>v=.tup [.agg (ptC ⟨P1,P2⟩),.agg (ptC ⟨Q1,Q2⟩)]∧m=[]))) (hbit:b1u k i=1):
 CtM Tryd.prog 28 [.w (.agg (Az k)),.w (.one (.pl (.i ((i:Nat):Int)))),.w (.agg (Aw (D16 U)))] [(1000000,⟨false,Aw Mk⟩)] (Told (fun v m=>v=.tup [.agg (ptC (b0f ⟨P1,P2⟩ ⟨Q1,Q2⟩ U)),.agg (ptC (q0u ⟨Q1,Q2⟩))]∧m=[])):=by
 obtain ⟨lxx,lzz,lyy,lvv,luu⟩:P1<p25∧P2<p25∧Q1<p25∧Q2<p25∧U<p25:=⟨l0,l1,l2,l3,hU⟩
 have hW:=x1y P1 P2 Q1 Q2 U l0 l1 l2 l3 hU
 have hD:=e1m Q1 Q2 l2 l3
 obtain ⟨⟨w1,w2⟩,hw⟩: ∃ p,b0f ⟨P1,P2⟩ ⟨Q1,Q2⟩ U=p:=⟨_,rfl⟩
 obtain ⟨⟨d1,d2⟩,hd⟩: ∃ p,q0u ⟨Q1,Q2⟩=p:=⟨_,rfl⟩
 rw [hw] at hW ⊢
 rw [hd] at hD ⊢
 obtain ⟨wx,hwx⟩: ∃ q,D16 w1=q:=⟨_,rfl⟩
 have hwxl:wx.length=16:=by rw [←hwx];rfl
 obtain ⟨wz,hwz⟩: ∃ q,D16 w2=q:=⟨_,rfl⟩
 have hwzl:wz.length=16:=by rw [←hwz];rfl
 obtain ⟨dx,hdx⟩: ∃ q,D16 d1=q:=⟨_,rfl⟩
 have hdxl:dx.length=16:=by rw [←hdx];rfl
 obtain ⟨dz,hdz⟩: ∃ q,D16 d2=q:=⟨_,rfl⟩
 have hdzl:dz.length=16:=by rw [←hdz];rfl
 obtain ⟨xx,hxx⟩: ∃ q,D16 P1=q:=⟨_,rfl⟩
 have hxxl:xx.length=16:=by rw [←hxx];rfl
 have hxxd: ∀ i,i<16→(fL xx i).toNat<65536:=by rw [←hxx];exact Gz _
 have hxxv:Hq 65536 xx=P1:=by rw [←hxx];exact Ew (Kj lxx)
 obtain ⟨zz,hzz⟩: ∃ q,D16 P2=q:=⟨_,rfl⟩
 have hzzl:zz.length=16:=by rw [←hzz];rfl
 have hzzd: ∀ i,i<16→(fL zz i).toNat<65536:=by rw [←hzz];exact Gz _
 have hzzv:Hq 65536 zz=P2:=by rw [←hzz];exact Ew (Kj lzz)
 obtain ⟨yy,hyy⟩: ∃ q,D16 Q1=q:=⟨_,rfl⟩
 have hyyl:yy.length=16:=by rw [←hyy];rfl
 have hyyd: ∀ i,i<16→(fL yy i).toNat<65536:=by rw [←hyy];exact Gz _
 have hyyv:Hq 65536 yy=Q1:=by rw [←hyy];exact Ew (Kj lyy)
 obtain ⟨vv,hvv⟩: ∃ q,D16 Q2=q:=⟨_,rfl⟩
 have hvvl:vv.length=16:=by rw [←hvv];rfl
 have hvvd: ∀ i,i<16→(fL vv i).toNat<65536:=by rw [←hvv];exact Gz _
 have hvvv:Hq 65536 vv=Q2:=by rw [←hvv];exact Ew (Kj lvv)
 obtain ⟨uu,huu⟩: ∃ q,D16 U=q:=⟨_,rfl⟩
 have huul:uu.length=16:=by rw [←huu];rfl
 have huud: ∀ i,i<16→(fL uu i).toNat<65536:=by rw [←huu];exact Gz _
 have huuv:Hq 65536 uu=U:=by rw [←huu];exact Ew (Kj luu)
 simp only [ptC,hxx,hzz,hyy,hvv,huu,hwx,hwz,hdx,hdz] at hrec hW hD ⊢
 have o1:=Mj (q:=k) (i:=i/8) (by omega)
 obtain ⟨b,hb⟩: ∃ b,k.getD (i/8) 0=b:=⟨_,rfl⟩
 rw [hb] at o1
 have hbt:(j1m b (i%8)%2=1)=True:=by rw [←hb];exact eq_true hbit
 have hn:(((i:Nat):Int)=255)=False:=eq_false (by omega)
 have hj:(0:Int)≤((i/8:Nat):Int)∧((i/8:Nat):Int)<32∧i/8+1≤32∧(0:Int)≤((i%8:Nat):Int):=by omega
 have htd:((i:Nat):Int).tdiv 8=((i/8:Nat):Int):=rfl
 have htm:((i:Nat):Int).tmod 8=((i%8:Nat):Int):=rfl
 obtain ⟨hs1,hwd⟩:Go.RowKit.wrap64 (((i:Nat):Int)+1)=((i+1:Nat):Int)∧Go.RowKit.wrap64 ((i/8:Nat):Int)=((i/8:Nat):Int):=⟨Ny (by omega) (by omega),Ny rfl (by omega)⟩
 have F0:=And.intro hk<|And.intro hxxl<|And.intro hzzl<|And.intro hyyl<|And.intro hvvl<|And.intro huul<|And.intro hwxl<|And.intro hwzl<|And.intro hdxl<|And.intro hdzl<|And.intro o1<|And.intro hbt<|And.intro hn<|And.intro hj<|And.intro htd<|And.intro htm<|And.intro hs1<|hwd
 refine CtM.k Tryd.func28 rfl Tryd.ntmps28 (congrArg Array.toList Tryd.results28) (by simp) fun w0 ro may fx=>?_
 refine Dj fun zZ zhZ=>?_
 refine Cx fun zK zhK=>?_
 simp only [go_sem,Ay,Mx,F0]
 repeat' (first|apply And.intro|intro _)
 refine zhK _ ?_
 refine Bz fun zN zM zhN zhM=>?_
 refine Cx fun zK zhK=>?_
 simp only [go_sem,Ay,Mx,F0]
 repeat' (first|apply And.intro|intro _)
 refine zhK _ ?_
 (refine Cy ?_ ?_;focus (first|rfl|(simp [go_sem,Ay,Mx,F0];done)))
 refine Cw ?_
 refine zhN _ ?_;clear zhN zhM
 refine Cx fun zK zhK=>?_
 simp only [go_sem,Ay,Mx,F0]
 repeat' (first|apply And.intro|intro _)
 all_goals (refine Bq false [] (fun k=>k) (fun _ _=>rfl) ?_ (by decide) ?_ hrec.told ?_;iterate 2 (focus (first|rfl|(simp only [go_sem,Ay,Mx,F0]<;>first|done|rfl|simp))))
 all_goals (rintro v m ⟨hR,hm⟩;subst hR;subst hm)
 all_goals (refine And.intro ?_ (And.intro ?_ (And.intro ?_ ?_));iterate 3 (focus (first|rfl|(simp only [go_sem,Ay,Mx,F0];done)|(simp [go_sem,look,Ay,Mx,F0];done))))
 all_goals (try simp only [go_sem,Ay,Mx,F0])
 all_goals (try simp only [go_sem,Ay,Mx,F0])
 all_goals repeat' (first|apply And.intro|intro _)
 refine zhK _ ?_
 refine Bz fun zN zM zhN zhM=>?_
 refine Cx fun zK zhK=>?_
 simp only [go_sem,Ay,Mx,F0]
 repeat' (first|apply And.intro|intro _)
 refine zhK _ ?_
 (refine Bv ?_ ?_;focus (first|rfl|(simp [go_sem,Ay,Mx,F0];done)))
 refine Bz fun zN zM zhN zhM=>?_
 refine b0s (id:=5) mixed fun zE zhE=>?_
 refine Ck (p:=0) 5 [34,35,36,37,38] [0,0,0,7,0,31,63,127] [] rfl (by kernel_rfl) rfl (by simp only [go_sem]) fun zR zK zhR zhK=>?_
 simp only [go_sem,Ay,Mx,F0]
 repeat' (first|apply And.intro|intro _)
 all_goals (refine Bw (fun k=>k) (.w (.agg (Aw wx++Aw wz))) [] (fun _ _=>rfl) ?_ ?_ ?_ hW.told ?_ ?_;(iterate 2 (focus (first|rfl|(simp only [go_sem,Ay,Mx,F0]<;>first|done|rfl|simp))));(first|kernel_rfl|rfl|simp [Qv,Qk,pls]))
 all_goals try (refine And.intro ?_ (And.intro ?_ (And.intro ?_ ?_))<;>(first|rfl|(simp only [go_sem,Ay,Mx,F0];done)|(simp [go_sem,look,Ay,Mx,F0];done)))
 all_goals (try simp only [go_sem,Ay,Mx,F0])
 all_goals (try simp only [go_sem,Ay,Mx,F0])
 all_goals repeat' (first|apply And.intro|intro _)
 refine zhK _ _ trivial (zhR _ ?_)
 refine Dk 3 8 rfl (by kernel_rfl) rfl rfl fun zR zhR=>?_
 simp only [go_sem,Ay,Mx,F0]
 repeat' (first|apply And.intro|intro _)
 all_goals (refine Bq false [] (fun k=>k) (fun _ _=>rfl) ?_ (by decide) ?_ hD.told ?_;iterate 2 (focus (first|rfl|(simp only [go_sem,Ay,Mx,F0]<;>first|done|rfl|simp))))
 all_goals (rintro v m ⟨hR,hm⟩;subst hR;subst hm)
 all_goals (refine And.intro ?_ (And.intro ?_ (And.intro ?_ ?_));iterate 3 (focus (first|rfl|(simp only [go_sem,Ay,Mx,F0];done)|(simp [go_sem,look,Ay,Mx,F0];done))))
 all_goals (try simp only [go_sem,Ay,Mx,F0])
 all_goals (try simp only [go_sem,Ay,Mx,F0])
 all_goals repeat' (first|apply And.intro|intro _)
 refine zhR _ ?_
 refine Jy rfl (zhE _ ?_)
 refine zhN _ ?_;clear zhN zhM
 refine Dx ?_
 refine zhM _ _ ?_;clear zhN zhM
 refine zhZ _ _ ?_
 simp only [go_sem,Ay,Mx,F0]
 all_goals (exact told_plain (by simp [Fj,Hz,Aw]) ⟨by first|rfl|simp,rfl⟩)
theorem s1r (k:List UInt8) (hk:k.length=32) (U:Nat) (hU:U<p25) (P1 P2 Q1 Q2:Nat) (l0:P1<p25) (l1:P2<p25) (l2:Q1<p25) (l3:Q2<p25) (i:Nat) (hi:i<255) (hrec:CtM Tryd.prog 28 [.w (.agg (Az k)),.w (.one (.pl (.i ((i+1:Nat):Int)))),.w (.agg (Aw (D16 U)))] [(1000000,⟨false,Aw Mk⟩)] (Told (fun v m=>v=.tup [.agg (ptC ⟨P1,P2⟩),.agg (ptC ⟨Q1,Q2⟩)]∧m=[]))) (hbit:¬b1u k i=1):
 CtM Tryd.prog 28 [.w (.agg (Az k)),.w (.one (.pl (.i ((i:Nat):Int)))),.w (.agg (Aw (D16 U)))] [(1000000,⟨false,Aw Mk⟩)] (Told (fun v m=>v=.tup [.agg (ptC (q0u ⟨P1,P2⟩)),.agg (ptC (b0f ⟨P1,P2⟩ ⟨Q1,Q2⟩ U))]∧m=[])):=by
 obtain ⟨lxx,lzz,lyy,lvv,luu⟩:P1<p25∧P2<p25∧Q1<p25∧Q2<p25∧U<p25:=⟨l0,l1,l2,l3,hU⟩
 have hW:=x1y P1 P2 Q1 Q2 U l0 l1 l2 l3 hU
 have hD:=e1m P1 P2 l0 l1
 obtain ⟨⟨w1,w2⟩,hw⟩: ∃ p,b0f ⟨P1,P2⟩ ⟨Q1,Q2⟩ U=p:=⟨_,rfl⟩
 obtain ⟨⟨d1,d2⟩,hd⟩: ∃ p,q0u ⟨P1,P2⟩=p:=⟨_,rfl⟩
 rw [hw] at hW ⊢
 rw [hd] at hD ⊢
 obtain ⟨wx,hwx⟩: ∃ q,D16 w1=q:=⟨_,rfl⟩
 have hwxl:wx.length=16:=by rw [←hwx];rfl
 obtain ⟨wz,hwz⟩: ∃ q,D16 w2=q:=⟨_,rfl⟩
 have hwzl:wz.length=16:=by rw [←hwz];rfl
 obtain ⟨dx,hdx⟩: ∃ q,D16 d1=q:=⟨_,rfl⟩
 have hdxl:dx.length=16:=by rw [←hdx];rfl
 obtain ⟨dz,hdz⟩: ∃ q,D16 d2=q:=⟨_,rfl⟩
 have hdzl:dz.length=16:=by rw [←hdz];rfl
 obtain ⟨xx,hxx⟩: ∃ q,D16 P1=q:=⟨_,rfl⟩
 have hxxl:xx.length=16:=by rw [←hxx];rfl
 have hxxd: ∀ i,i<16→(fL xx i).toNat<65536:=by rw [←hxx];exact Gz _
 have hxxv:Hq 65536 xx=P1:=by rw [←hxx];exact Ew (Kj lxx)
 obtain ⟨zz,hzz⟩: ∃ q,D16 P2=q:=⟨_,rfl⟩
 have hzzl:zz.length=16:=by rw [←hzz];rfl
 have hzzd: ∀ i,i<16→(fL zz i).toNat<65536:=by rw [←hzz];exact Gz _
 have hzzv:Hq 65536 zz=P2:=by rw [←hzz];exact Ew (Kj lzz)
 obtain ⟨yy,hyy⟩: ∃ q,D16 Q1=q:=⟨_,rfl⟩
 have hyyl:yy.length=16:=by rw [←hyy];rfl
 have hyyd: ∀ i,i<16→(fL yy i).toNat<65536:=by rw [←hyy];exact Gz _
 have hyyv:Hq 65536 yy=Q1:=by rw [←hyy];exact Ew (Kj lyy)
 obtain ⟨vv,hvv⟩: ∃ q,D16 Q2=q:=⟨_,rfl⟩
 have hvvl:vv.length=16:=by rw [←hvv];rfl
 have hvvd: ∀ i,i<16→(fL vv i).toNat<65536:=by rw [←hvv];exact Gz _
 have hvvv:Hq 65536 vv=Q2:=by rw [←hvv];exact Ew (Kj lvv)
 obtain ⟨uu,huu⟩: ∃ q,D16 U=q:=⟨_,rfl⟩
 have huul:uu.length=16:=by rw [←huu];rfl
 have huud: ∀ i,i<16→(fL uu i).toNat<65536:=by rw [←huu];exact Gz _
 have huuv:Hq 65536 uu=U:=by rw [←huu];exact Ew (Kj luu)
 simp only [ptC,hxx,hzz,hyy,hvv,huu,hwx,hwz,hdx,hdz] at hrec hW hD ⊢
 have o1:=Mj (q:=k) (i:=i/8) (by omega)
 obtain ⟨b,hb⟩: ∃ b,k.getD (i/8) 0=b:=⟨_,rfl⟩
 rw [hb] at o1
 have hbt:(j1m b (i%8)%2=1)=False:=by rw [←hb];exact eq_false hbit
 have hn:(((i:Nat):Int)=255)=False:=eq_false (by omega)
 have hj:(0:Int)≤((i/8:Nat):Int)∧((i/8:Nat):Int)<32∧i/8+1≤32∧(0:Int)≤((i%8:Nat):Int):=by omega
 have htd:((i:Nat):Int).tdiv 8=((i/8:Nat):Int):=rfl
 have htm:((i:Nat):Int).tmod 8=((i%8:Nat):Int):=rfl
 obtain ⟨hs1,hwd⟩:Go.RowKit.wrap64 (((i:Nat):Int)+1)=((i+1:Nat):Int)∧Go.RowKit.wrap64 ((i/8:Nat):Int)=((i/8:Nat):Int):=⟨Ny (by omega) (by omega),Ny rfl (by omega)⟩
 have F0:=And.intro hk<|And.intro hxxl<|And.intro hzzl<|And.intro hyyl<|And.intro hvvl<|And.intro huul<|And.intro hwxl<|And.intro hwzl<|And.intro hdxl<|And.intro hdzl<|And.intro o1<|And.intro hbt<|And.intro hn<|And.intro hj<|And.intro htd<|And.intro htm<|And.intro hs1<|hwd
 refine CtM.k Tryd.func28 rfl Tryd.ntmps28 (congrArg Array.toList Tryd.results28) (by simp) fun w0 ro may fx=>?_
 refine Dj fun zZ zhZ=>?_
 iterate 22 first
  |(refine Cx fun zK zhK=>?_;simp only [go_sem,Ay,Mx,F0];(repeat' (first|apply And.intro|intro _)))
  |refine zhK _ ?_
  |(refine zhN _ ?_;clear zhN zhM)
  |refine Cw ?_
  |refine Dx ?_
  |(refine zhZ _ _ ?_;simp only [go_sem,Ay,Mx,F0];(all_goals (exact told_plain (by simp [Fj,Hz,Aw]) ⟨by first|rfl|simp,rfl⟩)))
  |((all_goals (refine Bq false [] (fun k=>k) (fun _ _=>rfl) ?_ (by decide) ?_ hrec.told ?_;iterate 2 (focus (first|rfl|(simp only [go_sem,Ay,Mx,F0]<;>first|done|rfl|simp)))));(all_goals (rintro v m ⟨hR,hm⟩;subst hR;subst hm));(all_goals (refine And.intro ?_ (And.intro ?_ (And.intro ?_ ?_));iterate 3 (focus (first|rfl|(simp only [go_sem,Ay,Mx,F0];done)|(simp [go_sem,look,Ay,Mx,F0];done)))));(all_goals (try simp only [go_sem,Ay,Mx,F0]));(all_goals (try simp only [go_sem,Ay,Mx,F0]));(all_goals repeat' (first|apply And.intro|intro _)))
  |(refine b0s (id:=6) mixed fun zE zhE=>?_;refine Ck (p:=0) 5 [40,41,42,43,44] [0,1,0,0,0,31,63,127] [] rfl (by kernel_rfl) rfl (by simp only [go_sem]) fun zR zK zhR zhK=>?_;simp only [go_sem,Ay,Mx,F0];(repeat' (first|apply And.intro|intro _));(all_goals (refine Bw (fun k=>k) (.w (.agg (Aw dx++Aw dz))) [] (fun _ _=>rfl) ?_ ?_ ?_ hD.told ?_ ?_;(iterate 2 (focus (first|rfl|(simp only [go_sem,Ay,Mx,F0]<;>first|done|rfl|simp))));(first|kernel_rfl|rfl|simp [Qv,Qk,pls])));(all_goals try (refine And.intro ?_ (And.intro ?_ (And.intro ?_ ?_))<;>(first|rfl|(simp only [go_sem,Ay,Mx,F0];done)|(simp [go_sem,look,Ay,Mx,F0];done))));(all_goals (try simp only [go_sem,Ay,Mx,F0]));(all_goals (try simp only [go_sem,Ay,Mx,F0]));(all_goals repeat' (first|apply And.intro|intro _));refine zhK _ _ trivial (zhR _ ?_);refine Dk 3 8 rfl (by kernel_rfl) rfl rfl fun zR zhR=>?_;simp only [go_sem,Ay,Mx,F0];(repeat' (first|apply And.intro|intro _));(all_goals (refine Bq false [] (fun k=>k) (fun _ _=>rfl) ?_ (by decide) ?_ hW.told ?_;iterate 2 (focus (first|rfl|(simp only [go_sem,Ay,Mx,F0]<;>first|done|rfl|simp)))));(all_goals (rintro v m ⟨hR,hm⟩;subst hR;subst hm));(all_goals (refine And.intro ?_ (And.intro ?_ (And.intro ?_ ?_));iterate 3 (focus (first|rfl|(simp only [go_sem,Ay,Mx,F0];done)|(simp [go_sem,look,Ay,Mx,F0];done)))));(all_goals (try simp only [go_sem,Ay,Mx,F0]));(all_goals (try simp only [go_sem,Ay,Mx,F0]));(all_goals repeat' (first|apply And.intro|intro _));refine zhR _ ?_;refine Jy rfl (zhE _ ?_))
  |refine Bz fun zN zM zhN zhM=>?_
  |(refine Cy ?_ ?_;focus (first|rfl|(simp [go_sem,Ay,Mx,F0];done)))
theorem p1e (k:List UInt8) (hk:k.length=32) (U:Nat) (hU:U<p25): ∀ (s i:Nat),i+s=255→CtM Tryd.prog 28 [.w (.agg (Az k)),.w (.one (.pl (.i ((i:Nat):Int)))),.w (.agg (Aw (D16 U)))] [(1000000,⟨false,Aw Mk⟩)] (Told (fun v m=>v=.tup [.agg (ptC (oft k U s).1),.agg (ptC (oft k U s).2)]∧m=[]))
 |0,i,h=>by
  obtain rfl:i=255:=by omega
  exact s1p k hk U hU
 |s+1,i,h=>by
  have hr:=p1e k hk U hU s (i+1) (by omega)
  obtain ⟨⟨a1,a2⟩,⟨a3,a4⟩⟩:=f1c k hU s
  simp only [oft]
  obtain ⟨⟨P1,P2⟩,hP⟩: ∃ p,(oft k U s).1=p:=⟨_,rfl⟩
  obtain ⟨⟨Q1,Q2⟩,hQ⟩: ∃ p,(oft k U s).2=p:=⟨_,rfl⟩
  rw [hP] at hr a1 a2 ⊢
  rw [hQ] at hr a3 a4 ⊢
  obtain rfl:i=254-s:=by omega
  by_cases hb:b1u k (254-s)=1
  · rw [if_pos hb];exact s1q k hk U hU P1 P2 Q1 Q2 a1 a2 a3 a4 _ (by omega) hr hb
  · rw [if_neg hb];exact s1r k hk U hU P1 P2 Q1 Q2 a1 a2 a3 a4 _ (by omega) hr hb
end Lk
end Go.Sy
