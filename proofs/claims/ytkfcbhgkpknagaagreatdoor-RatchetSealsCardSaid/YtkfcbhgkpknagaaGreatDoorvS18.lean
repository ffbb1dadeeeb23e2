/- A sum that may be: the contracts joined; the law on sums that begin. -/
import Derived.Test.YtkfcbhgkpknagaaGreatDoorvS16
set_option linter.unusedVariables false
set_option linter.unusedSimpArgs false
namespace Go.Sy
open Go.Proofs
attribute [local irreducible] Bw HT Aj Jk onC onE onO onG goV goA goS Lx Bz
theorem l0j (r0 r1 p0 p1 a0 a1 a2:UInt64) (held:List UInt8) (hh:held.length=16) (n:Int):Ct Tryz.prog 117 [.w (.agg (Cy r0 r1 p0 p1 a0 a1 a2 held n))] (fun v m=>v=.w (.one (.pl (.i (Jj r0 r1 a0 a1 a2 held n))))):=by
 by_cases h0:r0&&&~~~1152921487695413247=0
 ·by_cases h1:r1&&&~~~1152921487695413244=0
  ·by_cases h2:3<a2
   ·exact o1j r0 r1 p0 p1 a0 a1 a2 held hh n h0 h1 h2
   by_cases h3:a2=3
   ·by_cases h4:a1=18446744073709551615
    ·by_cases h5:18446744073709551611≤a0
     ·exact o1i r0 r1 p0 p1 a0 a1 a2 held hh n h0 h1 h2 h3 h4 h5
     by_cases h6:n<0
     ·exact v1z r0 r1 p0 p1 a0 a1 a2 held hh n h0 h1 h2 h3 h4 h5 h6
     by_cases h7:15<n
     ·exact w1a r0 r1 p0 p1 a0 a1 a2 held hh n h0 h1 h2 h3 h4 h5 h6 h7
     obtain ⟨k,rfl⟩: ∃ k:Nat,n=(k:Int):=⟨n.toNat,by omega⟩
     exact v1y r0 r1 p0 p1 a0 a1 a2 held hh k h0 h1 h2 h3 h4 h5 (by omega)
    by_cases h6:n<0
    ·exact w1c r0 r1 p0 p1 a0 a1 a2 held hh n h0 h1 h2 h3 h4 h6
    by_cases h7:15<n
    ·exact w1d r0 r1 p0 p1 a0 a1 a2 held hh n h0 h1 h2 h3 h4 h6 h7
    obtain ⟨k,rfl⟩: ∃ k:Nat,n=(k:Int):=⟨n.toNat,by omega⟩
    exact w1b r0 r1 p0 p1 a0 a1 a2 held hh k h0 h1 h2 h3 h4 (by omega)
   by_cases h6:n<0
   ·exact w1f r0 r1 p0 p1 a0 a1 a2 held hh n h0 h1 h2 h3 h6
   by_cases h7:15<n
   ·exact w1g r0 r1 p0 p1 a0 a1 a2 held hh n h0 h1 h2 h3 h6 h7
   obtain ⟨k,rfl⟩: ∃ k:Nat,n=(k:Int):=⟨n.toNat,by omega⟩
   exact w1e r0 r1 p0 p1 a0 a1 a2 held hh k h0 h1 h2 h3 (by omega)
  exact o1k r0 r1 p0 p1 a0 a1 a2 held hh n h0 h1
 exact o1l r0 r1 p0 p1 a0 a1 a2 held hh n h0
theorem l0i (r0 r1 p0 p1 a0 a1 a2:UInt64) (held:List UInt8) (hh:held.length=16) (n:Int):Ct Tryz.prog 124 [.w (.agg (Cy r0 r1 p0 p1 a0 a1 a2 held n))] (fun v m=>v=.w (.one (.pl (.i (Jj r0 r1 a0 a1 a2 held n))))):=by
 by_cases h0:r0&&&1152921487695413247=r0∧r1&&&1152921487695413244=r1
 ·have g0:=(Ox _ _).mp h0.1
  have g1:=(Ox _ _).mp h0.2
  by_cases h2:0≤n
  ·by_cases h3:n<16
   ·by_cases h4:a2<4
    ·by_cases h5:((Ey a0 a1 a2).carried.w0=a0∧(Ey a0 a1 a2).carried.w1=a1∧(Ey a0 a1 a2).carried.w2=a2)
     ·exact d2x r0 r1 p0 p1 a0 a1 a2 held hh n g0 g1 h2 h3 h4 h5
     exact v1v r0 r1 p0 p1 a0 a1 a2 held hh n g0 g1 h2 h3 h4 h5
    exact e2a r0 r1 p0 p1 a0 a1 a2 held hh n g0 g1 h2 h3 h4
   exact d2z r0 r1 p0 p1 a0 a1 a2 held hh n g0 g1 h2 h3
  exact d2y r0 r1 p0 p1 a0 a1 a2 held hh n g0 g1 h2
 exact l2v r0 r1 p0 p1 a0 a1 a2 held hh n h0
end Go.Sy
