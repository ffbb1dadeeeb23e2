/- A sum that may be: the contracts joined; the law on sums that begin. -/
import Derived.Test.YtlngaojnfcaagaaDoorvS7
set_option linter.unusedVariables false
set_option linter.unusedSimpArgs false
namespace Go.Sy
open Go.Proofs
attribute [local irreducible] Fz HT Cw Oj onC onE onO onG goV goA goS Qv Ey
theorem j0c (r0 r1 p0 p1 a0 a1 a2:UInt64) (held:List UInt8) (hh:held.length=16) (n:Int):Ct Tryd.prog 67 [.w (.agg (Ak r0 r1 p0 p1 a0 a1 a2 held n))] (fun v m=>v=.w (.one (.pl (.i (Kw r0 r1 a0 a1 a2 held n))))):=by
 by_cases h0:r0&&&~~~1152921487695413247=0
 · by_cases h1:r1&&&~~~1152921487695413244=0
   · by_cases h2:3<a2
     · exact g1t r0 r1 p0 p1 a0 a1 a2 held hh n h0 h1 h2
     · by_cases h3:a2=3
       · by_cases h4:a1=18446744073709551615
         · by_cases h5:18446744073709551611≤a0
           · exact g1s r0 r1 p0 p1 a0 a1 a2 held hh n h0 h1 h2 h3 h4 h5
           · by_cases h6:n<0
             · exact o1a r0 r1 p0 p1 a0 a1 a2 held hh n h0 h1 h2 h3 h4 h5 h6
             · by_cases h7:15<n
               · exact o1b r0 r1 p0 p1 a0 a1 a2 held hh n h0 h1 h2 h3 h4 h5 h6 h7
               · obtain ⟨k,rfl⟩: ∃ k:Nat,n=(k:Int):=⟨n.toNat,by omega⟩
                 exact n1z r0 r1 p0 p1 a0 a1 a2 held hh k h0 h1 h2 h3 h4 h5 (by omega)
         · by_cases h6:n<0
           · exact o1d r0 r1 p0 p1 a0 a1 a2 held hh n h0 h1 h2 h3 h4 h6
           · by_cases h7:15<n
             · exact o1e r0 r1 p0 p1 a0 a1 a2 held hh n h0 h1 h2 h3 h4 h6 h7
             · obtain ⟨k,rfl⟩: ∃ k:Nat,n=(k:Int):=⟨n.toNat,by omega⟩
               exact o1c r0 r1 p0 p1 a0 a1 a2 held hh k h0 h1 h2 h3 h4 (by omega)
       · by_cases h6:n<0
         · exact o1g r0 r1 p0 p1 a0 a1 a2 held hh n h0 h1 h2 h3 h6
         · by_cases h7:15<n
           · exact o1h r0 r1 p0 p1 a0 a1 a2 held hh n h0 h1 h2 h3 h6 h7
           · obtain ⟨k,rfl⟩: ∃ k:Nat,n=(k:Int):=⟨n.toNat,by omega⟩
             exact o1f r0 r1 p0 p1 a0 a1 a2 held hh k h0 h1 h2 h3 (by omega)
   · exact g1u r0 r1 p0 p1 a0 a1 a2 held hh n h0 h1
 · exact g1v r0 r1 p0 p1 a0 a1 a2 held hh n h0
theorem j0b (r0 r1 p0 p1 a0 a1 a2:UInt64) (held:List UInt8) (hh:held.length=16) (n:Int):Ct Tryd.prog 71 [.w (.agg (Ak r0 r1 p0 p1 a0 a1 a2 held n))] (fun v m=>v=.w (.one (.pl (.i (Kw r0 r1 a0 a1 a2 held n))))):=by
 by_cases h0:r0&&&1152921487695413247=r0∧r1&&&1152921487695413244=r1
 · have g0:=(Ov _ _).mp h0.1
   have g1:=(Ov _ _).mp h0.2
   by_cases h2:0≤n
   · by_cases h3:n<16
     · by_cases h4:a2<4
       · by_cases h5:((Gv a0 a1 a2).carried.w0=a0∧(Gv a0 a1 a2).carried.w1=a1∧(Gv a0 a1 a2).carried.w2=a2)
         · exact u1g r0 r1 p0 p1 a0 a1 a2 held hh n g0 g1 h2 h3 h4 h5
         · exact n1w r0 r1 p0 p1 a0 a1 a2 held hh n g0 g1 h2 h3 h4 h5
       · exact u1j r0 r1 p0 p1 a0 a1 a2 held hh n g0 g1 h2 h3 h4
     · exact u1i r0 r1 p0 p1 a0 a1 a2 held hh n g0 g1 h2 h3
   · exact u1h r0 r1 p0 p1 a0 a1 a2 held hh n g0 g1 h2
 · exact a2w r0 r1 p0 p1 a0 a1 a2 held hh n h0
end Go.Sy
