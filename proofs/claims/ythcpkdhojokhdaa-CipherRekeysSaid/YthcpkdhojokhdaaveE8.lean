/- A sum that may be: the contracts joined; the law on sums that begin. -/
import Derived.Test.YthcpkdhojokhdaaveE7
set_option linter.unusedVariables false
set_option linter.unusedSimpArgs false
namespace Go.Sy
open Go.Proofs
attribute [local irreducible] atCall HT runOps runD onC onE onO onG goV goA goS onSt onGuard
theorem poly_check (r0 r1 p0 p1 a0 a1 a2 : UInt64) (held : List UInt8) (hh : held.length = 16) (n : Int) : Ct Try.prog 15 [.w (.agg (polyC r0 r1 p0 p1 a0 a1 a2 held n))] (fun v m => v = .w (.one (.pl (.i (polyErr r0 r1 a0 a1 a2 held n))))) := by
 by_cases h0 : r0 &&& ~~~1152921487695413247 = 0
 · by_cases h1 : r1 &&& ~~~1152921487695413244 = 0
   · by_cases h2 : 3 < a2
     · exact pchk_bad2 r0 r1 p0 p1 a0 a1 a2 held hh n h0 h1 h2
     · by_cases h3 : a2 = 3
       · by_cases h4 : a1 = 18446744073709551615
         · by_cases h5 : 18446744073709551611 ≤ a0
           · exact pchk_bad3 r0 r1 p0 p1 a0 a1 a2 held hh n h0 h1 h2 h3 h4 h5
           · by_cases h6 : n < 0
             · exact pchk_rlo r0 r1 p0 p1 a0 a1 a2 held hh n h0 h1 h2 h3 h4 h5 h6
             · by_cases h7 : 15 < n
               · exact pchk_rhi r0 r1 p0 p1 a0 a1 a2 held hh n h0 h1 h2 h3 h4 h5 h6 h7
               · obtain ⟨k, rfl⟩ : ∃ k : Nat, n = (k : Int) := ⟨n.toNat, by omega⟩
                 exact pchk_rok r0 r1 p0 p1 a0 a1 a2 held hh k h0 h1 h2 h3 h4 h5 (by omega)
         · by_cases h6 : n < 0
           · exact pchk_qlo r0 r1 p0 p1 a0 a1 a2 held hh n h0 h1 h2 h3 h4 h6
           · by_cases h7 : 15 < n
             · exact pchk_qhi r0 r1 p0 p1 a0 a1 a2 held hh n h0 h1 h2 h3 h4 h6 h7
             · obtain ⟨k, rfl⟩ : ∃ k : Nat, n = (k : Int) := ⟨n.toNat, by omega⟩
               exact pchk_qok r0 r1 p0 p1 a0 a1 a2 held hh k h0 h1 h2 h3 h4 (by omega)
       · by_cases h6 : n < 0
         · exact pchk_plo r0 r1 p0 p1 a0 a1 a2 held hh n h0 h1 h2 h3 h6
         · by_cases h7 : 15 < n
           · exact pchk_phi r0 r1 p0 p1 a0 a1 a2 held hh n h0 h1 h2 h3 h6 h7
           · obtain ⟨k, rfl⟩ : ∃ k : Nat, n = (k : Int) := ⟨n.toNat, by omega⟩
             exact pchk_pok r0 r1 p0 p1 a0 a1 a2 held hh k h0 h1 h2 h3 (by omega)
   · exact pchk_bad1 r0 r1 p0 p1 a0 a1 a2 held hh n h0 h1
 · exact pchk_bad0 r0 r1 p0 p1 a0 a1 a2 held hh n h0
theorem poly_fault (r0 r1 p0 p1 a0 a1 a2 : UInt64) (held : List UInt8) (hh : held.length = 16) (n : Int) : Ct Try.prog 17 [.w (.agg (polyC r0 r1 p0 p1 a0 a1 a2 held n))] (fun v m => v = .w (.one (.pl (.i (polyErr r0 r1 a0 a1 a2 held n))))) := by
 by_cases h0 : r0 &&& 1152921487695413247 = r0 ∧ r1 &&& 1152921487695413244 = r1
 · have g0 := (mask_iff _ _).mp h0.1
   have g1 := (mask_iff _ _).mp h0.2
   by_cases h2 : 0 ≤ n
   · by_cases h3 : n < 16
     · by_cases h4 : a2 < 4
       · by_cases h5 : ((parts3 a0 a1 a2).carried.w0 = a0 ∧ (parts3 a0 a1 a2).carried.w1 = a1 ∧ (parts3 a0 a1 a2).carried.w2 = a2)
         · exact pflt_ok r0 r1 p0 p1 a0 a1 a2 held hh n g0 g1 h2 h3 h4 h5
         · exact pflt_acc r0 r1 p0 p1 a0 a1 a2 held hh n g0 g1 h2 h3 h4 h5
       · exact pflt_a2 r0 r1 p0 p1 a0 a1 a2 held hh n g0 g1 h2 h3 h4
     · exact pflt_hi r0 r1 p0 p1 a0 a1 a2 held hh n g0 g1 h2 h3
   · exact pflt_lo r0 r1 p0 p1 a0 a1 a2 held hh n g0 g1 h2
 · exact pflt_r r0 r1 p0 p1 a0 a1 a2 held hh n h0
end Go.Sy

