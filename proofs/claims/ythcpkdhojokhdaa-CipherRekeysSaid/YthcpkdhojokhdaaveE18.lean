/- The end of a sum: the contracts joined; their law. -/
import Derived.Test.YthcpkdhojokhdaaveE17
set_option linter.unusedVariables false
set_option linter.unusedSimpArgs false
namespace Go.Sy
open Go.Proofs
attribute [local irreducible] atCall HT runOps runD onC onE onO onG goV goA goS onSt onGuard
theorem pend_st (r0 r1 p0 p1 : UInt64) (s : PSt) (hs : s.ok) (hr0 : r0 &&& ~~~1152921487695413247 = 0) (hr1 : r1 &&& ~~~1152921487695413244 = 0) : Ct Try.prog 20 [.w (.agg (polyC r0 r1 p0 p1 s.acc.a s.acc.b s.acc.c (pad16 s.rest) (s.rest.length : Nat)))] (fun v m => v = .tup [.agg (bytesC (endV (finA r0 r1 s).a (finA r0 r1 s).b p0 p1)), .one (.pl (.i 0))]) := by
 rcases Nat.eq_zero_or_pos s.rest.length with h0 | h0
 · exact pend_z r0 r1 p0 p1 s hs hr0 hr1 h0
 · exact pend_p r0 r1 p0 p1 s hs hr0 hr1 h0
theorem pended_st (r0 r1 p0 p1 : UInt64) (s : PSt) (hs : s.ok) (hr0 : r0 &&& ~~~1152921487695413247 = 0) (hr1 : r1 &&& ~~~1152921487695413244 = 0) : Ct Try.prog 21 [.w (.agg (polyC r0 r1 p0 p1 s.acc.a s.acc.b s.acc.c (pad16 s.rest) (s.rest.length : Nat)))] (fun v m => v = .tup [.agg (bytesC (endV (finA r0 r1 s).a (finA r0 r1 s).b p0 p1)), .one (.pl (.i 0))]) := by
 rcases Nat.eq_zero_or_pos s.rest.length with h0 | h0
 · exact pended_z r0 r1 p0 p1 s hs hr0 hr1 h0
 · exact pended_p r0 r1 p0 p1 s hs hr0 hr1 h0
end Go.Sy

