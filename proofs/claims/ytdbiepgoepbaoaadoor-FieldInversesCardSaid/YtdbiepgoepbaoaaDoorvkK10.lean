/- Sums of the field: the row's own walk. -/
import Derived.Test.YtdbiepgoepbaoaaDoorvkK9
set_option linter.unusedVariables false
set_option linter.unusedSimpArgs false
namespace Go.Sy
open Go.Proofs
attribute [local irreducible] atCall HT runOps runD onC onE onO onG goV goA goS onSt onGuard
theorem sh_u64x4 {P : Program} {n : Nat} {t e : TypeId} {cs : List PL} (h : Sh P n t cs) (ht : P.underlying t = some (.array 4 e)) (he : P.underlying e = some (.int .u64)) : ∃ a b c d, cs = [.u64 a, .u64 b, .u64 c, .u64 d] := by
 obtain ⟨l, hl, rfl⟩ := sh_u64s h ht he
 match l, hl with
 | [a, b, c, d], _ => exact ⟨a, b, c, d, rfl⟩
def primeU : List UInt64 := [18446744073709551597, 18446744073709551615, 18446744073709551615, 9223372036854775807]
end Go.Sy

