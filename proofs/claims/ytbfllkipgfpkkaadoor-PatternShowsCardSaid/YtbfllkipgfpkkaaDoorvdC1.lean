/- Walks: how often a byte is in a string, and where; strings parted at a byte. -/
import Derived.Test.YtbfllkipgfpkkaaDoorvdB1
import Derived.Test.YtbfllkipgfpkkaaDoorvU4
import Derived.Test.YtbfllkipgfpkkaaDoorvE3
import Derived.Laws.Externs
import Derived.Lib.Bytealg
set_option linter.unusedVariables false
set_option linter.unusedSimpArgs false
namespace Go.Sy
open Go.Proofs
attribute [local irreducible] atCall HT runOps runD onC onE onO onG goV goA goS onSt onGuard
theorem now_count (s : List UInt8) (c : UInt8) : Now Tryd.prog 48 [.w (.one (.pl (.str s))), .w (.one (.pl (.u8 c)))] (.w (.one (.pl (.i ((Lib.countByte s c : Nat) : Int))))) := by
 refine ⟨fun k => rfl, fun w d vals h => ?_⟩
 have hv : vals = #[.string ⟨s.toArray⟩, .int .u8 c.toNat] := by
  obtain ⟨l⟩ := vals
  simp only at h
  cases h with
  | cons h1 h =>
   cases h with
   | cons h2 h =>
    cases h
    simp only [V.den, W.den, L.den, PL.den] at h1 h2
    rw [h1.1, h2]
 subst hv
 have hr := run_callFunc_extern (P := Tryd.prog) Tryd.func48 (by kernel_rfl) (by kernel_rfl) (by kernel_rfl) (e := Extern.BytealgCount.count) (by kernel_rfl) #[.string ⟨s.toArray⟩, .int .u8 c.toNat] w
 rw [Lib.run_countString] at hr
 refine ⟨_, hr, fun d' => ?_⟩
 simp [V.den, W.den, L.den, PL.den]
theorem now_indexb (s : List UInt8) (c : UInt8) : Now Tryd.prog 50 [.w (.one (.pl (.str s))), .w (.one (.pl (.u8 c)))] (.w (.one (.pl (.i (Lib.indexByte s c))))) := by
 refine ⟨fun k => rfl, fun w d vals h => ?_⟩
 have hv : vals = #[.string ⟨s.toArray⟩, .int .u8 c.toNat] := by
  obtain ⟨l⟩ := vals
  simp only at h
  cases h with
  | cons h1 h =>
   cases h with
   | cons h2 h =>
    cases h
    simp only [V.den, W.den, L.den, PL.den] at h1 h2
    rw [h1.1, h2]
 subst hv
 have hr := run_callFunc_extern (P := Tryd.prog) Tryd.func50 (by kernel_rfl) (by kernel_rfl) (by kernel_rfl) (e := Extern.BytealgIndexByte.indexByte) (by kernel_rfl) #[.string ⟨s.toArray⟩, .int .u8 c.toNat] w
 rw [Lib.run_indexByteString] at hr
 refine ⟨_, hr, fun d' => ?_⟩
 simp [V.den, W.den, L.den, PL.den]
end Go.Sy

