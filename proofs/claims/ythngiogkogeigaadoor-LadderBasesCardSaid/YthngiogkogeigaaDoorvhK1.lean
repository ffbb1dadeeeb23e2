/- Sums and differences with carry: calls that run here and now. -/
import Derived.Test.YthngiogkogeigaaDoorvhT
import Derived.Test.YthngiogkogeigaaDoorvQ1
import Derived.Laws.Externs
import Derived.Test.YthngiogkogeigaaDoorvE3
set_option linter.unusedVariables false
set_option linter.unusedSimpArgs false
namespace Go.Sy
open Go.Proofs
attribute [local irreducible] atCall HT runOps runD onC onE onO onG goV goA goS onSt onGuard
theorem now_add64 (x y c : UInt64) (hc : c.toNat ≤ 1) : Now Tryd.prog 40 [.w (.one (.pl (.u64 x))), .w (.one (.pl (.u64 y))), .w (.one (.pl (.u64 c)))] (.tup [.one (.pl (.u64 (adS x y c))), .one (.pl (.u64 (adC x y c)))]) := by
 refine ⟨fun k => rfl, fun w d vals h => ?_⟩
 have hv : vals = #[.int .u64 x.toNat, .int .u64 y.toNat, .int .u64 c.toNat] := by
  obtain ⟨l⟩ := vals
  simp only at h
  cases h with
  | cons h1 h =>
   cases h with
   | cons h2 h =>
    cases h with
    | cons h3 h =>
     cases h
     simp only [V.den, W.den, L.den] at h1 h2 h3
     rw [PL.den] at h1 h2 h3
     rw [h1, h2, h3]
 subst hv
 have hr := run_callFunc_extern (P := Tryd.prog) Tryd.func40 (by kernel_rfl) (by kernel_rfl) (by kernel_rfl) (e := add64Entry) (by kernel_rfl) #[.int .u64 x.toNat, .int .u64 y.toNat, .int .u64 c.toNat] w
 rw [run_add64 (x.toNat : Int) (y.toNat : Int) (c.toNat : Int) (by omega) (by omega) (by omega) (by omega)] at hr
 refine ⟨_, hr, fun d' => ⟨_, rfl, ?_⟩⟩
 have hx := x.toNat_lt
 have hy := y.toNat_lt
 refine .cons ?_ (.cons ?_ .nil)
 · simp only [W.den, L.den]
   rw [PL.den]
   simp only [adS, UInt64.toNat_ofNat']
   congr 1; omega
 · simp only [W.den, L.den]
   rw [PL.den]
   simp only [adC, UInt64.toNat_ofNat']
   congr 1; omega
def subEntry : Array Value → Sem Value := fun args => do
 let (x, y, b) ← Extern.MathBitsCarry.three "Sub64" args
 pure (Extern.MathBitsCarry.pair ((x + Extern.MathBitsCarry.m64 - y - b) % Extern.MathBitsCarry.m64) (if x < y + b then 1 else 0))
theorem run_sub64 {P : Program} (x y c : Nat) (hc : c ≤ 1) (w : World) :
 (subEntry #[.int .u64 (x : Int), .int .u64 (y : Int), .int .u64 (c : Int)]).run P w = .ok (Extern.MathBitsCarry.pair ((x + Extern.MathBitsCarry.m64 - y - c) % Extern.MathBitsCarry.m64) (if x < y + c then 1 else 0)) w := by
 have : c = 0 ∨ c = 1 := by omega
 rcases this with rfl | rfl <;> rfl
theorem now_sub64 (x y c : UInt64) (hc : c.toNat ≤ 1) : Now Tryd.prog 46 [.w (.one (.pl (.u64 x))), .w (.one (.pl (.u64 y))), .w (.one (.pl (.u64 c)))] (.tup [.one (.pl (.u64 (sbS x y c))), .one (.pl (.u64 (sbB x y c)))]) := by
 refine ⟨fun k => rfl, fun w d vals h => ?_⟩
 have hv : vals = #[.int .u64 x.toNat, .int .u64 y.toNat, .int .u64 c.toNat] := by
  obtain ⟨l⟩ := vals
  simp only at h
  cases h with
  | cons h1 h =>
   cases h with
   | cons h2 h =>
    cases h with
    | cons h3 h =>
     cases h
     simp only [V.den, W.den, L.den] at h1 h2 h3
     rw [PL.den] at h1 h2 h3
     rw [h1, h2, h3]
 subst hv
 have hr := run_callFunc_extern (P := Tryd.prog) Tryd.func46 (by kernel_rfl) (by kernel_rfl) (by kernel_rfl) (e := subEntry) (by kernel_rfl) #[.int .u64 x.toNat, .int .u64 y.toNat, .int .u64 c.toNat] w
 rw [run_sub64 x.toNat y.toNat c.toNat hc] at hr
 refine ⟨_, hr, fun d' => ⟨_, rfl, ?_⟩⟩
 have hx := x.toNat_lt
 have hy := y.toNat_lt
 refine .cons ?_ (.cons ?_ .nil)
 · simp only [W.den, L.den]
   rw [PL.den]
   simp only [sbS, UInt64.toNat_ofNat']
   rw [Nat.mod_eq_of_lt (show _ % 18446744073709551616 < 2 ^ 64 from Nat.mod_lt _ (by decide))]; rfl
 · simp only [W.den, L.den]
   rw [PL.den]
   simp only [sbB]
   split <;> rfl
end Go.Sy

