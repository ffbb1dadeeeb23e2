/- strings.Index and strings.Join, by the library's own contracts. -/
import Derived.Test.YtbfllkipgfpkkaaDoorvdF8
import Derived.Test.YtbfllkipgfpkkaaDoorvE3
import Derived.Test.YtbfllkipgfpkkaaDoorvdS0
set_option linter.unusedVariables false
set_option linter.unusedSimpArgs false
namespace Go.Sy
open Go.Proofs
attribute [local irreducible] atCall HT runOps runD onC onE onO onG goV goA goS onSt onGuard
open Go.RowKit in
theorem index_ (s sub : List UInt8) (hs : s.length < 4294967281) (n : Int) : CtM Tryd.prog 21 [.w (.one (.pl (.str s))), .w (.one (.pl (.str sub)))] [(1000001, ⟨false, [.pl (.i n)]⟩)] (fun v m => v = .w (.one (.pl (.i (Lib.index s sub)))) ∧ m = []) := by
 refine CtM.of_below fun w d vals hm ha => ?_
 obtain ⟨y, hy, hd⟩ := glob_cell hm (k := 1000001) rfl (by decide)
 have hy' : w.cell? ⟨1000001 - gl0, 0, none⟩ = some (.int .i64 n) := by rw [hy, show y = .int .i64 n from hd]
 obtain ⟨l⟩ := vals
 simp only at ha
 cases ha with
 | cons h1 ha =>
  cases ha with
  | cons h2 ha =>
   cases ha
   simp only [V.den, W.den, L.den, PL.den] at h1 h2
   rw [h1.1, h2.1]
   refine ⟨.int .i64 (Lib.index s sub), (Tryd.strings_Index ⟨s.toArray⟩ ⟨sub.toArray⟩ n w hs hy').mono fun e w' ⟨he, hw⟩ => ⟨he, hw ▸ Below.refl _ _⟩, fun d' => ?_⟩
   simp only [V.den, W.den, L.den, PL.den]
end Go.Sy

