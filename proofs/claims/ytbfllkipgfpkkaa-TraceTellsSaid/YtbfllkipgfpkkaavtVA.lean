/- Walks: what a handshake tells. -/
import Derived.Test.YtbfllkipgfpkkaavtV9
set_option linter.unusedVariables false
set_option linter.unusedSimpArgs false
namespace Go.Sy
open Go.Proofs
attribute [local irreducible] atCall HT runOps runD onC onE onO onG goV goA goS onSt onGuard
set_option maxHeartbeats 400000 in
theorem told_bad (bs : List UInt8) (lt : Bool) (ps : List (List PL)) (p0 p1 : List Int) (ts : List (List Int)) (e : Int) (he : ¬ e = 0) (hC : Ct Try.prog 7 [.w (.agg (patC bs lt ps p0 p1 ts))] (fun v m => v = .w (.one (.pl (.i e))))) :
 Ct Try.prog 11 [.w (.agg (patC bs lt ps p0 p1 ts))] (Told (fun v m => v = .tup [.one (.pl (.R true 1 [])), .one (.pl (.i e))] ∧ m = [])) := by
 skip
 have F0 := And.intro patC.eq_1 <| he
 have cv0 := Ct.cv (hC)
 exact Ct.w Try.func11 rfl Try.ntmps11 Try.results11
set_option maxHeartbeats 400000 in
theorem told_many (bs : List UInt8) (lt : Bool) (ps : List (List PL)) (p0 p1 : List Int) (ts : List (List Int)) (hps : (4 : Int) < ((ps.length : Nat) : Int)) (hC : Ct Try.prog 7 [.w (.agg (patC bs lt ps p0 p1 ts))] (fun v m => v = .w (.one (.pl (.i 0))))) :
 Ct Try.prog 11 [.w (.agg (patC bs lt ps p0 p1 ts))] (Told (fun v m => v = .tup [.one (.pl (.R true 1 [])), .one (.pl (.i 1))] ∧ m = [])) := by
 skip
 have F0 := And.intro patC.eq_1 <| hps
 have cv0 := Ct.cv (hC)
 exact Ct.w Try.func11 rfl Try.ntmps11 Try.results11
end Go.Sy

