/- Walks: atoms, public keys, what two keys come to, links of a chain. -/
import Derived.Test.YtbfllkipgfpkkaavtV1
import Derived.Test.YtbfllkipgfpkkaavE3
set_option linter.unusedVariables false
set_option linter.unusedSimpArgs false
namespace Go.Sy
open Go.Proofs
attribute [local irreducible] atCall HT runOps runD onC onE onO onG goV goA goS onSt onGuard
set_option maxHeartbeats 400000 in
set_option maxRecDepth 100000 in
theorem atom_w (n : Int) :
 Ct Try.prog 35 [.w (.one (.pl (.i n)))] (Told (fun v m => v = argT (atomT n))) := by
 have zE := fun m => told_leaf (R := (fun v m => v = argT (atomT n))) (m := m) rfl
 have F0 := trivial
 exact Ct.w Try.func35 rfl Try.ntmps35 Try.results35
theorem atom_ (n : Int) : Ct Try.prog 35 [.w (.one (.pl (.i n)))] (fun v m => v = argT (atomT n)) := (atom_w n).told
set_option maxHeartbeats 400000 in
set_option maxRecDepth 100000 in
theorem pub_w (n : Int) :
 Ct Try.prog 37 [.w (.one (.pl (.i n)))] (Told (fun v m => v = argT (pubT n))) := by
 have zE := fun m => told_leaf (R := (fun v m => v = argT (pubT n))) (m := m) rfl
 have F0 := trivial
 exact Ct.w Try.func37 rfl Try.ntmps37 Try.results37
theorem pub_ (n : Int) : Ct Try.prog 37 [.w (.one (.pl (.i n)))] (fun v m => v = argT (pubT n)) := (pub_w n).told
set_option maxHeartbeats 400000 in
set_option maxRecDepth 100000 in
theorem atomof_w (n : Int) :
 Ct Try.prog 41 [.w (.one (.pl (.i n)))] (Told (fun v m => v = argT (atomT n))) := by
 have zE := fun m => told_leaf (R := (fun v m => v = argT (atomT n))) (m := m) rfl
 have F0 := trivial
 exact Ct.w Try.func41 rfl Try.ntmps41 Try.results41
theorem atomof_ (n : Int) : Ct Try.prog 41 [.w (.one (.pl (.i n)))] (fun v m => v = argT (atomT n)) := (atomof_w n).told
set_option maxHeartbeats 400000 in
set_option maxRecDepth 100000 in
theorem pubof_w (n : Int) :
 Ct Try.prog 43 [.w (.one (.pl (.i n)))] (Told (fun v m => v = argT (pubT n))) := by
 have zE := fun m => told_leaf (R := (fun v m => v = argT (pubT n))) (m := m) rfl
 have F0 := trivial
 exact Ct.w Try.func43 rfl Try.ntmps43 Try.results43
theorem pubof_ (n : Int) : Ct Try.prog 43 [.w (.one (.pl (.i n)))] (fun v m => v = argT (pubT n)) := (pubof_w n).told
set_option maxHeartbeats 400000 in
set_option maxRecDepth 100000 in
theorem dh_34w  :
 Ct Try.prog 55 [.w (.one (.pl (.i 3))), .w (.one (.pl (.i 4)))] (Told (fun v m => v = argT (dhT 3 4))) := by
 have zE := fun m => told_leaf (R := (fun v m => v = argT (dhT 3 4))) (m := m) rfl
 have F0 := trivial
 exact Ct.w Try.func55 rfl Try.ntmps55 Try.results55
theorem dh_34 : Ct Try.prog 55 [.w (.one (.pl (.i 3))), .w (.one (.pl (.i 4)))] (fun v m => v = argT (dhT 3 4)) := dh_34w.told
set_option maxHeartbeats 400000 in
set_option maxRecDepth 100000 in
theorem dh_32w  :
 Ct Try.prog 55 [.w (.one (.pl (.i 3))), .w (.one (.pl (.i 2)))] (Told (fun v m => v = argT (dhT 2 3))) := by
 have zE := fun m => told_leaf (R := (fun v m => v = argT (dhT 2 3))) (m := m) rfl
 have F0 := trivial
 exact Ct.w Try.func55 rfl Try.ntmps55 Try.results55
theorem dh_32 : Ct Try.prog 55 [.w (.one (.pl (.i 3))), .w (.one (.pl (.i 2)))] (fun v m => v = argT (dhT 2 3)) := dh_32w.told
set_option maxHeartbeats 400000 in
set_option maxRecDepth 100000 in
theorem dh_14w  :
 Ct Try.prog 55 [.w (.one (.pl (.i 1))), .w (.one (.pl (.i 4)))] (Told (fun v m => v = argT (dhT 1 4))) := by
 have zE := fun m => told_leaf (R := (fun v m => v = argT (dhT 1 4))) (m := m) rfl
 have F0 := trivial
 exact Ct.w Try.func55 rfl Try.ntmps55 Try.results55
theorem dh_14 : Ct Try.prog 55 [.w (.one (.pl (.i 1))), .w (.one (.pl (.i 4)))] (fun v m => v = argT (dhT 1 4)) := dh_14w.told
set_option maxHeartbeats 400000 in
set_option maxRecDepth 100000 in
theorem dh_12w  :
 Ct Try.prog 55 [.w (.one (.pl (.i 1))), .w (.one (.pl (.i 2)))] (Told (fun v m => v = argT (dhT 1 2))) := by
 have zE := fun m => told_leaf (R := (fun v m => v = argT (dhT 1 2))) (m := m) rfl
 have F0 := trivial
 exact Ct.w Try.func55 rfl Try.ntmps55 Try.results55
theorem dh_12 : Ct Try.prog 55 [.w (.one (.pl (.i 1))), .w (.one (.pl (.i 2)))] (fun v m => v = argT (dhT 1 2)) := dh_12w.told
theorem cells_len (t : TermD) : t.cells.length = 4 := by obtain ⟨k, i, o, l⟩ := t; rw [TermD.cells]; rfl
end Go.Sy

