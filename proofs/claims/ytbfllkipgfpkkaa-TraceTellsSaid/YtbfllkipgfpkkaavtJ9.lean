/- Walks: may a side lock something behind what happened? -/
import Derived.Test.YtbfllkipgfpkkaavtJ8
import Derived.Test.YtbfllkipgfpkkaavE2
import Derived.Test.YtbfllkipgfpkkaavE3
set_option linter.unusedVariables false
set_option linter.unusedSimpArgs false
namespace Go.Sy
open Go.Proofs
attribute [local irreducible] atCall HT runOps runD onC onE onO onG goV goA goS onSt onGuard
set_option maxHeartbeats 400000 in
set_option maxRecDepth 100000 in
theorem any_w (l : List (Bool × Int)) (ex : Bool) (sz : Nat) (hsz : l ≠ [] → sz = 2) (hl : l.length ≤ 9223372036854775807) (t : Int) :
 CtM Try.prog 46 ([.w (.one (.pl (.i t)))] ++ [500000].map fun k => .w (.one (.p k []))) [(500000, ⟨false, [.pl (.R ex sz (evRows l))]⟩)] (Told (fun v m => v = .w (.one (.pl (.b (any l t)))) ∧ m = [(500000, ⟨false, [.pl (.R ex sz (evRows l))]⟩)])) := by
 have hc := happened_ l ex sz hsz hl (-1) t
 rw [hapI_any] at hc
 refine CtM.k Try.func46 rfl Try.ntmps46 (congrArg Array.toList Try.results46) (by simp) fun w0 ro may fx => ?_
 refine top_k fun zZ zhZ => ?_
 refine sr_k fun zK zhK => ?_
 simp only [go_sem]
 repeat' (first | apply And.intro | intro _)
 refine zhK _ ?_
 refine sr_k fun zK zhK => ?_
 simp only [go_sem]
 repeat' (first | apply And.intro | intro _)
 all_goals (refine call_view (fun k => k) (fun _ _ => rfl) ?_ (hc.plain fun _ _ h => h) ?_; focus (first | rfl | (simp only [go_sem] <;> rfl)))
 all_goals (rintro v m ⟨hR, hm⟩; subst hR; subst hm)
 all_goals refine And.intro (by first | rfl | simp only [go_sem]) (And.intro (by first | rfl | simp only [go_sem]) ?_)
 all_goals simp only [go_sem]
 all_goals repeat' (first | apply And.intro | intro _)
 refine zhK _ ?_
 refine ret_k ?_
 refine zhZ _ _ ?_
 simp only [go_sem]
 all_goals (exact told_keep rfl (keep_one (by simp [look])) ⟨rfl, rfl⟩)
theorem any_ (l : List (Bool × Int)) (ex : Bool) (sz : Nat) (hsz : l ≠ [] → sz = 2) (hl : l.length ≤ 9223372036854775807) (t : Int) : CtM Try.prog 46 ([.w (.one (.pl (.i t)))] ++ [500000].map fun k => .w (.one (.p k []))) [(500000, ⟨false, [.pl (.R ex sz (evRows l))]⟩)] (fun v m => v = .w (.one (.pl (.b (any l t)))) ∧ m = [(500000, ⟨false, [.pl (.R ex sz (evRows l))]⟩)]) := (any_w l ex sz hsz hl t).told
set_option maxHeartbeats 800000 in
set_option maxRecDepth 100000 in
theorem mayl_0_0 (l : List (Bool × Int)) (ex : Bool) (sz : Nat) (hsz : l ≠ [] → sz = 2) (hl : l.length ≤ 9223372036854775807) (h7 : any l 7 = true) (hh : hap l false 1 = false) :
 Ct Try.prog 22 [.w (.one (.pl (.R ex sz (evRows l)))), .w (.one (.pl (.i 0)))] (fun v m => v = .w (.one (.pl (.b false)))) := by
 have ch := happened_ l ex sz hsz hl 0 1
 rw [show hapI l 0 1 = hap l false 1 from hapI_who l false 1, hh] at ch
 have c7 := any_ l ex sz hsz hl 7
 rw [h7] at c7
 have F0 := trivial
 have cv0 := Ct.cv (ch)
 have cf0 := c7
 have cg0 := CF.mk [2] [(500000, 2)]
 exact Ct.w Try.func22 rfl Try.ntmps22 Try.results22
set_option maxHeartbeats 800000 in
set_option maxRecDepth 100000 in
theorem mayl_0_1 (l : List (Bool × Int)) (ex : Bool) (sz : Nat) (hsz : l ≠ [] → sz = 2) (hl : l.length ≤ 9223372036854775807) (h7 : any l 7 = false) (h5 : any l 5 = true) (h3 : any l 3 = false) :
 Ct Try.prog 22 [.w (.one (.pl (.R ex sz (evRows l)))), .w (.one (.pl (.i 0)))] (fun v m => v = .w (.one (.pl (.b false)))) := by
 have c7 := any_ l ex sz hsz hl 7
 rw [h7] at c7
 have c5 := any_ l ex sz hsz hl 5
 rw [h5] at c5
 have c3 := any_ l ex sz hsz hl 3
 rw [h3] at c3
 have F0 := trivial
 have cf0 := c7
 have cg0 := CF.mk [2] [(500000, 2)]
 have cf1 := c5
 have cg1 := CF.mk [2] [(500000, 2)]
 have cf2 := c3
 have cg2 := CF.mk [2] [(500000, 2)]
 exact Ct.w Try.func22 rfl Try.ntmps22 Try.results22
set_option maxHeartbeats 800000 in
set_option maxRecDepth 100000 in
theorem mayl_0_2 (l : List (Bool × Int)) (ex : Bool) (sz : Nat) (hsz : l ≠ [] → sz = 2) (hl : l.length ≤ 9223372036854775807) (h7 : any l 7 = false) (h5 : any l 5 = false) (h6 : any l 6 = false) :
 Ct Try.prog 22 [.w (.one (.pl (.R ex sz (evRows l)))), .w (.one (.pl (.i 0)))] (fun v m => v = .w (.one (.pl (.b true)))) := by
 have c7 := any_ l ex sz hsz hl 7
 rw [h7] at c7
 have c5 := any_ l ex sz hsz hl 5
 rw [h5] at c5
 have c6 := any_ l ex sz hsz hl 6
 rw [h6] at c6
 have F0 := trivial
 have cf0 := c7
 have cg0 := CF.mk [2] [(500000, 2)]
 have cf1 := c5
 have cg1 := CF.mk [2] [(500000, 2)]
 have cf2 := c6
 have cg2 := CF.mk [2] [(500000, 2)]
 exact Ct.w Try.func22 rfl Try.ntmps22 Try.results22
set_option maxHeartbeats 800000 in
set_option maxRecDepth 100000 in
theorem mayl_0_3 (l : List (Bool × Int)) (ex : Bool) (sz : Nat) (hsz : l ≠ [] → sz = 2) (hl : l.length ≤ 9223372036854775807) (h7 : any l 7 = false) (h5 : any l 5 = false) (h6 : any l 6 = true) (h4 : any l 4 = true) :
 Ct Try.prog 22 [.w (.one (.pl (.R ex sz (evRows l)))), .w (.one (.pl (.i 0)))] (fun v m => v = .w (.one (.pl (.b true)))) := by
 have c7 := any_ l ex sz hsz hl 7
 rw [h7] at c7
 have c5 := any_ l ex sz hsz hl 5
 rw [h5] at c5
 have c6 := any_ l ex sz hsz hl 6
 rw [h6] at c6
 have c4 := any_ l ex sz hsz hl 4
 rw [h4] at c4
 have F0 := trivial
 have cf0 := c7
 have cg0 := CF.mk [2] [(500000, 2)]
 have cf1 := c5
 have cg1 := CF.mk [2] [(500000, 2)]
 have cf2 := c6
 have cg2 := CF.mk [2] [(500000, 2)]
 have cf3 := c4
 have cg3 := CF.mk [2] [(500000, 2)]
 exact Ct.w Try.func22 rfl Try.ntmps22 Try.results22
set_option maxHeartbeats 800000 in
set_option maxRecDepth 100000 in
theorem mayl_0_4 (l : List (Bool × Int)) (ex : Bool) (sz : Nat) (hsz : l ≠ [] → sz = 2) (hl : l.length ≤ 9223372036854775807) (h7 : any l 7 = false) (h5 : any l 5 = false) (h6 : any l 6 = true) (h4 : any l 4 = false) :
 Ct Try.prog 22 [.w (.one (.pl (.R ex sz (evRows l)))), .w (.one (.pl (.i 0)))] (fun v m => v = .w (.one (.pl (.b false)))) := by
 have c7 := any_ l ex sz hsz hl 7
 rw [h7] at c7
 have c5 := any_ l ex sz hsz hl 5
 rw [h5] at c5
 have c6 := any_ l ex sz hsz hl 6
 rw [h6] at c6
 have c4 := any_ l ex sz hsz hl 4
 rw [h4] at c4
 have F0 := trivial
 have cf0 := c7
 have cg0 := CF.mk [2] [(500000, 2)]
 have cf1 := c5
 have cg1 := CF.mk [2] [(500000, 2)]
 have cf2 := c6
 have cg2 := CF.mk [2] [(500000, 2)]
 have cf3 := c4
 have cg3 := CF.mk [2] [(500000, 2)]
 exact Ct.w Try.func22 rfl Try.ntmps22 Try.results22
set_option maxHeartbeats 800000 in
set_option maxRecDepth 100000 in
theorem mayl_0_5 (l : List (Bool × Int)) (ex : Bool) (sz : Nat) (hsz : l ≠ [] → sz = 2) (hl : l.length ≤ 9223372036854775807) (h7 : any l 7 = false) (h5 : any l 5 = true) (h3 : any l 3 = true) (h6 : any l 6 = false) :
 Ct Try.prog 22 [.w (.one (.pl (.R ex sz (evRows l)))), .w (.one (.pl (.i 0)))] (fun v m => v = .w (.one (.pl (.b true)))) := by
 have c7 := any_ l ex sz hsz hl 7
 rw [h7] at c7
 have c5 := any_ l ex sz hsz hl 5
 rw [h5] at c5
 have c3 := any_ l ex sz hsz hl 3
 rw [h3] at c3
 have c6 := any_ l ex sz hsz hl 6
 rw [h6] at c6
 have F0 := trivial
 have cf0 := c7
 have cg0 := CF.mk [2] [(500000, 2)]
 have cf1 := c5
 have cg1 := CF.mk [2] [(500000, 2)]
 have cf2 := c3
 have cg2 := CF.mk [2] [(500000, 2)]
 have cf3 := c6
 have cg3 := CF.mk [2] [(500000, 2)]
 exact Ct.w Try.func22 rfl Try.ntmps22 Try.results22
set_option maxHeartbeats 800000 in
set_option maxRecDepth 100000 in
theorem mayl_0_6 (l : List (Bool × Int)) (ex : Bool) (sz : Nat) (hsz : l ≠ [] → sz = 2) (hl : l.length ≤ 9223372036854775807) (h7 : any l 7 = false) (h5 : any l 5 = true) (h3 : any l 3 = true) (h6 : any l 6 = true) (h4 : any l 4 = true) :
 Ct Try.prog 22 [.w (.one (.pl (.R ex sz (evRows l)))), .w (.one (.pl (.i 0)))] (fun v m => v = .w (.one (.pl (.b true)))) := by
 have c7 := any_ l ex sz hsz hl 7
 rw [h7] at c7
 have c5 := any_ l ex sz hsz hl 5
 rw [h5] at c5
 have c3 := any_ l ex sz hsz hl 3
 rw [h3] at c3
 have c6 := any_ l ex sz hsz hl 6
 rw [h6] at c6
 have c4 := any_ l ex sz hsz hl 4
 rw [h4] at c4
 have F0 := trivial
 have cf0 := c7
 have cg0 := CF.mk [2] [(500000, 2)]
 have cf1 := c5
 have cg1 := CF.mk [2] [(500000, 2)]
 have cf2 := c3
 have cg2 := CF.mk [2] [(500000, 2)]
 have cf3 := c6
 have cg3 := CF.mk [2] [(500000, 2)]
 have cf4 := c4
 have cg4 := CF.mk [2] [(500000, 2)]
 exact Ct.w Try.func22 rfl Try.ntmps22 Try.results22
set_option maxHeartbeats 800000 in
set_option maxRecDepth 100000 in
theorem mayl_0_7 (l : List (Bool × Int)) (ex : Bool) (sz : Nat) (hsz : l ≠ [] → sz = 2) (hl : l.length ≤ 9223372036854775807) (h7 : any l 7 = false) (h5 : any l 5 = true) (h3 : any l 3 = true) (h6 : any l 6 = true) (h4 : any l 4 = false) :
 Ct Try.prog 22 [.w (.one (.pl (.R ex sz (evRows l)))), .w (.one (.pl (.i 0)))] (fun v m => v = .w (.one (.pl (.b false)))) := by
 have c7 := any_ l ex sz hsz hl 7
 rw [h7] at c7
 have c5 := any_ l ex sz hsz hl 5
 rw [h5] at c5
 have c3 := any_ l ex sz hsz hl 3
 rw [h3] at c3
 have c6 := any_ l ex sz hsz hl 6
 rw [h6] at c6
 have c4 := any_ l ex sz hsz hl 4
 rw [h4] at c4
 have F0 := trivial
 have cf0 := c7
 have cg0 := CF.mk [2] [(500000, 2)]
 have cf1 := c5
 have cg1 := CF.mk [2] [(500000, 2)]
 have cf2 := c3
 have cg2 := CF.mk [2] [(500000, 2)]
 have cf3 := c6
 have cg3 := CF.mk [2] [(500000, 2)]
 have cf4 := c4
 have cg4 := CF.mk [2] [(500000, 2)]
 exact Ct.w Try.func22 rfl Try.ntmps22 Try.results22
set_option maxHeartbeats 800000 in
set_option maxRecDepth 100000 in
theorem mayl_0_8 (l : List (Bool × Int)) (ex : Bool) (sz : Nat) (hsz : l ≠ [] → sz = 2) (hl : l.length ≤ 9223372036854775807) (h7 : any l 7 = true) (h5 : any l 5 = true) (h3 : any l 3 = false) (hh : hap l false 1 = true) :
 Ct Try.prog 22 [.w (.one (.pl (.R ex sz (evRows l)))), .w (.one (.pl (.i 0)))] (fun v m => v = .w (.one (.pl (.b false)))) := by
 have ch := happened_ l ex sz hsz hl 0 1
 rw [show hapI l 0 1 = hap l false 1 from hapI_who l false 1, hh] at ch
 have c7 := any_ l ex sz hsz hl 7
 rw [h7] at c7
 have c5 := any_ l ex sz hsz hl 5
 rw [h5] at c5
 have c3 := any_ l ex sz hsz hl 3
 rw [h3] at c3
 have F0 := trivial
 have cv0 := Ct.cv (ch)
 have cf0 := c7
 have cg0 := CF.mk [2] [(500000, 2)]
 have cf1 := c5
 have cg1 := CF.mk [2] [(500000, 2)]
 have cf2 := c3
 have cg2 := CF.mk [2] [(500000, 2)]
 exact Ct.w Try.func22 rfl Try.ntmps22 Try.results22
set_option maxHeartbeats 800000 in
set_option maxRecDepth 100000 in
theorem mayl_0_9 (l : List (Bool × Int)) (ex : Bool) (sz : Nat) (hsz : l ≠ [] → sz = 2) (hl : l.length ≤ 9223372036854775807) (h7 : any l 7 = true) (h5 : any l 5 = false) (h6 : any l 6 = false) (hh : hap l false 1 = true) :
 Ct Try.prog 22 [.w (.one (.pl (.R ex sz (evRows l)))), .w (.one (.pl (.i 0)))] (fun v m => v = .w (.one (.pl (.b true)))) := by
 have ch := happened_ l ex sz hsz hl 0 1
 rw [show hapI l 0 1 = hap l false 1 from hapI_who l false 1, hh] at ch
 have c7 := any_ l ex sz hsz hl 7
 rw [h7] at c7
 have c5 := any_ l ex sz hsz hl 5
 rw [h5] at c5
 have c6 := any_ l ex sz hsz hl 6
 rw [h6] at c6
 have F0 := trivial
 have cv0 := Ct.cv (ch)
 have cf0 := c7
 have cg0 := CF.mk [2] [(500000, 2)]
 have cf1 := c5
 have cg1 := CF.mk [2] [(500000, 2)]
 have cf2 := c6
 have cg2 := CF.mk [2] [(500000, 2)]
 exact Ct.w Try.func22 rfl Try.ntmps22 Try.results22
set_option maxHeartbeats 800000 in
set_option maxRecDepth 100000 in
theorem mayl_0_10 (l : List (Bool × Int)) (ex : Bool) (sz : Nat) (hsz : l ≠ [] → sz = 2) (hl : l.length ≤ 9223372036854775807) (h7 : any l 7 = true) (h5 : any l 5 = false) (h6 : any l 6 = true) (h4 : any l 4 = true) (hh : hap l false 1 = true) :
 Ct Try.prog 22 [.w (.one (.pl (.R ex sz (evRows l)))), .w (.one (.pl (.i 0)))] (fun v m => v = .w (.one (.pl (.b true)))) := by
 have ch := happened_ l ex sz hsz hl 0 1
 rw [show hapI l 0 1 = hap l false 1 from hapI_who l false 1, hh] at ch
 have c7 := any_ l ex sz hsz hl 7
 rw [h7] at c7
 have c5 := any_ l ex sz hsz hl 5
 rw [h5] at c5
 have c6 := any_ l ex sz hsz hl 6
 rw [h6] at c6
 have c4 := any_ l ex sz hsz hl 4
 rw [h4] at c4
 have F0 := trivial
 have cv0 := Ct.cv (ch)
 have cf0 := c7
 have cg0 := CF.mk [2] [(500000, 2)]
 have cf1 := c5
 have cg1 := CF.mk [2] [(500000, 2)]
 have cf2 := c6
 have cg2 := CF.mk [2] [(500000, 2)]
 have cf3 := c4
 have cg3 := CF.mk [2] [(500000, 2)]
 exact Ct.w Try.func22 rfl Try.ntmps22 Try.results22
set_option maxHeartbeats 800000 in
set_option maxRecDepth 100000 in
theorem mayl_0_11 (l : List (Bool × Int)) (ex : Bool) (sz : Nat) (hsz : l ≠ [] → sz = 2) (hl : l.length ≤ 9223372036854775807) (h7 : any l 7 = true) (h5 : any l 5 = false) (h6 : any l 6 = true) (h4 : any l 4 = false) (hh : hap l false 1 = true) :
 Ct Try.prog 22 [.w (.one (.pl (.R ex sz (evRows l)))), .w (.one (.pl (.i 0)))] (fun v m => v = .w (.one (.pl (.b false)))) := by
 have ch := happened_ l ex sz hsz hl 0 1
 rw [show hapI l 0 1 = hap l false 1 from hapI_who l false 1, hh] at ch
 have c7 := any_ l ex sz hsz hl 7
 rw [h7] at c7
 have c5 := any_ l ex sz hsz hl 5
 rw [h5] at c5
 have c6 := any_ l ex sz hsz hl 6
 rw [h6] at c6
 have c4 := any_ l ex sz hsz hl 4
 rw [h4] at c4
 have F0 := trivial
 have cv0 := Ct.cv (ch)
 have cf0 := c7
 have cg0 := CF.mk [2] [(500000, 2)]
 have cf1 := c5
 have cg1 := CF.mk [2] [(500000, 2)]
 have cf2 := c6
 have cg2 := CF.mk [2] [(500000, 2)]
 have cf3 := c4
 have cg3 := CF.mk [2] [(500000, 2)]
 exact Ct.w Try.func22 rfl Try.ntmps22 Try.results22
set_option maxHeartbeats 800000 in
set_option maxRecDepth 100000 in
theorem mayl_0_12 (l : List (Bool × Int)) (ex : Bool) (sz : Nat) (hsz : l ≠ [] → sz = 2) (hl : l.length ≤ 9223372036854775807) (h7 : any l 7 = true) (h5 : any l 5 = true) (h3 : any l 3 = true) (h6 : any l 6 = false) (hh : hap l false 1 = true) :
 Ct Try.prog 22 [.w (.one (.pl (.R ex sz (evRows l)))), .w (.one (.pl (.i 0)))] (fun v m => v = .w (.one (.pl (.b true)))) := by
 have ch := happened_ l ex sz hsz hl 0 1
 rw [show hapI l 0 1 = hap l false 1 from hapI_who l false 1, hh] at ch
 have c7 := any_ l ex sz hsz hl 7
 rw [h7] at c7
 have c5 := any_ l ex sz hsz hl 5
 rw [h5] at c5
 have c3 := any_ l ex sz hsz hl 3
 rw [h3] at c3
 have c6 := any_ l ex sz hsz hl 6
 rw [h6] at c6
 have F0 := trivial
 have cv0 := Ct.cv (ch)
 have cf0 := c7
 have cg0 := CF.mk [2] [(500000, 2)]
 have cf1 := c5
 have cg1 := CF.mk [2] [(500000, 2)]
 have cf2 := c3
 have cg2 := CF.mk [2] [(500000, 2)]
 have cf3 := c6
 have cg3 := CF.mk [2] [(500000, 2)]
 exact Ct.w Try.func22 rfl Try.ntmps22 Try.results22
set_option maxHeartbeats 800000 in
set_option maxRecDepth 100000 in
theorem mayl_0_13 (l : List (Bool × Int)) (ex : Bool) (sz : Nat) (hsz : l ≠ [] → sz = 2) (hl : l.length ≤ 9223372036854775807) (h7 : any l 7 = true) (h5 : any l 5 = true) (h3 : any l 3 = true) (h6 : any l 6 = true) (h4 : any l 4 = true) (hh : hap l false 1 = true) :
 Ct Try.prog 22 [.w (.one (.pl (.R ex sz (evRows l)))), .w (.one (.pl (.i 0)))] (fun v m => v = .w (.one (.pl (.b true)))) := by
 have ch := happened_ l ex sz hsz hl 0 1
 rw [show hapI l 0 1 = hap l false 1 from hapI_who l false 1, hh] at ch
 have c7 := any_ l ex sz hsz hl 7
 rw [h7] at c7
 have c5 := any_ l ex sz hsz hl 5
 rw [h5] at c5
 have c3 := any_ l ex sz hsz hl 3
 rw [h3] at c3
 have c6 := any_ l ex sz hsz hl 6
 rw [h6] at c6
 have c4 := any_ l ex sz hsz hl 4
 rw [h4] at c4
 have F0 := trivial
 have cv0 := Ct.cv (ch)
 have cf0 := c7
 have cg0 := CF.mk [2] [(500000, 2)]
 have cf1 := c5
 have cg1 := CF.mk [2] [(500000, 2)]
 have cf2 := c3
 have cg2 := CF.mk [2] [(500000, 2)]
 have cf3 := c6
 have cg3 := CF.mk [2] [(500000, 2)]
 have cf4 := c4
 have cg4 := CF.mk [2] [(500000, 2)]
 exact Ct.w Try.func22 rfl Try.ntmps22 Try.results22
set_option maxHeartbeats 800000 in
set_option maxRecDepth 100000 in
theorem mayl_0_14 (l : List (Bool × Int)) (ex : Bool) (sz : Nat) (hsz : l ≠ [] → sz = 2) (hl : l.length ≤ 9223372036854775807) (h7 : any l 7 = true) (h5 : any l 5 = true) (h3 : any l 3 = true) (h6 : any l 6 = true) (h4 : any l 4 = false) (hh : hap l false 1 = true) :
 Ct Try.prog 22 [.w (.one (.pl (.R ex sz (evRows l)))), .w (.one (.pl (.i 0)))] (fun v m => v = .w (.one (.pl (.b false)))) := by
 have ch := happened_ l ex sz hsz hl 0 1
 rw [show hapI l 0 1 = hap l false 1 from hapI_who l false 1, hh] at ch
 have c7 := any_ l ex sz hsz hl 7
 rw [h7] at c7
 have c5 := any_ l ex sz hsz hl 5
 rw [h5] at c5
 have c3 := any_ l ex sz hsz hl 3
 rw [h3] at c3
 have c6 := any_ l ex sz hsz hl 6
 rw [h6] at c6
 have c4 := any_ l ex sz hsz hl 4
 rw [h4] at c4
 have F0 := trivial
 have cv0 := Ct.cv (ch)
 have cf0 := c7
 have cg0 := CF.mk [2] [(500000, 2)]
 have cf1 := c5
 have cg1 := CF.mk [2] [(500000, 2)]
 have cf2 := c3
 have cg2 := CF.mk [2] [(500000, 2)]
 have cf3 := c6
 have cg3 := CF.mk [2] [(500000, 2)]
 have cf4 := c4
 have cg4 := CF.mk [2] [(500000, 2)]
 exact Ct.w Try.func22 rfl Try.ntmps22 Try.results22
theorem mayl_0 (l : List (Bool × Int)) (ex : Bool) (sz : Nat) (hsz : l ≠ [] → sz = 2) (hl : l.length ≤ 9223372036854775807) : Ct Try.prog 22 [.w (.one (.pl (.R ex sz (evRows l)))), .w (.one (.pl (.i 0)))] (fun v m => v = .w (.one (.pl (.b (lockM l false))))) := by
 rcases h7 : any l 7 with _ | _ <;> rcases hh : hap l false 1 with _ | _ <;> rcases h5 : any l 5 with _ | _ <;> rcases h3 : any l 3 with _ | _ <;> rcases h6 : any l 6 with _ | _ <;> rcases h4 : any l 4 with _ | _
 · rw [show lockM l false = true from by simp [lockM, h7, hh, h5, h3, h6, h4]]; exact mayl_0_2 l ex sz hsz hl h7 h5 h6
 · rw [show lockM l false = true from by simp [lockM, h7, hh, h5, h3, h6, h4]]; exact mayl_0_2 l ex sz hsz hl h7 h5 h6
 · rw [show lockM l false = false from by simp [lockM, h7, hh, h5, h3, h6, h4]]; exact mayl_0_4 l ex sz hsz hl h7 h5 h6 h4
 · rw [show lockM l false = true from by simp [lockM, h7, hh, h5, h3, h6, h4]]; exact mayl_0_3 l ex sz hsz hl h7 h5 h6 h4
 · rw [show lockM l false = true from by simp [lockM, h7, hh, h5, h3, h6, h4]]; exact mayl_0_2 l ex sz hsz hl h7 h5 h6
 · rw [show lockM l false = true from by simp [lockM, h7, hh, h5, h3, h6, h4]]; exact mayl_0_2 l ex sz hsz hl h7 h5 h6
 · rw [show lockM l false = false from by simp [lockM, h7, hh, h5, h3, h6, h4]]; exact mayl_0_4 l ex sz hsz hl h7 h5 h6 h4
 · rw [show lockM l false = true from by simp [lockM, h7, hh, h5, h3, h6, h4]]; exact mayl_0_3 l ex sz hsz hl h7 h5 h6 h4
 · rw [show lockM l false = false from by simp [lockM, h7, hh, h5, h3, h6, h4]]; exact mayl_0_1 l ex sz hsz hl h7 h5 h3
 · rw [show lockM l false = false from by simp [lockM, h7, hh, h5, h3, h6, h4]]; exact mayl_0_1 l ex sz hsz hl h7 h5 h3
 · rw [show lockM l false = false from by simp [lockM, h7, hh, h5, h3, h6, h4]]; exact mayl_0_1 l ex sz hsz hl h7 h5 h3
 · rw [show lockM l false = false from by simp [lockM, h7, hh, h5, h3, h6, h4]]; exact mayl_0_1 l ex sz hsz hl h7 h5 h3
 · rw [show lockM l false = true from by simp [lockM, h7, hh, h5, h3, h6, h4]]; exact mayl_0_5 l ex sz hsz hl h7 h5 h3 h6
 · rw [show lockM l false = true from by simp [lockM, h7, hh, h5, h3, h6, h4]]; exact mayl_0_5 l ex sz hsz hl h7 h5 h3 h6
 · rw [show lockM l false = false from by simp [lockM, h7, hh, h5, h3, h6, h4]]; exact mayl_0_7 l ex sz hsz hl h7 h5 h3 h6 h4
 · rw [show lockM l false = true from by simp [lockM, h7, hh, h5, h3, h6, h4]]; exact mayl_0_6 l ex sz hsz hl h7 h5 h3 h6 h4
 · rw [show lockM l false = true from by simp [lockM, h7, hh, h5, h3, h6, h4]]; exact mayl_0_2 l ex sz hsz hl h7 h5 h6
 · rw [show lockM l false = true from by simp [lockM, h7, hh, h5, h3, h6, h4]]; exact mayl_0_2 l ex sz hsz hl h7 h5 h6
 · rw [show lockM l false = false from by simp [lockM, h7, hh, h5, h3, h6, h4]]; exact mayl_0_4 l ex sz hsz hl h7 h5 h6 h4
 · rw [show lockM l false = true from by simp [lockM, h7, hh, h5, h3, h6, h4]]; exact mayl_0_3 l ex sz hsz hl h7 h5 h6 h4
 · rw [show lockM l false = true from by simp [lockM, h7, hh, h5, h3, h6, h4]]; exact mayl_0_2 l ex sz hsz hl h7 h5 h6
 · rw [show lockM l false = true from by simp [lockM, h7, hh, h5, h3, h6, h4]]; exact mayl_0_2 l ex sz hsz hl h7 h5 h6
 · rw [show lockM l false = false from by simp [lockM, h7, hh, h5, h3, h6, h4]]; exact mayl_0_4 l ex sz hsz hl h7 h5 h6 h4
 · rw [show lockM l false = true from by simp [lockM, h7, hh, h5, h3, h6, h4]]; exact mayl_0_3 l ex sz hsz hl h7 h5 h6 h4
 · rw [show lockM l false = false from by simp [lockM, h7, hh, h5, h3, h6, h4]]; exact mayl_0_1 l ex sz hsz hl h7 h5 h3
 · rw [show lockM l false = false from by simp [lockM, h7, hh, h5, h3, h6, h4]]; exact mayl_0_1 l ex sz hsz hl h7 h5 h3
 · rw [show lockM l false = false from by simp [lockM, h7, hh, h5, h3, h6, h4]]; exact mayl_0_1 l ex sz hsz hl h7 h5 h3
 · rw [show lockM l false = false from by simp [lockM, h7, hh, h5, h3, h6, h4]]; exact mayl_0_1 l ex sz hsz hl h7 h5 h3
 · rw [show lockM l false = true from by simp [lockM, h7, hh, h5, h3, h6, h4]]; exact mayl_0_5 l ex sz hsz hl h7 h5 h3 h6
 · rw [show lockM l false = true from by simp [lockM, h7, hh, h5, h3, h6, h4]]; exact mayl_0_5 l ex sz hsz hl h7 h5 h3 h6
 · rw [show lockM l false = false from by simp [lockM, h7, hh, h5, h3, h6, h4]]; exact mayl_0_7 l ex sz hsz hl h7 h5 h3 h6 h4
 · rw [show lockM l false = true from by simp [lockM, h7, hh, h5, h3, h6, h4]]; exact mayl_0_6 l ex sz hsz hl h7 h5 h3 h6 h4
 · rw [show lockM l false = false from by simp [lockM, h7, hh, h5, h3, h6, h4]]; exact mayl_0_0 l ex sz hsz hl h7 hh
 · rw [show lockM l false = false from by simp [lockM, h7, hh, h5, h3, h6, h4]]; exact mayl_0_0 l ex sz hsz hl h7 hh
 · rw [show lockM l false = false from by simp [lockM, h7, hh, h5, h3, h6, h4]]; exact mayl_0_0 l ex sz hsz hl h7 hh
 · rw [show lockM l false = false from by simp [lockM, h7, hh, h5, h3, h6, h4]]; exact mayl_0_0 l ex sz hsz hl h7 hh
 · rw [show lockM l false = false from by simp [lockM, h7, hh, h5, h3, h6, h4]]; exact mayl_0_0 l ex sz hsz hl h7 hh
 · rw [show lockM l false = false from by simp [lockM, h7, hh, h5, h3, h6, h4]]; exact mayl_0_0 l ex sz hsz hl h7 hh
 · rw [show lockM l false = false from by simp [lockM, h7, hh, h5, h3, h6, h4]]; exact mayl_0_0 l ex sz hsz hl h7 hh
 · rw [show lockM l false = false from by simp [lockM, h7, hh, h5, h3, h6, h4]]; exact mayl_0_0 l ex sz hsz hl h7 hh
 · rw [show lockM l false = false from by simp [lockM, h7, hh, h5, h3, h6, h4]]; exact mayl_0_0 l ex sz hsz hl h7 hh
 · rw [show lockM l false = false from by simp [lockM, h7, hh, h5, h3, h6, h4]]; exact mayl_0_0 l ex sz hsz hl h7 hh
 · rw [show lockM l false = false from by simp [lockM, h7, hh, h5, h3, h6, h4]]; exact mayl_0_0 l ex sz hsz hl h7 hh
 · rw [show lockM l false = false from by simp [lockM, h7, hh, h5, h3, h6, h4]]; exact mayl_0_0 l ex sz hsz hl h7 hh
 · rw [show lockM l false = false from by simp [lockM, h7, hh, h5, h3, h6, h4]]; exact mayl_0_0 l ex sz hsz hl h7 hh
 · rw [show lockM l false = false from by simp [lockM, h7, hh, h5, h3, h6, h4]]; exact mayl_0_0 l ex sz hsz hl h7 hh
 · rw [show lockM l false = false from by simp [lockM, h7, hh, h5, h3, h6, h4]]; exact mayl_0_0 l ex sz hsz hl h7 hh
 · rw [show lockM l false = false from by simp [lockM, h7, hh, h5, h3, h6, h4]]; exact mayl_0_0 l ex sz hsz hl h7 hh
 · rw [show lockM l false = true from by simp [lockM, h7, hh, h5, h3, h6, h4]]; exact mayl_0_9 l ex sz hsz hl h7 h5 h6 hh
 · rw [show lockM l false = true from by simp [lockM, h7, hh, h5, h3, h6, h4]]; exact mayl_0_9 l ex sz hsz hl h7 h5 h6 hh
 · rw [show lockM l false = false from by simp [lockM, h7, hh, h5, h3, h6, h4]]; exact mayl_0_11 l ex sz hsz hl h7 h5 h6 h4 hh
 · rw [show lockM l false = true from by simp [lockM, h7, hh, h5, h3, h6, h4]]; exact mayl_0_10 l ex sz hsz hl h7 h5 h6 h4 hh
 · rw [show lockM l false = true from by simp [lockM, h7, hh, h5, h3, h6, h4]]; exact mayl_0_9 l ex sz hsz hl h7 h5 h6 hh
 · rw [show lockM l false = true from by simp [lockM, h7, hh, h5, h3, h6, h4]]; exact mayl_0_9 l ex sz hsz hl h7 h5 h6 hh
 · rw [show lockM l false = false from by simp [lockM, h7, hh, h5, h3, h6, h4]]; exact mayl_0_11 l ex sz hsz hl h7 h5 h6 h4 hh
 · rw [show lockM l false = true from by simp [lockM, h7, hh, h5, h3, h6, h4]]; exact mayl_0_10 l ex sz hsz hl h7 h5 h6 h4 hh
 · rw [show lockM l false = false from by simp [lockM, h7, hh, h5, h3, h6, h4]]; exact mayl_0_8 l ex sz hsz hl h7 h5 h3 hh
 · rw [show lockM l false = false from by simp [lockM, h7, hh, h5, h3, h6, h4]]; exact mayl_0_8 l ex sz hsz hl h7 h5 h3 hh
 · rw [show lockM l false = false from by simp [lockM, h7, hh, h5, h3, h6, h4]]; exact mayl_0_8 l ex sz hsz hl h7 h5 h3 hh
 · rw [show lockM l false = false from by simp [lockM, h7, hh, h5, h3, h6, h4]]; exact mayl_0_8 l ex sz hsz hl h7 h5 h3 hh
 · rw [show lockM l false = true from by simp [lockM, h7, hh, h5, h3, h6, h4]]; exact mayl_0_12 l ex sz hsz hl h7 h5 h3 h6 hh
 · rw [show lockM l false = true from by simp [lockM, h7, hh, h5, h3, h6, h4]]; exact mayl_0_12 l ex sz hsz hl h7 h5 h3 h6 hh
 · rw [show lockM l false = false from by simp [lockM, h7, hh, h5, h3, h6, h4]]; exact mayl_0_14 l ex sz hsz hl h7 h5 h3 h6 h4 hh
 · rw [show lockM l false = true from by simp [lockM, h7, hh, h5, h3, h6, h4]]; exact mayl_0_13 l ex sz hsz hl h7 h5 h3 h6 h4 hh
set_option maxHeartbeats 800000 in
set_option maxRecDepth 100000 in
theorem mayl_1_0 (l : List (Bool × Int)) (ex : Bool) (sz : Nat) (hsz : l ≠ [] → sz = 2) (hl : l.length ≤ 9223372036854775807) (h7 : any l 7 = true) (hh : hap l true 1 = false) :
 Ct Try.prog 22 [.w (.one (.pl (.R ex sz (evRows l)))), .w (.one (.pl (.i 1)))] (fun v m => v = .w (.one (.pl (.b false)))) := by
 have ch := happened_ l ex sz hsz hl 1 1
 rw [show hapI l 1 1 = hap l true 1 from hapI_who l true 1, hh] at ch
 have c7 := any_ l ex sz hsz hl 7
 rw [h7] at c7
 have F0 := trivial
 have cv0 := Ct.cv (ch)
 have cf0 := c7
 have cg0 := CF.mk [2] [(500000, 2)]
 exact Ct.w Try.func22 rfl Try.ntmps22 Try.results22
set_option maxHeartbeats 800000 in
set_option maxRecDepth 100000 in
theorem mayl_1_1 (l : List (Bool × Int)) (ex : Bool) (sz : Nat) (hsz : l ≠ [] → sz = 2) (hl : l.length ≤ 9223372036854775807) (h7 : any l 7 = false) (h4 : any l 4 = true) (h3 : any l 3 = false) :
 Ct Try.prog 22 [.w (.one (.pl (.R ex sz (evRows l)))), .w (.one (.pl (.i 1)))] (fun v m => v = .w (.one (.pl (.b false)))) := by
 have c7 := any_ l ex sz hsz hl 7
 rw [h7] at c7
 have c4 := any_ l ex sz hsz hl 4
 rw [h4] at c4
 have c3 := any_ l ex sz hsz hl 3
 rw [h3] at c3
 have F0 := trivial
 have cf0 := c7
 have cg0 := CF.mk [2] [(500000, 2)]
 have cf1 := c4
 have cg1 := CF.mk [2] [(500000, 2)]
 have cf2 := c3
 have cg2 := CF.mk [2] [(500000, 2)]
 exact Ct.w Try.func22 rfl Try.ntmps22 Try.results22
set_option maxHeartbeats 800000 in
set_option maxRecDepth 100000 in
theorem mayl_1_2 (l : List (Bool × Int)) (ex : Bool) (sz : Nat) (hsz : l ≠ [] → sz = 2) (hl : l.length ≤ 9223372036854775807) (h7 : any l 7 = false) (h4 : any l 4 = false) (h6 : any l 6 = false) :
 Ct Try.prog 22 [.w (.one (.pl (.R ex sz (evRows l)))), .w (.one (.pl (.i 1)))] (fun v m => v = .w (.one (.pl (.b true)))) := by
 have c7 := any_ l ex sz hsz hl 7
 rw [h7] at c7
 have c4 := any_ l ex sz hsz hl 4
 rw [h4] at c4
 have c6 := any_ l ex sz hsz hl 6
 rw [h6] at c6
 have F0 := trivial
 have cf0 := c7
 have cg0 := CF.mk [2] [(500000, 2)]
 have cf1 := c4
 have cg1 := CF.mk [2] [(500000, 2)]
 have cf2 := c6
 have cg2 := CF.mk [2] [(500000, 2)]
 exact Ct.w Try.func22 rfl Try.ntmps22 Try.results22
set_option maxHeartbeats 800000 in
set_option maxRecDepth 100000 in
theorem mayl_1_3 (l : List (Bool × Int)) (ex : Bool) (sz : Nat) (hsz : l ≠ [] → sz = 2) (hl : l.length ≤ 9223372036854775807) (h7 : any l 7 = false) (h4 : any l 4 = false) (h6 : any l 6 = true) (h5 : any l 5 = true) :
 Ct Try.prog 22 [.w (.one (.pl (.R ex sz (evRows l)))), .w (.one (.pl (.i 1)))] (fun v m => v = .w (.one (.pl (.b true)))) := by
 have c7 := any_ l ex sz hsz hl 7
 rw [h7] at c7
 have c4 := any_ l ex sz hsz hl 4
 rw [h4] at c4
 have c6 := any_ l ex sz hsz hl 6
 rw [h6] at c6
 have c5 := any_ l ex sz hsz hl 5
 rw [h5] at c5
 have F0 := trivial
 have cf0 := c7
 have cg0 := CF.mk [2] [(500000, 2)]
 have cf1 := c4
 have cg1 := CF.mk [2] [(500000, 2)]
 have cf2 := c6
 have cg2 := CF.mk [2] [(500000, 2)]
 have cf3 := c5
 have cg3 := CF.mk [2] [(500000, 2)]
 exact Ct.w Try.func22 rfl Try.ntmps22 Try.results22
set_option maxHeartbeats 800000 in
set_option maxRecDepth 100000 in
theorem mayl_1_4 (l : List (Bool × Int)) (ex : Bool) (sz : Nat) (hsz : l ≠ [] → sz = 2) (hl : l.length ≤ 9223372036854775807) (h7 : any l 7 = false) (h4 : any l 4 = false) (h6 : any l 6 = true) (h5 : any l 5 = false) :
 Ct Try.prog 22 [.w (.one (.pl (.R ex sz (evRows l)))), .w (.one (.pl (.i 1)))] (fun v m => v = .w (.one (.pl (.b false)))) := by
 have c7 := any_ l ex sz hsz hl 7
 rw [h7] at c7
 have c4 := any_ l ex sz hsz hl 4
 rw [h4] at c4
 have c6 := any_ l ex sz hsz hl 6
 rw [h6] at c6
 have c5 := any_ l ex sz hsz hl 5
 rw [h5] at c5
 have F0 := trivial
 have cf0 := c7
 have cg0 := CF.mk [2] [(500000, 2)]
 have cf1 := c4
 have cg1 := CF.mk [2] [(500000, 2)]
 have cf2 := c6
 have cg2 := CF.mk [2] [(500000, 2)]
 have cf3 := c5
 have cg3 := CF.mk [2] [(500000, 2)]
 exact Ct.w Try.func22 rfl Try.ntmps22 Try.results22
set_option maxHeartbeats 800000 in
set_option maxRecDepth 100000 in
theorem mayl_1_5 (l : List (Bool × Int)) (ex : Bool) (sz : Nat) (hsz : l ≠ [] → sz = 2) (hl : l.length ≤ 9223372036854775807) (h7 : any l 7 = false) (h4 : any l 4 = true) (h3 : any l 3 = true) (h6 : any l 6 = false) :
 Ct Try.prog 22 [.w (.one (.pl (.R ex sz (evRows l)))), .w (.one (.pl (.i 1)))] (fun v m => v = .w (.one (.pl (.b true)))) := by
 have c7 := any_ l ex sz hsz hl 7
 rw [h7] at c7
 have c4 := any_ l ex sz hsz hl 4
 rw [h4] at c4
 have c3 := any_ l ex sz hsz hl 3
 rw [h3] at c3
 have c6 := any_ l ex sz hsz hl 6
 rw [h6] at c6
 have F0 := trivial
 have cf0 := c7
 have cg0 := CF.mk [2] [(500000, 2)]
 have cf1 := c4
 have cg1 := CF.mk [2] [(500000, 2)]
 have cf2 := c3
 have cg2 := CF.mk [2] [(500000, 2)]
 have cf3 := c6
 have cg3 := CF.mk [2] [(500000, 2)]
 exact Ct.w Try.func22 rfl Try.ntmps22 Try.results22
set_option maxHeartbeats 800000 in
set_option maxRecDepth 100000 in
theorem mayl_1_6 (l : List (Bool × Int)) (ex : Bool) (sz : Nat) (hsz : l ≠ [] → sz = 2) (hl : l.length ≤ 9223372036854775807) (h7 : any l 7 = false) (h4 : any l 4 = true) (h3 : any l 3 = true) (h6 : any l 6 = true) (h5 : any l 5 = true) :
 Ct Try.prog 22 [.w (.one (.pl (.R ex sz (evRows l)))), .w (.one (.pl (.i 1)))] (fun v m => v = .w (.one (.pl (.b true)))) := by
 have c7 := any_ l ex sz hsz hl 7
 rw [h7] at c7
 have c4 := any_ l ex sz hsz hl 4
 rw [h4] at c4
 have c3 := any_ l ex sz hsz hl 3
 rw [h3] at c3
 have c6 := any_ l ex sz hsz hl 6
 rw [h6] at c6
 have c5 := any_ l ex sz hsz hl 5
 rw [h5] at c5
 have F0 := trivial
 have cf0 := c7
 have cg0 := CF.mk [2] [(500000, 2)]
 have cf1 := c4
 have cg1 := CF.mk [2] [(500000, 2)]
 have cf2 := c3
 have cg2 := CF.mk [2] [(500000, 2)]
 have cf3 := c6
 have cg3 := CF.mk [2] [(500000, 2)]
 have cf4 := c5
 have cg4 := CF.mk [2] [(500000, 2)]
 exact Ct.w Try.func22 rfl Try.ntmps22 Try.results22
set_option maxHeartbeats 800000 in
set_option maxRecDepth 100000 in
theorem mayl_1_7 (l : List (Bool × Int)) (ex : Bool) (sz : Nat) (hsz : l ≠ [] → sz = 2) (hl : l.length ≤ 9223372036854775807) (h7 : any l 7 = false) (h4 : any l 4 = true) (h3 : any l 3 = true) (h6 : any l 6 = true) (h5 : any l 5 = false) :
 Ct Try.prog 22 [.w (.one (.pl (.R ex sz (evRows l)))), .w (.one (.pl (.i 1)))] (fun v m => v = .w (.one (.pl (.b false)))) := by
 have c7 := any_ l ex sz hsz hl 7
 rw [h7] at c7
 have c4 := any_ l ex sz hsz hl 4
 rw [h4] at c4
 have c3 := any_ l ex sz hsz hl 3
 rw [h3] at c3
 have c6 := any_ l ex sz hsz hl 6
 rw [h6] at c6
 have c5 := any_ l ex sz hsz hl 5
 rw [h5] at c5
 have F0 := trivial
 have cf0 := c7
 have cg0 := CF.mk [2] [(500000, 2)]
 have cf1 := c4
 have cg1 := CF.mk [2] [(500000, 2)]
 have cf2 := c3
 have cg2 := CF.mk [2] [(500000, 2)]
 have cf3 := c6
 have cg3 := CF.mk [2] [(500000, 2)]
 have cf4 := c5
 have cg4 := CF.mk [2] [(500000, 2)]
 exact Ct.w Try.func22 rfl Try.ntmps22 Try.results22
set_option maxHeartbeats 800000 in
set_option maxRecDepth 100000 in
theorem mayl_1_8 (l : List (Bool × Int)) (ex : Bool) (sz : Nat) (hsz : l ≠ [] → sz = 2) (hl : l.length ≤ 9223372036854775807) (h7 : any l 7 = true) (h4 : any l 4 = true) (h3 : any l 3 = false) (hh : hap l true 1 = true) :
 Ct Try.prog 22 [.w (.one (.pl (.R ex sz (evRows l)))), .w (.one (.pl (.i 1)))] (fun v m => v = .w (.one (.pl (.b false)))) := by
 have ch := happened_ l ex sz hsz hl 1 1
 rw [show hapI l 1 1 = hap l true 1 from hapI_who l true 1, hh] at ch
 have c7 := any_ l ex sz hsz hl 7
 rw [h7] at c7
 have c4 := any_ l ex sz hsz hl 4
 rw [h4] at c4
 have c3 := any_ l ex sz hsz hl 3
 rw [h3] at c3
 have F0 := trivial
 have cv0 := Ct.cv (ch)
 have cf0 := c7
 have cg0 := CF.mk [2] [(500000, 2)]
 have cf1 := c4
 have cg1 := CF.mk [2] [(500000, 2)]
 have cf2 := c3
 have cg2 := CF.mk [2] [(500000, 2)]
 exact Ct.w Try.func22 rfl Try.ntmps22 Try.results22
set_option maxHeartbeats 800000 in
set_option maxRecDepth 100000 in
theorem mayl_1_9 (l : List (Bool × Int)) (ex : Bool) (sz : Nat) (hsz : l ≠ [] → sz = 2) (hl : l.length ≤ 9223372036854775807) (h7 : any l 7 = true) (h4 : any l 4 = false) (h6 : any l 6 = false) (hh : hap l true 1 = true) :
 Ct Try.prog 22 [.w (.one (.pl (.R ex sz (evRows l)))), .w (.one (.pl (.i 1)))] (fun v m => v = .w (.one (.pl (.b true)))) := by
 have ch := happened_ l ex sz hsz hl 1 1
 rw [show hapI l 1 1 = hap l true 1 from hapI_who l true 1, hh] at ch
 have c7 := any_ l ex sz hsz hl 7
 rw [h7] at c7
 have c4 := any_ l ex sz hsz hl 4
 rw [h4] at c4
 have c6 := any_ l ex sz hsz hl 6
 rw [h6] at c6
 have F0 := trivial
 have cv0 := Ct.cv (ch)
 have cf0 := c7
 have cg0 := CF.mk [2] [(500000, 2)]
 have cf1 := c4
 have cg1 := CF.mk [2] [(500000, 2)]
 have cf2 := c6
 have cg2 := CF.mk [2] [(500000, 2)]
 exact Ct.w Try.func22 rfl Try.ntmps22 Try.results22
set_option maxHeartbeats 800000 in
set_option maxRecDepth 100000 in
theorem mayl_1_10 (l : List (Bool × Int)) (ex : Bool) (sz : Nat) (hsz : l ≠ [] → sz = 2) (hl : l.length ≤ 9223372036854775807) (h7 : any l 7 = true) (h4 : any l 4 = false) (h6 : any l 6 = true) (h5 : any l 5 = true) (hh : hap l true 1 = true) :
 Ct Try.prog 22 [.w (.one (.pl (.R ex sz (evRows l)))), .w (.one (.pl (.i 1)))] (fun v m => v = .w (.one (.pl (.b true)))) := by
 have ch := happened_ l ex sz hsz hl 1 1
 rw [show hapI l 1 1 = hap l true 1 from hapI_who l true 1, hh] at ch
 have c7 := any_ l ex sz hsz hl 7
 rw [h7] at c7
 have c4 := any_ l ex sz hsz hl 4
 rw [h4] at c4
 have c6 := any_ l ex sz hsz hl 6
 rw [h6] at c6
 have c5 := any_ l ex sz hsz hl 5
 rw [h5] at c5
 have F0 := trivial
 have cv0 := Ct.cv (ch)
 have cf0 := c7
 have cg0 := CF.mk [2] [(500000, 2)]
 have cf1 := c4
 have cg1 := CF.mk [2] [(500000, 2)]
 have cf2 := c6
 have cg2 := CF.mk [2] [(500000, 2)]
 have cf3 := c5
 have cg3 := CF.mk [2] [(500000, 2)]
 exact Ct.w Try.func22 rfl Try.ntmps22 Try.results22
set_option maxHeartbeats 800000 in
set_option maxRecDepth 100000 in
theorem mayl_1_11 (l : List (Bool × Int)) (ex : Bool) (sz : Nat) (hsz : l ≠ [] → sz = 2) (hl : l.length ≤ 9223372036854775807) (h7 : any l 7 = true) (h4 : any l 4 = false) (h6 : any l 6 = true) (h5 : any l 5 = false) (hh : hap l true 1 = true) :
 Ct Try.prog 22 [.w (.one (.pl (.R ex sz (evRows l)))), .w (.one (.pl (.i 1)))] (fun v m => v = .w (.one (.pl (.b false)))) := by
 have ch := happened_ l ex sz hsz hl 1 1
 rw [show hapI l 1 1 = hap l true 1 from hapI_who l true 1, hh] at ch
 have c7 := any_ l ex sz hsz hl 7
 rw [h7] at c7
 have c4 := any_ l ex sz hsz hl 4
 rw [h4] at c4
 have c6 := any_ l ex sz hsz hl 6
 rw [h6] at c6
 have c5 := any_ l ex sz hsz hl 5
 rw [h5] at c5
 have F0 := trivial
 have cv0 := Ct.cv (ch)
 have cf0 := c7
 have cg0 := CF.mk [2] [(500000, 2)]
 have cf1 := c4
 have cg1 := CF.mk [2] [(500000, 2)]
 have cf2 := c6
 have cg2 := CF.mk [2] [(500000, 2)]
 have cf3 := c5
 have cg3 := CF.mk [2] [(500000, 2)]
 exact Ct.w Try.func22 rfl Try.ntmps22 Try.results22
set_option maxHeartbeats 800000 in
set_option maxRecDepth 100000 in
theorem mayl_1_12 (l : List (Bool × Int)) (ex : Bool) (sz : Nat) (hsz : l ≠ [] → sz = 2) (hl : l.length ≤ 9223372036854775807) (h7 : any l 7 = true) (h4 : any l 4 = true) (h3 : any l 3 = true) (h6 : any l 6 = false) (hh : hap l true 1 = true) :
 Ct Try.prog 22 [.w (.one (.pl (.R ex sz (evRows l)))), .w (.one (.pl (.i 1)))] (fun v m => v = .w (.one (.pl (.b true)))) := by
 have ch := happened_ l ex sz hsz hl 1 1
 rw [show hapI l 1 1 = hap l true 1 from hapI_who l true 1, hh] at ch
 have c7 := any_ l ex sz hsz hl 7
 rw [h7] at c7
 have c4 := any_ l ex sz hsz hl 4
 rw [h4] at c4
 have c3 := any_ l ex sz hsz hl 3
 rw [h3] at c3
 have c6 := any_ l ex sz hsz hl 6
 rw [h6] at c6
 have F0 := trivial
 have cv0 := Ct.cv (ch)
 have cf0 := c7
 have cg0 := CF.mk [2] [(500000, 2)]
 have cf1 := c4
 have cg1 := CF.mk [2] [(500000, 2)]
 have cf2 := c3
 have cg2 := CF.mk [2] [(500000, 2)]
 have cf3 := c6
 have cg3 := CF.mk [2] [(500000, 2)]
 exact Ct.w Try.func22 rfl Try.ntmps22 Try.results22
set_option maxHeartbeats 800000 in
set_option maxRecDepth 100000 in
theorem mayl_1_13 (l : List (Bool × Int)) (ex : Bool) (sz : Nat) (hsz : l ≠ [] → sz = 2) (hl : l.length ≤ 9223372036854775807) (h7 : any l 7 = true) (h4 : any l 4 = true) (h3 : any l 3 = true) (h6 : any l 6 = true) (h5 : any l 5 = true) (hh : hap l true 1 = true) :
 Ct Try.prog 22 [.w (.one (.pl (.R ex sz (evRows l)))), .w (.one (.pl (.i 1)))] (fun v m => v = .w (.one (.pl (.b true)))) := by
 have ch := happened_ l ex sz hsz hl 1 1
 rw [show hapI l 1 1 = hap l true 1 from hapI_who l true 1, hh] at ch
 have c7 := any_ l ex sz hsz hl 7
 rw [h7] at c7
 have c4 := any_ l ex sz hsz hl 4
 rw [h4] at c4
 have c3 := any_ l ex sz hsz hl 3
 rw [h3] at c3
 have c6 := any_ l ex sz hsz hl 6
 rw [h6] at c6
 have c5 := any_ l ex sz hsz hl 5
 rw [h5] at c5
 have F0 := trivial
 have cv0 := Ct.cv (ch)
 have cf0 := c7
 have cg0 := CF.mk [2] [(500000, 2)]
 have cf1 := c4
 have cg1 := CF.mk [2] [(500000, 2)]
 have cf2 := c3
 have cg2 := CF.mk [2] [(500000, 2)]
 have cf3 := c6
 have cg3 := CF.mk [2] [(500000, 2)]
 have cf4 := c5
 have cg4 := CF.mk [2] [(500000, 2)]
 exact Ct.w Try.func22 rfl Try.ntmps22 Try.results22
set_option maxHeartbeats 800000 in
set_option maxRecDepth 100000 in
theorem mayl_1_14 (l : List (Bool × Int)) (ex : Bool) (sz : Nat) (hsz : l ≠ [] → sz = 2) (hl : l.length ≤ 9223372036854775807) (h7 : any l 7 = true) (h4 : any l 4 = true) (h3 : any l 3 = true) (h6 : any l 6 = true) (h5 : any l 5 = false) (hh : hap l true 1 = true) :
 Ct Try.prog 22 [.w (.one (.pl (.R ex sz (evRows l)))), .w (.one (.pl (.i 1)))] (fun v m => v = .w (.one (.pl (.b false)))) := by
 have ch := happened_ l ex sz hsz hl 1 1
 rw [show hapI l 1 1 = hap l true 1 from hapI_who l true 1, hh] at ch
 have c7 := any_ l ex sz hsz hl 7
 rw [h7] at c7
 have c4 := any_ l ex sz hsz hl 4
 rw [h4] at c4
 have c3 := any_ l ex sz hsz hl 3
 rw [h3] at c3
 have c6 := any_ l ex sz hsz hl 6
 rw [h6] at c6
 have c5 := any_ l ex sz hsz hl 5
 rw [h5] at c5
 have F0 := trivial
 have cv0 := Ct.cv (ch)
 have cf0 := c7
 have cg0 := CF.mk [2] [(500000, 2)]
 have cf1 := c4
 have cg1 := CF.mk [2] [(500000, 2)]
 have cf2 := c3
 have cg2 := CF.mk [2] [(500000, 2)]
 have cf3 := c6
 have cg3 := CF.mk [2] [(500000, 2)]
 have cf4 := c5
 have cg4 := CF.mk [2] [(500000, 2)]
 exact Ct.w Try.func22 rfl Try.ntmps22 Try.results22
theorem mayl_1 (l : List (Bool × Int)) (ex : Bool) (sz : Nat) (hsz : l ≠ [] → sz = 2) (hl : l.length ≤ 9223372036854775807) : Ct Try.prog 22 [.w (.one (.pl (.R ex sz (evRows l)))), .w (.one (.pl (.i 1)))] (fun v m => v = .w (.one (.pl (.b (lockM l true))))) := by
 rcases h7 : any l 7 with _ | _ <;> rcases hh : hap l true 1 with _ | _ <;> rcases h4 : any l 4 with _ | _ <;> rcases h3 : any l 3 with _ | _ <;> rcases h6 : any l 6 with _ | _ <;> rcases h5 : any l 5 with _ | _
 · rw [show lockM l true = true from by simp [lockM, h7, hh, h4, h3, h6, h5]]; exact mayl_1_2 l ex sz hsz hl h7 h4 h6
 · rw [show lockM l true = true from by simp [lockM, h7, hh, h4, h3, h6, h5]]; exact mayl_1_2 l ex sz hsz hl h7 h4 h6
 · rw [show lockM l true = false from by simp [lockM, h7, hh, h4, h3, h6, h5]]; exact mayl_1_4 l ex sz hsz hl h7 h4 h6 h5
 · rw [show lockM l true = true from by simp [lockM, h7, hh, h4, h3, h6, h5]]; exact mayl_1_3 l ex sz hsz hl h7 h4 h6 h5
 · rw [show lockM l true = true from by simp [lockM, h7, hh, h4, h3, h6, h5]]; exact mayl_1_2 l ex sz hsz hl h7 h4 h6
 · rw [show lockM l true = true from by simp [lockM, h7, hh, h4, h3, h6, h5]]; exact mayl_1_2 l ex sz hsz hl h7 h4 h6
 · rw [show lockM l true = false from by simp [lockM, h7, hh, h4, h3, h6, h5]]; exact mayl_1_4 l ex sz hsz hl h7 h4 h6 h5
 · rw [show lockM l true = true from by simp [lockM, h7, hh, h4, h3, h6, h5]]; exact mayl_1_3 l ex sz hsz hl h7 h4 h6 h5
 · rw [show lockM l true = false from by simp [lockM, h7, hh, h4, h3, h6, h5]]; exact mayl_1_1 l ex sz hsz hl h7 h4 h3
 · rw [show lockM l true = false from by simp [lockM, h7, hh, h4, h3, h6, h5]]; exact mayl_1_1 l ex sz hsz hl h7 h4 h3
 · rw [show lockM l true = false from by simp [lockM, h7, hh, h4, h3, h6, h5]]; exact mayl_1_1 l ex sz hsz hl h7 h4 h3
 · rw [show lockM l true = false from by simp [lockM, h7, hh, h4, h3, h6, h5]]; exact mayl_1_1 l ex sz hsz hl h7 h4 h3
 · rw [show lockM l true = true from by simp [lockM, h7, hh, h4, h3, h6, h5]]; exact mayl_1_5 l ex sz hsz hl h7 h4 h3 h6
 · rw [show lockM l true = true from by simp [lockM, h7, hh, h4, h3, h6, h5]]; exact mayl_1_5 l ex sz hsz hl h7 h4 h3 h6
 · rw [show lockM l true = false from by simp [lockM, h7, hh, h4, h3, h6, h5]]; exact mayl_1_7 l ex sz hsz hl h7 h4 h3 h6 h5
 · rw [show lockM l true = true from by simp [lockM, h7, hh, h4, h3, h6, h5]]; exact mayl_1_6 l ex sz hsz hl h7 h4 h3 h6 h5
 · rw [show lockM l true = true from by simp [lockM, h7, hh, h4, h3, h6, h5]]; exact mayl_1_2 l ex sz hsz hl h7 h4 h6
 · rw [show lockM l true = true from by simp [lockM, h7, hh, h4, h3, h6, h5]]; exact mayl_1_2 l ex sz hsz hl h7 h4 h6
 · rw [show lockM l true = false from by simp [lockM, h7, hh, h4, h3, h6, h5]]; exact mayl_1_4 l ex sz hsz hl h7 h4 h6 h5
 · rw [show lockM l true = true from by simp [lockM, h7, hh, h4, h3, h6, h5]]; exact mayl_1_3 l ex sz hsz hl h7 h4 h6 h5
 · rw [show lockM l true = true from by simp [lockM, h7, hh, h4, h3, h6, h5]]; exact mayl_1_2 l ex sz hsz hl h7 h4 h6
 · rw [show lockM l true = true from by simp [lockM, h7, hh, h4, h3, h6, h5]]; exact mayl_1_2 l ex sz hsz hl h7 h4 h6
 · rw [show lockM l true = false from by simp [lockM, h7, hh, h4, h3, h6, h5]]; exact mayl_1_4 l ex sz hsz hl h7 h4 h6 h5
 · rw [show lockM l true = true from by simp [lockM, h7, hh, h4, h3, h6, h5]]; exact mayl_1_3 l ex sz hsz hl h7 h4 h6 h5
 · rw [show lockM l true = false from by simp [lockM, h7, hh, h4, h3, h6, h5]]; exact mayl_1_1 l ex sz hsz hl h7 h4 h3
 · rw [show lockM l true = false from by simp [lockM, h7, hh, h4, h3, h6, h5]]; exact mayl_1_1 l ex sz hsz hl h7 h4 h3
 · rw [show lockM l true = false from by simp [lockM, h7, hh, h4, h3, h6, h5]]; exact mayl_1_1 l ex sz hsz hl h7 h4 h3
 · rw [show lockM l true = false from by simp [lockM, h7, hh, h4, h3, h6, h5]]; exact mayl_1_1 l ex sz hsz hl h7 h4 h3
 · rw [show lockM l true = true from by simp [lockM, h7, hh, h4, h3, h6, h5]]; exact mayl_1_5 l ex sz hsz hl h7 h4 h3 h6
 · rw [show lockM l true = true from by simp [lockM, h7, hh, h4, h3, h6, h5]]; exact mayl_1_5 l ex sz hsz hl h7 h4 h3 h6
 · rw [show lockM l true = false from by simp [lockM, h7, hh, h4, h3, h6, h5]]; exact mayl_1_7 l ex sz hsz hl h7 h4 h3 h6 h5
 · rw [show lockM l true = true from by simp [lockM, h7, hh, h4, h3, h6, h5]]; exact mayl_1_6 l ex sz hsz hl h7 h4 h3 h6 h5
 · rw [show lockM l true = false from by simp [lockM, h7, hh, h4, h3, h6, h5]]; exact mayl_1_0 l ex sz hsz hl h7 hh
 · rw [show lockM l true = false from by simp [lockM, h7, hh, h4, h3, h6, h5]]; exact mayl_1_0 l ex sz hsz hl h7 hh
 · rw [show lockM l true = false from by simp [lockM, h7, hh, h4, h3, h6, h5]]; exact mayl_1_0 l ex sz hsz hl h7 hh
 · rw [show lockM l true = false from by simp [lockM, h7, hh, h4, h3, h6, h5]]; exact mayl_1_0 l ex sz hsz hl h7 hh
 · rw [show lockM l true = false from by simp [lockM, h7, hh, h4, h3, h6, h5]]; exact mayl_1_0 l ex sz hsz hl h7 hh
 · rw [show lockM l true = false from by simp [lockM, h7, hh, h4, h3, h6, h5]]; exact mayl_1_0 l ex sz hsz hl h7 hh
 · rw [show lockM l true = false from by simp [lockM, h7, hh, h4, h3, h6, h5]]; exact mayl_1_0 l ex sz hsz hl h7 hh
 · rw [show lockM l true = false from by simp [lockM, h7, hh, h4, h3, h6, h5]]; exact mayl_1_0 l ex sz hsz hl h7 hh
 · rw [show lockM l true = false from by simp [lockM, h7, hh, h4, h3, h6, h5]]; exact mayl_1_0 l ex sz hsz hl h7 hh
 · rw [show lockM l true = false from by simp [lockM, h7, hh, h4, h3, h6, h5]]; exact mayl_1_0 l ex sz hsz hl h7 hh
 · rw [show lockM l true = false from by simp [lockM, h7, hh, h4, h3, h6, h5]]; exact mayl_1_0 l ex sz hsz hl h7 hh
 · rw [show lockM l true = false from by simp [lockM, h7, hh, h4, h3, h6, h5]]; exact mayl_1_0 l ex sz hsz hl h7 hh
 · rw [show lockM l true = false from by simp [lockM, h7, hh, h4, h3, h6, h5]]; exact mayl_1_0 l ex sz hsz hl h7 hh
 · rw [show lockM l true = false from by simp [lockM, h7, hh, h4, h3, h6, h5]]; exact mayl_1_0 l ex sz hsz hl h7 hh
 · rw [show lockM l true = false from by simp [lockM, h7, hh, h4, h3, h6, h5]]; exact mayl_1_0 l ex sz hsz hl h7 hh
 · rw [show lockM l true = false from by simp [lockM, h7, hh, h4, h3, h6, h5]]; exact mayl_1_0 l ex sz hsz hl h7 hh
 · rw [show lockM l true = true from by simp [lockM, h7, hh, h4, h3, h6, h5]]; exact mayl_1_9 l ex sz hsz hl h7 h4 h6 hh
 · rw [show lockM l true = true from by simp [lockM, h7, hh, h4, h3, h6, h5]]; exact mayl_1_9 l ex sz hsz hl h7 h4 h6 hh
 · rw [show lockM l true = false from by simp [lockM, h7, hh, h4, h3, h6, h5]]; exact mayl_1_11 l ex sz hsz hl h7 h4 h6 h5 hh
 · rw [show lockM l true = true from by simp [lockM, h7, hh, h4, h3, h6, h5]]; exact mayl_1_10 l ex sz hsz hl h7 h4 h6 h5 hh
 · rw [show lockM l true = true from by simp [lockM, h7, hh, h4, h3, h6, h5]]; exact mayl_1_9 l ex sz hsz hl h7 h4 h6 hh
 · rw [show lockM l true = true from by simp [lockM, h7, hh, h4, h3, h6, h5]]; exact mayl_1_9 l ex sz hsz hl h7 h4 h6 hh
 · rw [show lockM l true = false from by simp [lockM, h7, hh, h4, h3, h6, h5]]; exact mayl_1_11 l ex sz hsz hl h7 h4 h6 h5 hh
 · rw [show lockM l true = true from by simp [lockM, h7, hh, h4, h3, h6, h5]]; exact mayl_1_10 l ex sz hsz hl h7 h4 h6 h5 hh
 · rw [show lockM l true = false from by simp [lockM, h7, hh, h4, h3, h6, h5]]; exact mayl_1_8 l ex sz hsz hl h7 h4 h3 hh
 · rw [show lockM l true = false from by simp [lockM, h7, hh, h4, h3, h6, h5]]; exact mayl_1_8 l ex sz hsz hl h7 h4 h3 hh
 · rw [show lockM l true = false from by simp [lockM, h7, hh, h4, h3, h6, h5]]; exact mayl_1_8 l ex sz hsz hl h7 h4 h3 hh
 · rw [show lockM l true = false from by simp [lockM, h7, hh, h4, h3, h6, h5]]; exact mayl_1_8 l ex sz hsz hl h7 h4 h3 hh
 · rw [show lockM l true = true from by simp [lockM, h7, hh, h4, h3, h6, h5]]; exact mayl_1_12 l ex sz hsz hl h7 h4 h3 h6 hh
 · rw [show lockM l true = true from by simp [lockM, h7, hh, h4, h3, h6, h5]]; exact mayl_1_12 l ex sz hsz hl h7 h4 h3 h6 hh
 · rw [show lockM l true = false from by simp [lockM, h7, hh, h4, h3, h6, h5]]; exact mayl_1_14 l ex sz hsz hl h7 h4 h3 h6 h5 hh
 · rw [show lockM l true = true from by simp [lockM, h7, hh, h4, h3, h6, h5]]; exact mayl_1_13 l ex sz hsz hl h7 h4 h3 h6 h5 hh
theorem maylock_ (l : List (Bool × Int)) (ex : Bool) (sz : Nat) (hsz : l ≠ [] → sz = 2) (hl : l.length ≤ 9223372036854775807) (w : Bool) : Ct Try.prog 22 [.w (.one (.pl (.R ex sz (evRows l)))), .w (.one (.pl (.i (whoI w))))] (fun v m => v = .w (.one (.pl (.b (lockM l w))))) := by
 cases w
 · exact mayl_0 l ex sz hsz hl
 · exact mayl_1 l ex sz hsz hl
end Go.Sy

