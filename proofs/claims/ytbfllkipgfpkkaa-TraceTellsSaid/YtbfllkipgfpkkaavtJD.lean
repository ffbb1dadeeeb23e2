/- Walks: the faults of a pattern, all of them; the law on patterns. -/
import Derived.Test.YtbfllkipgfpkkaavtJC
import Derived.Test.YtbfllkipgfpkkaavtJ7
set_option linter.unusedVariables false
set_option linter.unusedSimpArgs false
namespace Go.Sy
open Go.Proofs
attribute [local irreducible] atCall HT runOps runD onC onE onO onG goV goA goS onSt onGuard
set_option maxHeartbeats 400000 in
set_option maxRecDepth 100000 in
theorem pfault_len0 (bs : List UInt8) (lt : Bool) (ps : List (List PL)) (p0 p1 : List Int) (ts : List (List Int)) (h1 : ((ts.length : Nat) : Int) = 0) :
 Ct Try.prog 8 [.w (.agg (patC bs lt ps p0 p1 ts))] (fun v m => v = .w (.one (.pl (.i (checkP lt p0 p1 ts))))) := by
 have zE := chp_len (lt := lt) (p0 := p0) (p1 := p1) (ts := ts) (.inl h1)
 have F0 := And.intro patC.eq_1 <| And.intro tRows_length <| h1
 exact Ct.w Try.func8 rfl Try.ntmps8 Try.results8
set_option maxHeartbeats 400000 in
set_option maxRecDepth 100000 in
theorem pfault_len1 (bs : List UInt8) (lt : Bool) (ps : List (List PL)) (p0 p1 : List Int) (ts : List (List Int)) (h1 : ¬ ((ts.length : Nat) : Int) = 0) (h2 : (5 : Int) < ((ts.length : Nat) : Int)) :
 Ct Try.prog 8 [.w (.agg (patC bs lt ps p0 p1 ts))] (fun v m => v = .w (.one (.pl (.i (checkP lt p0 p1 ts))))) := by
 have zE := chp_len (lt := lt) (p0 := p0) (p1 := p1) (ts := ts) (.inr h2)
 have F0 := And.intro patC.eq_1 <| And.intro tRows_length <| And.intro h1 <| h2
 exact Ct.w Try.func8 rfl Try.ntmps8 Try.results8
set_option maxHeartbeats 400000 in
set_option maxRecDepth 100000 in
theorem pfault_scan (bs : List UInt8) (lt : Bool) (ps : List (List PL)) (p0 p1 : List Int) (ts : List (List Int)) (h1 : ¬ ((ts.length : Nat) : Int) = 0) (h2 : ¬ (5 : Int) < ((ts.length : Nat) : Int)) (e : Int) (he : scan (p0 :: p1 :: ts) = e) (hz : ¬ e = 0) :
 Ct Try.prog 8 [.w (.agg (patC bs lt ps p0 p1 ts))] (fun v m => v = .w (.one (.pl (.i e)))) := by
 have hlen : ¬ (ts.length < 1 ∨ 5 < ts.length) := by omega
 have hts : ts.length ≤ 1000000 := by omega
 have ht5 : ts.length ≤ 5 := by omega
 have hbb : (2 + ts.length) * 24 ≤ 140737488355328 := by omega
 have hfo := firstof_ (p0 :: p1 :: ts) false (by simp only [List.length_cons]; omega)
 have hch := allC_chunks (p0 :: p1 :: ts)
 have hsz : (p0 :: p1 :: ts).length = 2 + ts.length := by simp only [List.length_cons]; omega
 rw [hsz] at hch
 rw [he] at hfo
 have F0 := And.intro patC.eq_1 <| And.intro tRows_length <| And.intro iRows_length <| And.intro h1 <| And.intro h2 <| And.intro hbb <| And.intro pls_has <| And.intro allC_eq <| And.intro allC_has <| And.intro allC_length <| And.intro allC_unpl <| And.intro hch <| And.intro hsz <| And.intro flatPL_nil <| And.intro evC_kill <| And.intro iC_kill <| And.intro whoI_f <| And.intro whoI_t <| And.intro (@evM_look 64 1 (by decide)) <| And.intro evC_length <| And.intro evC_unpl <| And.intro evC_has <| And.intro evC_chunks <| And.intro evV_snoc <| And.intro evM_snoc <| hz
 have cv0 := Ct.cv (hfo)
 exact Ct.w Try.func8 rfl Try.ntmps8 Try.results8
theorem pfault_ (bs : List UInt8) (lt : Bool) (ps : List (List PL)) (p0 p1 : List Int) (ts : List (List Int)) : Ct Try.prog 8 [.w (.agg (patC bs lt ps p0 p1 ts))] (fun v m => v = .w (.one (.pl (.i (checkP lt p0 p1 ts))))) := by
 by_cases h1 : ((ts.length : Nat) : Int) = 0
 · exact pfault_len0 bs lt ps p0 p1 ts h1
 · by_cases h2 : (5 : Int) < ((ts.length : Nat) : Int)
   · exact pfault_len1 bs lt ps p0 p1 ts h1 h2
   · by_cases hz : scan (p0 :: p1 :: ts) = 0
     · cases h0 : preE [] false p0 with
       | none => exact pfault_64 bs lt ps p0 p1 ts h1 h2 hz fun q0 q1 ha => by rw [h0] at ha; cases ha
       | some q0 =>
        cases hb : preE q0 true p1 with
        | none => exact pfault_64 bs lt ps p0 p1 ts h1 h2 hz fun a b ha hc => by rw [h0] at ha; cases ha; rw [hb] at hc; cases hc
        | some q1 =>
         by_cases hn : q1 = []
         · exact pfault_204 bs lt ps p0 p1 ts h1 h2 hz fun a b ha hc => by rw [h0] at ha; cases ha; rw [hb] at hc; cases hc; exact hn
         · exact pfault_64 bs lt ps p0 p1 ts h1 h2 hz fun a b ha hc => by rw [h0] at ha; cases ha; rw [hb] at hc; cases hc; exact hn
     · rw [chp_scan (lt := lt) (by omega) rfl hz]
       exact pfault_scan bs lt ps p0 p1 ts h1 h2 _ rfl hz
end Go.Sy

