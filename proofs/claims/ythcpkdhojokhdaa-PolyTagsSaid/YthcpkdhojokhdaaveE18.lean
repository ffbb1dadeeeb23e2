/- The end of a sum: the contracts joined; their law. -/
import Derived.Test.YthcpkdhojokhdaaveE17
set_option linter.unusedVariables false
set_option linter.unusedSimpArgs false
namespace Go.Sy
open Go.Proofs
attribute [local irreducible] atCall HT runOps runD onC onE onO onG goV goA goS onSt onGuard
theorem pend_st (r0 r1 p0 p1 : UInt64) (s : PSt) (hs : s.ok) (hr0 : r0 &&& ~~~1152921487695413247 = 0) (hr1 : r1 &&& ~~~1152921487695413244 = 0) : Ct Try.prog 20 [.w (.agg (polyC r0 r1 p0 p1 s.acc.a s.acc.b s.acc.c (pad16 s.rest) (s.rest.length : Nat)))] (fun v m => v = .tup [.agg (bytesC (endV (finA r0 r1 s).a (finA r0 r1 s).b p0 p1)), .one (.pl (.i 0))]) := by
 rcases Nat.eq_zero_or_pos s.rest.length with h0 | h0
 · exact pend_z r0 r1 p0 p1 s hs hr0 hr1 h0
 · exact pend_p r0 r1 p0 p1 s hs hr0 hr1 h0
theorem pend_main (r0 r1 p0 p1 a0 a1 a2 : UInt64) (held : List UInt8) (hh : held.length = 16) (n : Int) (hok : PolyOk r0 r1 a0 a1 a2 held n) : Ct Try.prog 20 [.w (.agg (polyC r0 r1 p0 p1 a0 a1 a2 held n))] (fun v m => v = .tup [.agg (bytesC (endV (finA r0 r1 ⟨⟨a0, a1, a2⟩, held.take n.toNat⟩).a (finA r0 r1 ⟨⟨a0, a1, a2⟩, held.take n.toNat⟩).b p0 p1)), .one (.pl (.i 0))]) := by
 obtain ⟨k, rfl⟩ : ∃ k : Nat, n = (k : Int) := ⟨n.toNat, by have := hok.lo; omega⟩
 have hk : k ≤ 15 := by have := hok.hi; omega
 have hp := pad16_of (k := k) hh (by omega) (fun j hj hl => hok.rest j (by simpa using hj) hl)
 have hl : (held.take k).length = k := by rw [List.length_take]; omega
 have h := pend_st r0 r1 p0 p1 ⟨⟨a0, a1, a2⟩, held.take k⟩ ⟨by rw [hl]; exact hk, hok.acc⟩ hok.f0 hok.f1
 simp only [hp, hl] at h
 simpa only [Int.toNat_natCast] using h
theorem pended_st (r0 r1 p0 p1 : UInt64) (s : PSt) (hs : s.ok) (hr0 : r0 &&& ~~~1152921487695413247 = 0) (hr1 : r1 &&& ~~~1152921487695413244 = 0) : Ct Try.prog 21 [.w (.agg (polyC r0 r1 p0 p1 s.acc.a s.acc.b s.acc.c (pad16 s.rest) (s.rest.length : Nat)))] (fun v m => v = .tup [.agg (bytesC (endV (finA r0 r1 s).a (finA r0 r1 s).b p0 p1)), .one (.pl (.i 0))]) := by
 rcases Nat.eq_zero_or_pos s.rest.length with h0 | h0
 · exact pended_z r0 r1 p0 p1 s hs hr0 hr1 h0
 · exact pended_p r0 r1 p0 p1 s hs hr0 hr1 h0
theorem pended_main (r0 r1 p0 p1 a0 a1 a2 : UInt64) (held : List UInt8) (hh : held.length = 16) (n : Int) (hok : PolyOk r0 r1 a0 a1 a2 held n) : Ct Try.prog 21 [.w (.agg (polyC r0 r1 p0 p1 a0 a1 a2 held n))] (fun v m => v = .tup [.agg (bytesC (endV (finA r0 r1 ⟨⟨a0, a1, a2⟩, held.take n.toNat⟩).a (finA r0 r1 ⟨⟨a0, a1, a2⟩, held.take n.toNat⟩).b p0 p1)), .one (.pl (.i 0))]) := by
 obtain ⟨k, rfl⟩ : ∃ k : Nat, n = (k : Int) := ⟨n.toNat, by have := hok.lo; omega⟩
 have hk : k ≤ 15 := by have := hok.hi; omega
 have hp := pad16_of (k := k) hh (by omega) (fun j hj hl => hok.rest j (by simpa using hj) hl)
 have hl : (held.take k).length = k := by rw [List.length_take]; omega
 have h := pended_st r0 r1 p0 p1 ⟨⟨a0, a1, a2⟩, held.take k⟩ ⟨by rw [hl]; exact hk, hok.acc⟩ hok.f0 hok.f1
 simp only [hp, hl] at h
 simpa only [Int.toNat_natCast] using h
theorem same16 {l : List UInt8} (h : l.length = 16) : aggEq Try.prog 26 (bytesC l) (bytesC l) = some true := by
 rw [ae26 (kinds_bytes h) (kinds_bytes h), eqC_bytes rfl]; simp
set_option maxHeartbeats 800000 in
theorem polyends_bad (r0 r1 p0 p1 a0 a1 a2 : UInt64) (held : List UInt8) (hh : held.length = 16) (n : Int) (hno : ¬ PolyOk r0 r1 a0 a1 a2 held n) :
 Ct Try.prog 5 [.w (.agg (polyC r0 r1 p0 p1 a0 a1 a2 held n))] (fun v m => v = .w (.one (.pl (.b true)))) := by
 have hsf := same16 (l := List.replicate 16 0) (by simp)
 refine Ct.k Try.func5 rfl Try.ntmps5 (congrArg Array.toList Try.results5) (by simp) fun w0 ro => ?_
 refine sr_k fun K1 hK1 => ?_
 simp only [go_sem, polyC, hh, hsf]
 all_goals repeat' (first | apply And.intro | intro _)
 refine hK1 _ ?_
 refine sr_k fun K2 hK2 => ?_
 simp only [go_sem, polyC, hh, hsf]
 all_goals repeat' (first | apply And.intro | intro _)
 all_goals refine call_view (fun k => k) (fun _ _ => rfl) (by first | rfl | (simp only [go_sem, polyC, hh, hsf]; rfl) | simp only [go_sem, polyC, hh, hsf]) ((pend_bad r0 r1 p0 p1 a0 a1 a2 held hh n hno).plain fun _ _ h => h) ?_
 all_goals (rintro v m ⟨hR, hm⟩; subst hR; subst hm)
 all_goals refine And.intro (by first | rfl | simp only [go_sem, polyC, hh, hsf]) (And.intro (by first | rfl | simp only [go_sem, polyC, hh, hsf]) ?_)
 all_goals simp only [go_sem, polyC, hh, hsf]
 all_goals repeat' (first | apply And.intro | intro _)
 refine hK2 _ ?_
 refine sr_k fun K3 hK3 => ?_
 simp only [go_sem, polyC, hh, hsf]
 all_goals repeat' (first | apply And.intro | intro _)
 all_goals refine call_view (fun k => k) (fun _ _ => rfl) (by first | rfl | (simp only [go_sem, polyC, hh, hsf]; rfl) | simp only [go_sem, polyC, hh, hsf]) ((pended_bad r0 r1 p0 p1 a0 a1 a2 held hh n hno).plain fun _ _ h => h) ?_
 all_goals (rintro v m ⟨hR, hm⟩; subst hR; subst hm)
 all_goals refine And.intro (by first | rfl | simp only [go_sem, polyC, hh, hsf]) (And.intro (by first | rfl | simp only [go_sem, polyC, hh, hsf]) ?_)
 all_goals simp only [go_sem, polyC, hh, hsf]
 all_goals repeat' (first | apply And.intro | intro _)
 refine hK3 _ ?_
 refine sr_k fun K4 hK4 => ?_
 simp only [go_sem, polyC, hh, hsf]
 all_goals repeat' (first | apply And.intro | intro _)
 refine hK4 _ ?_
 refine ret_k ?_
 simp only [go_sem, polyC, hh, hsf]
 all_goals rfl
set_option maxHeartbeats 800000 in
theorem polyends_ok (r0 r1 p0 p1 a0 a1 a2 : UInt64) (held : List UInt8) (hh : held.length = 16) (n : Int) (hok : PolyOk r0 r1 a0 a1 a2 held n) :
 Ct Try.prog 5 [.w (.agg (polyC r0 r1 p0 p1 a0 a1 a2 held n))] (fun v m => v = .w (.one (.pl (.b true)))) := by
 obtain ⟨q, hq⟩ : ∃ q, endV (finA r0 r1 ⟨⟨a0, a1, a2⟩, held.take n.toNat⟩).a (finA r0 r1 ⟨⟨a0, a1, a2⟩, held.take n.toNat⟩).b p0 p1 = q := ⟨_, rfl⟩
 have hql : q.length = 16 := by rw [← hq]; exact endV_length _ _ _ _
 have hsf := same16 hql
 have F0 := And.intro hh <| And.intro hq <| And.intro hql <| hsf
 refine Ct.k Try.func5 rfl Try.ntmps5 (congrArg Array.toList Try.results5) (by simp) fun w0 ro => ?_
 refine sr_k fun K1 hK1 => ?_
 simp only [go_sem, polyC, F0]
 all_goals repeat' (first | apply And.intro | intro _)
 refine hK1 _ ?_
 refine sr_k fun K2 hK2 => ?_
 simp only [go_sem, polyC, F0]
 all_goals repeat' (first | apply And.intro | intro _)
 all_goals refine call_view (fun k => k) (fun _ _ => rfl) (by first | rfl | (simp only [go_sem, polyC, F0]; rfl) | simp only [go_sem, polyC, F0]) ((pend_main r0 r1 p0 p1 a0 a1 a2 held hh n hok).plain fun _ _ h => h) ?_
 all_goals (rintro v m ⟨hR, hm⟩; subst hR; subst hm)
 all_goals refine And.intro (by first | rfl | simp only [go_sem, polyC, F0]) (And.intro (by first | rfl | simp only [go_sem, polyC, F0]) ?_)
 all_goals simp only [go_sem, polyC, F0]
 all_goals repeat' (first | apply And.intro | intro _)
 refine hK2 _ ?_
 refine sr_k fun K3 hK3 => ?_
 simp only [go_sem, polyC, F0]
 all_goals repeat' (first | apply And.intro | intro _)
 all_goals refine call_view (fun k => k) (fun _ _ => rfl) (by first | rfl | (simp only [go_sem, polyC, F0]; rfl) | simp only [go_sem, polyC, F0]) ((pended_main r0 r1 p0 p1 a0 a1 a2 held hh n hok).plain fun _ _ h => h) ?_
 all_goals (rintro v m ⟨hR, hm⟩; subst hR; subst hm)
 all_goals refine And.intro (by first | rfl | simp only [go_sem, polyC, F0]) (And.intro (by first | rfl | simp only [go_sem, polyC, F0]) ?_)
 all_goals simp only [go_sem, polyC, F0]
 all_goals repeat' (first | apply And.intro | intro _)
 refine hK3 _ ?_
 refine sr_k fun K4 hK4 => ?_
 simp only [go_sem, polyC, F0]
 all_goals repeat' (first | apply And.intro | intro _)
 refine hK4 _ ?_
 refine ret_k ?_
 simp only [go_sem, polyC, F0]
 all_goals rfl
theorem polyends (r0 r1 p0 p1 a0 a1 a2 : UInt64) (held : List UInt8) (hh : held.length = 16) (n : Int) : Ct Try.prog 5 [.w (.agg (polyC r0 r1 p0 p1 a0 a1 a2 held n))] (fun v m => v = .w (.one (.pl (.b true)))) := by
 by_cases hok : PolyOk r0 r1 a0 a1 a2 held n
 · exact polyends_ok r0 r1 p0 p1 a0 a1 a2 held hh n hok
 · exact polyends_bad r0 r1 p0 p1 a0 a1 a2 held hh n hok
end Go.Sy
