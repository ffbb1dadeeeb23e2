/- Bytes added to a sum: the contracts joined; their law. -/
import Derived.Test.YthcpkdhojokhdaaveE15
set_option linter.unusedVariables false
set_option linter.unusedSimpArgs false
namespace Go.Sy
open Go.Proofs
attribute [local irreducible] atCall HT runOps runD onC onE onO onG goV goA goS onSt onGuard
theorem padd_main (r0 r1 p0 p1 a0 a1 a2 : UInt64) (held : List UInt8) (hh : held.length = 16) (n : Int) (b : List UInt8) (hbl : b.length ≤ 140737488355328) (ex : Bool) (hok : PolyOk r0 r1 a0 a1 a2 held n) : Ct Try.prog 18 [.w (.agg (polyC r0 r1 p0 p1 a0 a1 a2 held n)), .w (.one (.pl (.R ex 1 (byteRows b))))] (fun v m => v = .tup [.agg (stC r0 r1 p0 p1 (absorb r0 r1 ⟨⟨a0, a1, a2⟩, held.take n.toNat⟩ b)), .one (.pl (.i 0))]) := by
 obtain ⟨k, rfl⟩ : ∃ k : Nat, n = (k : Int) := ⟨n.toNat, by have := hok.lo; omega⟩
 have hk : k ≤ 15 := by have := hok.hi; omega
 have hp := pad16_of (k := k) hh (by omega) (fun j hj hl => hok.rest j (by simpa using hj) hl)
 have hl : (held.take k).length = k := by rw [List.length_take]; omega
 have h := padd_ok r0 r1 p0 p1 ⟨⟨a0, a1, a2⟩, held.take k⟩ ⟨by rw [hl]; exact hk, hok.acc⟩ hok.f0 hok.f1 b hbl ex
 simp only [hp, hl] at h
 simpa only [Int.toNat_natCast] using h
theorem pref_main (r0 r1 p0 p1 a0 a1 a2 : UInt64) (held : List UInt8) (hh : held.length = 16) (n : Int) (b : List UInt8) (hbl : b.length ≤ 140737488355328) (ex : Bool) (hok : PolyOk r0 r1 a0 a1 a2 held n) : Ct Try.prog 19 [.w (.agg (polyC r0 r1 p0 p1 a0 a1 a2 held n)), .w (.one (.pl (.R ex 1 (byteRows b))))] (fun v m => v = .tup [.agg (stC r0 r1 p0 p1 (absorb r0 r1 ⟨⟨a0, a1, a2⟩, held.take n.toNat⟩ b)), .one (.pl (.i 0))]) := by
 obtain ⟨k, rfl⟩ : ∃ k : Nat, n = (k : Int) := ⟨n.toNat, by have := hok.lo; omega⟩
 have hk : k ≤ 15 := by have := hok.hi; omega
 have hp := pad16_of (k := k) hh (by omega) (fun j hj hl => hok.rest j (by simpa using hj) hl)
 have hl : (held.take k).length = k := by rw [List.length_take]; omega
 have h := pref_ok r0 r1 p0 p1 ⟨⟨a0, a1, a2⟩, held.take k⟩ ⟨by rw [hl]; exact hk, hok.acc⟩ hok.f0 hok.f1 b hbl ex
 simp only [hp, hl] at h
 simpa only [Int.toNat_natCast] using h
set_option maxHeartbeats 800000 in
theorem polyadds_bad (r0 r1 p0 p1 a0 a1 a2 : UInt64) (held : List UInt8) (hh : held.length = 16) (n : Int) (b : List UInt8) (hbl : b.length ≤ 140737488355328) (ex : Bool) (hno : ¬ PolyOk r0 r1 a0 a1 a2 held n) :
 Ct Try.prog 4 [.w (.agg (polyC r0 r1 p0 p1 a0 a1 a2 held n)), .w (.one (.pl (.R ex 1 (byteRows b))))] (fun v m => v = .w (.one (.pl (.b true)))) := by
 have hsf : aggEq Try.prog 28 zeroC28 zeroC28 = some true := poly_same 0 0 0 0 0 0 0 _ (by simp) 0
 simp only [zeroC28, polyC] at hsf
 refine Ct.k Try.func4 rfl Try.ntmps4 (congrArg Array.toList Try.results4) (by simp) fun w0 ro => ?_
 refine sr_k fun K1 hK1 => ?_
 simp only [go_sem, polyC, hh, zeroC28, hsf]
 all_goals repeat' (first | apply And.intro | intro _)
 refine hK1 _ ?_
 refine sr_k fun K2 hK2 => ?_
 simp only [go_sem, polyC, hh, zeroC28, hsf]
 all_goals repeat' (first | apply And.intro | intro _)
 all_goals refine call_view (fun k => k) (fun _ _ => rfl) (by first | rfl | (simp only [go_sem, polyC, hh, zeroC28, hsf]; rfl) | simp only [go_sem, polyC, hh, zeroC28, hsf]) ((padd_bad r0 r1 p0 p1 a0 a1 a2 held hh n b hbl ex hno).plain fun _ _ h => h) ?_
 all_goals (rintro v m ⟨hR, hm⟩; subst hR; subst hm)
 all_goals refine And.intro (by first | rfl | simp only [go_sem, polyC, hh, zeroC28, hsf]) (And.intro (by first | rfl | simp only [go_sem, polyC, hh, zeroC28, hsf]) ?_)
 all_goals simp only [go_sem, polyC, hh, zeroC28, hsf]
 all_goals repeat' (first | apply And.intro | intro _)
 refine hK2 _ ?_
 refine sr_k fun K3 hK3 => ?_
 simp only [go_sem, polyC, hh, zeroC28, hsf]
 all_goals repeat' (first | apply And.intro | intro _)
 all_goals refine call_view (fun k => k) (fun _ _ => rfl) (by first | rfl | (simp only [go_sem, polyC, hh, zeroC28, hsf]; rfl) | simp only [go_sem, polyC, hh, zeroC28, hsf]) ((pref_bad r0 r1 p0 p1 a0 a1 a2 held hh n b hbl ex hno).plain fun _ _ h => h) ?_
 all_goals (rintro v m ⟨hR, hm⟩; subst hR; subst hm)
 all_goals refine And.intro (by first | rfl | simp only [go_sem, polyC, hh, zeroC28, hsf]) (And.intro (by first | rfl | simp only [go_sem, polyC, hh, zeroC28, hsf]) ?_)
 all_goals simp only [go_sem, polyC, hh, zeroC28, hsf]
 all_goals repeat' (first | apply And.intro | intro _)
 refine hK3 _ ?_
 refine sr_k fun K4 hK4 => ?_
 simp only [go_sem, polyC, hh, zeroC28, hsf]
 all_goals repeat' (first | apply And.intro | intro _)
 refine hK4 _ ?_
 refine ret_k ?_
 simp only [go_sem, polyC, hh, zeroC28, hsf]
 all_goals rfl
set_option maxHeartbeats 800000 in
theorem polyadds_ok (r0 r1 p0 p1 a0 a1 a2 : UInt64) (held : List UInt8) (hh : held.length = 16) (n : Int) (b : List UInt8) (hbl : b.length ≤ 140737488355328) (ex : Bool) (hok : PolyOk r0 r1 a0 a1 a2 held n) :
 Ct Try.prog 4 [.w (.agg (polyC r0 r1 p0 p1 a0 a1 a2 held n)), .w (.one (.pl (.R ex 1 (byteRows b))))] (fun v m => v = .w (.one (.pl (.b true)))) := by
 have hso : (absorb r0 r1 ⟨⟨a0, a1, a2⟩, held.take n.toNat⟩ b).ok := absorb_ok ⟨by show (held.take n.toNat).length ≤ 15; rw [List.length_take]; have := hok.hi; omega, hok.acc⟩
 obtain ⟨⟨⟨qa, qb, qc⟩, q⟩, hq⟩ : ∃ q, absorb r0 r1 ⟨⟨a0, a1, a2⟩, held.take n.toNat⟩ b = q := ⟨_, rfl⟩
 rw [hq] at hso
 have h15 : q.length ≤ 15 := hso.1
 have hpq := pad16_length (r := q) (by omega)
 have hsf : aggEq Try.prog 28 _ _ = some true := poly_same r0 r1 p0 p1 qa qb qc (pad16 q) hpq (q.length : Nat)
 simp only [polyC] at hsf
 have F0 := And.intro hh <| And.intro hq <| And.intro hpq <| hsf
 refine Ct.k Try.func4 rfl Try.ntmps4 (congrArg Array.toList Try.results4) (by simp) fun w0 ro => ?_
 refine sr_k fun K1 hK1 => ?_
 simp only [go_sem, polyC, stC, F0]
 all_goals repeat' (first | apply And.intro | intro _)
 refine hK1 _ ?_
 refine sr_k fun K2 hK2 => ?_
 simp only [go_sem, polyC, stC, F0]
 all_goals repeat' (first | apply And.intro | intro _)
 all_goals refine call_view (fun k => k) (fun _ _ => rfl) (by first | rfl | (simp only [go_sem, polyC, stC, F0]; rfl) | simp only [go_sem, polyC, stC, F0]) ((padd_main r0 r1 p0 p1 a0 a1 a2 held hh n b hbl ex hok).plain fun _ _ h => h) ?_
 all_goals (rintro v m ⟨hR, hm⟩; subst hR; subst hm)
 all_goals refine And.intro (by first | rfl | simp only [go_sem, polyC, stC, F0]) (And.intro (by first | rfl | simp only [go_sem, polyC, stC, F0]) ?_)
 all_goals simp only [go_sem, polyC, stC, F0]
 all_goals repeat' (first | apply And.intro | intro _)
 refine hK2 _ ?_
 refine sr_k fun K3 hK3 => ?_
 simp only [go_sem, polyC, stC, F0]
 all_goals repeat' (first | apply And.intro | intro _)
 all_goals refine call_view (fun k => k) (fun _ _ => rfl) (by first | rfl | (simp only [go_sem, polyC, stC, F0]; rfl) | simp only [go_sem, polyC, stC, F0]) ((pref_main r0 r1 p0 p1 a0 a1 a2 held hh n b hbl ex hok).plain fun _ _ h => h) ?_
 all_goals (rintro v m ⟨hR, hm⟩; subst hR; subst hm)
 all_goals refine And.intro (by first | rfl | simp only [go_sem, polyC, stC, F0]) (And.intro (by first | rfl | simp only [go_sem, polyC, stC, F0]) ?_)
 all_goals simp only [go_sem, polyC, stC, F0]
 all_goals repeat' (first | apply And.intro | intro _)
 refine hK3 _ ?_
 refine sr_k fun K4 hK4 => ?_
 simp only [go_sem, polyC, stC, F0]
 all_goals repeat' (first | apply And.intro | intro _)
 refine hK4 _ ?_
 refine ret_k ?_
 simp only [go_sem, polyC, stC, F0]
 all_goals rfl
theorem polyadds (r0 r1 p0 p1 a0 a1 a2 : UInt64) (held : List UInt8) (hh : held.length = 16) (n : Int) (b : List UInt8) (hbl : b.length ≤ 140737488355328) (ex : Bool) : Ct Try.prog 4 [.w (.agg (polyC r0 r1 p0 p1 a0 a1 a2 held n)), .w (.one (.pl (.R ex 1 (byteRows b))))] (fun v m => v = .w (.one (.pl (.b true)))) := by
 by_cases hok : PolyOk r0 r1 a0 a1 a2 held n
 · exact polyadds_ok r0 r1 p0 p1 a0 a1 a2 held hh n b hbl ex hok
 · exact polyadds_bad r0 r1 p0 p1 a0 a1 a2 held hh n b hbl ex hok
end Go.Sy
