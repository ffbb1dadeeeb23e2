/- Bytes of the field: the row's own walk. -/
import Derived.Test.YtdbiepgoepbaoaaDoorvkK17
import Derived.Test.YtdbiepgoepbaoaaDoorvkK17b
import Derived.Test.YtdbiepgoepbaoaaDoorvkK18
import Derived.Test.YtdbiepgoepbaoaaDoorvkK18b
import Derived.Test.YtdbiepgoepbaoaaDoorvkK10
set_option linter.unusedVariables false
set_option linter.unusedSimpArgs false
namespace Go.Sy
open Go.Proofs
attribute [local irreducible] atCall HT runOps runD onC onE onO onG goV goA goS onSt onGuard
theorem same25 {l : List UInt8} (h : l.length = 32) : aggEq Tryd.prog 25 (bytesC l) (bytesC l) = some true := by
 rw [ae25 (kinds_bytes h) (kinds_bytes h), eqC_bytes rfl]; simp
set_option maxHeartbeats 1600000 in
theorem fieldbytes_bad (a b c d : UInt64) (x0 x1 x2 x3 x4 x5 x6 x7 x8 x9 x10 x11 x12 x13 x14 x15 x16 x17 x18 x19 x20 x21 x22 x23 x24 x25 x26 x27 x28 x29 x30 x31 : UInt8) (h1 : ¬ vQ a b c d < p25) :
 CtM Tryd.prog 3 [.w (.agg [.pl (.u64 a), .pl (.u64 b), .pl (.u64 c), .pl (.u64 d)]), .w (.agg [.pl (.u8 x0), .pl (.u8 x1), .pl (.u8 x2), .pl (.u8 x3), .pl (.u8 x4), .pl (.u8 x5), .pl (.u8 x6), .pl (.u8 x7), .pl (.u8 x8), .pl (.u8 x9), .pl (.u8 x10), .pl (.u8 x11), .pl (.u8 x12), .pl (.u8 x13), .pl (.u8 x14), .pl (.u8 x15), .pl (.u8 x16), .pl (.u8 x17), .pl (.u8 x18), .pl (.u8 x19), .pl (.u8 x20), .pl (.u8 x21), .pl (.u8 x22), .pl (.u8 x23), .pl (.u8 x24), .pl (.u8 x25), .pl (.u8 x26), .pl (.u8 x27), .pl (.u8 x28), .pl (.u8 x29), .pl (.u8 x30), .pl (.u8 x31)])] [(1000000, ⟨false, [.pl (.u64 18446744073709551597), .pl (.u64 18446744073709551615), .pl (.u64 18446744073709551615), .pl (.u64 9223372036854775807)]⟩), (1000001, ⟨false, u64C prdL⟩)] (Told (fun v m => v = .w (.one (.pl (.b true))) ∧ m = [])) := by
 have hF := from_x x0 x1 x2 x3 x4 x5 x6 x7 x8 x9 x10 x11 x12 x13 x14 x15 x16 x17 x18 x19 x20 x21 x22 x23 x24 x25 x26 x27 x28 x29 x30 x31
 have hG := rfrom_x x0 x1 x2 x3 x4 x5 x6 x7 x8 x9 x10 x11 x12 x13 x14 x15 x16 x17 x18 x19 x20 x21 x22 x23 x24 x25 x26 x27 x28 x29 x30 x31
 obtain ⟨s0, s1, s2, s3, hs, hvs⟩ := w4_get (vQ (orW x0 x1 x2 x3 x4 x5 x6 x7) (orW x8 x9 x10 x11 x12 x13 x14 x15) (orW x16 x17 x18 x19 x20 x21 x22 x23) (orW x24 x25 x26 x27 x28 x29 x30 x31 &&& 9223372036854775807) % p25) (mod_m4 _)
 have hus : u64C [s0, s1, s2, s3] = [.pl (.u64 s0), .pl (.u64 s1), .pl (.u64 s2), .pl (.u64 s3)] := rfl
 simp only [w4C, hs, hus] at hF hG
 have hsf := same25 (l := List.replicate 32 0) (by simp)
 refine CtM.k Tryd.func3 rfl Tryd.ntmps3 (congrArg Array.toList Tryd.results3) (by simp) fun w0 ro may fx => ?_
 refine sr_k fun K1 hK1 => ?_
 simp only [go_sem, hsf]
 repeat' (first | apply And.intro | intro _)
 refine hK1 _ ?_
 refine sr_k fun K2 hK2 => ?_
 simp only [go_sem, hsf]
 repeat' (first | apply And.intro | intro _)
 all_goals (refine call_hand false [] (fun k => k) (fun _ _ => rfl) ?_ (by decide) ?_ (bytes_bad a b c d h1).told ?_; iterate 2 (focus (first | rfl | (simp only [go_sem, hsf] <;> first | done | rfl | simp))))
 all_goals (rintro v m ⟨hR, hm⟩; subst hR; subst hm)
 all_goals (refine And.intro ?_ (And.intro ?_ (And.intro ?_ ?_)); iterate 3 (focus (first | rfl | (simp only [go_sem, hsf]; done) | (simp [go_sem, look, hsf]; done))))
 all_goals (try simp only [go_sem, hsf])
 all_goals (try simp only [go_sem, hsf])
 all_goals repeat' (first | apply And.intro | intro _)
 refine hK2 _ ?_
 refine sr_k fun K3 hK3 => ?_
 simp only [go_sem, hsf]
 repeat' (first | apply And.intro | intro _)
 all_goals (refine call_hand false [] (fun k => k) (fun _ _ => rfl) ?_ (by decide) ?_ hF.told ?_; iterate 2 (focus (first | rfl | (simp only [go_sem, hsf] <;> first | done | rfl | simp))))
 all_goals (rintro v m ⟨hR, hm⟩; subst hR; subst hm)
 all_goals (refine And.intro ?_ (And.intro ?_ (And.intro ?_ ?_)); iterate 3 (focus (first | rfl | (simp only [go_sem, hsf]; done) | (simp [go_sem, look, hsf]; done))))
 all_goals (try simp only [go_sem, hsf])
 all_goals (try simp only [go_sem, hsf])
 all_goals repeat' (first | apply And.intro | intro _)
 refine hK3 _ ?_
 refine sr_k fun K4 hK4 => ?_
 simp only [go_sem, hsf]
 repeat' (first | apply And.intro | intro _)
 all_goals (refine call_hand false [] (fun k => k) (fun _ _ => rfl) ?_ (by decide) ?_ (rbytes_bad a b c d h1).told ?_; iterate 2 (focus (first | rfl | (simp only [go_sem, hsf] <;> first | done | rfl | simp))))
 all_goals (rintro v m ⟨hR, hm⟩; subst hR; subst hm)
 all_goals (refine And.intro ?_ (And.intro ?_ (And.intro ?_ ?_)); iterate 3 (focus (first | rfl | (simp only [go_sem, hsf]; done) | (simp [go_sem, look, hsf]; done))))
 all_goals (try simp only [go_sem, hsf])
 all_goals (try simp only [go_sem, hsf])
 all_goals repeat' (first | apply And.intro | intro _)
 refine hK4 _ ?_
 refine sr_k fun K5 hK5 => ?_
 simp only [go_sem, hsf]
 repeat' (first | apply And.intro | intro _)
 all_goals (refine call_hand false [] (fun k => k) (fun _ _ => rfl) ?_ (by decide) ?_ hG.told ?_; iterate 2 (focus (first | rfl | (simp only [go_sem, hsf] <;> first | done | rfl | simp))))
 all_goals (rintro v m ⟨hR, hm⟩; subst hR; subst hm)
 all_goals (refine And.intro ?_ (And.intro ?_ (And.intro ?_ ?_)); iterate 3 (focus (first | rfl | (simp only [go_sem, hsf]; done) | (simp [go_sem, look, hsf]; done))))
 all_goals (try simp only [go_sem, hsf])
 all_goals (try simp only [go_sem, hsf])
 all_goals repeat' (first | apply And.intro | intro _)
 refine hK5 _ ?_
 refine sr_k fun K6 hK6 => ?_
 simp only [go_sem, hsf]
 repeat' (first | apply And.intro | intro _)
 refine hK6 _ ?_
 refine ret_k ?_
 simp only [go_sem, hsf]
 all_goals (exact told_plain rfl ⟨rfl, rfl⟩)
set_option maxHeartbeats 1600000 in
theorem fieldbytes_ok (a b c d : UInt64) (x0 x1 x2 x3 x4 x5 x6 x7 x8 x9 x10 x11 x12 x13 x14 x15 x16 x17 x18 x19 x20 x21 x22 x23 x24 x25 x26 x27 x28 x29 x30 x31 : UInt8) (h1 : vQ a b c d < p25) :
 CtM Tryd.prog 3 [.w (.agg [.pl (.u64 a), .pl (.u64 b), .pl (.u64 c), .pl (.u64 d)]), .w (.agg [.pl (.u8 x0), .pl (.u8 x1), .pl (.u8 x2), .pl (.u8 x3), .pl (.u8 x4), .pl (.u8 x5), .pl (.u8 x6), .pl (.u8 x7), .pl (.u8 x8), .pl (.u8 x9), .pl (.u8 x10), .pl (.u8 x11), .pl (.u8 x12), .pl (.u8 x13), .pl (.u8 x14), .pl (.u8 x15), .pl (.u8 x16), .pl (.u8 x17), .pl (.u8 x18), .pl (.u8 x19), .pl (.u8 x20), .pl (.u8 x21), .pl (.u8 x22), .pl (.u8 x23), .pl (.u8 x24), .pl (.u8 x25), .pl (.u8 x26), .pl (.u8 x27), .pl (.u8 x28), .pl (.u8 x29), .pl (.u8 x30), .pl (.u8 x31)])] [(1000000, ⟨false, [.pl (.u64 18446744073709551597), .pl (.u64 18446744073709551615), .pl (.u64 18446744073709551615), .pl (.u64 9223372036854775807)]⟩), (1000001, ⟨false, u64C prdL⟩)] (Told (fun v m => v = .w (.one (.pl (.b true))) ∧ m = [])) := by
 have hF := from_x x0 x1 x2 x3 x4 x5 x6 x7 x8 x9 x10 x11 x12 x13 x14 x15 x16 x17 x18 x19 x20 x21 x22 x23 x24 x25 x26 x27 x28 x29 x30 x31
 have hG := rfrom_x x0 x1 x2 x3 x4 x5 x6 x7 x8 x9 x10 x11 x12 x13 x14 x15 x16 x17 x18 x19 x20 x21 x22 x23 x24 x25 x26 x27 x28 x29 x30 x31
 obtain ⟨s0, s1, s2, s3, hs, hvs⟩ := w4_get (vQ (orW x0 x1 x2 x3 x4 x5 x6 x7) (orW x8 x9 x10 x11 x12 x13 x14 x15) (orW x16 x17 x18 x19 x20 x21 x22 x23) (orW x24 x25 x26 x27 x28 x29 x30 x31 &&& 9223372036854775807) % p25) (mod_m4 _)
 have hus : u64C [s0, s1, s2, s3] = [.pl (.u64 s0), .pl (.u64 s1), .pl (.u64 s2), .pl (.u64 s3)] := rfl
 simp only [w4C, hs, hus] at hF hG
 have hB := bytes_ok a b c d h1
 have hR := rbytes_ok a b c d h1
 obtain ⟨q, hq⟩ : ∃ q, by4 a b c d = q := ⟨_, rfl⟩
 have hql : q.length = 32 := by rw [← hq]; rfl
 rw [hq] at hB hR
 have hsf := same25 hql
 refine CtM.k Tryd.func3 rfl Tryd.ntmps3 (congrArg Array.toList Tryd.results3) (by simp) fun w0 ro may fx => ?_
 refine sr_k fun K1 hK1 => ?_
 simp only [go_sem, hsf, hql]
 repeat' (first | apply And.intro | intro _)
 refine hK1 _ ?_
 refine sr_k fun K2 hK2 => ?_
 simp only [go_sem, hsf, hql]
 repeat' (first | apply And.intro | intro _)
 all_goals (refine call_hand false [] (fun k => k) (fun _ _ => rfl) ?_ (by decide) ?_ hB.told ?_; iterate 2 (focus (first | rfl | (simp only [go_sem, hsf, hql] <;> first | done | rfl | simp))))
 all_goals (rintro v m ⟨hR, hm⟩; subst hR; subst hm)
 all_goals (refine And.intro ?_ (And.intro ?_ (And.intro ?_ ?_)); iterate 3 (focus (first | rfl | (simp only [go_sem, hsf, hql]; done) | (simp [go_sem, look, hsf, hql]; done))))
 all_goals (try simp only [go_sem, hsf, hql])
 all_goals (try simp only [go_sem, hsf, hql])
 all_goals repeat' (first | apply And.intro | intro _)
 refine hK2 _ ?_
 refine sr_k fun K3 hK3 => ?_
 simp only [go_sem, hsf, hql]
 repeat' (first | apply And.intro | intro _)
 all_goals (refine call_hand false [] (fun k => k) (fun _ _ => rfl) ?_ (by decide) ?_ hF.told ?_; iterate 2 (focus (first | rfl | (simp only [go_sem, hsf, hql] <;> first | done | rfl | simp))))
 all_goals (rintro v m ⟨hR, hm⟩; subst hR; subst hm)
 all_goals (refine And.intro ?_ (And.intro ?_ (And.intro ?_ ?_)); iterate 3 (focus (first | rfl | (simp only [go_sem, hsf, hql]; done) | (simp [go_sem, look, hsf, hql]; done))))
 all_goals (try simp only [go_sem, hsf, hql])
 all_goals (try simp only [go_sem, hsf, hql])
 all_goals repeat' (first | apply And.intro | intro _)
 refine hK3 _ ?_
 refine sr_k fun K4 hK4 => ?_
 simp only [go_sem, hsf, hql]
 repeat' (first | apply And.intro | intro _)
 all_goals (refine call_hand false [] (fun k => k) (fun _ _ => rfl) ?_ (by decide) ?_ hR.told ?_; iterate 2 (focus (first | rfl | (simp only [go_sem, hsf, hql] <;> first | done | rfl | simp))))
 all_goals (rintro v m ⟨hR, hm⟩; subst hR; subst hm)
 all_goals (refine And.intro ?_ (And.intro ?_ (And.intro ?_ ?_)); iterate 3 (focus (first | rfl | (simp only [go_sem, hsf, hql]; done) | (simp [go_sem, look, hsf, hql]; done))))
 all_goals (try simp only [go_sem, hsf, hql])
 all_goals (try simp only [go_sem, hsf, hql])
 all_goals repeat' (first | apply And.intro | intro _)
 refine hK4 _ ?_
 refine sr_k fun K5 hK5 => ?_
 simp only [go_sem, hsf, hql]
 repeat' (first | apply And.intro | intro _)
 all_goals (refine call_hand false [] (fun k => k) (fun _ _ => rfl) ?_ (by decide) ?_ hG.told ?_; iterate 2 (focus (first | rfl | (simp only [go_sem, hsf, hql] <;> first | done | rfl | simp))))
 all_goals (rintro v m ⟨hR, hm⟩; subst hR; subst hm)
 all_goals (refine And.intro ?_ (And.intro ?_ (And.intro ?_ ?_)); iterate 3 (focus (first | rfl | (simp only [go_sem, hsf, hql]; done) | (simp [go_sem, look, hsf, hql]; done))))
 all_goals (try simp only [go_sem, hsf, hql])
 all_goals (try simp only [go_sem, hsf, hql])
 all_goals repeat' (first | apply And.intro | intro _)
 refine hK5 _ ?_
 refine sr_k fun K6 hK6 => ?_
 simp only [go_sem, hsf, hql]
 repeat' (first | apply And.intro | intro _)
 refine hK6 _ ?_
 refine ret_k ?_
 simp only [go_sem, hsf, hql]
 all_goals (exact told_plain rfl ⟨rfl, rfl⟩)
theorem fieldbytes (a b c d : UInt64) (l : List UInt8) (hl : l.length = 32) : CtM Tryd.prog 3 [.w (.agg [.pl (.u64 a), .pl (.u64 b), .pl (.u64 c), .pl (.u64 d)]), .w (.agg (bytesC l))] (globM [(1000000, primeU.map PL.u64), (1000001, prdL.map PL.u64)]) (Told (fun v m => v = .w (.one (.pl (.b true))) ∧ m = [])) := by
 obtain ⟨x0, l0, rfl, e0⟩ := cons_of hl
 obtain ⟨x1, l1, rfl, e1⟩ := cons_of e0
 obtain ⟨x2, l2, rfl, e2⟩ := cons_of e1
 obtain ⟨x3, l3, rfl, e3⟩ := cons_of e2
 obtain ⟨x4, l4, rfl, e4⟩ := cons_of e3
 obtain ⟨x5, l5, rfl, e5⟩ := cons_of e4
 obtain ⟨x6, l6, rfl, e6⟩ := cons_of e5
 obtain ⟨x7, l7, rfl, e7⟩ := cons_of e6
 obtain ⟨x8, l8, rfl, e8⟩ := cons_of e7
 obtain ⟨x9, l9, rfl, e9⟩ := cons_of e8
 obtain ⟨x10, l10, rfl, e10⟩ := cons_of e9
 obtain ⟨x11, l11, rfl, e11⟩ := cons_of e10
 obtain ⟨x12, l12, rfl, e12⟩ := cons_of e11
 obtain ⟨x13, l13, rfl, e13⟩ := cons_of e12
 obtain ⟨x14, l14, rfl, e14⟩ := cons_of e13
 obtain ⟨x15, l15, rfl, e15⟩ := cons_of e14
 obtain ⟨x16, l16, rfl, e16⟩ := cons_of e15
 obtain ⟨x17, l17, rfl, e17⟩ := cons_of e16
 obtain ⟨x18, l18, rfl, e18⟩ := cons_of e17
 obtain ⟨x19, l19, rfl, e19⟩ := cons_of e18
 obtain ⟨x20, l20, rfl, e20⟩ := cons_of e19
 obtain ⟨x21, l21, rfl, e21⟩ := cons_of e20
 obtain ⟨x22, l22, rfl, e22⟩ := cons_of e21
 obtain ⟨x23, l23, rfl, e23⟩ := cons_of e22
 obtain ⟨x24, l24, rfl, e24⟩ := cons_of e23
 obtain ⟨x25, l25, rfl, e25⟩ := cons_of e24
 obtain ⟨x26, l26, rfl, e26⟩ := cons_of e25
 obtain ⟨x27, l27, rfl, e27⟩ := cons_of e26
 obtain ⟨x28, l28, rfl, e28⟩ := cons_of e27
 obtain ⟨x29, l29, rfl, e29⟩ := cons_of e28
 obtain ⟨x30, l30, rfl, e30⟩ := cons_of e29
 obtain ⟨x31, l31, rfl, e31⟩ := cons_of e30
 obtain rfl := List.eq_nil_of_length_eq_zero e31
 by_cases h1 : vQ a b c d < p25
 · exact fieldbytes_ok a b c d x0 x1 x2 x3 x4 x5 x6 x7 x8 x9 x10 x11 x12 x13 x14 x15 x16 x17 x18 x19 x20 x21 x22 x23 x24 x25 x26 x27 x28 x29 x30 x31 h1
 · exact fieldbytes_bad a b c d x0 x1 x2 x3 x4 x5 x6 x7 x8 x9 x10 x11 x12 x13 x14 x15 x16 x17 x18 x19 x20 x21 x22 x23 x24 x25 x26 x27 x28 x29 x30 x31 h1
end Go.Sy

