/- A point multiplied on the ladder. -/
import Derived.Test.YthngiogkogeigaaDoorvhL6
import Derived.Test.YthngiogkogeigaaDoorvhL2
import Derived.Test.YthngiogkogeigaaDoorvhL3
import Derived.Test.YthngiogkogeigaaDoorvhK14
import Derived.Test.YthngiogkogeigaaDoorvhK17
set_option linter.unusedVariables false
set_option linter.unusedSimpArgs false
namespace Go.Sy
open Go.Proofs
attribute [local irreducible] atCall HT runOps runD onC onE onO onG goV goA goS onSt onGuard
def lastU (b : Bool) : UInt64 := if b then 1 else 0
def rungL (p q : Pt) : List L := w4C p.x ++ (w4C q.x ++ (w4C p.z ++ w4C q.z))
def rungC (k : List UInt8) (U y : Nat) : List L := if lastB k y then rungL (oft k U (255 - y)).2 (oft k U (255 - y)).1 else rungL (oft k U (255 - y)).1 (oft k U (255 - y)).2
theorem rung_F {k : List UInt8} {U y : Nat} {P Q : Pt} (h : lastB k y = false) (hP : (oft k U (255 - y)).1 = P) (hQ : (oft k U (255 - y)).2 = Q) : rungC k U y = rungL P Q := by rw [rungC, h, hP, hQ]; rfl
theorem rung_T {k : List UInt8} {U y : Nat} {P Q : Pt} (h : lastB k y = true) (hP : (oft k U (255 - y)).1 = P) (hQ : (oft k U (255 - y)).2 = Q) : rungC k U y = rungL Q P := by rw [rungC, h, hP, hQ]; rfl
theorem last_at {k : List UInt8} {t : Nat} (ht : t < 255) : lastB k t = decide (bitB k t = 1) := by simp [lastB, ht]
theorem oft_T {k : List UInt8} {U t : Nat} {P Q : Pt} (ht : t < 255) (hP : (oft k U (255 - (t + 1))).1 = P) (hQ : (oft k U (255 - (t + 1))).2 = Q) (hb : bitB k t = 1) : oft k U (255 - t) = (withR P Q U, dblR Q) := by
 rw [show 255 - t = (255 - (t + 1)) + 1 from by omega, oft, hP, hQ, show 254 - (255 - (t + 1)) = t from by omega, if_pos hb]
theorem oft_F {k : List UInt8} {U t : Nat} {P Q : Pt} (ht : t < 255) (hP : (oft k U (255 - (t + 1))).1 = P) (hQ : (oft k U (255 - (t + 1))).2 = Q) (hb : ¬ bitB k t = 1) : oft k U (255 - t) = (dblR P, withR P Q U) := by
 rw [show 255 - t = (255 - (t + 1)) + 1 from by omega, oft, hP, hQ, show 254 - (255 - (t + 1)) = t from by omega, if_neg hb]
theorem w4C_zero : w4C 0 = [.pl (.u64 0), .pl (.u64 0), .pl (.u64 0), .pl (.u64 0)] := by rw [w4C, show w4 0 = [0, 0, 0, 0] from by decide +kernel]; rfl
set_option maxHeartbeats 6400000 in
set_option maxRecDepth 100000 in
theorem lmult (k u : List UInt8) (hk : k.length = 32) (hu : u.length = 32) :
 CtM Tryd.prog 6 [.w (.agg (bytesC k)), .w (.agg (bytesC u))] [(1000001, ⟨false, [.pl (.u64 18446744073709551597), .pl (.u64 18446744073709551615), .pl (.u64 18446744073709551615), .pl (.u64 9223372036854775807)]⟩)] (Told (fun v m => v = tell (ladN k u) ∧ m = [])) := by
 obtain ⟨kc, hkc⟩ : ∃ q, clampB k = q := ⟨_, rfl⟩
 have hkl : kc.length = 32 := by rw [← hkc]; exact clampB_length hk
 obtain ⟨U, hU⟩ : ∃ n, frN u = n := ⟨_, rfl⟩
 have hUl : U < p25 := by rw [← hU]; exact frN_lt u
 have hC := clamp_ k hk
 rw [hkc] at hC
 have hF := from_ u hu
 rw [hU] at hF
 obtain ⟨f0, f1, f2, f3, hf, hvf⟩ := w4_get U (pm4 hUl)
 have huf : w4C U = [.pl (.u64 f0), .pl (.u64 f1), .pl (.u64 f2), .pl (.u64 f3)] := by rw [w4C, hf]; rfl
 rw [huf] at hF
 have hst8 : lastU (lastB kc 255) = 0 := by rw [lastB]; rfl
 have hst7 : rungC kc U 255 = [.pl (.u64 1), .pl (.u64 0), .pl (.u64 0), .pl (.u64 0), .pl (.u64 f0), .pl (.u64 f1), .pl (.u64 f2), .pl (.u64 f3), .pl (.u64 0), .pl (.u64 0), .pl (.u64 0), .pl (.u64 0), .pl (.u64 1), .pl (.u64 0), .pl (.u64 0), .pl (.u64 0)] := by
  rw [rung_F (P := ⟨1, 0⟩) (Q := ⟨U, 1⟩) (by rw [lastB]; rfl) rfl rfl, rungL]
  simp only [w4C_one, w4C_zero, huf]; rfl
 have F0 := And.intro hk <| And.intro hu <| hkl
 refine CtM.k Tryd.func6 rfl Tryd.ntmps6 (congrArg Array.toList Tryd.results6) (by simp) fun w0 ro may fx => ?_
 refine sr_k fun K1 hK1 => ?_
 simp only [go_sem, F0]
 repeat' (first | apply And.intro | intro _)
 refine hK1 _ ?_
 refine sr_k fun K2 hK2 => ?_
 simp only [go_sem, F0]
 repeat' (first | apply And.intro | intro _)
 all_goals refine call_view (fun k => k) (fun _ _ => rfl) (by first | rfl | (simp only [go_sem, F0] <;> rfl)) ((hC).plain fun _ _ h => h) ?_
 all_goals (rintro v m ⟨hR, hm⟩; subst hR; subst hm)
 all_goals refine And.intro (by first | rfl | simp only [go_sem, F0]) (And.intro (by first | rfl | simp only [go_sem, F0]) ?_)
 all_goals simp only [go_sem, F0]
 all_goals repeat' (first | apply And.intro | intro _)
 refine hK2 _ ?_
 refine sr_k fun K3 hK3 => ?_
 simp only [go_sem, F0]
 repeat' (first | apply And.intro | intro _)
 all_goals (refine call_hand false [] (fun k => k) (fun _ _ => rfl) ?_ (by decide) ?_ hF.told ?_; iterate 2 (focus (first | rfl | (simp only [go_sem, F0] <;> first | done | rfl | simp))))
 all_goals (rintro v m ⟨hR, hm⟩; subst hR; subst hm)
 all_goals (refine And.intro ?_ (And.intro ?_ (And.intro ?_ ?_)); iterate 3 (focus (first | rfl | (simp only [go_sem, F0]; done) | (simp [go_sem, look, F0]; done))))
 all_goals (try simp only [go_sem, F0])
 all_goals (try simp only [go_sem, F0])
 all_goals repeat' (first | apply And.intro | intro _)
 refine hK3 _ ?_
 refine sr_k fun K4 hK4 => ?_
 simp only [go_sem, F0]
 repeat' (first | apply And.intro | intro _)
 refine hK4 _ ?_
 refine sr_k fun K5 hK5 => ?_
 simp only [go_sem, F0]
 repeat' (first | apply And.intro | intro _)
 refine hK5 _ ?_
 refine seq_k fun N6 M6 hN6 hM6 => ?_
 refine sr_k fun K7 hK7 => ?_
 simp only [go_sem, F0]
 repeat' (first | apply And.intro | intro _)
 refine hK7 _ ?_
 refine block_k fun B8 bn8 bx8 br8 bi8 => ?_
 refine ht_dropE [0, 1, 3, 15, 16, 17, 18, 19, 20, 21, 22, 23, 24, 25] ?_
 simp only [dropE_mk, fgt_nil, fgt_cons, List.contains_cons, List.contains_nil, Nat.reduceBEq, beq_self_eq_true, Bool.or_false, Bool.or_true, Bool.true_or, Bool.false_or, Bool.false_eq_true, reduceIte]
 refine loop_k (fun y => [(9, .w (.one (.pl (.i (dn y.1))))), (8, .w (.one (.pl (.u64 (lastU (lastB kc y.1))))))]) (fun y => [(7, ⟨false, rungC kc U y.1⟩)]) (fun y => y.1) (⟨255, Nat.le_refl _⟩ : {y : Nat // y ≤ 255}) ?_ ?_ ?_
 · (simp only [hst8, go_sem, leX, List.cons_append, List.nil_append]; first | done | rfl | (simp [dn]; done))
 · (simp only [hst7, go_sem, leX, List.cons_append, List.nil_append]; first | done | rfl | (simp [leX, look]; done))
 intro yy N9 M9 hN9 hM9
 simp only [List.cons_append, List.nil_append]
 obtain ⟨j, hj9⟩ := yy
 have hok := oft_ok kc hUl (255 - j)
 obtain ⟨⟨P1, P2⟩, hP⟩ : ∃ p, (oft kc U (255 - j)).1 = p := ⟨_, rfl⟩
 obtain ⟨⟨Q1, Q2⟩, hQ⟩ : ∃ p, (oft kc U (255 - j)).2 = p := ⟨_, rfl⟩
 rw [hP, hQ] at hok
 obtain ⟨⟨l0, l1⟩, ⟨l2, l3⟩⟩ := hok
 change P1 < p25 at l0
 change P2 < p25 at l1
 change Q1 < p25 at l2
 change Q2 < p25 at l3
 have hd : (j = 0 ∧ lastB kc j = false) ∨ (j = 0 ∧ lastB kc j = true) ∨ (∃ t, j = t + 1 ∧ lastB kc j = false ∧ ¬ bitB kc t = 1) ∨ (∃ t, j = t + 1 ∧ lastB kc j = false ∧ bitB kc t = 1) ∨ (∃ t, j = t + 1 ∧ lastB kc j = true ∧ ¬ bitB kc t = 1) ∨ (∃ t, j = t + 1 ∧ lastB kc j = true ∧ bitB kc t = 1) := by
  cases hx : lastB kc j <;> cases j with
  | zero => simp
  | succ t => by_cases hy : bitB kc t = 1 <;> simp [hy]
 rcases hd with ⟨rfl, hL⟩ | ⟨rfl, hL⟩ | ⟨t, rfl, hL, hbit⟩ | ⟨t, rfl, hL, hbit⟩ | ⟨t, rfl, hL, hbit⟩ | ⟨t, rfl, hL, hbit⟩
 · obtain ⟨n, hn⟩ : ∃ n, fM P1 (pw P2 eP) = n := ⟨_, rfl⟩
   have hnl : n < p25 := by rw [← hn]; exact fM_lt _ _
   have hlad : ladN k u = n := by
    rw [ladN, hkc, hU]
    change (oft kc U 255).1 = _ at hP
    rw [hP, hn]
   obtain ⟨b, hb⟩ : ∃ b, wB n = b := ⟨_, rfl⟩
   have hbl : b.length = 32 := by rw [← hb]; exact wB_length n
   have hne := ne22 hbl
   obtain ⟨s0, s1, s2, s3, hs, hvs⟩ := w4_get n (pm4 hnl)
   have hus : w4C n = [.pl (.u64 s0), .pl (.u64 s1), .pl (.u64 s2), .pl (.u64 s3)] := by rw [w4C, hs]; rfl
   have hbs : by4 s0 s1 s2 s3 = b := by rw [← hb]; exact wB_of hs
   have hi : dn 0 = -1 := rfl
   obtain ⟨fx0, fx1, fx2, fx3, hfx, hvfx⟩ := w4_get (P1) (pm4 l0)
   have hufx : w4C (P1) = [.pl (.u64 fx0), .pl (.u64 fx1), .pl (.u64 fx2), .pl (.u64 fx3)] := by rw [w4C, hfx]; rfl
   obtain ⟨fz0, fz1, fz2, fz3, hfz, hvfz⟩ := w4_get (P2) (pm4 l1)
   have hufz : w4C (P2) = [.pl (.u64 fz0), .pl (.u64 fz1), .pl (.u64 fz2), .pl (.u64 fz3)] := by rw [w4C, hfz]; rfl
   obtain ⟨sx0, sx1, sx2, sx3, hsx, hvsx⟩ := w4_get (Q1) (pm4 l2)
   have husx : w4C (Q1) = [.pl (.u64 sx0), .pl (.u64 sx1), .pl (.u64 sx2), .pl (.u64 sx3)] := by rw [w4C, hsx]; rfl
   obtain ⟨sz0, sz1, sz2, sz3, hsz, hvsz⟩ := w4_get (Q2) (pm4 l3)
   have husz : w4C (Q2) = [.pl (.u64 sz0), .pl (.u64 sz1), .pl (.u64 sz2), .pl (.u64 sz3)] := by rw [w4C, hsz]; rfl
   have hr : rungC kc U 0 = [.pl (.u64 fx0), .pl (.u64 fx1), .pl (.u64 fx2), .pl (.u64 fx3), .pl (.u64 sx0), .pl (.u64 sx1), .pl (.u64 sx2), .pl (.u64 sx3), .pl (.u64 fz0), .pl (.u64 fz1), .pl (.u64 fz2), .pl (.u64 fz3), .pl (.u64 sz0), .pl (.u64 sz1), .pl (.u64 sz2), .pl (.u64 sz3)] := by rw [rung_F hL hP hQ, rungL]; simp only [hufx, hufz, husx, husz]; rfl
   have hl8 : lastU (lastB kc 0) = 0 := by rw [hL]; rfl
   have hS := swap0 fx0 fx1 fx2 fx3 sx0 sx1 sx2 sx3 fz0 fz1 fz2 fz3 sz0 sz1 sz2 sz3
   have hI := inv_ok fz0 fz1 fz2 fz3 (by rw [hvfz]; exact l1)
   rw [hvfz] at hI
   obtain ⟨iv0, iv1, iv2, iv3, hiv, hviv⟩ := w4_get (pw P2 eP) (pm4 (pw_lt _ _))
   have huiv : w4C (pw P2 eP) = [.pl (.u64 iv0), .pl (.u64 iv1), .pl (.u64 iv2), .pl (.u64 iv3)] := by rw [w4C, hiv]; rfl
   rw [huiv] at hI
   have hM := lmul fx0 fx1 fx2 fx3 iv0 iv1 iv2 iv3 (by rw [hvfx]; exact l0) (by rw [hviv]; exact pw_lt _ _)
   rw [hvfx, hviv, hn, hus] at hM
   have hB := bytes_ok s0 s1 s2 s3 (by rw [hvs]; exact hnl)
   rw [hbs] at hB
   simp only [hr, hl8]
   have F9 := And.intro hi <| And.intro hbl <| hne
   refine seq_k fun N10 M10 hN10 hM10 => ?_
   refine sr_k fun K11 hK11 => ?_
   simp only [go_sem, F0, F9]
   repeat' (first | apply And.intro | intro _)
   refine hK11 _ ?_
   refine condF_k (by first | rfl | (simp [go_sem, F0, F9]; done)) ?_
   refine exit_k ?_
   refine hM10 _ _ ?_
   refine hM9 _ _ ?_
   refine bx8 _ ?_
   refine hN6 _ ?_
   refine sr_k fun K12 hK12 => ?_
   simp only [go_sem, F0, F9]
   repeat' (first | apply And.intro | intro _)
   all_goals refine call_view (fun k => k) (fun _ _ => rfl) (by first | rfl | (simp only [go_sem, F0, F9] <;> rfl)) ((hS).plain fun _ _ h => h) ?_
   all_goals (rintro v m ⟨hR, hm⟩; subst hR; subst hm)
   all_goals refine And.intro (by first | rfl | simp only [go_sem, F0, F9]) (And.intro (by first | rfl | simp only [go_sem, F0, F9]) ?_)
   all_goals simp only [go_sem, F0, F9]
   all_goals repeat' (first | apply And.intro | intro _)
   refine hK12 _ ?_
   refine sr_k fun K13 hK13 => ?_
   simp only [go_sem, F0, F9]
   repeat' (first | apply And.intro | intro _)
   all_goals (refine call_hand false [] (fun k => k) (fun _ _ => rfl) ?_ (by decide) ?_ hI.told ?_; iterate 2 (focus (first | rfl | (simp only [go_sem, F0, F9] <;> first | done | rfl | simp))))
   all_goals (rintro v m ⟨hR, hm⟩; subst hR; subst hm)
   all_goals (refine And.intro ?_ (And.intro ?_ (And.intro ?_ ?_)); iterate 3 (focus (first | rfl | (simp only [go_sem, F0, F9]; done) | (simp [go_sem, look, F0, F9]; done))))
   all_goals (try simp only [go_sem, F0, F9])
   all_goals (try simp only [go_sem, F0, F9])
   all_goals repeat' (first | apply And.intro | intro _)
   refine hK13 _ ?_
   refine sr_k fun K14 hK14 => ?_
   simp only [go_sem, F0, F9]
   repeat' (first | apply And.intro | intro _)
   all_goals (refine call_hand false [] (fun k => k) (fun _ _ => rfl) ?_ (by decide) ?_ hM.told ?_; iterate 2 (focus (first | rfl | (simp only [go_sem, F0, F9] <;> first | done | rfl | simp))))
   all_goals (rintro v m ⟨hR, hm⟩; subst hR; subst hm)
   all_goals (refine And.intro ?_ (And.intro ?_ (And.intro ?_ ?_)); iterate 3 (focus (first | rfl | (simp only [go_sem, F0, F9]; done) | (simp [go_sem, look, F0, F9]; done))))
   all_goals (try simp only [go_sem, F0, F9])
   all_goals (try simp only [go_sem, F0, F9])
   all_goals repeat' (first | apply And.intro | intro _)
   all_goals (refine call_hand false [] (fun k => k) (fun _ _ => rfl) ?_ (by decide) ?_ hB.told ?_; iterate 2 (focus (first | rfl | (simp only [go_sem, F0, F9] <;> first | done | rfl | simp))))
   all_goals (rintro v m ⟨hR, hm⟩; subst hR; subst hm)
   all_goals (refine And.intro ?_ (And.intro ?_ (And.intro ?_ ?_)); iterate 3 (focus (first | rfl | (simp only [go_sem, F0, F9]; done) | (simp [go_sem, look, F0, F9]; done))))
   all_goals (try simp only [go_sem, F0, F9])
   all_goals (try simp only [go_sem, F0, F9])
   all_goals repeat' (first | apply And.intro | intro _)
   refine hK14 _ ?_
   refine sd_k [66, 67, 68, 69, 5] [0, 0, 0, 6, 1, 31] [(1, 4), (2, 4), (3, 4)] mixed (by kernel_rfl) (by simp only [go_sem]) fun K15 hK15 => ?_
   simp only [go_sem, F0, F9]
   repeat' (first | apply And.intro | intro _)
   refine hK15 _ _ ?_ ?_
   · first | trivial | (simp only [go_sem]; done) | (simp only [go_sem]; simp; done) | (simp only [go_sem]; simp; simp only [go_sem])
   refine ret_k ?_
   simp only [go_sem, F0, F9]
   all_goals (exact told_plain (by simp [plainV, plainW, bytesC]) ⟨by rw [hlad, tell, hb], rfl⟩)
 · obtain ⟨n, hn⟩ : ∃ n, fM P1 (pw P2 eP) = n := ⟨_, rfl⟩
   have hnl : n < p25 := by rw [← hn]; exact fM_lt _ _
   have hlad : ladN k u = n := by
    rw [ladN, hkc, hU]
    change (oft kc U 255).1 = _ at hP
    rw [hP, hn]
   obtain ⟨b, hb⟩ : ∃ b, wB n = b := ⟨_, rfl⟩
   have hbl : b.length = 32 := by rw [← hb]; exact wB_length n
   have hne := ne22 hbl
   obtain ⟨s0, s1, s2, s3, hs, hvs⟩ := w4_get n (pm4 hnl)
   have hus : w4C n = [.pl (.u64 s0), .pl (.u64 s1), .pl (.u64 s2), .pl (.u64 s3)] := by rw [w4C, hs]; rfl
   have hbs : by4 s0 s1 s2 s3 = b := by rw [← hb]; exact wB_of hs
   have hi : dn 0 = -1 := rfl
   obtain ⟨fx0, fx1, fx2, fx3, hfx, hvfx⟩ := w4_get (P1) (pm4 l0)
   have hufx : w4C (P1) = [.pl (.u64 fx0), .pl (.u64 fx1), .pl (.u64 fx2), .pl (.u64 fx3)] := by rw [w4C, hfx]; rfl
   obtain ⟨fz0, fz1, fz2, fz3, hfz, hvfz⟩ := w4_get (P2) (pm4 l1)
   have hufz : w4C (P2) = [.pl (.u64 fz0), .pl (.u64 fz1), .pl (.u64 fz2), .pl (.u64 fz3)] := by rw [w4C, hfz]; rfl
   obtain ⟨sx0, sx1, sx2, sx3, hsx, hvsx⟩ := w4_get (Q1) (pm4 l2)
   have husx : w4C (Q1) = [.pl (.u64 sx0), .pl (.u64 sx1), .pl (.u64 sx2), .pl (.u64 sx3)] := by rw [w4C, hsx]; rfl
   obtain ⟨sz0, sz1, sz2, sz3, hsz, hvsz⟩ := w4_get (Q2) (pm4 l3)
   have husz : w4C (Q2) = [.pl (.u64 sz0), .pl (.u64 sz1), .pl (.u64 sz2), .pl (.u64 sz3)] := by rw [w4C, hsz]; rfl
   have hr : rungC kc U 0 = [.pl (.u64 sx0), .pl (.u64 sx1), .pl (.u64 sx2), .pl (.u64 sx3), .pl (.u64 fx0), .pl (.u64 fx1), .pl (.u64 fx2), .pl (.u64 fx3), .pl (.u64 sz0), .pl (.u64 sz1), .pl (.u64 sz2), .pl (.u64 sz3), .pl (.u64 fz0), .pl (.u64 fz1), .pl (.u64 fz2), .pl (.u64 fz3)] := by rw [rung_T hL hP hQ, rungL]; simp only [hufx, hufz, husx, husz]; rfl
   have hl8 : lastU (lastB kc 0) = 1 := by rw [hL]; rfl
   have hS := swap1 sx0 sx1 sx2 sx3 fx0 fx1 fx2 fx3 sz0 sz1 sz2 sz3 fz0 fz1 fz2 fz3
   have hI := inv_ok fz0 fz1 fz2 fz3 (by rw [hvfz]; exact l1)
   rw [hvfz] at hI
   obtain ⟨iv0, iv1, iv2, iv3, hiv, hviv⟩ := w4_get (pw P2 eP) (pm4 (pw_lt _ _))
   have huiv : w4C (pw P2 eP) = [.pl (.u64 iv0), .pl (.u64 iv1), .pl (.u64 iv2), .pl (.u64 iv3)] := by rw [w4C, hiv]; rfl
   rw [huiv] at hI
   have hM := lmul fx0 fx1 fx2 fx3 iv0 iv1 iv2 iv3 (by rw [hvfx]; exact l0) (by rw [hviv]; exact pw_lt _ _)
   rw [hvfx, hviv, hn, hus] at hM
   have hB := bytes_ok s0 s1 s2 s3 (by rw [hvs]; exact hnl)
   rw [hbs] at hB
   simp only [hr, hl8]
   have F15 := And.intro hi <| And.intro hbl <| hne
   refine seq_k fun N16 M16 hN16 hM16 => ?_
   refine sr_k fun K17 hK17 => ?_
   simp only [go_sem, F0, F15]
   repeat' (first | apply And.intro | intro _)
   refine hK17 _ ?_
   refine condF_k (by first | rfl | (simp [go_sem, F0, F15]; done)) ?_
   refine exit_k ?_
   refine hM16 _ _ ?_
   refine hM9 _ _ ?_
   refine bx8 _ ?_
   refine hN6 _ ?_
   refine sr_k fun K18 hK18 => ?_
   simp only [go_sem, F0, F15]
   repeat' (first | apply And.intro | intro _)
   all_goals refine call_view (fun k => k) (fun _ _ => rfl) (by first | rfl | (simp only [go_sem, F0, F15] <;> rfl)) ((hS).plain fun _ _ h => h) ?_
   all_goals (rintro v m ⟨hR, hm⟩; subst hR; subst hm)
   all_goals refine And.intro (by first | rfl | simp only [go_sem, F0, F15]) (And.intro (by first | rfl | simp only [go_sem, F0, F15]) ?_)
   all_goals simp only [go_sem, F0, F15]
   all_goals repeat' (first | apply And.intro | intro _)
   refine hK18 _ ?_
   refine sr_k fun K19 hK19 => ?_
   simp only [go_sem, F0, F15]
   repeat' (first | apply And.intro | intro _)
   all_goals (refine call_hand false [] (fun k => k) (fun _ _ => rfl) ?_ (by decide) ?_ hI.told ?_; iterate 2 (focus (first | rfl | (simp only [go_sem, F0, F15] <;> first | done | rfl | simp))))
   all_goals (rintro v m ⟨hR, hm⟩; subst hR; subst hm)
   all_goals (refine And.intro ?_ (And.intro ?_ (And.intro ?_ ?_)); iterate 3 (focus (first | rfl | (simp only [go_sem, F0, F15]; done) | (simp [go_sem, look, F0, F15]; done))))
   all_goals (try simp only [go_sem, F0, F15])
   all_goals (try simp only [go_sem, F0, F15])
   all_goals repeat' (first | apply And.intro | intro _)
   refine hK19 _ ?_
   refine sr_k fun K20 hK20 => ?_
   simp only [go_sem, F0, F15]
   repeat' (first | apply And.intro | intro _)
   all_goals (refine call_hand false [] (fun k => k) (fun _ _ => rfl) ?_ (by decide) ?_ hM.told ?_; iterate 2 (focus (first | rfl | (simp only [go_sem, F0, F15] <;> first | done | rfl | simp))))
   all_goals (rintro v m ⟨hR, hm⟩; subst hR; subst hm)
   all_goals (refine And.intro ?_ (And.intro ?_ (And.intro ?_ ?_)); iterate 3 (focus (first | rfl | (simp only [go_sem, F0, F15]; done) | (simp [go_sem, look, F0, F15]; done))))
   all_goals (try simp only [go_sem, F0, F15])
   all_goals (try simp only [go_sem, F0, F15])
   all_goals repeat' (first | apply And.intro | intro _)
   all_goals (refine call_hand false [] (fun k => k) (fun _ _ => rfl) ?_ (by decide) ?_ hB.told ?_; iterate 2 (focus (first | rfl | (simp only [go_sem, F0, F15] <;> first | done | rfl | simp))))
   all_goals (rintro v m ⟨hR, hm⟩; subst hR; subst hm)
   all_goals (refine And.intro ?_ (And.intro ?_ (And.intro ?_ ?_)); iterate 3 (focus (first | rfl | (simp only [go_sem, F0, F15]; done) | (simp [go_sem, look, F0, F15]; done))))
   all_goals (try simp only [go_sem, F0, F15])
   all_goals (try simp only [go_sem, F0, F15])
   all_goals repeat' (first | apply And.intro | intro _)
   refine hK20 _ ?_
   refine sd_k [66, 67, 68, 69, 5] [0, 0, 0, 6, 1, 31] [(1, 4), (2, 4), (3, 4)] mixed (by kernel_rfl) (by simp only [go_sem]) fun K21 hK21 => ?_
   simp only [go_sem, F0, F15]
   repeat' (first | apply And.intro | intro _)
   refine hK21 _ _ ?_ ?_
   · first | trivial | (simp only [go_sem]; done) | (simp only [go_sem]; simp; done) | (simp only [go_sem]; simp; simp only [go_sem])
   refine ret_k ?_
   simp only [go_sem, F0, F15]
   all_goals (exact told_plain (by simp [plainV, plainW, bytesC]) ⟨by rw [hlad, tell, hb], rfl⟩)
 · have ht : t < 255 := by omega
   obtain ⟨fx0, fx1, fx2, fx3, hfx, hvfx⟩ := w4_get (P1) (pm4 l0)
   have hufx : w4C (P1) = [.pl (.u64 fx0), .pl (.u64 fx1), .pl (.u64 fx2), .pl (.u64 fx3)] := by rw [w4C, hfx]; rfl
   obtain ⟨fz0, fz1, fz2, fz3, hfz, hvfz⟩ := w4_get (P2) (pm4 l1)
   have hufz : w4C (P2) = [.pl (.u64 fz0), .pl (.u64 fz1), .pl (.u64 fz2), .pl (.u64 fz3)] := by rw [w4C, hfz]; rfl
   obtain ⟨sx0, sx1, sx2, sx3, hsx, hvsx⟩ := w4_get (Q1) (pm4 l2)
   have husx : w4C (Q1) = [.pl (.u64 sx0), .pl (.u64 sx1), .pl (.u64 sx2), .pl (.u64 sx3)] := by rw [w4C, hsx]; rfl
   obtain ⟨sz0, sz1, sz2, sz3, hsz, hvsz⟩ := w4_get (Q2) (pm4 l3)
   have husz : w4C (Q2) = [.pl (.u64 sz0), .pl (.u64 sz1), .pl (.u64 sz2), .pl (.u64 sz3)] := by rw [w4C, hsz]; rfl
   have hr : rungC kc U (t + 1) = [.pl (.u64 fx0), .pl (.u64 fx1), .pl (.u64 fx2), .pl (.u64 fx3), .pl (.u64 sx0), .pl (.u64 sx1), .pl (.u64 sx2), .pl (.u64 sx3), .pl (.u64 fz0), .pl (.u64 fz1), .pl (.u64 fz2), .pl (.u64 fz3), .pl (.u64 sz0), .pl (.u64 sz1), .pl (.u64 sz2), .pl (.u64 sz3)] := by rw [rung_F hL hP hQ, rungL]; simp only [hufx, hufz, husx, husz]; rfl
   have hl8 : lastU (lastB kc (t + 1)) = 0 := by rw [hL]; rfl
   have hS := swap0 fx0 fx1 fx2 fx3 sx0 sx1 sx2 sx3 fz0 fz1 fz2 fz3 sz0 sz1 sz2 sz3
   have hT := lstep fx0 fx1 fx2 fx3 sx0 sx1 sx2 sx3 fz0 fz1 fz2 fz3 sz0 sz1 sz2 sz3 f0 f1 f2 f3 P1 Q1 P2 Q2 U hvfx l0 hvsx l2 hvfz l1 hvsz l3 hvf hUl
   rw [dbl_eq, with_eq] at hT
   obtain ⟨⟨D1, D2⟩, hD⟩ : ∃ p, dblR ⟨P1, P2⟩ = p := ⟨_, rfl⟩
   have hDo := dblR_ok ⟨P1, P2⟩
   obtain ⟨⟨E1, E2⟩, hE⟩ : ∃ p, withR ⟨P1, P2⟩ ⟨Q1, Q2⟩ U = p := ⟨_, rfl⟩
   have hEo := withR_ok ⟨P1, P2⟩ ⟨Q1, Q2⟩ U
   rw [hD] at hT hDo
   rw [hE] at hT hEo
   obtain ⟨m0, m1⟩ := hDo
   obtain ⟨m2, m3⟩ := hEo
   change D1 < p25 at m0
   change D2 < p25 at m1
   change E1 < p25 at m2
   change E2 < p25 at m3
   obtain ⟨gx0, gx1, gx2, gx3, hgx, hvgx⟩ := w4_get (D1) (pm4 m0)
   have hugx : w4C (D1) = [.pl (.u64 gx0), .pl (.u64 gx1), .pl (.u64 gx2), .pl (.u64 gx3)] := by rw [w4C, hgx]; rfl
   obtain ⟨gz0, gz1, gz2, gz3, hgz, hvgz⟩ := w4_get (D2) (pm4 m1)
   have hugz : w4C (D2) = [.pl (.u64 gz0), .pl (.u64 gz1), .pl (.u64 gz2), .pl (.u64 gz3)] := by rw [w4C, hgz]; rfl
   obtain ⟨ex0, ex1, ex2, ex3, hex, hvex⟩ := w4_get (E1) (pm4 m2)
   have huex : w4C (E1) = [.pl (.u64 ex0), .pl (.u64 ex1), .pl (.u64 ex2), .pl (.u64 ex3)] := by rw [w4C, hex]; rfl
   obtain ⟨ez0, ez1, ez2, ez3, hez, hvez⟩ := w4_get (E2) (pm4 m3)
   have huez : w4C (E2) = [.pl (.u64 ez0), .pl (.u64 ez1), .pl (.u64 ez2), .pl (.u64 ez3)] := by rw [w4C, hez]; rfl
   have hres : w4C D1 ++ (w4C E1 ++ (w4C D2 ++ w4C E2)) = [.pl (.u64 gx0), .pl (.u64 gx1), .pl (.u64 gx2), .pl (.u64 gx3), .pl (.u64 ex0), .pl (.u64 ex1), .pl (.u64 ex2), .pl (.u64 ex3), .pl (.u64 gz0), .pl (.u64 gz1), .pl (.u64 gz2), .pl (.u64 gz3), .pl (.u64 ez0), .pl (.u64 ez1), .pl (.u64 ez2), .pl (.u64 ez3)] := by simp only [hugx, hugz, huex, huez]; rfl
   simp only [hres] at hT
   have hlt2 : lastB kc t = false := by rw [last_at ht, decide_eq_false hbit]
   have hof := oft_F ht hP hQ hbit
   rw [hD, hE] at hof
   have hnx : rungC kc U t = [.pl (.u64 gx0), .pl (.u64 gx1), .pl (.u64 gx2), .pl (.u64 gx3), .pl (.u64 ex0), .pl (.u64 ex1), .pl (.u64 ex2), .pl (.u64 ex3), .pl (.u64 gz0), .pl (.u64 gz1), .pl (.u64 gz2), .pl (.u64 gz3), .pl (.u64 ez0), .pl (.u64 ez1), .pl (.u64 ez2), .pl (.u64 ez3)] := by
    rw [rung_F hlt2 (congrArg Prod.fst hof) (congrArg Prod.snd hof)]; exact hres
   have hln : lastU (lastB kc t) = 0 := by rw [hlt2]; rfl
   have o1 := u8_one (q := kc) (i := t / 8) (by omega)
   obtain ⟨c, hc8⟩ : ∃ c, kc.getD (t / 8) 0 = c := ⟨_, rfl⟩
   rw [hc8] at o1
   have hbw : (shr8 c (t % 8)).toUInt64 &&& 1 = 0 := by rw [bit_word, if_neg (by rw [← hc8]; exact hbit)]
   have hj : (0 : Int) ≤ ((t / 8 : Nat) : Int) ∧ ((t / 8 : Nat) : Int) < 32 ∧ t / 8 + 1 ≤ 32 ∧ (0 : Int) ≤ ((t % 8 : Nat) : Int) ∧ (0 : Int) ≤ ((t : Nat) : Int) := by omega
   have htd : ((t : Nat) : Int).tdiv 8 = ((t / 8 : Nat) : Int) := rfl
   have htm : ((t : Nat) : Int).tmod 8 = ((t % 8 : Nat) : Int) := rfl
   have hi : dn (t + 1) = ((t : Nat) : Int) := by unfold dn; omega
   simp only [hr, hl8]
   obtain ⟨hs1, hwd⟩ : Go.RowKit.wrap64 (((t : Nat) : Int) - 1) = dn t ∧ Go.RowKit.wrap64 ((t / 8 : Nat) : Int) = ((t / 8 : Nat) : Int) := ⟨wdn2 (by omega), wnat rfl (by omega)⟩
   have F21 := And.intro o1 <| And.intro hbw <| And.intro hj <| And.intro htd <| And.intro htm <| And.intro hi <| And.intro hs1 <| hwd
   refine seq_k fun N22 M22 hN22 hM22 => ?_
   refine sr_k fun K23 hK23 => ?_
   simp only [go_sem, F0, bytesC_1, x00, x01, x10, x11, F21]
   repeat' (first | apply And.intro | intro _)
   refine hK23 _ ?_
   refine condT_k (by first | rfl | (simp [go_sem, F0, bytesC_1, x00, x01, x10, x11, F21]; done)) ?_
   refine skip_k ?_
   refine hN22 _ ?_
   refine seq_k fun N24 M24 hN24 hM24 => ?_
   refine block_k fun B25 bn25 bx25 br25 bi25 => ?_
   refine sr_k fun K26 hK26 => ?_
   simp only [go_sem, F0, bytesC_1, x00, x01, x10, x11, F21]
   repeat' (first | apply And.intro | intro _)
   refine hK26 _ ?_
   refine seq_k fun N27 M27 hN27 hM27 => ?_
   refine dr_k mixed fun K28 hK28 => ?_
   refine dr_piece_k 6 [39, 40, 41, 42, 43, 44] [0, 0, 0, 6, 15, 0, 63, 127] [] rfl (by kernel_rfl) rfl (by simp only [go_sem]) fun N29 K29 hN29 hK29 => ?_
   simp only [go_sem, F0, bytesC_1, x00, x01, x10, x11, F21]
   repeat' (first | apply And.intro | intro _)
   all_goals refine call_draw (fun k => k) (.w (.agg [.pl (.u64 fx0), .pl (.u64 fx1), .pl (.u64 fx2), .pl (.u64 fx3), .pl (.u64 sx0), .pl (.u64 sx1), .pl (.u64 sx2), .pl (.u64 sx3), .pl (.u64 fz0), .pl (.u64 fz1), .pl (.u64 fz2), .pl (.u64 fz3), .pl (.u64 sz0), .pl (.u64 sz1), .pl (.u64 sz2), .pl (.u64 sz3)])) [] (fun _ _ => rfl) (by first | rfl | (simp only [go_sem, F0, bytesC_1, x00, x01, x10, x11, F21] <;> rfl)) ((hS).plain fun _ _ h => h) ?_ ?_
   all_goals try (refine And.intro ?_ (And.intro ?_ (And.intro ?_ ?_)) <;> first | rfl | simp only [go_sem])
   all_goals simp only [go_sem, F0, bytesC_1, x00, x01, x10, x11, F21]
   all_goals repeat' (first | apply And.intro | intro _)
   all_goals
    refine hK29 _ _ trivial (hN29 _ ?_)
    refine dr_runs_k 2 8 rfl (by kernel_rfl) rfl rfl fun N30 hN30 => ?_
    simp only [go_sem, F0, bytesC_1, x00, x01, x10, x11, F21]
    repeat' (first | apply And.intro | intro _)
    all_goals (refine call_hand false [] (fun k => k) (fun _ _ => rfl) ?_ (by decide) ?_ hT.told ?_; iterate 2 (focus (first | rfl | (simp only [go_sem, F0, bytesC_1, x00, x01, x10, x11, F21] <;> first | done | rfl | simp))))
    all_goals (rintro v m ⟨hR, hm⟩; subst hR; subst hm)
    all_goals (refine And.intro ?_ (And.intro ?_ (And.intro ?_ ?_)); iterate 3 (focus (first | rfl | (simp only [go_sem, F0, bytesC_1, x00, x01, x10, x11, F21]; done) | (simp [go_sem, look, F0, bytesC_1, x00, x01, x10, x11, F21]; done))))
    all_goals (try simp only [go_sem, F0, bytesC_1, x00, x01, x10, x11, F21])
    all_goals (try simp only [go_sem, F0, bytesC_1, x00, x01, x10, x11, F21])
    all_goals repeat' (first | apply And.intro | intro _)
    all_goals
     refine hN30 _ ?_
     refine dr_end rfl (hK28 _ ?_)
     refine hN27 _ ?_
     refine region_k fun K31 hK31 => ?_
     simp only [go_sem, F0, bytesC_1, x00, x01, x10, x11, F21]
     repeat' (first | apply And.intro | intro _)
     refine hK31 _ ?_
     refine bn25 _ ?_
     refine hN24 _ ?_
     refine region_k fun K32 hK32 => ?_
     simp only [go_sem, F0, bytesC_1, x00, x01, x10, x11, F21]
     repeat' (first | apply And.intro | intro _)
     refine hK32 _ ?_
     refine hN9 ⟨t, by omega⟩ _ ?_ ?_ ?_
     · (exact Nat.lt_succ_self t)
     · (simp only [hln, go_sem, leX, List.cons_append, List.nil_append]; first | done | rfl | (simp [leX, look]; done))
     · (simp only [hnx, go_sem, leX, List.cons_append, List.nil_append]; first | done | rfl | (simp [leX, look]; done))
 · have ht : t < 255 := by omega
   obtain ⟨fx0, fx1, fx2, fx3, hfx, hvfx⟩ := w4_get (Q1) (pm4 l2)
   have hufx : w4C (Q1) = [.pl (.u64 fx0), .pl (.u64 fx1), .pl (.u64 fx2), .pl (.u64 fx3)] := by rw [w4C, hfx]; rfl
   obtain ⟨fz0, fz1, fz2, fz3, hfz, hvfz⟩ := w4_get (Q2) (pm4 l3)
   have hufz : w4C (Q2) = [.pl (.u64 fz0), .pl (.u64 fz1), .pl (.u64 fz2), .pl (.u64 fz3)] := by rw [w4C, hfz]; rfl
   obtain ⟨sx0, sx1, sx2, sx3, hsx, hvsx⟩ := w4_get (P1) (pm4 l0)
   have husx : w4C (P1) = [.pl (.u64 sx0), .pl (.u64 sx1), .pl (.u64 sx2), .pl (.u64 sx3)] := by rw [w4C, hsx]; rfl
   obtain ⟨sz0, sz1, sz2, sz3, hsz, hvsz⟩ := w4_get (P2) (pm4 l1)
   have husz : w4C (P2) = [.pl (.u64 sz0), .pl (.u64 sz1), .pl (.u64 sz2), .pl (.u64 sz3)] := by rw [w4C, hsz]; rfl
   have hr : rungC kc U (t + 1) = [.pl (.u64 sx0), .pl (.u64 sx1), .pl (.u64 sx2), .pl (.u64 sx3), .pl (.u64 fx0), .pl (.u64 fx1), .pl (.u64 fx2), .pl (.u64 fx3), .pl (.u64 sz0), .pl (.u64 sz1), .pl (.u64 sz2), .pl (.u64 sz3), .pl (.u64 fz0), .pl (.u64 fz1), .pl (.u64 fz2), .pl (.u64 fz3)] := by rw [rung_F hL hP hQ, rungL]; simp only [hufx, hufz, husx, husz]; rfl
   have hl8 : lastU (lastB kc (t + 1)) = 0 := by rw [hL]; rfl
   have hS := swap1 sx0 sx1 sx2 sx3 fx0 fx1 fx2 fx3 sz0 sz1 sz2 sz3 fz0 fz1 fz2 fz3
   have hT := lstep fx0 fx1 fx2 fx3 sx0 sx1 sx2 sx3 fz0 fz1 fz2 fz3 sz0 sz1 sz2 sz3 f0 f1 f2 f3 Q1 P1 Q2 P2 U hvfx l2 hvsx l0 hvfz l3 hvsz l1 hvf hUl
   rw [dbl_eq, with_sym] at hT
   obtain ⟨⟨D1, D2⟩, hD⟩ : ∃ p, dblR ⟨Q1, Q2⟩ = p := ⟨_, rfl⟩
   have hDo := dblR_ok ⟨Q1, Q2⟩
   obtain ⟨⟨E1, E2⟩, hE⟩ : ∃ p, withR ⟨P1, P2⟩ ⟨Q1, Q2⟩ U = p := ⟨_, rfl⟩
   have hEo := withR_ok ⟨P1, P2⟩ ⟨Q1, Q2⟩ U
   rw [hD] at hT hDo
   rw [hE] at hT hEo
   obtain ⟨m0, m1⟩ := hDo
   obtain ⟨m2, m3⟩ := hEo
   change D1 < p25 at m0
   change D2 < p25 at m1
   change E1 < p25 at m2
   change E2 < p25 at m3
   obtain ⟨gx0, gx1, gx2, gx3, hgx, hvgx⟩ := w4_get (D1) (pm4 m0)
   have hugx : w4C (D1) = [.pl (.u64 gx0), .pl (.u64 gx1), .pl (.u64 gx2), .pl (.u64 gx3)] := by rw [w4C, hgx]; rfl
   obtain ⟨gz0, gz1, gz2, gz3, hgz, hvgz⟩ := w4_get (D2) (pm4 m1)
   have hugz : w4C (D2) = [.pl (.u64 gz0), .pl (.u64 gz1), .pl (.u64 gz2), .pl (.u64 gz3)] := by rw [w4C, hgz]; rfl
   obtain ⟨ex0, ex1, ex2, ex3, hex, hvex⟩ := w4_get (E1) (pm4 m2)
   have huex : w4C (E1) = [.pl (.u64 ex0), .pl (.u64 ex1), .pl (.u64 ex2), .pl (.u64 ex3)] := by rw [w4C, hex]; rfl
   obtain ⟨ez0, ez1, ez2, ez3, hez, hvez⟩ := w4_get (E2) (pm4 m3)
   have huez : w4C (E2) = [.pl (.u64 ez0), .pl (.u64 ez1), .pl (.u64 ez2), .pl (.u64 ez3)] := by rw [w4C, hez]; rfl
   have hres : w4C D1 ++ (w4C E1 ++ (w4C D2 ++ w4C E2)) = [.pl (.u64 gx0), .pl (.u64 gx1), .pl (.u64 gx2), .pl (.u64 gx3), .pl (.u64 ex0), .pl (.u64 ex1), .pl (.u64 ex2), .pl (.u64 ex3), .pl (.u64 gz0), .pl (.u64 gz1), .pl (.u64 gz2), .pl (.u64 gz3), .pl (.u64 ez0), .pl (.u64 ez1), .pl (.u64 ez2), .pl (.u64 ez3)] := by simp only [hugx, hugz, huex, huez]; rfl
   simp only [hres] at hT
   have hlt2 : lastB kc t = true := by rw [last_at ht, decide_eq_true hbit]
   have hof := oft_T ht hP hQ hbit
   rw [hD, hE] at hof
   have hnx : rungC kc U t = [.pl (.u64 gx0), .pl (.u64 gx1), .pl (.u64 gx2), .pl (.u64 gx3), .pl (.u64 ex0), .pl (.u64 ex1), .pl (.u64 ex2), .pl (.u64 ex3), .pl (.u64 gz0), .pl (.u64 gz1), .pl (.u64 gz2), .pl (.u64 gz3), .pl (.u64 ez0), .pl (.u64 ez1), .pl (.u64 ez2), .pl (.u64 ez3)] := by
    rw [rung_T hlt2 (congrArg Prod.fst hof) (congrArg Prod.snd hof)]; exact hres
   have hln : lastU (lastB kc t) = 1 := by rw [hlt2]; rfl
   have o1 := u8_one (q := kc) (i := t / 8) (by omega)
   obtain ⟨c, hc8⟩ : ∃ c, kc.getD (t / 8) 0 = c := ⟨_, rfl⟩
   rw [hc8] at o1
   have hbw : (shr8 c (t % 8)).toUInt64 &&& 1 = 1 := by rw [bit_word, if_pos (by rw [← hc8]; exact hbit)]
   have hj : (0 : Int) ≤ ((t / 8 : Nat) : Int) ∧ ((t / 8 : Nat) : Int) < 32 ∧ t / 8 + 1 ≤ 32 ∧ (0 : Int) ≤ ((t % 8 : Nat) : Int) ∧ (0 : Int) ≤ ((t : Nat) : Int) := by omega
   have htd : ((t : Nat) : Int).tdiv 8 = ((t / 8 : Nat) : Int) := rfl
   have htm : ((t : Nat) : Int).tmod 8 = ((t % 8 : Nat) : Int) := rfl
   have hi : dn (t + 1) = ((t : Nat) : Int) := by unfold dn; omega
   simp only [hr, hl8]
   obtain ⟨hs1, hwd⟩ : Go.RowKit.wrap64 (((t : Nat) : Int) - 1) = dn t ∧ Go.RowKit.wrap64 ((t / 8 : Nat) : Int) = ((t / 8 : Nat) : Int) := ⟨wdn2 (by omega), wnat rfl (by omega)⟩
   have F32 := And.intro o1 <| And.intro hbw <| And.intro hj <| And.intro htd <| And.intro htm <| And.intro hi <| And.intro hs1 <| hwd
   refine seq_k fun N33 M33 hN33 hM33 => ?_
   refine sr_k fun K34 hK34 => ?_
   simp only [go_sem, F0, bytesC_1, x00, x01, x10, x11, F32]
   repeat' (first | apply And.intro | intro _)
   refine hK34 _ ?_
   refine condT_k (by first | rfl | (simp [go_sem, F0, bytesC_1, x00, x01, x10, x11, F32]; done)) ?_
   refine skip_k ?_
   refine hN33 _ ?_
   refine seq_k fun N35 M35 hN35 hM35 => ?_
   refine block_k fun B36 bn36 bx36 br36 bi36 => ?_
   refine sr_k fun K37 hK37 => ?_
   simp only [go_sem, F0, bytesC_1, x00, x01, x10, x11, F32]
   repeat' (first | apply And.intro | intro _)
   refine hK37 _ ?_
   refine seq_k fun N38 M38 hN38 hM38 => ?_
   refine dr_k mixed fun K39 hK39 => ?_
   refine dr_piece_k 6 [39, 40, 41, 42, 43, 44] [0, 0, 0, 6, 15, 0, 63, 127] [] rfl (by kernel_rfl) rfl (by simp only [go_sem]) fun N40 K40 hN40 hK40 => ?_
   simp only [go_sem, F0, bytesC_1, x00, x01, x10, x11, F32]
   repeat' (first | apply And.intro | intro _)
   all_goals refine call_draw (fun k => k) (.w (.agg [.pl (.u64 fx0), .pl (.u64 fx1), .pl (.u64 fx2), .pl (.u64 fx3), .pl (.u64 sx0), .pl (.u64 sx1), .pl (.u64 sx2), .pl (.u64 sx3), .pl (.u64 fz0), .pl (.u64 fz1), .pl (.u64 fz2), .pl (.u64 fz3), .pl (.u64 sz0), .pl (.u64 sz1), .pl (.u64 sz2), .pl (.u64 sz3)])) [] (fun _ _ => rfl) (by first | rfl | (simp only [go_sem, F0, bytesC_1, x00, x01, x10, x11, F32] <;> rfl)) ((hS).plain fun _ _ h => h) ?_ ?_
   all_goals try (refine And.intro ?_ (And.intro ?_ (And.intro ?_ ?_)) <;> first | rfl | simp only [go_sem])
   all_goals simp only [go_sem, F0, bytesC_1, x00, x01, x10, x11, F32]
   all_goals repeat' (first | apply And.intro | intro _)
   all_goals
    refine hK40 _ _ trivial (hN40 _ ?_)
    refine dr_runs_k 2 8 rfl (by kernel_rfl) rfl rfl fun N41 hN41 => ?_
    simp only [go_sem, F0, bytesC_1, x00, x01, x10, x11, F32]
    repeat' (first | apply And.intro | intro _)
    all_goals (refine call_hand false [] (fun k => k) (fun _ _ => rfl) ?_ (by decide) ?_ hT.told ?_; iterate 2 (focus (first | rfl | (simp only [go_sem, F0, bytesC_1, x00, x01, x10, x11, F32] <;> first | done | rfl | simp))))
    all_goals (rintro v m ⟨hR, hm⟩; subst hR; subst hm)
    all_goals (refine And.intro ?_ (And.intro ?_ (And.intro ?_ ?_)); iterate 3 (focus (first | rfl | (simp only [go_sem, F0, bytesC_1, x00, x01, x10, x11, F32]; done) | (simp [go_sem, look, F0, bytesC_1, x00, x01, x10, x11, F32]; done))))
    all_goals (try simp only [go_sem, F0, bytesC_1, x00, x01, x10, x11, F32])
    all_goals (try simp only [go_sem, F0, bytesC_1, x00, x01, x10, x11, F32])
    all_goals repeat' (first | apply And.intro | intro _)
    all_goals
     refine hN41 _ ?_
     refine dr_end rfl (hK39 _ ?_)
     refine hN38 _ ?_
     refine region_k fun K42 hK42 => ?_
     simp only [go_sem, F0, bytesC_1, x00, x01, x10, x11, F32]
     repeat' (first | apply And.intro | intro _)
     refine hK42 _ ?_
     refine bn36 _ ?_
     refine hN35 _ ?_
     refine region_k fun K43 hK43 => ?_
     simp only [go_sem, F0, bytesC_1, x00, x01, x10, x11, F32]
     repeat' (first | apply And.intro | intro _)
     refine hK43 _ ?_
     refine hN9 ⟨t, by omega⟩ _ ?_ ?_ ?_
     · (exact Nat.lt_succ_self t)
     · (simp only [hln, go_sem, leX, List.cons_append, List.nil_append]; first | done | rfl | (simp [leX, look]; done))
     · (simp only [hnx, go_sem, leX, List.cons_append, List.nil_append]; first | done | rfl | (simp [leX, look]; done))
 · have ht : t < 255 := by omega
   obtain ⟨fx0, fx1, fx2, fx3, hfx, hvfx⟩ := w4_get (P1) (pm4 l0)
   have hufx : w4C (P1) = [.pl (.u64 fx0), .pl (.u64 fx1), .pl (.u64 fx2), .pl (.u64 fx3)] := by rw [w4C, hfx]; rfl
   obtain ⟨fz0, fz1, fz2, fz3, hfz, hvfz⟩ := w4_get (P2) (pm4 l1)
   have hufz : w4C (P2) = [.pl (.u64 fz0), .pl (.u64 fz1), .pl (.u64 fz2), .pl (.u64 fz3)] := by rw [w4C, hfz]; rfl
   obtain ⟨sx0, sx1, sx2, sx3, hsx, hvsx⟩ := w4_get (Q1) (pm4 l2)
   have husx : w4C (Q1) = [.pl (.u64 sx0), .pl (.u64 sx1), .pl (.u64 sx2), .pl (.u64 sx3)] := by rw [w4C, hsx]; rfl
   obtain ⟨sz0, sz1, sz2, sz3, hsz, hvsz⟩ := w4_get (Q2) (pm4 l3)
   have husz : w4C (Q2) = [.pl (.u64 sz0), .pl (.u64 sz1), .pl (.u64 sz2), .pl (.u64 sz3)] := by rw [w4C, hsz]; rfl
   have hr : rungC kc U (t + 1) = [.pl (.u64 sx0), .pl (.u64 sx1), .pl (.u64 sx2), .pl (.u64 sx3), .pl (.u64 fx0), .pl (.u64 fx1), .pl (.u64 fx2), .pl (.u64 fx3), .pl (.u64 sz0), .pl (.u64 sz1), .pl (.u64 sz2), .pl (.u64 sz3), .pl (.u64 fz0), .pl (.u64 fz1), .pl (.u64 fz2), .pl (.u64 fz3)] := by rw [rung_T hL hP hQ, rungL]; simp only [hufx, hufz, husx, husz]; rfl
   have hl8 : lastU (lastB kc (t + 1)) = 1 := by rw [hL]; rfl
   have hS := swap1 sx0 sx1 sx2 sx3 fx0 fx1 fx2 fx3 sz0 sz1 sz2 sz3 fz0 fz1 fz2 fz3
   have hT := lstep fx0 fx1 fx2 fx3 sx0 sx1 sx2 sx3 fz0 fz1 fz2 fz3 sz0 sz1 sz2 sz3 f0 f1 f2 f3 P1 Q1 P2 Q2 U hvfx l0 hvsx l2 hvfz l1 hvsz l3 hvf hUl
   rw [dbl_eq, with_eq] at hT
   obtain ⟨⟨D1, D2⟩, hD⟩ : ∃ p, dblR ⟨P1, P2⟩ = p := ⟨_, rfl⟩
   have hDo := dblR_ok ⟨P1, P2⟩
   obtain ⟨⟨E1, E2⟩, hE⟩ : ∃ p, withR ⟨P1, P2⟩ ⟨Q1, Q2⟩ U = p := ⟨_, rfl⟩
   have hEo := withR_ok ⟨P1, P2⟩ ⟨Q1, Q2⟩ U
   rw [hD] at hT hDo
   rw [hE] at hT hEo
   obtain ⟨m0, m1⟩ := hDo
   obtain ⟨m2, m3⟩ := hEo
   change D1 < p25 at m0
   change D2 < p25 at m1
   change E1 < p25 at m2
   change E2 < p25 at m3
   obtain ⟨gx0, gx1, gx2, gx3, hgx, hvgx⟩ := w4_get (D1) (pm4 m0)
   have hugx : w4C (D1) = [.pl (.u64 gx0), .pl (.u64 gx1), .pl (.u64 gx2), .pl (.u64 gx3)] := by rw [w4C, hgx]; rfl
   obtain ⟨gz0, gz1, gz2, gz3, hgz, hvgz⟩ := w4_get (D2) (pm4 m1)
   have hugz : w4C (D2) = [.pl (.u64 gz0), .pl (.u64 gz1), .pl (.u64 gz2), .pl (.u64 gz3)] := by rw [w4C, hgz]; rfl
   obtain ⟨ex0, ex1, ex2, ex3, hex, hvex⟩ := w4_get (E1) (pm4 m2)
   have huex : w4C (E1) = [.pl (.u64 ex0), .pl (.u64 ex1), .pl (.u64 ex2), .pl (.u64 ex3)] := by rw [w4C, hex]; rfl
   obtain ⟨ez0, ez1, ez2, ez3, hez, hvez⟩ := w4_get (E2) (pm4 m3)
   have huez : w4C (E2) = [.pl (.u64 ez0), .pl (.u64 ez1), .pl (.u64 ez2), .pl (.u64 ez3)] := by rw [w4C, hez]; rfl
   have hres : w4C D1 ++ (w4C E1 ++ (w4C D2 ++ w4C E2)) = [.pl (.u64 gx0), .pl (.u64 gx1), .pl (.u64 gx2), .pl (.u64 gx3), .pl (.u64 ex0), .pl (.u64 ex1), .pl (.u64 ex2), .pl (.u64 ex3), .pl (.u64 gz0), .pl (.u64 gz1), .pl (.u64 gz2), .pl (.u64 gz3), .pl (.u64 ez0), .pl (.u64 ez1), .pl (.u64 ez2), .pl (.u64 ez3)] := by simp only [hugx, hugz, huex, huez]; rfl
   simp only [hres] at hT
   have hlt2 : lastB kc t = false := by rw [last_at ht, decide_eq_false hbit]
   have hof := oft_F ht hP hQ hbit
   rw [hD, hE] at hof
   have hnx : rungC kc U t = [.pl (.u64 gx0), .pl (.u64 gx1), .pl (.u64 gx2), .pl (.u64 gx3), .pl (.u64 ex0), .pl (.u64 ex1), .pl (.u64 ex2), .pl (.u64 ex3), .pl (.u64 gz0), .pl (.u64 gz1), .pl (.u64 gz2), .pl (.u64 gz3), .pl (.u64 ez0), .pl (.u64 ez1), .pl (.u64 ez2), .pl (.u64 ez3)] := by
    rw [rung_F hlt2 (congrArg Prod.fst hof) (congrArg Prod.snd hof)]; exact hres
   have hln : lastU (lastB kc t) = 0 := by rw [hlt2]; rfl
   have o1 := u8_one (q := kc) (i := t / 8) (by omega)
   obtain ⟨c, hc8⟩ : ∃ c, kc.getD (t / 8) 0 = c := ⟨_, rfl⟩
   rw [hc8] at o1
   have hbw : (shr8 c (t % 8)).toUInt64 &&& 1 = 0 := by rw [bit_word, if_neg (by rw [← hc8]; exact hbit)]
   have hj : (0 : Int) ≤ ((t / 8 : Nat) : Int) ∧ ((t / 8 : Nat) : Int) < 32 ∧ t / 8 + 1 ≤ 32 ∧ (0 : Int) ≤ ((t % 8 : Nat) : Int) ∧ (0 : Int) ≤ ((t : Nat) : Int) := by omega
   have htd : ((t : Nat) : Int).tdiv 8 = ((t / 8 : Nat) : Int) := rfl
   have htm : ((t : Nat) : Int).tmod 8 = ((t % 8 : Nat) : Int) := rfl
   have hi : dn (t + 1) = ((t : Nat) : Int) := by unfold dn; omega
   simp only [hr, hl8]
   obtain ⟨hs1, hwd⟩ : Go.RowKit.wrap64 (((t : Nat) : Int) - 1) = dn t ∧ Go.RowKit.wrap64 ((t / 8 : Nat) : Int) = ((t / 8 : Nat) : Int) := ⟨wdn2 (by omega), wnat rfl (by omega)⟩
   have F43 := And.intro o1 <| And.intro hbw <| And.intro hj <| And.intro htd <| And.intro htm <| And.intro hi <| And.intro hs1 <| hwd
   refine seq_k fun N44 M44 hN44 hM44 => ?_
   refine sr_k fun K45 hK45 => ?_
   simp only [go_sem, F0, bytesC_1, x00, x01, x10, x11, F43]
   repeat' (first | apply And.intro | intro _)
   refine hK45 _ ?_
   refine condT_k (by first | rfl | (simp [go_sem, F0, bytesC_1, x00, x01, x10, x11, F43]; done)) ?_
   refine skip_k ?_
   refine hN44 _ ?_
   refine seq_k fun N46 M46 hN46 hM46 => ?_
   refine block_k fun B47 bn47 bx47 br47 bi47 => ?_
   refine sr_k fun K48 hK48 => ?_
   simp only [go_sem, F0, bytesC_1, x00, x01, x10, x11, F43]
   repeat' (first | apply And.intro | intro _)
   refine hK48 _ ?_
   refine seq_k fun N49 M49 hN49 hM49 => ?_
   refine dr_k mixed fun K50 hK50 => ?_
   refine dr_piece_k 6 [39, 40, 41, 42, 43, 44] [0, 0, 0, 6, 15, 0, 63, 127] [] rfl (by kernel_rfl) rfl (by simp only [go_sem]) fun N51 K51 hN51 hK51 => ?_
   simp only [go_sem, F0, bytesC_1, x00, x01, x10, x11, F43]
   repeat' (first | apply And.intro | intro _)
   all_goals refine call_draw (fun k => k) (.w (.agg [.pl (.u64 fx0), .pl (.u64 fx1), .pl (.u64 fx2), .pl (.u64 fx3), .pl (.u64 sx0), .pl (.u64 sx1), .pl (.u64 sx2), .pl (.u64 sx3), .pl (.u64 fz0), .pl (.u64 fz1), .pl (.u64 fz2), .pl (.u64 fz3), .pl (.u64 sz0), .pl (.u64 sz1), .pl (.u64 sz2), .pl (.u64 sz3)])) [] (fun _ _ => rfl) (by first | rfl | (simp only [go_sem, F0, bytesC_1, x00, x01, x10, x11, F43] <;> rfl)) ((hS).plain fun _ _ h => h) ?_ ?_
   all_goals try (refine And.intro ?_ (And.intro ?_ (And.intro ?_ ?_)) <;> first | rfl | simp only [go_sem])
   all_goals simp only [go_sem, F0, bytesC_1, x00, x01, x10, x11, F43]
   all_goals repeat' (first | apply And.intro | intro _)
   all_goals
    refine hK51 _ _ trivial (hN51 _ ?_)
    refine dr_runs_k 2 8 rfl (by kernel_rfl) rfl rfl fun N52 hN52 => ?_
    simp only [go_sem, F0, bytesC_1, x00, x01, x10, x11, F43]
    repeat' (first | apply And.intro | intro _)
    all_goals (refine call_hand false [] (fun k => k) (fun _ _ => rfl) ?_ (by decide) ?_ hT.told ?_; iterate 2 (focus (first | rfl | (simp only [go_sem, F0, bytesC_1, x00, x01, x10, x11, F43] <;> first | done | rfl | simp))))
    all_goals (rintro v m ⟨hR, hm⟩; subst hR; subst hm)
    all_goals (refine And.intro ?_ (And.intro ?_ (And.intro ?_ ?_)); iterate 3 (focus (first | rfl | (simp only [go_sem, F0, bytesC_1, x00, x01, x10, x11, F43]; done) | (simp [go_sem, look, F0, bytesC_1, x00, x01, x10, x11, F43]; done))))
    all_goals (try simp only [go_sem, F0, bytesC_1, x00, x01, x10, x11, F43])
    all_goals (try simp only [go_sem, F0, bytesC_1, x00, x01, x10, x11, F43])
    all_goals repeat' (first | apply And.intro | intro _)
    all_goals
     refine hN52 _ ?_
     refine dr_end rfl (hK50 _ ?_)
     refine hN49 _ ?_
     refine region_k fun K53 hK53 => ?_
     simp only [go_sem, F0, bytesC_1, x00, x01, x10, x11, F43]
     repeat' (first | apply And.intro | intro _)
     refine hK53 _ ?_
     refine bn47 _ ?_
     refine hN46 _ ?_
     refine region_k fun K54 hK54 => ?_
     simp only [go_sem, F0, bytesC_1, x00, x01, x10, x11, F43]
     repeat' (first | apply And.intro | intro _)
     refine hK54 _ ?_
     refine hN9 ⟨t, by omega⟩ _ ?_ ?_ ?_
     · (exact Nat.lt_succ_self t)
     · (simp only [hln, go_sem, leX, List.cons_append, List.nil_append]; first | done | rfl | (simp [leX, look]; done))
     · (simp only [hnx, go_sem, leX, List.cons_append, List.nil_append]; first | done | rfl | (simp [leX, look]; done))
 · have ht : t < 255 := by omega
   obtain ⟨fx0, fx1, fx2, fx3, hfx, hvfx⟩ := w4_get (Q1) (pm4 l2)
   have hufx : w4C (Q1) = [.pl (.u64 fx0), .pl (.u64 fx1), .pl (.u64 fx2), .pl (.u64 fx3)] := by rw [w4C, hfx]; rfl
   obtain ⟨fz0, fz1, fz2, fz3, hfz, hvfz⟩ := w4_get (Q2) (pm4 l3)
   have hufz : w4C (Q2) = [.pl (.u64 fz0), .pl (.u64 fz1), .pl (.u64 fz2), .pl (.u64 fz3)] := by rw [w4C, hfz]; rfl
   obtain ⟨sx0, sx1, sx2, sx3, hsx, hvsx⟩ := w4_get (P1) (pm4 l0)
   have husx : w4C (P1) = [.pl (.u64 sx0), .pl (.u64 sx1), .pl (.u64 sx2), .pl (.u64 sx3)] := by rw [w4C, hsx]; rfl
   obtain ⟨sz0, sz1, sz2, sz3, hsz, hvsz⟩ := w4_get (P2) (pm4 l1)
   have husz : w4C (P2) = [.pl (.u64 sz0), .pl (.u64 sz1), .pl (.u64 sz2), .pl (.u64 sz3)] := by rw [w4C, hsz]; rfl
   have hr : rungC kc U (t + 1) = [.pl (.u64 fx0), .pl (.u64 fx1), .pl (.u64 fx2), .pl (.u64 fx3), .pl (.u64 sx0), .pl (.u64 sx1), .pl (.u64 sx2), .pl (.u64 sx3), .pl (.u64 fz0), .pl (.u64 fz1), .pl (.u64 fz2), .pl (.u64 fz3), .pl (.u64 sz0), .pl (.u64 sz1), .pl (.u64 sz2), .pl (.u64 sz3)] := by rw [rung_T hL hP hQ, rungL]; simp only [hufx, hufz, husx, husz]; rfl
   have hl8 : lastU (lastB kc (t + 1)) = 1 := by rw [hL]; rfl
   have hS := swap0 fx0 fx1 fx2 fx3 sx0 sx1 sx2 sx3 fz0 fz1 fz2 fz3 sz0 sz1 sz2 sz3
   have hT := lstep fx0 fx1 fx2 fx3 sx0 sx1 sx2 sx3 fz0 fz1 fz2 fz3 sz0 sz1 sz2 sz3 f0 f1 f2 f3 Q1 P1 Q2 P2 U hvfx l2 hvsx l0 hvfz l3 hvsz l1 hvf hUl
   rw [dbl_eq, with_sym] at hT
   obtain ⟨⟨D1, D2⟩, hD⟩ : ∃ p, dblR ⟨Q1, Q2⟩ = p := ⟨_, rfl⟩
   have hDo := dblR_ok ⟨Q1, Q2⟩
   obtain ⟨⟨E1, E2⟩, hE⟩ : ∃ p, withR ⟨P1, P2⟩ ⟨Q1, Q2⟩ U = p := ⟨_, rfl⟩
   have hEo := withR_ok ⟨P1, P2⟩ ⟨Q1, Q2⟩ U
   rw [hD] at hT hDo
   rw [hE] at hT hEo
   obtain ⟨m0, m1⟩ := hDo
   obtain ⟨m2, m3⟩ := hEo
   change D1 < p25 at m0
   change D2 < p25 at m1
   change E1 < p25 at m2
   change E2 < p25 at m3
   obtain ⟨gx0, gx1, gx2, gx3, hgx, hvgx⟩ := w4_get (D1) (pm4 m0)
   have hugx : w4C (D1) = [.pl (.u64 gx0), .pl (.u64 gx1), .pl (.u64 gx2), .pl (.u64 gx3)] := by rw [w4C, hgx]; rfl
   obtain ⟨gz0, gz1, gz2, gz3, hgz, hvgz⟩ := w4_get (D2) (pm4 m1)
   have hugz : w4C (D2) = [.pl (.u64 gz0), .pl (.u64 gz1), .pl (.u64 gz2), .pl (.u64 gz3)] := by rw [w4C, hgz]; rfl
   obtain ⟨ex0, ex1, ex2, ex3, hex, hvex⟩ := w4_get (E1) (pm4 m2)
   have huex : w4C (E1) = [.pl (.u64 ex0), .pl (.u64 ex1), .pl (.u64 ex2), .pl (.u64 ex3)] := by rw [w4C, hex]; rfl
   obtain ⟨ez0, ez1, ez2, ez3, hez, hvez⟩ := w4_get (E2) (pm4 m3)
   have huez : w4C (E2) = [.pl (.u64 ez0), .pl (.u64 ez1), .pl (.u64 ez2), .pl (.u64 ez3)] := by rw [w4C, hez]; rfl
   have hres : w4C D1 ++ (w4C E1 ++ (w4C D2 ++ w4C E2)) = [.pl (.u64 gx0), .pl (.u64 gx1), .pl (.u64 gx2), .pl (.u64 gx3), .pl (.u64 ex0), .pl (.u64 ex1), .pl (.u64 ex2), .pl (.u64 ex3), .pl (.u64 gz0), .pl (.u64 gz1), .pl (.u64 gz2), .pl (.u64 gz3), .pl (.u64 ez0), .pl (.u64 ez1), .pl (.u64 ez2), .pl (.u64 ez3)] := by simp only [hugx, hugz, huex, huez]; rfl
   simp only [hres] at hT
   have hlt2 : lastB kc t = true := by rw [last_at ht, decide_eq_true hbit]
   have hof := oft_T ht hP hQ hbit
   rw [hD, hE] at hof
   have hnx : rungC kc U t = [.pl (.u64 gx0), .pl (.u64 gx1), .pl (.u64 gx2), .pl (.u64 gx3), .pl (.u64 ex0), .pl (.u64 ex1), .pl (.u64 ex2), .pl (.u64 ex3), .pl (.u64 gz0), .pl (.u64 gz1), .pl (.u64 gz2), .pl (.u64 gz3), .pl (.u64 ez0), .pl (.u64 ez1), .pl (.u64 ez2), .pl (.u64 ez3)] := by
    rw [rung_T hlt2 (congrArg Prod.fst hof) (congrArg Prod.snd hof)]; exact hres
   have hln : lastU (lastB kc t) = 1 := by rw [hlt2]; rfl
   have o1 := u8_one (q := kc) (i := t / 8) (by omega)
   obtain ⟨c, hc8⟩ : ∃ c, kc.getD (t / 8) 0 = c := ⟨_, rfl⟩
   rw [hc8] at o1
   have hbw : (shr8 c (t % 8)).toUInt64 &&& 1 = 1 := by rw [bit_word, if_pos (by rw [← hc8]; exact hbit)]
   have hj : (0 : Int) ≤ ((t / 8 : Nat) : Int) ∧ ((t / 8 : Nat) : Int) < 32 ∧ t / 8 + 1 ≤ 32 ∧ (0 : Int) ≤ ((t % 8 : Nat) : Int) ∧ (0 : Int) ≤ ((t : Nat) : Int) := by omega
   have htd : ((t : Nat) : Int).tdiv 8 = ((t / 8 : Nat) : Int) := rfl
   have htm : ((t : Nat) : Int).tmod 8 = ((t % 8 : Nat) : Int) := rfl
   have hi : dn (t + 1) = ((t : Nat) : Int) := by unfold dn; omega
   simp only [hr, hl8]
   obtain ⟨hs1, hwd⟩ : Go.RowKit.wrap64 (((t : Nat) : Int) - 1) = dn t ∧ Go.RowKit.wrap64 ((t / 8 : Nat) : Int) = ((t / 8 : Nat) : Int) := ⟨wdn2 (by omega), wnat rfl (by omega)⟩
   have F54 := And.intro o1 <| And.intro hbw <| And.intro hj <| And.intro htd <| And.intro htm <| And.intro hi <| And.intro hs1 <| hwd
   refine seq_k fun N55 M55 hN55 hM55 => ?_
   refine sr_k fun K56 hK56 => ?_
   simp only [go_sem, F0, bytesC_1, x00, x01, x10, x11, F54]
   repeat' (first | apply And.intro | intro _)
   refine hK56 _ ?_
   refine condT_k (by first | rfl | (simp [go_sem, F0, bytesC_1, x00, x01, x10, x11, F54]; done)) ?_
   refine skip_k ?_
   refine hN55 _ ?_
   refine seq_k fun N57 M57 hN57 hM57 => ?_
   refine block_k fun B58 bn58 bx58 br58 bi58 => ?_
   refine sr_k fun K59 hK59 => ?_
   simp only [go_sem, F0, bytesC_1, x00, x01, x10, x11, F54]
   repeat' (first | apply And.intro | intro _)
   refine hK59 _ ?_
   refine seq_k fun N60 M60 hN60 hM60 => ?_
   refine dr_k mixed fun K61 hK61 => ?_
   refine dr_piece_k 6 [39, 40, 41, 42, 43, 44] [0, 0, 0, 6, 15, 0, 63, 127] [] rfl (by kernel_rfl) rfl (by simp only [go_sem]) fun N62 K62 hN62 hK62 => ?_
   simp only [go_sem, F0, bytesC_1, x00, x01, x10, x11, F54]
   repeat' (first | apply And.intro | intro _)
   all_goals refine call_draw (fun k => k) (.w (.agg [.pl (.u64 fx0), .pl (.u64 fx1), .pl (.u64 fx2), .pl (.u64 fx3), .pl (.u64 sx0), .pl (.u64 sx1), .pl (.u64 sx2), .pl (.u64 sx3), .pl (.u64 fz0), .pl (.u64 fz1), .pl (.u64 fz2), .pl (.u64 fz3), .pl (.u64 sz0), .pl (.u64 sz1), .pl (.u64 sz2), .pl (.u64 sz3)])) [] (fun _ _ => rfl) (by first | rfl | (simp only [go_sem, F0, bytesC_1, x00, x01, x10, x11, F54] <;> rfl)) ((hS).plain fun _ _ h => h) ?_ ?_
   all_goals try (refine And.intro ?_ (And.intro ?_ (And.intro ?_ ?_)) <;> first | rfl | simp only [go_sem])
   all_goals simp only [go_sem, F0, bytesC_1, x00, x01, x10, x11, F54]
   all_goals repeat' (first | apply And.intro | intro _)
   all_goals
    refine hK62 _ _ trivial (hN62 _ ?_)
    refine dr_runs_k 2 8 rfl (by kernel_rfl) rfl rfl fun N63 hN63 => ?_
    simp only [go_sem, F0, bytesC_1, x00, x01, x10, x11, F54]
    repeat' (first | apply And.intro | intro _)
    all_goals (refine call_hand false [] (fun k => k) (fun _ _ => rfl) ?_ (by decide) ?_ hT.told ?_; iterate 2 (focus (first | rfl | (simp only [go_sem, F0, bytesC_1, x00, x01, x10, x11, F54] <;> first | done | rfl | simp))))
    all_goals (rintro v m ⟨hR, hm⟩; subst hR; subst hm)
    all_goals (refine And.intro ?_ (And.intro ?_ (And.intro ?_ ?_)); iterate 3 (focus (first | rfl | (simp only [go_sem, F0, bytesC_1, x00, x01, x10, x11, F54]; done) | (simp [go_sem, look, F0, bytesC_1, x00, x01, x10, x11, F54]; done))))
    all_goals (try simp only [go_sem, F0, bytesC_1, x00, x01, x10, x11, F54])
    all_goals (try simp only [go_sem, F0, bytesC_1, x00, x01, x10, x11, F54])
    all_goals repeat' (first | apply And.intro | intro _)
    all_goals
     refine hN63 _ ?_
     refine dr_end rfl (hK61 _ ?_)
     refine hN60 _ ?_
     refine region_k fun K64 hK64 => ?_
     simp only [go_sem, F0, bytesC_1, x00, x01, x10, x11, F54]
     repeat' (first | apply And.intro | intro _)
     refine hK64 _ ?_
     refine bn58 _ ?_
     refine hN57 _ ?_
     refine region_k fun K65 hK65 => ?_
     simp only [go_sem, F0, bytesC_1, x00, x01, x10, x11, F54]
     repeat' (first | apply And.intro | intro _)
     refine hK65 _ ?_
     refine hN9 ⟨t, by omega⟩ _ ?_ ?_ ?_
     · (exact Nat.lt_succ_self t)
     · (simp only [hln, go_sem, leX, List.cons_append, List.nil_append]; first | done | rfl | (simp [leX, look]; done))
     · (simp only [hnx, go_sem, leX, List.cons_append, List.nil_append]; first | done | rfl | (simp [leX, look]; done))
end Go.Sy

