/- A point multiplied, as the document tells it. -/
import Derived.Test.YthngiogkogeigaaDoorvhL5
import Derived.Test.YthngiogkogeigaaDoorvhK17b
set_option linter.unusedVariables false
set_option linter.unusedSimpArgs false
namespace Go.Sy
open Go.Proofs
attribute [local irreducible] atCall HT runOps runD onC onE onO onG goV goA goS onSt onGuard
theorem pm4 {n : Nat} (h : n < p25) : n < 115792089237316195423570985008687907853269984665640564039457584007913129639936 := by
 have := p25_is
 omega
theorem ne22 {l : List UInt8} (h : l.length = 32) : aggEq Tryd.prog 22 (bytesC l) (bytesC (List.replicate 32 0)) = some (decide (l = List.replicate 32 0)) := by
 rw [ae22 (kinds_bytes h) (kinds_bytes (rfl : (List.replicate 32 (0 : UInt8)).length = 32)), eqC_bytes (h.trans rfl)]
def tell (n : Nat) : V := .tup [.agg (bytesC (wB n)), .one (.pl (.b (!decide (wB n = List.replicate 32 0))))]
set_option maxHeartbeats 3200000 in
set_option maxRecDepth 100000 in
theorem rmult (k u : List UInt8) (hk : k.length = 32) (hu : u.length = 32) :
 CtM Tryd.prog 8 [.w (.agg (bytesC k)), .w (.agg (bytesC u))] [(1000000, ⟨false, u64C prdL⟩)] (Told (fun v m => v = tell (ladN k u) ∧ m = [])) := by
 obtain ⟨kc, hkc⟩ : ∃ q, clampB k = q := ⟨_, rfl⟩
 have hkl : kc.length = 32 := by rw [← hkc]; exact clampB_length hk
 obtain ⟨U, hU⟩ : ∃ n, frN u = n := ⟨_, rfl⟩
 have hUl : U < p25 := by rw [← hU]; exact frN_lt u
 have hok := oft_ok kc hUl 255
 obtain ⟨⟨P1, P2⟩, hP⟩ : ∃ p, (oft kc U 255).1 = p := ⟨_, rfl⟩
 obtain ⟨⟨Q1, Q2⟩, hQ⟩ : ∃ p, (oft kc U 255).2 = p := ⟨_, rfl⟩
 rw [hP, hQ] at hok
 obtain ⟨⟨l0, l1⟩, ⟨l2, l3⟩⟩ := hok
 change P1 < p25 at l0
 change P2 < p25 at l1
 change Q1 < p25 at l2
 change Q2 < p25 at l3
 obtain ⟨n, hn⟩ : ∃ n, fM P1 (pw P2 eP) = n := ⟨_, rfl⟩
 have hnl : n < p25 := by rw [← hn]; exact fM_lt _ _
 have hlad : ladN k u = n := by rw [ladN, hkc, hU, hP, hn]
 rw [hlad, tell]
 obtain ⟨b, hb⟩ : ∃ b, wB n = b := ⟨_, rfl⟩
 have hbl : b.length = 32 := by rw [← hb]; exact wB_length n
 have hne := ne22 hbl
 rw [hb]
 obtain ⟨s0, s1, s2, s3, hs, hvs⟩ := w4_get n (pm4 hnl)
 have hus : w4C n = [.pl (.u64 s0), .pl (.u64 s1), .pl (.u64 s2), .pl (.u64 s3)] := by rw [w4C, hs]; rfl
 have hbs : by4 s0 s1 s2 s3 = b := by rw [← hb]; exact wB_of hs
 have hC := rclamp_ k hk
 rw [hkc] at hC
 have hF := rfrom_ u hu
 rw [hU] at hF
 obtain ⟨f0, f1, f2, f3, hf, hvf⟩ := w4_get U (pm4 hUl)
 rw [show w4C U = [.pl (.u64 f0), .pl (.u64 f1), .pl (.u64 f2), .pl (.u64 f3)] from by rw [w4C, hf]; rfl] at hF
 have hO := of_ f0 f1 f2 f3
 rw [hvf] at hO
 obtain ⟨uu, huu⟩ : ∃ q, D16 U = q := ⟨_, rfl⟩
 have huul : uu.length = 16 := by rw [← huu]; rfl
 have hT : CtM Tryd.prog 17 [.w (.agg (bytesC kc)), .w (.one (.pl (.i 0))), .w (.agg (u64C (D16 U)))] [(1000000, ⟨false, u64C prdL⟩)] _ := often_ kc hkl U hUl 255 0 rfl
 rw [hP, hQ] at hT
 obtain ⟨xx, hxx⟩ : ∃ q, D16 P1 = q := ⟨_, rfl⟩
 have hxxl : xx.length = 16 := by rw [← hxx]; rfl
 have hxxd : ∀ i, i < 16 → (fL xx i).toNat < 65536 := by rw [← hxx]; exact D16_lt _
 have hxxv : valB 65536 xx = P1 := by rw [← hxx]; exact D16_val (lt_m4 l0)
 obtain ⟨zz, hzz⟩ : ∃ q, D16 P2 = q := ⟨_, rfl⟩
 have hzzl : zz.length = 16 := by rw [← hzz]; rfl
 have hzzd : ∀ i, i < 16 → (fL zz i).toNat < 65536 := by rw [← hzz]; exact D16_lt _
 have hzzv : valB 65536 zz = P2 := by rw [← hzz]; exact D16_val (lt_m4 l1)
 obtain ⟨yy, hyy⟩ : ∃ q, D16 Q1 = q := ⟨_, rfl⟩
 have hyyl : yy.length = 16 := by rw [← hyy]; rfl
 have hyyd : ∀ i, i < 16 → (fL yy i).toNat < 65536 := by rw [← hyy]; exact D16_lt _
 have hyyv : valB 65536 yy = Q1 := by rw [← hyy]; exact D16_val (lt_m4 l2)
 obtain ⟨vv, hvv⟩ : ∃ q, D16 Q2 = q := ⟨_, rfl⟩
 have hvvl : vv.length = 16 := by rw [← hvv]; rfl
 have hvvd : ∀ i, i < 16 → (fL vv i).toNat < 65536 := by rw [← hvv]; exact D16_lt _
 have hvvv : valB 65536 vv = Q2 := by rw [← hvv]; exact D16_val (lt_m4 l3)
 rw [huu] at hO hT
 simp only [ptC, hxx, hzz, hyy, hvv] at hT
 have hI := rinverse_ P2 l1
 rw [hzz] at hI
 obtain ⟨ii, hii⟩ : ∃ q, D16 (pw P2 eP) = q := ⟨_, rfl⟩
 have hiil : ii.length = 16 := by rw [← hii]; rfl
 have hiid : ∀ i, i < 16 → (fL ii i).toNat < 65536 := by rw [← hii]; exact D16_lt _
 have hiiv : valB 65536 ii = pw P2 eP := by rw [← hii]; exact D16_val (lt_m4 (pw_lt _ _))
 rw [hii] at hI
 have hM := product_ xx ii hxxl hiil hxxd hiid
 rw [hxxv, hiiv, show (P1 * pw P2 eP) % p25 = fM P1 (pw P2 eP) from rfl, hn] at hM
 obtain ⟨nn, hnn⟩ : ∃ q, D16 n = q := ⟨_, rfl⟩
 have hnnl : nn.length = 16 := by rw [← hnn]; rfl
 have hK := back_ n (lt_m4 hnl)
 rw [hnn] at hM hK
 rw [hus] at hK
 have hB := rbytes_ok s0 s1 s2 s3 (by rw [hvs]; exact hnl)
 rw [hbs] at hB
 have F0 := And.intro hk <| And.intro hu <| And.intro hkl <| And.intro hbl <| And.intro hxxl <| And.intro hzzl <| And.intro hyyl <| And.intro hvvl <| And.intro huul <| And.intro hiil <| And.intro hnnl <| hne
 refine CtM.k Tryd.func8 rfl Tryd.ntmps8 (congrArg Array.toList Tryd.results8) (by simp) fun w0 ro may fx => ?_
 refine sr_k fun K1 hK1 => ?_
 simp only [go_sem, F0]
 repeat' (first | apply And.intro | intro _)
 refine hK1 _ ?_
 refine seq_k fun N2 M2 hN2 hM2 => ?_
 refine dr_k mixed fun K3 hK3 => ?_
 refine dr_piece_k 12 [11, 12, 13, 14, 15, 16, 10, 17, 18, 6, 7] [0, 1, 0, 7, 15, 31, 63, 127, 127, 0, 0, 1791, 4095] [(8, 11)] rfl (by kernel_rfl) rfl (by simp only [go_sem]) fun N4 K4 hN4 hK4 => ?_
 simp only [go_sem, F0]
 repeat' (first | apply And.intro | intro _)
 all_goals refine call_draw (fun k => k) (.w (.agg (bytesC kc))) [] (fun _ _ => rfl) (by first | rfl | (simp only [go_sem, F0] <;> rfl)) ((hC).plain fun _ _ h => h) ?_ ?_
 all_goals try (refine And.intro ?_ (And.intro ?_ (And.intro ?_ ?_)) <;> first | rfl | simp only [go_sem])
 all_goals simp only [go_sem, F0]
 all_goals repeat' (first | apply And.intro | intro _)
 all_goals (refine call_drawhand (fun k => k) (.w (.agg [.pl (.u64 f0), .pl (.u64 f1), .pl (.u64 f2), .pl (.u64 f3)])) [] (fun _ _ => rfl) ?_ ?_ ?_ hF.told ?_ ?_; (iterate 2 (focus (first | rfl | (simp only [go_sem, F0] <;> first | done | rfl | simp)))); (first | kernel_rfl | rfl | simp [fixO, fixL, pls]))
 all_goals try (refine And.intro ?_ (And.intro ?_ (And.intro ?_ ?_)) <;> (first | rfl | (simp only [go_sem, F0]; done) | (simp [go_sem, look, F0]; done)))
 all_goals (try simp only [go_sem, F0])
 all_goals (try simp only [go_sem, F0])
 all_goals repeat' (first | apply And.intro | intro _)
 all_goals refine call_draw (fun k => k) (.w (.agg (u64C uu))) [] (fun _ _ => rfl) (by first | rfl | (simp only [go_sem, F0] <;> rfl)) ((hO).plain fun _ _ h => h) ?_ ?_
 all_goals try (refine And.intro ?_ (And.intro ?_ (And.intro ?_ ?_)) <;> first | rfl | simp only [go_sem])
 all_goals simp only [go_sem, F0]
 all_goals repeat' (first | apply And.intro | intro _)
 all_goals (refine call_drawhand (fun k => k) (.tup [.agg (u64C xx ++ u64C zz), .agg (u64C yy ++ u64C vv)]) [] (fun _ _ => rfl) ?_ ?_ ?_ hT.told ?_ ?_; (iterate 2 (focus (first | rfl | (simp only [go_sem, F0] <;> first | done | rfl | simp)))); (first | kernel_rfl | rfl | simp [fixO, fixL, pls]))
 all_goals try (refine And.intro ?_ (And.intro ?_ (And.intro ?_ ?_)) <;> (first | rfl | (simp only [go_sem, F0]; done) | (simp [go_sem, look, F0]; done)))
 all_goals (try simp only [go_sem, F0])
 all_goals (try simp only [go_sem, F0])
 all_goals repeat' (first | apply And.intro | intro _)
 all_goals
  refine hK4 _ _ ?_ (hN4 _ ?_)
  · first | trivial | (simp only [go_sem]; done) | (simp only [go_sem]; simp; done) | (simp only [go_sem]; simp; simp only [go_sem])
  refine dr_runs_k 1 13 rfl (by kernel_rfl) rfl rfl fun N5 hN5 => ?_
  simp only [go_sem, F0]
  repeat' (first | apply And.intro | intro _)
  all_goals
   refine hN5 _ ?_
   refine dr_end rfl (hK3 _ ?_)
   refine hN2 _ ?_
   refine seq_k fun N6 M6 hN6 hM6 => ?_
   refine dr_k mixed fun K7 hK7 => ?_
   refine dr_piece_k 13 [20, 21, 22, 23, 24, 25, 26, 27, 19, 28, 29, 8] [0, 1, 0, 4, 12, 31, 63, 127, 255, 511, 511, 0, 3071, 8191] [(10, 12)] rfl (by kernel_rfl) rfl (by simp only [go_sem]) fun N8 K8 hN8 hK8 => ?_
   simp only [go_sem, F0]
   repeat' (first | apply And.intro | intro _)
   all_goals (refine call_drawhand (fun k => k) (.w (.agg (u64C ii))) [] (fun _ _ => rfl) ?_ ?_ ?_ hI.told ?_ ?_; (iterate 2 (focus (first | rfl | (simp only [go_sem, F0] <;> first | done | rfl | simp)))); (first | kernel_rfl | rfl | simp [fixO, fixL, pls]))
   all_goals try (refine And.intro ?_ (And.intro ?_ (And.intro ?_ ?_)) <;> (first | rfl | (simp only [go_sem, F0]; done) | (simp [go_sem, look, F0]; done)))
   all_goals (try simp only [go_sem, F0])
   all_goals (try simp only [go_sem, F0])
   all_goals repeat' (first | apply And.intro | intro _)
   all_goals (refine call_drawhand (fun k => k) (.w (.agg (u64C nn))) [] (fun _ _ => rfl) ?_ ?_ ?_ hM.told ?_ ?_; (iterate 2 (focus (first | rfl | (simp only [go_sem, F0] <;> first | done | rfl | simp)))); (first | kernel_rfl | rfl | simp [fixO, fixL, pls]))
   all_goals try (refine And.intro ?_ (And.intro ?_ (And.intro ?_ ?_)) <;> (first | rfl | (simp only [go_sem, F0]; done) | (simp [go_sem, look, F0]; done)))
   all_goals (try simp only [go_sem, F0])
   all_goals (try simp only [go_sem, F0])
   all_goals repeat' (first | apply And.intro | intro _)
   all_goals refine call_draw (fun k => k) (.w (.agg [.pl (.u64 s0), .pl (.u64 s1), .pl (.u64 s2), .pl (.u64 s3)])) [] (fun _ _ => rfl) (by first | rfl | (simp only [go_sem, F0] <;> rfl)) ((hK).plain fun _ _ h => h) ?_ ?_
   all_goals try (refine And.intro ?_ (And.intro ?_ (And.intro ?_ ?_)) <;> first | rfl | simp only [go_sem])
   all_goals simp only [go_sem, F0]
   all_goals repeat' (first | apply And.intro | intro _)
   all_goals (refine call_drawhand (fun k => k) (.tup [.agg (bytesC b), .one (.pl (.i 0))]) [] (fun _ _ => rfl) ?_ ?_ ?_ hB.told ?_ ?_; (iterate 2 (focus (first | rfl | (simp only [go_sem, F0] <;> first | done | rfl | simp)))); (first | kernel_rfl | rfl | simp [fixO, fixL, pls]))
   all_goals try (refine And.intro ?_ (And.intro ?_ (And.intro ?_ ?_)) <;> (first | rfl | (simp only [go_sem, F0]; done) | (simp [go_sem, look, F0]; done)))
   all_goals (try simp only [go_sem, F0])
   all_goals (try simp only [go_sem, F0])
   all_goals repeat' (first | apply And.intro | intro _)
   all_goals
    refine hK8 _ _ ?_ (hN8 _ ?_)
    · first | trivial | (simp only [go_sem]; done) | (simp only [go_sem]; simp; done) | (simp only [go_sem]; simp; simp only [go_sem])
    refine dr_runs_k 1 14 rfl (by kernel_rfl) rfl rfl fun N9 hN9 => ?_
    simp only [go_sem, F0]
    repeat' (first | apply And.intro | intro _)
    all_goals
     refine hN9 _ ?_
     refine dr_end rfl (hK7 _ ?_)
     refine hN6 _ ?_
     refine sd_k [30, 31, 32, 33, 5] [0, 0, 0, 6, 1, 31] [(1, 4), (2, 4), (3, 4)] mixed (by kernel_rfl) (by simp only [go_sem]) fun K10 hK10 => ?_
     simp only [go_sem, F0]
     repeat' (first | apply And.intro | intro _)
     refine hK10 _ _ ?_ ?_
     · first | trivial | (simp only [go_sem]; done) | (simp only [go_sem]; simp; done) | (simp only [go_sem]; simp; simp only [go_sem])
     refine ret_k ?_
     simp only [go_sem, F0]
     all_goals (exact told_plain (by simp [plainV, plainW, bytesC]) ⟨by first | rfl | simp, rfl⟩)
end Go.Sy

