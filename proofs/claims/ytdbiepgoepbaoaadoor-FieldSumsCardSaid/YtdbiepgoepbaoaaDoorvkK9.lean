/- What the document reckons: sums, differences. -/
import Derived.Test.YtdbiepgoepbaoaaDoorvkK8
import Derived.Test.YtdbiepgoepbaoaaDoorvE3
set_option linter.unusedVariables false
set_option linter.unusedSimpArgs false
namespace Go.Sy
open Go.Proofs
attribute [local irreducible] atCall HT runOps runD onC onE onO onG goV goA goS onSt onGuard
set_option maxHeartbeats 800000 in
theorem reck_a (k : Int) (a b c d e f g h : UInt64) (h1 : ¬ vQ a b c d < p25) :
 CtM Tryd.prog 13 [.w (.one (.pl (.i k))), .w (.agg [.pl (.u64 a), .pl (.u64 b), .pl (.u64 c), .pl (.u64 d)]), .w (.agg [.pl (.u64 e), .pl (.u64 f), .pl (.u64 g), .pl (.u64 h)])] [(1000001, ⟨false, u64C prdL⟩)] (Told (fun v m => v = .tup [.agg [.pl (.u64 0), .pl (.u64 0), .pl (.u64 0), .pl (.u64 0)], .one (.pl (.i 6))] ∧ m = [])) := by
 have hA := in_ a b c d
 have hB := in_ e f g h
 rw [decide_eq_false h1] at hA
 refine CtM.k Tryd.func13 rfl Tryd.ntmps13 (congrArg Array.toList Tryd.results13) (by simp) fun w0 ro may fx => ?_
 refine sr_k fun K1 hK1 => ?_
 simp only [go_sem]
 repeat' (first | apply And.intro | intro _)
 refine hK1 _ ?_
 refine seq_k fun N2 M2 hN2 hM2 => ?_
 refine sr_k fun K3 hK3 => ?_
 simp only [go_sem]
 repeat' (first | apply And.intro | intro _)
 all_goals (refine call_hand false [] (fun k => k) (fun _ _ => rfl) ?_ (by decide) ?_ hA.told ?_; iterate 2 (focus (first | rfl | (simp only [go_sem] <;> first | done | rfl | simp))))
 all_goals (rintro v m ⟨hR, hm⟩; subst hR; subst hm)
 all_goals (refine And.intro ?_ (And.intro ?_ (And.intro ?_ ?_)); iterate 3 (focus (first | rfl | (simp only [go_sem]; done) | (simp [go_sem, look]; done))))
 all_goals (try simp only [go_sem])
 all_goals (try simp only [go_sem])
 all_goals repeat' (first | apply And.intro | intro _)
 all_goals (first | ((refine call_hand false [] (fun k => k) (fun _ _ => rfl) ?_ (by decide) ?_ hB.told ?_; iterate 2 (focus (first | rfl | (simp only [go_sem] <;> first | done | rfl | simp)))); all_goals (rintro v m ⟨hR, hm⟩; subst hR; subst hm); all_goals (refine And.intro ?_ (And.intro ?_ (And.intro ?_ ?_)); iterate 3 (focus (first | rfl | (simp only [go_sem]; done) | (simp [go_sem, look]; done)))); all_goals (try simp only [go_sem]); all_goals (try simp only [go_sem]); all_goals repeat' (first | apply And.intro | intro _)) | skip)
 refine hK3 _ ?_
 refine condT_k (by first | rfl | (simp [go_sem]; done)) ?_
 refine sr_k fun K4 hK4 => ?_
 simp only [go_sem]
 repeat' (first | apply And.intro | intro _)
 refine hK4 _ ?_
 refine ret_k ?_
 refine hM2 _ _ ?_
 simp only [go_sem]
 all_goals (exact told_plain (by simp [plainV, plainW, w4C, w4, dgL, u64C]) ⟨rfl, rfl⟩)
set_option maxHeartbeats 800000 in
theorem reck_b (k : Int) (a b c d e f g h : UInt64) (h1 : vQ a b c d < p25) (h2 : ¬ vQ e f g h < p25) :
 CtM Tryd.prog 13 [.w (.one (.pl (.i k))), .w (.agg [.pl (.u64 a), .pl (.u64 b), .pl (.u64 c), .pl (.u64 d)]), .w (.agg [.pl (.u64 e), .pl (.u64 f), .pl (.u64 g), .pl (.u64 h)])] [(1000001, ⟨false, u64C prdL⟩)] (Told (fun v m => v = .tup [.agg [.pl (.u64 0), .pl (.u64 0), .pl (.u64 0), .pl (.u64 0)], .one (.pl (.i 6))] ∧ m = [])) := by
 have hA := in_ a b c d
 have hB := in_ e f g h
 rw [decide_eq_true h1] at hA
 rw [decide_eq_false h2] at hB
 refine CtM.k Tryd.func13 rfl Tryd.ntmps13 (congrArg Array.toList Tryd.results13) (by simp) fun w0 ro may fx => ?_
 refine sr_k fun K1 hK1 => ?_
 simp only [go_sem]
 repeat' (first | apply And.intro | intro _)
 refine hK1 _ ?_
 refine seq_k fun N2 M2 hN2 hM2 => ?_
 refine sr_k fun K3 hK3 => ?_
 simp only [go_sem]
 repeat' (first | apply And.intro | intro _)
 all_goals (refine call_hand false [] (fun k => k) (fun _ _ => rfl) ?_ (by decide) ?_ hA.told ?_; iterate 2 (focus (first | rfl | (simp only [go_sem] <;> first | done | rfl | simp))))
 all_goals (rintro v m ⟨hR, hm⟩; subst hR; subst hm)
 all_goals (refine And.intro ?_ (And.intro ?_ (And.intro ?_ ?_)); iterate 3 (focus (first | rfl | (simp only [go_sem]; done) | (simp [go_sem, look]; done))))
 all_goals (try simp only [go_sem])
 all_goals (try simp only [go_sem])
 all_goals repeat' (first | apply And.intro | intro _)
 all_goals (refine call_hand false [] (fun k => k) (fun _ _ => rfl) ?_ (by decide) ?_ hB.told ?_; iterate 2 (focus (first | rfl | (simp only [go_sem] <;> first | done | rfl | simp))))
 all_goals (rintro v m ⟨hR, hm⟩; subst hR; subst hm)
 all_goals (refine And.intro ?_ (And.intro ?_ (And.intro ?_ ?_)); iterate 3 (focus (first | rfl | (simp only [go_sem]; done) | (simp [go_sem, look]; done))))
 all_goals (try simp only [go_sem])
 all_goals (try simp only [go_sem])
 all_goals repeat' (first | apply And.intro | intro _)
 refine hK3 _ ?_
 refine condT_k (by first | rfl | (simp [go_sem]; done)) ?_
 refine sr_k fun K4 hK4 => ?_
 simp only [go_sem]
 repeat' (first | apply And.intro | intro _)
 refine hK4 _ ?_
 refine ret_k ?_
 refine hM2 _ _ ?_
 simp only [go_sem]
 all_goals (exact told_plain (by simp [plainV, plainW, w4C, w4, dgL, u64C]) ⟨rfl, rfl⟩)
set_option maxHeartbeats 1600000 in
theorem reck_add (a b c d e f g h : UInt64) (h1 : vQ a b c d < p25) (h2 : vQ e f g h < p25) :
 CtM Tryd.prog 13 [.w (.one (.pl (.i 1))), .w (.agg [.pl (.u64 a), .pl (.u64 b), .pl (.u64 c), .pl (.u64 d)]), .w (.agg [.pl (.u64 e), .pl (.u64 f), .pl (.u64 g), .pl (.u64 h)])] [(1000001, ⟨false, u64C prdL⟩)] (Told (fun v m => v = .tup [.agg (w4C ((vQ a b c d + vQ e f g h) % p25)), .one (.pl (.i 0))] ∧ m = [])) := by
 have hA := in_ a b c d
 have hB := in_ e f g h
 rw [decide_eq_true h1] at hA
 rw [decide_eq_true h2] at hB
 have hOx := of_ a b c d
 have hOy := of_ e f g h
 obtain ⟨x, hx⟩ : ∃ q, D16 (vQ a b c d) = q := ⟨_, rfl⟩
 have hxl : x.length = 16 := by rw [← hx]; rfl
 have hxd : ∀ i, i < 16 → (fL x i).toNat < 65536 := by rw [← hx]; exact D16_lt _
 have hxv : valB 65536 x = vQ a b c d := by rw [← hx]; exact D16_val (vQ_lt a b c d)
 obtain ⟨y, hy⟩ : ∃ q, D16 (vQ e f g h) = q := ⟨_, rfl⟩
 have hyl : y.length = 16 := by rw [← hy]; rfl
 have hyd : ∀ i, i < 16 → (fL y i).toNat < 65536 := by rw [← hy]; exact D16_lt _
 have hyv : valB 65536 y = vQ e f g h := by rw [← hy]; exact D16_val (vQ_lt e f g h)
 rw [hx] at hOx
 rw [hy] at hOy
 have hS := sum_ x y hxl hyl hxd hyd
 rw [hxv, hyv] at hS
 have hK := back_ ((vQ a b c d + vQ e f g h) % p25) (mod_lt4 _)
 obtain ⟨r, hr⟩ : ∃ q, D16 ((vQ a b c d + vQ e f g h) % p25) = q := ⟨_, rfl⟩
 have hrl : r.length = 16 := by rw [← hr]; rfl
 have hrd : ∀ i, i < 16 → (fL r i).toNat < 65536 := by rw [← hr]; exact D16_lt _
 rw [hr] at hS hK
 obtain ⟨s0, s1, s2, s3, hs, hvs⟩ := w4_get ((vQ a b c d + vQ e f g h) % p25) (mod_m4 _)
 have hus : u64C [s0, s1, s2, s3] = [.pl (.u64 s0), .pl (.u64 s1), .pl (.u64 s2), .pl (.u64 s3)] := rfl
 simp only [w4C, hs, hus] at hK ⊢
 have F0 := And.intro hxl <| And.intro hyl <| hrl
 refine CtM.k Tryd.func13 rfl Tryd.ntmps13 (congrArg Array.toList Tryd.results13) (by simp) fun w0 ro may fx => ?_
 refine sr_k fun K1 hK1 => ?_
 simp only [go_sem, F0]
 repeat' (first | apply And.intro | intro _)
 refine hK1 _ ?_
 refine seq_k fun N2 M2 hN2 hM2 => ?_
 refine sr_k fun K3 hK3 => ?_
 simp only [go_sem, F0]
 repeat' (first | apply And.intro | intro _)
 all_goals (refine call_hand false [] (fun k => k) (fun _ _ => rfl) ?_ (by decide) ?_ hA.told ?_; iterate 2 (focus (first | rfl | (simp only [go_sem, F0] <;> first | done | rfl | simp))))
 all_goals (rintro v m ⟨hR, hm⟩; subst hR; subst hm)
 all_goals (refine And.intro ?_ (And.intro ?_ (And.intro ?_ ?_)); iterate 3 (focus (first | rfl | (simp only [go_sem, F0]; done) | (simp [go_sem, look, F0]; done))))
 all_goals (try simp only [go_sem, F0])
 all_goals (try simp only [go_sem, F0])
 all_goals repeat' (first | apply And.intro | intro _)
 all_goals (refine call_hand false [] (fun k => k) (fun _ _ => rfl) ?_ (by decide) ?_ hB.told ?_; iterate 2 (focus (first | rfl | (simp only [go_sem, F0] <;> first | done | rfl | simp))))
 all_goals (rintro v m ⟨hR, hm⟩; subst hR; subst hm)
 all_goals (refine And.intro ?_ (And.intro ?_ (And.intro ?_ ?_)); iterate 3 (focus (first | rfl | (simp only [go_sem, F0]; done) | (simp [go_sem, look, F0]; done))))
 all_goals (try simp only [go_sem, F0])
 all_goals (try simp only [go_sem, F0])
 all_goals repeat' (first | apply And.intro | intro _)
 refine hK3 _ ?_
 refine condF_k (by first | rfl | (simp [go_sem, F0]; done)) ?_
 refine skip_k ?_
 refine hN2 _ ?_
 refine seq_k fun N4 M4 hN4 hM4 => ?_
 refine dr_k mixed fun K5 hK5 => ?_
 refine dr_piece_k 6 [19, 20, 21, 22, 8, 9] [0, 1, 0, 7, 0, 0, 63, 127] [] rfl (by kernel_rfl) rfl (by simp only [go_sem]) fun N6 K6 hN6 hK6 => ?_
 simp only [go_sem, F0]
 repeat' (first | apply And.intro | intro _)
 all_goals refine call_draw (fun k => k) (.w (.agg (u64C x))) [] (fun _ _ => rfl) (by first | rfl | (simp only [go_sem, F0] <;> rfl)) ((hOx).plain fun _ _ h => h) ?_ ?_
 all_goals try (refine And.intro ?_ (And.intro ?_ (And.intro ?_ ?_)) <;> first | rfl | simp only [go_sem])
 all_goals simp only [go_sem, F0]
 all_goals repeat' (first | apply And.intro | intro _)
 all_goals refine call_draw (fun k => k) (.w (.agg (u64C y))) [] (fun _ _ => rfl) (by first | rfl | (simp only [go_sem, F0] <;> rfl)) ((hOy).plain fun _ _ h => h) ?_ ?_
 all_goals try (refine And.intro ?_ (And.intro ?_ (And.intro ?_ ?_)) <;> first | rfl | simp only [go_sem])
 all_goals simp only [go_sem, F0]
 all_goals repeat' (first | apply And.intro | intro _)
 all_goals
  refine hK6 _ _ trivial (hN6 _ ?_)
  refine dr_runs_k 2 8 rfl (by kernel_rfl) rfl rfl fun N7 hN7 => ?_
  simp only [go_sem, F0]
  repeat' (first | apply And.intro | intro _)
  all_goals
   refine hN7 _ ?_
   refine dr_end rfl (hK5 _ ?_)
   refine hN4 _ ?_
   refine seq_k fun N8 M8 hN8 hM8 => ?_
   refine sr_k fun K9 hK9 => ?_
   simp only [go_sem, F0]
   repeat' (first | apply And.intro | intro _)
   refine hK9 _ ?_
   refine block_k fun B10 bn10 bx10 br10 bi10 => ?_
   refine sr_k fun K11 hK11 => ?_
   simp only [go_sem, F0]
   repeat' (first | apply And.intro | intro _)
   refine hK11 _ ?_
   refine condT_k (by first | rfl | (simp [go_sem, F0]; done)) ?_
   refine sr_k fun K12 hK12 => ?_
   simp only [go_sem, F0]
   repeat' (first | apply And.intro | intro _)
   all_goals (refine call_hand false [] (fun k => k) (fun _ _ => rfl) ?_ (by decide) ?_ hS.told ?_; iterate 2 (focus (first | rfl | (simp only [go_sem, F0] <;> first | done | rfl | simp))))
   all_goals (rintro v m ⟨hR, hm⟩; subst hR; subst hm)
   all_goals (refine And.intro ?_ (And.intro ?_ (And.intro ?_ ?_)); iterate 3 (focus (first | rfl | (simp only [go_sem, F0]; done) | (simp [go_sem, look, F0]; done))))
   all_goals (try simp only [go_sem, F0])
   all_goals (try simp only [go_sem, F0])
   all_goals repeat' (first | apply And.intro | intro _)
   all_goals refine call_view (fun k => k) (fun _ _ => rfl) (by first | rfl | (simp only [go_sem, F0] <;> rfl)) ((hK).plain fun _ _ h => h) ?_
   all_goals (rintro v m ⟨hR, hm⟩; subst hR; subst hm)
   all_goals refine And.intro (by first | rfl | simp only [go_sem, F0]) (And.intro (by first | rfl | simp only [go_sem, F0]) ?_)
   all_goals simp only [go_sem, F0]
   all_goals repeat' (first | apply And.intro | intro _)
   refine hK12 _ ?_
   refine ret_k ?_
   refine br10 _ ?_
   refine hM8 _ _ ?_
   simp only [go_sem, F0]
   all_goals (exact told_plain (by simp [plainV, plainW]) ⟨rfl, rfl⟩)
set_option maxHeartbeats 1600000 in
theorem reck_sub (a b c d e f g h : UInt64) (h1 : vQ a b c d < p25) (h2 : vQ e f g h < p25) :
 CtM Tryd.prog 13 [.w (.one (.pl (.i 2))), .w (.agg [.pl (.u64 a), .pl (.u64 b), .pl (.u64 c), .pl (.u64 d)]), .w (.agg [.pl (.u64 e), .pl (.u64 f), .pl (.u64 g), .pl (.u64 h)])] [(1000001, ⟨false, u64C prdL⟩)] (Told (fun v m => v = .tup [.agg (w4C ((vQ a b c d + p25 - vQ e f g h) % p25)), .one (.pl (.i 0))] ∧ m = [])) := by
 have hA := in_ a b c d
 have hB := in_ e f g h
 rw [decide_eq_true h1] at hA
 rw [decide_eq_true h2] at hB
 have hOx := of_ a b c d
 have hOy := of_ e f g h
 obtain ⟨x, hx⟩ : ∃ q, D16 (vQ a b c d) = q := ⟨_, rfl⟩
 have hxl : x.length = 16 := by rw [← hx]; rfl
 have hxd : ∀ i, i < 16 → (fL x i).toNat < 65536 := by rw [← hx]; exact D16_lt _
 have hxv : valB 65536 x = vQ a b c d := by rw [← hx]; exact D16_val (vQ_lt a b c d)
 obtain ⟨y, hy⟩ : ∃ q, D16 (vQ e f g h) = q := ⟨_, rfl⟩
 have hyl : y.length = 16 := by rw [← hy]; rfl
 have hyd : ∀ i, i < 16 → (fL y i).toNat < 65536 := by rw [← hy]; exact D16_lt _
 have hyv : valB 65536 y = vQ e f g h := by rw [← hy]; exact D16_val (vQ_lt e f g h)
 rw [hx] at hOx
 rw [hy] at hOy
 have hO := opposite_ y hyl hyd (by rw [hyv]; omega)
 rw [hyv] at hO
 obtain ⟨z, hz⟩ : ∃ q, D16 ((p25 - vQ e f g h) % p25) = q := ⟨_, rfl⟩
 have hzl : z.length = 16 := by rw [← hz]; rfl
 have hzd : ∀ i, i < 16 → (fL z i).toNat < 65536 := by rw [← hz]; exact D16_lt _
 have hzv : valB 65536 z = (p25 - vQ e f g h) % p25 := by rw [← hz]; exact D16_val (mod_lt4 _)
 rw [hz] at hO
 have hS := sum_ x z hxl hzl hxd hzd
 rw [hxv, hzv, dif_mod h1 h2] at hS
 have hK := back_ ((vQ a b c d + p25 - vQ e f g h) % p25) (mod_lt4 _)
 obtain ⟨r, hr⟩ : ∃ q, D16 ((vQ a b c d + p25 - vQ e f g h) % p25) = q := ⟨_, rfl⟩
 have hrl : r.length = 16 := by rw [← hr]; rfl
 have hrd : ∀ i, i < 16 → (fL r i).toNat < 65536 := by rw [← hr]; exact D16_lt _
 rw [hr] at hS hK
 obtain ⟨s0, s1, s2, s3, hs, hvs⟩ := w4_get ((vQ a b c d + p25 - vQ e f g h) % p25) (mod_m4 _)
 have hus : u64C [s0, s1, s2, s3] = [.pl (.u64 s0), .pl (.u64 s1), .pl (.u64 s2), .pl (.u64 s3)] := rfl
 simp only [w4C, hs, hus] at hK ⊢
 have F0 := And.intro hxl <| And.intro hyl <| And.intro hrl <| hzl
 refine CtM.k Tryd.func13 rfl Tryd.ntmps13 (congrArg Array.toList Tryd.results13) (by simp) fun w0 ro may fx => ?_
 refine sr_k fun K1 hK1 => ?_
 simp only [go_sem, F0]
 repeat' (first | apply And.intro | intro _)
 refine hK1 _ ?_
 refine seq_k fun N2 M2 hN2 hM2 => ?_
 refine sr_k fun K3 hK3 => ?_
 simp only [go_sem, F0]
 repeat' (first | apply And.intro | intro _)
 all_goals (refine call_hand false [] (fun k => k) (fun _ _ => rfl) ?_ (by decide) ?_ hA.told ?_; iterate 2 (focus (first | rfl | (simp only [go_sem, F0] <;> first | done | rfl | simp))))
 all_goals (rintro v m ⟨hR, hm⟩; subst hR; subst hm)
 all_goals (refine And.intro ?_ (And.intro ?_ (And.intro ?_ ?_)); iterate 3 (focus (first | rfl | (simp only [go_sem, F0]; done) | (simp [go_sem, look, F0]; done))))
 all_goals (try simp only [go_sem, F0])
 all_goals (try simp only [go_sem, F0])
 all_goals repeat' (first | apply And.intro | intro _)
 all_goals (refine call_hand false [] (fun k => k) (fun _ _ => rfl) ?_ (by decide) ?_ hB.told ?_; iterate 2 (focus (first | rfl | (simp only [go_sem, F0] <;> first | done | rfl | simp))))
 all_goals (rintro v m ⟨hR, hm⟩; subst hR; subst hm)
 all_goals (refine And.intro ?_ (And.intro ?_ (And.intro ?_ ?_)); iterate 3 (focus (first | rfl | (simp only [go_sem, F0]; done) | (simp [go_sem, look, F0]; done))))
 all_goals (try simp only [go_sem, F0])
 all_goals (try simp only [go_sem, F0])
 all_goals repeat' (first | apply And.intro | intro _)
 refine hK3 _ ?_
 refine condF_k (by first | rfl | (simp [go_sem, F0]; done)) ?_
 refine skip_k ?_
 refine hN2 _ ?_
 refine seq_k fun N4 M4 hN4 hM4 => ?_
 refine dr_k mixed fun K5 hK5 => ?_
 refine dr_piece_k 6 [19, 20, 21, 22, 8, 9] [0, 1, 0, 7, 0, 0, 63, 127] [] rfl (by kernel_rfl) rfl (by simp only [go_sem]) fun N6 K6 hN6 hK6 => ?_
 simp only [go_sem, F0]
 repeat' (first | apply And.intro | intro _)
 all_goals refine call_draw (fun k => k) (.w (.agg (u64C x))) [] (fun _ _ => rfl) (by first | rfl | (simp only [go_sem, F0] <;> rfl)) ((hOx).plain fun _ _ h => h) ?_ ?_
 all_goals try (refine And.intro ?_ (And.intro ?_ (And.intro ?_ ?_)) <;> first | rfl | simp only [go_sem])
 all_goals simp only [go_sem, F0]
 all_goals repeat' (first | apply And.intro | intro _)
 all_goals refine call_draw (fun k => k) (.w (.agg (u64C y))) [] (fun _ _ => rfl) (by first | rfl | (simp only [go_sem, F0] <;> rfl)) ((hOy).plain fun _ _ h => h) ?_ ?_
 all_goals try (refine And.intro ?_ (And.intro ?_ (And.intro ?_ ?_)) <;> first | rfl | simp only [go_sem])
 all_goals simp only [go_sem, F0]
 all_goals repeat' (first | apply And.intro | intro _)
 all_goals
  refine hK6 _ _ trivial (hN6 _ ?_)
  refine dr_runs_k 2 8 rfl (by kernel_rfl) rfl rfl fun N7 hN7 => ?_
  simp only [go_sem, F0]
  repeat' (first | apply And.intro | intro _)
  all_goals
   refine hN7 _ ?_
   refine dr_end rfl (hK5 _ ?_)
   refine hN4 _ ?_
   refine seq_k fun N8 M8 hN8 hM8 => ?_
   refine sr_k fun K9 hK9 => ?_
   simp only [go_sem, F0]
   repeat' (first | apply And.intro | intro _)
   refine hK9 _ ?_
   refine block_k fun B10 bn10 bx10 br10 bi10 => ?_
   refine sr_k fun K11 hK11 => ?_
   simp only [go_sem, F0]
   repeat' (first | apply And.intro | intro _)
   refine hK11 _ ?_
   refine condF_k (by first | rfl | (simp [go_sem, F0]; done)) ?_
   refine sr_k fun K12 hK12 => ?_
   simp only [go_sem, F0]
   repeat' (first | apply And.intro | intro _)
   refine hK12 _ ?_
   refine condT_k (by first | rfl | (simp [go_sem, F0]; done)) ?_
   refine seq_k fun N13 M13 hN13 hM13 => ?_
   refine dr_k mixed fun K14 hK14 => ?_
   refine dr_piece_k 3 [32, 33, 34] [0, 0, 2, 7, 15, 31, 63] [] rfl (by kernel_rfl) rfl (by simp only [go_sem]) fun N15 K15 hN15 hK15 => ?_
   simp only [go_sem, F0]
   repeat' (first | apply And.intro | intro _)
   all_goals (refine call_drawhand (fun k => k) (.w (.agg (u64C z))) [] (fun _ _ => rfl) ?_ ?_ ?_ hO.told ?_ ?_; (iterate 2 (focus (first | rfl | (simp only [go_sem, F0] <;> first | done | rfl | simp)))); (first | kernel_rfl | rfl | simp [fixO, fixL, pls]))
   all_goals try (refine And.intro ?_ (And.intro ?_ (And.intro ?_ ?_)) <;> (first | rfl | (simp only [go_sem, F0]; done) | (simp [go_sem, look, F0]; done)))
   all_goals (try simp only [go_sem, F0])
   all_goals (try simp only [go_sem, F0])
   all_goals repeat' (first | apply And.intro | intro _)
   all_goals
    refine hK15 _ _ trivial (hN15 _ ?_)
    refine dr_runs_k 4 7 rfl (by kernel_rfl) rfl rfl fun N16 hN16 => ?_
    simp only [go_sem, F0]
    repeat' (first | apply And.intro | intro _)
    all_goals (refine call_hand false [] (fun k => k) (fun _ _ => rfl) ?_ (by decide) ?_ hS.told ?_; iterate 2 (focus (first | rfl | (simp only [go_sem, F0] <;> first | done | rfl | simp))))
    all_goals (rintro v m ⟨hR, hm⟩; subst hR; subst hm)
    all_goals (refine And.intro ?_ (And.intro ?_ (And.intro ?_ ?_)); iterate 3 (focus (first | rfl | (simp only [go_sem, F0]; done) | (simp [go_sem, look, F0]; done))))
    all_goals (try simp only [go_sem, F0])
    all_goals (try simp only [go_sem, F0])
    all_goals repeat' (first | apply And.intro | intro _)
    all_goals refine call_view (fun k => k) (fun _ _ => rfl) (by first | rfl | (simp only [go_sem, F0] <;> rfl)) ((hK).plain fun _ _ h => h) ?_
    all_goals (rintro v m ⟨hR, hm⟩; subst hR; subst hm)
    all_goals refine And.intro (by first | rfl | simp only [go_sem, F0]) (And.intro (by first | rfl | simp only [go_sem, F0]) ?_)
    all_goals simp only [go_sem, F0]
    all_goals repeat' (first | apply And.intro | intro _)
    all_goals
     refine hN16 _ ?_
     refine dr_end rfl (hK14 _ ?_)
     refine hN13 _ ?_
     refine ret_k ?_
     refine br10 _ ?_
     refine hM8 _ _ ?_
     simp only [go_sem, F0]
     all_goals (exact told_plain (by simp [plainV, plainW]) ⟨rfl, rfl⟩)
end Go.Sy

