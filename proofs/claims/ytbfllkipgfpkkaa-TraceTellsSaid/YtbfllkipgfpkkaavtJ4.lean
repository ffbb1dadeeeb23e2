/- Walks: a token of a side. -/
import Derived.Test.YtbfllkipgfpkkaavtJ3
set_option linter.unusedVariables false
set_option linter.unusedSimpArgs false
namespace Go.Sy
open Go.Proofs
attribute [local irreducible] atCall HT runOps runD onC onE onO onG goV goA goS onSt onGuard
@[go_sem] theorem jls_out (vw : Bool) (m : List (Nat × Ob)) (j : Jd) : j.ls.all (leafOut vw m) = true := by cases vw <;> rfl
@[go_sem] theorem jls_map (f : Nat → Nat) (j : Jd) : j.ls.map (L.ren f) = j.ls := rfl
theorem told_01_t (j : Jd) (hf : j.flag false 1 = true) : CtM Try.prog 16 [.w (.one (.p 500000 [])), .w (.one (.pl (.i 0))), .w (.one (.pl (.i 1)))] (jM j) (fun v m => v = .w (.one (.pl (.b false))) ∧ m = jM j) := by
 obtain ⟨e0, s0, e1, s1, d3, d4, d5, d6, k⟩ := j
 have hz : e0 = true := hf
 subst hz
 exact (told_01t _ _ _ _ _ _ _ _).told
theorem told_01_f (j : Jd) (hf : j.flag false 1 = false) : CtM Try.prog 16 [.w (.one (.p 500000 [])), .w (.one (.pl (.i 0))), .w (.one (.pl (.i 1)))] (jM j) (fun v m => v = .w (.one (.pl (.b true))) ∧ m = jM (j.tell false 1)) := by
 obtain ⟨e0, s0, e1, s1, d3, d4, d5, d6, k⟩ := j
 have hz : e0 = false := hf
 subst hz
 exact (told_01f _ _ _ _ _ _ _ _).told
theorem told_02_t (j : Jd) (hf : j.flag false 2 = true) : CtM Try.prog 16 [.w (.one (.p 500000 [])), .w (.one (.pl (.i 0))), .w (.one (.pl (.i 2)))] (jM j) (fun v m => v = .w (.one (.pl (.b false))) ∧ m = jM j) := by
 obtain ⟨e0, s0, e1, s1, d3, d4, d5, d6, k⟩ := j
 have hz : s0 = true := hf
 subst hz
 exact (told_02t _ _ _ _ _ _ _ _).told
theorem told_02_f (j : Jd) (hf : j.flag false 2 = false) : CtM Try.prog 16 [.w (.one (.p 500000 [])), .w (.one (.pl (.i 0))), .w (.one (.pl (.i 2)))] (jM j) (fun v m => v = .w (.one (.pl (.b true))) ∧ m = jM (j.tell false 2)) := by
 obtain ⟨e0, s0, e1, s1, d3, d4, d5, d6, k⟩ := j
 have hz : s0 = false := hf
 subst hz
 exact (told_02f _ _ _ _ _ _ _ _).told
theorem told_11_t (j : Jd) (hf : j.flag true 1 = true) : CtM Try.prog 16 [.w (.one (.p 500000 [])), .w (.one (.pl (.i 1))), .w (.one (.pl (.i 1)))] (jM j) (fun v m => v = .w (.one (.pl (.b false))) ∧ m = jM j) := by
 obtain ⟨e0, s0, e1, s1, d3, d4, d5, d6, k⟩ := j
 have hz : e1 = true := hf
 subst hz
 exact (told_11t _ _ _ _ _ _ _ _).told
theorem told_11_f (j : Jd) (hf : j.flag true 1 = false) : CtM Try.prog 16 [.w (.one (.p 500000 [])), .w (.one (.pl (.i 1))), .w (.one (.pl (.i 1)))] (jM j) (fun v m => v = .w (.one (.pl (.b true))) ∧ m = jM (j.tell true 1)) := by
 obtain ⟨e0, s0, e1, s1, d3, d4, d5, d6, k⟩ := j
 have hz : e1 = false := hf
 subst hz
 exact (told_11f _ _ _ _ _ _ _ _).told
theorem told_12_t (j : Jd) (hf : j.flag true 2 = true) : CtM Try.prog 16 [.w (.one (.p 500000 [])), .w (.one (.pl (.i 1))), .w (.one (.pl (.i 2)))] (jM j) (fun v m => v = .w (.one (.pl (.b false))) ∧ m = jM j) := by
 obtain ⟨e0, s0, e1, s1, d3, d4, d5, d6, k⟩ := j
 have hz : s1 = true := hf
 subst hz
 exact (told_12t _ _ _ _ _ _ _ _).told
theorem told_12_f (j : Jd) (hf : j.flag true 2 = false) : CtM Try.prog 16 [.w (.one (.p 500000 [])), .w (.one (.pl (.i 1))), .w (.one (.pl (.i 2)))] (jM j) (fun v m => v = .w (.one (.pl (.b true))) ∧ m = jM (j.tell true 2)) := by
 obtain ⟨e0, s0, e1, s1, d3, d4, d5, d6, k⟩ := j
 have hz : s1 = false := hf
 subst hz
 exact (told_12f _ _ _ _ _ _ _ _).told
set_option maxHeartbeats 800000 in
set_option maxRecDepth 100000 in
theorem tok_01t (j : Jd) (hf : j.flag false 1 = true) :
 CtM Try.prog 17 [.w (.one (.p 500000 [])), .w (.one (.pl (.i 0))), .w (.one (.pl (.i 1)))] (jM j) (Told (fun v m => v = .w (.one (.pl (.b false))) ∧ m = jM j)) := by
 refine CtM.k Try.func17 rfl Try.ntmps17 (congrArg Array.toList Try.results17) (by simp) fun w0 ro may fx => ?_
 refine top_k fun zZ zhZ => ?_
 iterate 16 first
  | (refine sr_k fun zK zhK => ?_; simp only [go_sem, jM, Int.toNat_one]; (repeat' (first | apply And.intro | intro _)))
  | refine zhK _ ?_
  | refine block_k fun zB zbn zbx zbr zbi => ?_
  | refine ret_k ?_
  | (refine zbr _ ?_; clear zbn zbx zbr zbi)
  | (refine zhM _ _ ?_; clear zhN zhM)
  | (refine zhZ _ _ ?_; simp only [go_sem, jM, Int.toNat_one]; (all_goals (exact told_keep rfl (keep_one (by simp [look])) ⟨rfl, rfl⟩)))
  | ((all_goals (refine call_hand false [(500000, 500000)] (fun k => k) (fun _ _ => rfl) ?_ (by decide) ?_ (told_01_t j hf) ?_; iterate 2 (focus (first | rfl | (simp only [go_sem, jM, Int.toNat_one] <;> first | done | rfl | simp))))); (all_goals (rintro v m ⟨hR, hm⟩; subst hR; subst hm)); (all_goals (refine And.intro ?_ (And.intro ?_ (And.intro ?_ ?_)); iterate 3 (focus (first | rfl | (simp only [go_sem, jM, Int.toNat_one]; done) | (simp [go_sem, look, jM, Int.toNat_one]; done))))); (all_goals (try simp only [go_sem, jM, Int.toNat_one])); (all_goals (try simp only [go_sem, jM, Int.toNat_one])); (all_goals repeat' (first | apply And.intro | intro _)))
  | refine seq_k fun zN zM zhN zhM => ?_
  | (refine condT_k ?_ ?_; focus (first | rfl | (simp [go_sem, jM, Int.toNat_one]; done)))
set_option maxHeartbeats 800000 in
set_option maxRecDepth 100000 in
theorem tok_01f (j : Jd) (hf : j.flag false 1 = false) :
 CtM Try.prog 17 [.w (.one (.p 500000 [])), .w (.one (.pl (.i 0))), .w (.one (.pl (.i 1)))] (jM j) (Told (fun v m => v = .w (.one (.pl (.b true))) ∧ m = jM (j.tell false 1))) := by
 refine CtM.k Try.func17 rfl Try.ntmps17 (congrArg Array.toList Try.results17) (by simp) fun w0 ro may fx => ?_
 refine top_k fun zZ zhZ => ?_
 iterate 16 first
  | (refine sr_k fun zK zhK => ?_; simp only [go_sem, jM, Int.toNat_one]; (repeat' (first | apply And.intro | intro _)))
  | refine zhK _ ?_
  | refine block_k fun zB zbn zbx zbr zbi => ?_
  | refine ret_k ?_
  | (refine zbr _ ?_; clear zbn zbx zbr zbi)
  | (refine zhM _ _ ?_; clear zhN zhM)
  | (refine zhZ _ _ ?_; simp only [go_sem, jM, Int.toNat_one]; (all_goals (exact told_keep rfl (keep_one (by simp [look])) ⟨rfl, rfl⟩)))
  | ((all_goals (refine call_hand false [(500000, 500000)] (fun k => k) (fun _ _ => rfl) ?_ (by decide) ?_ (told_01_f j hf) ?_; iterate 2 (focus (first | rfl | (simp only [go_sem, jM, Int.toNat_one] <;> first | done | rfl | simp))))); (all_goals (rintro v m ⟨hR, hm⟩; subst hR; subst hm)); (all_goals (refine And.intro ?_ (And.intro ?_ (And.intro ?_ ?_)); iterate 3 (focus (first | rfl | (simp only [go_sem, jM, Int.toNat_one]; done) | (simp [go_sem, look, jM, Int.toNat_one]; done))))); (all_goals (try simp only [go_sem, jM, Int.toNat_one])); (all_goals (try simp only [go_sem, jM, Int.toNat_one])); (all_goals repeat' (first | apply And.intro | intro _)))
  | refine seq_k fun zN zM zhN zhM => ?_
  | (refine condT_k ?_ ?_; focus (first | rfl | (simp [go_sem, jM, Int.toNat_one]; done)))
theorem token_01 (j : Jd) : CtM Try.prog 17 [.w (.one (.p 500000 [])), .w (.one (.pl (.i 0))), .w (.one (.pl (.i 1)))] (jM j) (fun v m => v = .w (.one (.pl (.b (j.token false 1).1))) ∧ m = jM (j.token false 1).2) := by
 rcases h : j.flag false 1 with _ | _
 · have hr : j.token false 1 = (true, j.tell false 1) := by simp [Jd.token, h]
   rw [hr]; exact (tok_01f j h).told
 · have hr : j.token false 1 = (false, j) := by simp [Jd.token, h]
   rw [hr]; exact (tok_01t j h).told
set_option maxHeartbeats 800000 in
set_option maxRecDepth 100000 in
theorem tok_02nt (j : Jd) (hl : j.locks = false) (hf : j.flag false 2 = true) :
 CtM Try.prog 17 [.w (.one (.p 500000 [])), .w (.one (.pl (.i 0))), .w (.one (.pl (.i 2)))] (jM j) (Told (fun v m => v = .w (.one (.pl (.b false))) ∧ m = jM j)) := by
 have hL := locks_ j
 rw [hl] at hL
 refine CtM.k Try.func17 rfl Try.ntmps17 (congrArg Array.toList Try.results17) (by simp) fun w0 ro may fx => ?_
 refine top_k fun zZ zhZ => ?_
 iterate 19 first
  | (refine sr_k fun zK zhK => ?_; simp only [go_sem, jM, Int.toNat_one]; (repeat' (first | apply And.intro | intro _)))
  | refine zhK _ ?_
  | refine block_k fun zB zbn zbx zbr zbi => ?_
  | refine ret_k ?_
  | (refine zbr _ ?_; clear zbn zbx zbr zbi)
  | (refine zhM _ _ ?_; clear zhN zhM)
  | (refine zhZ _ _ ?_; simp only [go_sem, jM, Int.toNat_one]; (all_goals (exact told_keep rfl (keep_one (by simp [look])) ⟨rfl, rfl⟩)))
  | ((all_goals (refine call_hand false [(500000, 500000)] (fun k => k) (fun _ _ => rfl) ?_ (by decide) ?_ hL ?_; iterate 2 (focus (first | rfl | (simp only [go_sem, jM, Int.toNat_one] <;> first | done | rfl | simp))))); (all_goals (rintro v m ⟨hR, hm⟩; subst hR; subst hm)); (all_goals (refine And.intro ?_ (And.intro ?_ (And.intro ?_ ?_)); iterate 3 (focus (first | rfl | (simp only [go_sem, jM, Int.toNat_one]; done) | (simp [go_sem, look, jM, Int.toNat_one]; done))))); (all_goals (try simp only [go_sem, jM, Int.toNat_one])); (all_goals (try simp only [go_sem, jM, Int.toNat_one])); (all_goals repeat' (first | apply And.intro | intro _)); (all_goals (first | ((refine call_hand false [(500000, 500000)] (fun k => k) (fun _ _ => rfl) ?_ (by decide) ?_ hM ?_; iterate 2 (focus (first | rfl | (simp only [go_sem, jM, Int.toNat_one] <;> first | done | rfl | simp)))); all_goals (rintro v m ⟨hR, hm⟩; subst hR; subst hm); all_goals (refine And.intro ?_ (And.intro ?_ (And.intro ?_ ?_)); iterate 3 (focus (first | rfl | (simp only [go_sem, jM, Int.toNat_one]; done) | (simp [go_sem, look, jM, Int.toNat_one]; done)))); all_goals (try simp only [go_sem, jM, Int.toNat_one]); all_goals (try simp only [go_sem, jM, Int.toNat_one]); all_goals repeat' (first | apply And.intro | intro _)) | skip)); (all_goals (first | ((refine call_hand false [(500000, 500000)] (fun k => k) (fun _ _ => rfl) ?_ (by decide) ?_ (told_02_t j hf) ?_; iterate 2 (focus (first | rfl | (simp only [go_sem, jM, Int.toNat_one] <;> first | done | rfl | simp)))); all_goals (rintro v m ⟨hR, hm⟩; subst hR; subst hm); all_goals (refine And.intro ?_ (And.intro ?_ (And.intro ?_ ?_)); iterate 3 (focus (first | rfl | (simp only [go_sem, jM, Int.toNat_one]; done) | (simp [go_sem, look, jM, Int.toNat_one]; done)))); all_goals (try simp only [go_sem, jM, Int.toNat_one]); all_goals (try simp only [go_sem, jM, Int.toNat_one]); all_goals repeat' (first | apply And.intro | intro _)) | skip)))
  | refine seq_k fun zN zM zhN zhM => ?_
  | (refine condF_k ?_ ?_; focus (first | rfl | (simp [go_sem, jM, Int.toNat_one]; done)))
  | (refine condT_k ?_ ?_; focus (first | rfl | (simp [go_sem, jM, Int.toNat_one]; done)))
set_option maxHeartbeats 800000 in
set_option maxRecDepth 100000 in
theorem tok_02nf (j : Jd) (hl : j.locks = false) (hf : j.flag false 2 = false) :
 CtM Try.prog 17 [.w (.one (.p 500000 [])), .w (.one (.pl (.i 0))), .w (.one (.pl (.i 2)))] (jM j) (Told (fun v m => v = .w (.one (.pl (.b true))) ∧ m = jM (j.tell false 2))) := by
 have hL := locks_ j
 rw [hl] at hL
 refine CtM.k Try.func17 rfl Try.ntmps17 (congrArg Array.toList Try.results17) (by simp) fun w0 ro may fx => ?_
 refine top_k fun zZ zhZ => ?_
 iterate 19 first
  | (refine sr_k fun zK zhK => ?_; simp only [go_sem, jM, Int.toNat_one]; (repeat' (first | apply And.intro | intro _)))
  | refine zhK _ ?_
  | refine block_k fun zB zbn zbx zbr zbi => ?_
  | refine ret_k ?_
  | (refine zbr _ ?_; clear zbn zbx zbr zbi)
  | (refine zhM _ _ ?_; clear zhN zhM)
  | (refine zhZ _ _ ?_; simp only [go_sem, jM, Int.toNat_one]; (all_goals (exact told_keep rfl (keep_one (by simp [look])) ⟨rfl, rfl⟩)))
  | ((all_goals (refine call_hand false [(500000, 500000)] (fun k => k) (fun _ _ => rfl) ?_ (by decide) ?_ hL ?_; iterate 2 (focus (first | rfl | (simp only [go_sem, jM, Int.toNat_one] <;> first | done | rfl | simp))))); (all_goals (rintro v m ⟨hR, hm⟩; subst hR; subst hm)); (all_goals (refine And.intro ?_ (And.intro ?_ (And.intro ?_ ?_)); iterate 3 (focus (first | rfl | (simp only [go_sem, jM, Int.toNat_one]; done) | (simp [go_sem, look, jM, Int.toNat_one]; done))))); (all_goals (try simp only [go_sem, jM, Int.toNat_one])); (all_goals (try simp only [go_sem, jM, Int.toNat_one])); (all_goals repeat' (first | apply And.intro | intro _)); (all_goals (first | ((refine call_hand false [(500000, 500000)] (fun k => k) (fun _ _ => rfl) ?_ (by decide) ?_ hM ?_; iterate 2 (focus (first | rfl | (simp only [go_sem, jM, Int.toNat_one] <;> first | done | rfl | simp)))); all_goals (rintro v m ⟨hR, hm⟩; subst hR; subst hm); all_goals (refine And.intro ?_ (And.intro ?_ (And.intro ?_ ?_)); iterate 3 (focus (first | rfl | (simp only [go_sem, jM, Int.toNat_one]; done) | (simp [go_sem, look, jM, Int.toNat_one]; done)))); all_goals (try simp only [go_sem, jM, Int.toNat_one]); all_goals (try simp only [go_sem, jM, Int.toNat_one]); all_goals repeat' (first | apply And.intro | intro _)) | skip)); (all_goals (first | ((refine call_hand false [(500000, 500000)] (fun k => k) (fun _ _ => rfl) ?_ (by decide) ?_ (told_02_f j hf) ?_; iterate 2 (focus (first | rfl | (simp only [go_sem, jM, Int.toNat_one] <;> first | done | rfl | simp)))); all_goals (rintro v m ⟨hR, hm⟩; subst hR; subst hm); all_goals (refine And.intro ?_ (And.intro ?_ (And.intro ?_ ?_)); iterate 3 (focus (first | rfl | (simp only [go_sem, jM, Int.toNat_one]; done) | (simp [go_sem, look, jM, Int.toNat_one]; done)))); all_goals (try simp only [go_sem, jM, Int.toNat_one]); all_goals (try simp only [go_sem, jM, Int.toNat_one]); all_goals repeat' (first | apply And.intro | intro _)) | skip)))
  | refine seq_k fun zN zM zhN zhM => ?_
  | (refine condF_k ?_ ?_; focus (first | rfl | (simp [go_sem, jM, Int.toNat_one]; done)))
  | (refine condT_k ?_ ?_; focus (first | rfl | (simp [go_sem, jM, Int.toNat_one]; done)))
set_option maxHeartbeats 800000 in
set_option maxRecDepth 100000 in
theorem tok_02mt (j : Jd) (hl : j.locks = true) (hm : j.may false = true) (hf : j.flag false 2 = true) :
 CtM Try.prog 17 [.w (.one (.p 500000 [])), .w (.one (.pl (.i 0))), .w (.one (.pl (.i 2)))] (jM j) (Told (fun v m => v = .w (.one (.pl (.b false))) ∧ m = jM j)) := by
 have hL := locks_ j
 rw [hl] at hL
 have hM := may_0 j
 rw [hm] at hM
 refine CtM.k Try.func17 rfl Try.ntmps17 (congrArg Array.toList Try.results17) (by simp) fun w0 ro may fx => ?_
 refine top_k fun zZ zhZ => ?_
 iterate 19 first
  | (refine sr_k fun zK zhK => ?_; simp only [go_sem, jM, Int.toNat_one]; (repeat' (first | apply And.intro | intro _)))
  | refine zhK _ ?_
  | refine block_k fun zB zbn zbx zbr zbi => ?_
  | refine ret_k ?_
  | (refine zbr _ ?_; clear zbn zbx zbr zbi)
  | (refine zhM _ _ ?_; clear zhN zhM)
  | (refine zhZ _ _ ?_; simp only [go_sem, jM, Int.toNat_one]; (all_goals (exact told_keep rfl (keep_one (by simp [look])) ⟨rfl, rfl⟩)))
  | ((all_goals (refine call_hand false [(500000, 500000)] (fun k => k) (fun _ _ => rfl) ?_ (by decide) ?_ hL ?_; iterate 2 (focus (first | rfl | (simp only [go_sem, jM, Int.toNat_one] <;> first | done | rfl | simp))))); (all_goals (rintro v m ⟨hR, hm⟩; subst hR; subst hm)); (all_goals (refine And.intro ?_ (And.intro ?_ (And.intro ?_ ?_)); iterate 3 (focus (first | rfl | (simp only [go_sem, jM, Int.toNat_one]; done) | (simp [go_sem, look, jM, Int.toNat_one]; done))))); (all_goals (try simp only [go_sem, jM, Int.toNat_one])); (all_goals (try simp only [go_sem, jM, Int.toNat_one])); (all_goals repeat' (first | apply And.intro | intro _)); (all_goals (first | ((refine call_hand false [(500000, 500000)] (fun k => k) (fun _ _ => rfl) ?_ (by decide) ?_ hM ?_; iterate 2 (focus (first | rfl | (simp only [go_sem, jM, Int.toNat_one] <;> first | done | rfl | simp)))); all_goals (rintro v m ⟨hR, hm⟩; subst hR; subst hm); all_goals (refine And.intro ?_ (And.intro ?_ (And.intro ?_ ?_)); iterate 3 (focus (first | rfl | (simp only [go_sem, jM, Int.toNat_one]; done) | (simp [go_sem, look, jM, Int.toNat_one]; done)))); all_goals (try simp only [go_sem, jM, Int.toNat_one]); all_goals (try simp only [go_sem, jM, Int.toNat_one]); all_goals repeat' (first | apply And.intro | intro _)) | skip)); (all_goals (first | ((refine call_hand false [(500000, 500000)] (fun k => k) (fun _ _ => rfl) ?_ (by decide) ?_ (told_02_t j hf) ?_; iterate 2 (focus (first | rfl | (simp only [go_sem, jM, Int.toNat_one] <;> first | done | rfl | simp)))); all_goals (rintro v m ⟨hR, hm⟩; subst hR; subst hm); all_goals (refine And.intro ?_ (And.intro ?_ (And.intro ?_ ?_)); iterate 3 (focus (first | rfl | (simp only [go_sem, jM, Int.toNat_one]; done) | (simp [go_sem, look, jM, Int.toNat_one]; done)))); all_goals (try simp only [go_sem, jM, Int.toNat_one]); all_goals (try simp only [go_sem, jM, Int.toNat_one]); all_goals repeat' (first | apply And.intro | intro _)) | skip)))
  | refine seq_k fun zN zM zhN zhM => ?_
  | (refine condF_k ?_ ?_; focus (first | rfl | (simp [go_sem, jM, Int.toNat_one]; done)))
  | (refine condT_k ?_ ?_; focus (first | rfl | (simp [go_sem, jM, Int.toNat_one]; done)))
set_option maxHeartbeats 800000 in
set_option maxRecDepth 100000 in
theorem tok_02mf (j : Jd) (hl : j.locks = true) (hm : j.may false = true) (hf : j.flag false 2 = false) :
 CtM Try.prog 17 [.w (.one (.p 500000 [])), .w (.one (.pl (.i 0))), .w (.one (.pl (.i 2)))] (jM j) (Told (fun v m => v = .w (.one (.pl (.b true))) ∧ m = jM (j.tell false 2))) := by
 have hL := locks_ j
 rw [hl] at hL
 have hM := may_0 j
 rw [hm] at hM
 refine CtM.k Try.func17 rfl Try.ntmps17 (congrArg Array.toList Try.results17) (by simp) fun w0 ro may fx => ?_
 refine top_k fun zZ zhZ => ?_
 iterate 19 first
  | (refine sr_k fun zK zhK => ?_; simp only [go_sem, jM, Int.toNat_one]; (repeat' (first | apply And.intro | intro _)))
  | refine zhK _ ?_
  | refine block_k fun zB zbn zbx zbr zbi => ?_
  | refine ret_k ?_
  | (refine zbr _ ?_; clear zbn zbx zbr zbi)
  | (refine zhM _ _ ?_; clear zhN zhM)
  | (refine zhZ _ _ ?_; simp only [go_sem, jM, Int.toNat_one]; (all_goals (exact told_keep rfl (keep_one (by simp [look])) ⟨rfl, rfl⟩)))
  | ((all_goals (refine call_hand false [(500000, 500000)] (fun k => k) (fun _ _ => rfl) ?_ (by decide) ?_ hL ?_; iterate 2 (focus (first | rfl | (simp only [go_sem, jM, Int.toNat_one] <;> first | done | rfl | simp))))); (all_goals (rintro v m ⟨hR, hm⟩; subst hR; subst hm)); (all_goals (refine And.intro ?_ (And.intro ?_ (And.intro ?_ ?_)); iterate 3 (focus (first | rfl | (simp only [go_sem, jM, Int.toNat_one]; done) | (simp [go_sem, look, jM, Int.toNat_one]; done))))); (all_goals (try simp only [go_sem, jM, Int.toNat_one])); (all_goals (try simp only [go_sem, jM, Int.toNat_one])); (all_goals repeat' (first | apply And.intro | intro _)); (all_goals (first | ((refine call_hand false [(500000, 500000)] (fun k => k) (fun _ _ => rfl) ?_ (by decide) ?_ hM ?_; iterate 2 (focus (first | rfl | (simp only [go_sem, jM, Int.toNat_one] <;> first | done | rfl | simp)))); all_goals (rintro v m ⟨hR, hm⟩; subst hR; subst hm); all_goals (refine And.intro ?_ (And.intro ?_ (And.intro ?_ ?_)); iterate 3 (focus (first | rfl | (simp only [go_sem, jM, Int.toNat_one]; done) | (simp [go_sem, look, jM, Int.toNat_one]; done)))); all_goals (try simp only [go_sem, jM, Int.toNat_one]); all_goals (try simp only [go_sem, jM, Int.toNat_one]); all_goals repeat' (first | apply And.intro | intro _)) | skip)); (all_goals (first | ((refine call_hand false [(500000, 500000)] (fun k => k) (fun _ _ => rfl) ?_ (by decide) ?_ (told_02_f j hf) ?_; iterate 2 (focus (first | rfl | (simp only [go_sem, jM, Int.toNat_one] <;> first | done | rfl | simp)))); all_goals (rintro v m ⟨hR, hm⟩; subst hR; subst hm); all_goals (refine And.intro ?_ (And.intro ?_ (And.intro ?_ ?_)); iterate 3 (focus (first | rfl | (simp only [go_sem, jM, Int.toNat_one]; done) | (simp [go_sem, look, jM, Int.toNat_one]; done)))); all_goals (try simp only [go_sem, jM, Int.toNat_one]); all_goals (try simp only [go_sem, jM, Int.toNat_one]); all_goals repeat' (first | apply And.intro | intro _)) | skip)))
  | refine seq_k fun zN zM zhN zhM => ?_
  | (refine condF_k ?_ ?_; focus (first | rfl | (simp [go_sem, jM, Int.toNat_one]; done)))
  | (refine condT_k ?_ ?_; focus (first | rfl | (simp [go_sem, jM, Int.toNat_one]; done)))
set_option maxHeartbeats 800000 in
set_option maxRecDepth 100000 in
theorem tok_02x (j : Jd) (hl : j.locks = true) (hm : j.may false = false) :
 CtM Try.prog 17 [.w (.one (.p 500000 [])), .w (.one (.pl (.i 0))), .w (.one (.pl (.i 2)))] (jM j) (Told (fun v m => v = .w (.one (.pl (.b false))) ∧ m = jM j)) := by
 have hL := locks_ j
 rw [hl] at hL
 have hM := may_0 j
 rw [hm] at hM
 refine CtM.k Try.func17 rfl Try.ntmps17 (congrArg Array.toList Try.results17) (by simp) fun w0 ro may fx => ?_
 refine top_k fun zZ zhZ => ?_
 iterate 19 first
  | (refine sr_k fun zK zhK => ?_; simp only [go_sem, jM, Int.toNat_one]; (repeat' (first | apply And.intro | intro _)))
  | refine zhK _ ?_
  | refine block_k fun zB zbn zbx zbr zbi => ?_
  | refine ret_k ?_
  | (refine zbr _ ?_; clear zbn zbx zbr zbi)
  | (refine zhM _ _ ?_; clear zhN zhM)
  | (refine zhZ _ _ ?_; simp only [go_sem, jM, Int.toNat_one]; (all_goals (exact told_keep rfl (keep_one (by simp [look])) ⟨rfl, rfl⟩)))
  | ((all_goals (refine call_hand false [(500000, 500000)] (fun k => k) (fun _ _ => rfl) ?_ (by decide) ?_ hL ?_; iterate 2 (focus (first | rfl | (simp only [go_sem, jM, Int.toNat_one] <;> first | done | rfl | simp))))); (all_goals (rintro v m ⟨hR, hm⟩; subst hR; subst hm)); (all_goals (refine And.intro ?_ (And.intro ?_ (And.intro ?_ ?_)); iterate 3 (focus (first | rfl | (simp only [go_sem, jM, Int.toNat_one]; done) | (simp [go_sem, look, jM, Int.toNat_one]; done))))); (all_goals (try simp only [go_sem, jM, Int.toNat_one])); (all_goals (try simp only [go_sem, jM, Int.toNat_one])); (all_goals repeat' (first | apply And.intro | intro _)); (all_goals (first | ((refine call_hand false [(500000, 500000)] (fun k => k) (fun _ _ => rfl) ?_ (by decide) ?_ hM ?_; iterate 2 (focus (first | rfl | (simp only [go_sem, jM, Int.toNat_one] <;> first | done | rfl | simp)))); all_goals (rintro v m ⟨hR, hm⟩; subst hR; subst hm); all_goals (refine And.intro ?_ (And.intro ?_ (And.intro ?_ ?_)); iterate 3 (focus (first | rfl | (simp only [go_sem, jM, Int.toNat_one]; done) | (simp [go_sem, look, jM, Int.toNat_one]; done)))); all_goals (try simp only [go_sem, jM, Int.toNat_one]); all_goals (try simp only [go_sem, jM, Int.toNat_one]); all_goals repeat' (first | apply And.intro | intro _)) | skip)); (all_goals (first | ((refine call_hand false [(500000, 500000)] (fun k => k) (fun _ _ => rfl) ?_ (by decide) ?_ (told_02_ j hf) ?_; iterate 2 (focus (first | rfl | (simp only [go_sem, jM, Int.toNat_one] <;> first | done | rfl | simp)))); all_goals (rintro v m ⟨hR, hm⟩; subst hR; subst hm); all_goals (refine And.intro ?_ (And.intro ?_ (And.intro ?_ ?_)); iterate 3 (focus (first | rfl | (simp only [go_sem, jM, Int.toNat_one]; done) | (simp [go_sem, look, jM, Int.toNat_one]; done)))); all_goals (try simp only [go_sem, jM, Int.toNat_one]); all_goals (try simp only [go_sem, jM, Int.toNat_one]); all_goals repeat' (first | apply And.intro | intro _)) | skip)))
  | refine seq_k fun zN zM zhN zhM => ?_
  | (refine condF_k ?_ ?_; focus (first | rfl | (simp [go_sem, jM, Int.toNat_one]; done)))
  | (refine condT_k ?_ ?_; focus (first | rfl | (simp [go_sem, jM, Int.toNat_one]; done)))
theorem token_02 (j : Jd) : CtM Try.prog 17 [.w (.one (.p 500000 [])), .w (.one (.pl (.i 0))), .w (.one (.pl (.i 2)))] (jM j) (fun v m => v = .w (.one (.pl (.b (j.token false 2).1))) ∧ m = jM (j.token false 2).2) := by
 rcases hl : j.locks with _ | _
 · rcases h : j.flag false 2 with _ | _
   · have hr : j.token false 2 = (true, j.tell false 2) := by simp [Jd.token, h, hl]
     rw [hr]; exact (tok_02nf j hl h).told
   · have hr : j.token false 2 = (false, j) := by simp [Jd.token, h, hl]
     rw [hr]; exact (tok_02nt j hl h).told
 · rcases hm : j.may false with _ | _
   · have hr : j.token false 2 = (false, j) := by simp [Jd.token, hm, hl]
     rw [hr]; exact (tok_02x j hl hm).told
   · rcases h : j.flag false 2 with _ | _
     · have hr : j.token false 2 = (true, j.tell false 2) := by simp [Jd.token, h, hl, hm]
       rw [hr]; exact (tok_02mf j hl hm h).told
     · have hr : j.token false 2 = (false, j) := by simp [Jd.token, h, hl, hm]
       rw [hr]; exact (tok_02mt j hl hm h).told
set_option maxHeartbeats 800000 in
set_option maxRecDepth 100000 in
theorem tok_11t (j : Jd) (hf : j.flag true 1 = true) :
 CtM Try.prog 17 [.w (.one (.p 500000 [])), .w (.one (.pl (.i 1))), .w (.one (.pl (.i 1)))] (jM j) (Told (fun v m => v = .w (.one (.pl (.b false))) ∧ m = jM j)) := by
 refine CtM.k Try.func17 rfl Try.ntmps17 (congrArg Array.toList Try.results17) (by simp) fun w0 ro may fx => ?_
 refine top_k fun zZ zhZ => ?_
 iterate 16 first
  | (refine sr_k fun zK zhK => ?_; simp only [go_sem, jM, Int.toNat_one]; (repeat' (first | apply And.intro | intro _)))
  | refine zhK _ ?_
  | refine block_k fun zB zbn zbx zbr zbi => ?_
  | refine ret_k ?_
  | (refine zbr _ ?_; clear zbn zbx zbr zbi)
  | (refine zhM _ _ ?_; clear zhN zhM)
  | (refine zhZ _ _ ?_; simp only [go_sem, jM, Int.toNat_one]; (all_goals (exact told_keep rfl (keep_one (by simp [look])) ⟨rfl, rfl⟩)))
  | ((all_goals (refine call_hand false [(500000, 500000)] (fun k => k) (fun _ _ => rfl) ?_ (by decide) ?_ (told_11_t j hf) ?_; iterate 2 (focus (first | rfl | (simp only [go_sem, jM, Int.toNat_one] <;> first | done | rfl | simp))))); (all_goals (rintro v m ⟨hR, hm⟩; subst hR; subst hm)); (all_goals (refine And.intro ?_ (And.intro ?_ (And.intro ?_ ?_)); iterate 3 (focus (first | rfl | (simp only [go_sem, jM, Int.toNat_one]; done) | (simp [go_sem, look, jM, Int.toNat_one]; done))))); (all_goals (try simp only [go_sem, jM, Int.toNat_one])); (all_goals (try simp only [go_sem, jM, Int.toNat_one])); (all_goals repeat' (first | apply And.intro | intro _)))
  | refine seq_k fun zN zM zhN zhM => ?_
  | (refine condT_k ?_ ?_; focus (first | rfl | (simp [go_sem, jM, Int.toNat_one]; done)))
set_option maxHeartbeats 800000 in
set_option maxRecDepth 100000 in
theorem tok_11f (j : Jd) (hf : j.flag true 1 = false) :
 CtM Try.prog 17 [.w (.one (.p 500000 [])), .w (.one (.pl (.i 1))), .w (.one (.pl (.i 1)))] (jM j) (Told (fun v m => v = .w (.one (.pl (.b true))) ∧ m = jM (j.tell true 1))) := by
 refine CtM.k Try.func17 rfl Try.ntmps17 (congrArg Array.toList Try.results17) (by simp) fun w0 ro may fx => ?_
 refine top_k fun zZ zhZ => ?_
 iterate 16 first
  | (refine sr_k fun zK zhK => ?_; simp only [go_sem, jM, Int.toNat_one]; (repeat' (first | apply And.intro | intro _)))
  | refine zhK _ ?_
  | refine block_k fun zB zbn zbx zbr zbi => ?_
  | refine ret_k ?_
  | (refine zbr _ ?_; clear zbn zbx zbr zbi)
  | (refine zhM _ _ ?_; clear zhN zhM)
  | (refine zhZ _ _ ?_; simp only [go_sem, jM, Int.toNat_one]; (all_goals (exact told_keep rfl (keep_one (by simp [look])) ⟨rfl, rfl⟩)))
  | ((all_goals (refine call_hand false [(500000, 500000)] (fun k => k) (fun _ _ => rfl) ?_ (by decide) ?_ (told_11_f j hf) ?_; iterate 2 (focus (first | rfl | (simp only [go_sem, jM, Int.toNat_one] <;> first | done | rfl | simp))))); (all_goals (rintro v m ⟨hR, hm⟩; subst hR; subst hm)); (all_goals (refine And.intro ?_ (And.intro ?_ (And.intro ?_ ?_)); iterate 3 (focus (first | rfl | (simp only [go_sem, jM, Int.toNat_one]; done) | (simp [go_sem, look, jM, Int.toNat_one]; done))))); (all_goals (try simp only [go_sem, jM, Int.toNat_one])); (all_goals (try simp only [go_sem, jM, Int.toNat_one])); (all_goals repeat' (first | apply And.intro | intro _)))
  | refine seq_k fun zN zM zhN zhM => ?_
  | (refine condT_k ?_ ?_; focus (first | rfl | (simp [go_sem, jM, Int.toNat_one]; done)))
theorem token_11 (j : Jd) : CtM Try.prog 17 [.w (.one (.p 500000 [])), .w (.one (.pl (.i 1))), .w (.one (.pl (.i 1)))] (jM j) (fun v m => v = .w (.one (.pl (.b (j.token true 1).1))) ∧ m = jM (j.token true 1).2) := by
 rcases h : j.flag true 1 with _ | _
 · have hr : j.token true 1 = (true, j.tell true 1) := by simp [Jd.token, h]
   rw [hr]; exact (tok_11f j h).told
 · have hr : j.token true 1 = (false, j) := by simp [Jd.token, h]
   rw [hr]; exact (tok_11t j h).told
set_option maxHeartbeats 800000 in
set_option maxRecDepth 100000 in
theorem tok_12nt (j : Jd) (hl : j.locks = false) (hf : j.flag true 2 = true) :
 CtM Try.prog 17 [.w (.one (.p 500000 [])), .w (.one (.pl (.i 1))), .w (.one (.pl (.i 2)))] (jM j) (Told (fun v m => v = .w (.one (.pl (.b false))) ∧ m = jM j)) := by
 have hL := locks_ j
 rw [hl] at hL
 refine CtM.k Try.func17 rfl Try.ntmps17 (congrArg Array.toList Try.results17) (by simp) fun w0 ro may fx => ?_
 refine top_k fun zZ zhZ => ?_
 iterate 19 first
  | (refine sr_k fun zK zhK => ?_; simp only [go_sem, jM, Int.toNat_one]; (repeat' (first | apply And.intro | intro _)))
  | refine zhK _ ?_
  | refine block_k fun zB zbn zbx zbr zbi => ?_
  | refine ret_k ?_
  | (refine zbr _ ?_; clear zbn zbx zbr zbi)
  | (refine zhM _ _ ?_; clear zhN zhM)
  | (refine zhZ _ _ ?_; simp only [go_sem, jM, Int.toNat_one]; (all_goals (exact told_keep rfl (keep_one (by simp [look])) ⟨rfl, rfl⟩)))
  | ((all_goals (refine call_hand false [(500000, 500000)] (fun k => k) (fun _ _ => rfl) ?_ (by decide) ?_ hL ?_; iterate 2 (focus (first | rfl | (simp only [go_sem, jM, Int.toNat_one] <;> first | done | rfl | simp))))); (all_goals (rintro v m ⟨hR, hm⟩; subst hR; subst hm)); (all_goals (refine And.intro ?_ (And.intro ?_ (And.intro ?_ ?_)); iterate 3 (focus (first | rfl | (simp only [go_sem, jM, Int.toNat_one]; done) | (simp [go_sem, look, jM, Int.toNat_one]; done))))); (all_goals (try simp only [go_sem, jM, Int.toNat_one])); (all_goals (try simp only [go_sem, jM, Int.toNat_one])); (all_goals repeat' (first | apply And.intro | intro _)); (all_goals (first | ((refine call_hand false [(500000, 500000)] (fun k => k) (fun _ _ => rfl) ?_ (by decide) ?_ hM ?_; iterate 2 (focus (first | rfl | (simp only [go_sem, jM, Int.toNat_one] <;> first | done | rfl | simp)))); all_goals (rintro v m ⟨hR, hm⟩; subst hR; subst hm); all_goals (refine And.intro ?_ (And.intro ?_ (And.intro ?_ ?_)); iterate 3 (focus (first | rfl | (simp only [go_sem, jM, Int.toNat_one]; done) | (simp [go_sem, look, jM, Int.toNat_one]; done)))); all_goals (try simp only [go_sem, jM, Int.toNat_one]); all_goals (try simp only [go_sem, jM, Int.toNat_one]); all_goals repeat' (first | apply And.intro | intro _)) | skip)); (all_goals (first | ((refine call_hand false [(500000, 500000)] (fun k => k) (fun _ _ => rfl) ?_ (by decide) ?_ (told_12_t j hf) ?_; iterate 2 (focus (first | rfl | (simp only [go_sem, jM, Int.toNat_one] <;> first | done | rfl | simp)))); all_goals (rintro v m ⟨hR, hm⟩; subst hR; subst hm); all_goals (refine And.intro ?_ (And.intro ?_ (And.intro ?_ ?_)); iterate 3 (focus (first | rfl | (simp only [go_sem, jM, Int.toNat_one]; done) | (simp [go_sem, look, jM, Int.toNat_one]; done)))); all_goals (try simp only [go_sem, jM, Int.toNat_one]); all_goals (try simp only [go_sem, jM, Int.toNat_one]); all_goals repeat' (first | apply And.intro | intro _)) | skip)))
  | refine seq_k fun zN zM zhN zhM => ?_
  | (refine condF_k ?_ ?_; focus (first | rfl | (simp [go_sem, jM, Int.toNat_one]; done)))
  | (refine condT_k ?_ ?_; focus (first | rfl | (simp [go_sem, jM, Int.toNat_one]; done)))
set_option maxHeartbeats 800000 in
set_option maxRecDepth 100000 in
theorem tok_12nf (j : Jd) (hl : j.locks = false) (hf : j.flag true 2 = false) :
 CtM Try.prog 17 [.w (.one (.p 500000 [])), .w (.one (.pl (.i 1))), .w (.one (.pl (.i 2)))] (jM j) (Told (fun v m => v = .w (.one (.pl (.b true))) ∧ m = jM (j.tell true 2))) := by
 have hL := locks_ j
 rw [hl] at hL
 refine CtM.k Try.func17 rfl Try.ntmps17 (congrArg Array.toList Try.results17) (by simp) fun w0 ro may fx => ?_
 refine top_k fun zZ zhZ => ?_
 iterate 19 first
  | (refine sr_k fun zK zhK => ?_; simp only [go_sem, jM, Int.toNat_one]; (repeat' (first | apply And.intro | intro _)))
  | refine zhK _ ?_
  | refine block_k fun zB zbn zbx zbr zbi => ?_
  | refine ret_k ?_
  | (refine zbr _ ?_; clear zbn zbx zbr zbi)
  | (refine zhM _ _ ?_; clear zhN zhM)
  | (refine zhZ _ _ ?_; simp only [go_sem, jM, Int.toNat_one]; (all_goals (exact told_keep rfl (keep_one (by simp [look])) ⟨rfl, rfl⟩)))
  | ((all_goals (refine call_hand false [(500000, 500000)] (fun k => k) (fun _ _ => rfl) ?_ (by decide) ?_ hL ?_; iterate 2 (focus (first | rfl | (simp only [go_sem, jM, Int.toNat_one] <;> first | done | rfl | simp))))); (all_goals (rintro v m ⟨hR, hm⟩; subst hR; subst hm)); (all_goals (refine And.intro ?_ (And.intro ?_ (And.intro ?_ ?_)); iterate 3 (focus (first | rfl | (simp only [go_sem, jM, Int.toNat_one]; done) | (simp [go_sem, look, jM, Int.toNat_one]; done))))); (all_goals (try simp only [go_sem, jM, Int.toNat_one])); (all_goals (try simp only [go_sem, jM, Int.toNat_one])); (all_goals repeat' (first | apply And.intro | intro _)); (all_goals (first | ((refine call_hand false [(500000, 500000)] (fun k => k) (fun _ _ => rfl) ?_ (by decide) ?_ hM ?_; iterate 2 (focus (first | rfl | (simp only [go_sem, jM, Int.toNat_one] <;> first | done | rfl | simp)))); all_goals (rintro v m ⟨hR, hm⟩; subst hR; subst hm); all_goals (refine And.intro ?_ (And.intro ?_ (And.intro ?_ ?_)); iterate 3 (focus (first | rfl | (simp only [go_sem, jM, Int.toNat_one]; done) | (simp [go_sem, look, jM, Int.toNat_one]; done)))); all_goals (try simp only [go_sem, jM, Int.toNat_one]); all_goals (try simp only [go_sem, jM, Int.toNat_one]); all_goals repeat' (first | apply And.intro | intro _)) | skip)); (all_goals (first | ((refine call_hand false [(500000, 500000)] (fun k => k) (fun _ _ => rfl) ?_ (by decide) ?_ (told_12_f j hf) ?_; iterate 2 (focus (first | rfl | (simp only [go_sem, jM, Int.toNat_one] <;> first | done | rfl | simp)))); all_goals (rintro v m ⟨hR, hm⟩; subst hR; subst hm); all_goals (refine And.intro ?_ (And.intro ?_ (And.intro ?_ ?_)); iterate 3 (focus (first | rfl | (simp only [go_sem, jM, Int.toNat_one]; done) | (simp [go_sem, look, jM, Int.toNat_one]; done)))); all_goals (try simp only [go_sem, jM, Int.toNat_one]); all_goals (try simp only [go_sem, jM, Int.toNat_one]); all_goals repeat' (first | apply And.intro | intro _)) | skip)))
  | refine seq_k fun zN zM zhN zhM => ?_
  | (refine condF_k ?_ ?_; focus (first | rfl | (simp [go_sem, jM, Int.toNat_one]; done)))
  | (refine condT_k ?_ ?_; focus (first | rfl | (simp [go_sem, jM, Int.toNat_one]; done)))
set_option maxHeartbeats 800000 in
set_option maxRecDepth 100000 in
theorem tok_12mt (j : Jd) (hl : j.locks = true) (hm : j.may true = true) (hf : j.flag true 2 = true) :
 CtM Try.prog 17 [.w (.one (.p 500000 [])), .w (.one (.pl (.i 1))), .w (.one (.pl (.i 2)))] (jM j) (Told (fun v m => v = .w (.one (.pl (.b false))) ∧ m = jM j)) := by
 have hL := locks_ j
 rw [hl] at hL
 have hM := may_1 j
 rw [hm] at hM
 refine CtM.k Try.func17 rfl Try.ntmps17 (congrArg Array.toList Try.results17) (by simp) fun w0 ro may fx => ?_
 refine top_k fun zZ zhZ => ?_
 iterate 19 first
  | (refine sr_k fun zK zhK => ?_; simp only [go_sem, jM, Int.toNat_one]; (repeat' (first | apply And.intro | intro _)))
  | refine zhK _ ?_
  | refine block_k fun zB zbn zbx zbr zbi => ?_
  | refine ret_k ?_
  | (refine zbr _ ?_; clear zbn zbx zbr zbi)
  | (refine zhM _ _ ?_; clear zhN zhM)
  | (refine zhZ _ _ ?_; simp only [go_sem, jM, Int.toNat_one]; (all_goals (exact told_keep rfl (keep_one (by simp [look])) ⟨rfl, rfl⟩)))
  | ((all_goals (refine call_hand false [(500000, 500000)] (fun k => k) (fun _ _ => rfl) ?_ (by decide) ?_ hL ?_; iterate 2 (focus (first | rfl | (simp only [go_sem, jM, Int.toNat_one] <;> first | done | rfl | simp))))); (all_goals (rintro v m ⟨hR, hm⟩; subst hR; subst hm)); (all_goals (refine And.intro ?_ (And.intro ?_ (And.intro ?_ ?_)); iterate 3 (focus (first | rfl | (simp only [go_sem, jM, Int.toNat_one]; done) | (simp [go_sem, look, jM, Int.toNat_one]; done))))); (all_goals (try simp only [go_sem, jM, Int.toNat_one])); (all_goals (try simp only [go_sem, jM, Int.toNat_one])); (all_goals repeat' (first | apply And.intro | intro _)); (all_goals (first | ((refine call_hand false [(500000, 500000)] (fun k => k) (fun _ _ => rfl) ?_ (by decide) ?_ hM ?_; iterate 2 (focus (first | rfl | (simp only [go_sem, jM, Int.toNat_one] <;> first | done | rfl | simp)))); all_goals (rintro v m ⟨hR, hm⟩; subst hR; subst hm); all_goals (refine And.intro ?_ (And.intro ?_ (And.intro ?_ ?_)); iterate 3 (focus (first | rfl | (simp only [go_sem, jM, Int.toNat_one]; done) | (simp [go_sem, look, jM, Int.toNat_one]; done)))); all_goals (try simp only [go_sem, jM, Int.toNat_one]); all_goals (try simp only [go_sem, jM, Int.toNat_one]); all_goals repeat' (first | apply And.intro | intro _)) | skip)); (all_goals (first | ((refine call_hand false [(500000, 500000)] (fun k => k) (fun _ _ => rfl) ?_ (by decide) ?_ (told_12_t j hf) ?_; iterate 2 (focus (first | rfl | (simp only [go_sem, jM, Int.toNat_one] <;> first | done | rfl | simp)))); all_goals (rintro v m ⟨hR, hm⟩; subst hR; subst hm); all_goals (refine And.intro ?_ (And.intro ?_ (And.intro ?_ ?_)); iterate 3 (focus (first | rfl | (simp only [go_sem, jM, Int.toNat_one]; done) | (simp [go_sem, look, jM, Int.toNat_one]; done)))); all_goals (try simp only [go_sem, jM, Int.toNat_one]); all_goals (try simp only [go_sem, jM, Int.toNat_one]); all_goals repeat' (first | apply And.intro | intro _)) | skip)))
  | refine seq_k fun zN zM zhN zhM => ?_
  | (refine condF_k ?_ ?_; focus (first | rfl | (simp [go_sem, jM, Int.toNat_one]; done)))
  | (refine condT_k ?_ ?_; focus (first | rfl | (simp [go_sem, jM, Int.toNat_one]; done)))
set_option maxHeartbeats 800000 in
set_option maxRecDepth 100000 in
theorem tok_12mf (j : Jd) (hl : j.locks = true) (hm : j.may true = true) (hf : j.flag true 2 = false) :
 CtM Try.prog 17 [.w (.one (.p 500000 [])), .w (.one (.pl (.i 1))), .w (.one (.pl (.i 2)))] (jM j) (Told (fun v m => v = .w (.one (.pl (.b true))) ∧ m = jM (j.tell true 2))) := by
 have hL := locks_ j
 rw [hl] at hL
 have hM := may_1 j
 rw [hm] at hM
 refine CtM.k Try.func17 rfl Try.ntmps17 (congrArg Array.toList Try.results17) (by simp) fun w0 ro may fx => ?_
 refine top_k fun zZ zhZ => ?_
 iterate 19 first
  | (refine sr_k fun zK zhK => ?_; simp only [go_sem, jM, Int.toNat_one]; (repeat' (first | apply And.intro | intro _)))
  | refine zhK _ ?_
  | refine block_k fun zB zbn zbx zbr zbi => ?_
  | refine ret_k ?_
  | (refine zbr _ ?_; clear zbn zbx zbr zbi)
  | (refine zhM _ _ ?_; clear zhN zhM)
  | (refine zhZ _ _ ?_; simp only [go_sem, jM, Int.toNat_one]; (all_goals (exact told_keep rfl (keep_one (by simp [look])) ⟨rfl, rfl⟩)))
  | ((all_goals (refine call_hand false [(500000, 500000)] (fun k => k) (fun _ _ => rfl) ?_ (by decide) ?_ hL ?_; iterate 2 (focus (first | rfl | (simp only [go_sem, jM, Int.toNat_one] <;> first | done | rfl | simp))))); (all_goals (rintro v m ⟨hR, hm⟩; subst hR; subst hm)); (all_goals (refine And.intro ?_ (And.intro ?_ (And.intro ?_ ?_)); iterate 3 (focus (first | rfl | (simp only [go_sem, jM, Int.toNat_one]; done) | (simp [go_sem, look, jM, Int.toNat_one]; done))))); (all_goals (try simp only [go_sem, jM, Int.toNat_one])); (all_goals (try simp only [go_sem, jM, Int.toNat_one])); (all_goals repeat' (first | apply And.intro | intro _)); (all_goals (first | ((refine call_hand false [(500000, 500000)] (fun k => k) (fun _ _ => rfl) ?_ (by decide) ?_ hM ?_; iterate 2 (focus (first | rfl | (simp only [go_sem, jM, Int.toNat_one] <;> first | done | rfl | simp)))); all_goals (rintro v m ⟨hR, hm⟩; subst hR; subst hm); all_goals (refine And.intro ?_ (And.intro ?_ (And.intro ?_ ?_)); iterate 3 (focus (first | rfl | (simp only [go_sem, jM, Int.toNat_one]; done) | (simp [go_sem, look, jM, Int.toNat_one]; done)))); all_goals (try simp only [go_sem, jM, Int.toNat_one]); all_goals (try simp only [go_sem, jM, Int.toNat_one]); all_goals repeat' (first | apply And.intro | intro _)) | skip)); (all_goals (first | ((refine call_hand false [(500000, 500000)] (fun k => k) (fun _ _ => rfl) ?_ (by decide) ?_ (told_12_f j hf) ?_; iterate 2 (focus (first | rfl | (simp only [go_sem, jM, Int.toNat_one] <;> first | done | rfl | simp)))); all_goals (rintro v m ⟨hR, hm⟩; subst hR; subst hm); all_goals (refine And.intro ?_ (And.intro ?_ (And.intro ?_ ?_)); iterate 3 (focus (first | rfl | (simp only [go_sem, jM, Int.toNat_one]; done) | (simp [go_sem, look, jM, Int.toNat_one]; done)))); all_goals (try simp only [go_sem, jM, Int.toNat_one]); all_goals (try simp only [go_sem, jM, Int.toNat_one]); all_goals repeat' (first | apply And.intro | intro _)) | skip)))
  | refine seq_k fun zN zM zhN zhM => ?_
  | (refine condF_k ?_ ?_; focus (first | rfl | (simp [go_sem, jM, Int.toNat_one]; done)))
  | (refine condT_k ?_ ?_; focus (first | rfl | (simp [go_sem, jM, Int.toNat_one]; done)))
set_option maxHeartbeats 800000 in
set_option maxRecDepth 100000 in
theorem tok_12x (j : Jd) (hl : j.locks = true) (hm : j.may true = false) :
 CtM Try.prog 17 [.w (.one (.p 500000 [])), .w (.one (.pl (.i 1))), .w (.one (.pl (.i 2)))] (jM j) (Told (fun v m => v = .w (.one (.pl (.b false))) ∧ m = jM j)) := by
 have hL := locks_ j
 rw [hl] at hL
 have hM := may_1 j
 rw [hm] at hM
 refine CtM.k Try.func17 rfl Try.ntmps17 (congrArg Array.toList Try.results17) (by simp) fun w0 ro may fx => ?_
 refine top_k fun zZ zhZ => ?_
 iterate 19 first
  | (refine sr_k fun zK zhK => ?_; simp only [go_sem, jM, Int.toNat_one]; (repeat' (first | apply And.intro | intro _)))
  | refine zhK _ ?_
  | refine block_k fun zB zbn zbx zbr zbi => ?_
  | refine ret_k ?_
  | (refine zbr _ ?_; clear zbn zbx zbr zbi)
  | (refine zhM _ _ ?_; clear zhN zhM)
  | (refine zhZ _ _ ?_; simp only [go_sem, jM, Int.toNat_one]; (all_goals (exact told_keep rfl (keep_one (by simp [look])) ⟨rfl, rfl⟩)))
  | ((all_goals (refine call_hand false [(500000, 500000)] (fun k => k) (fun _ _ => rfl) ?_ (by decide) ?_ hL ?_; iterate 2 (focus (first | rfl | (simp only [go_sem, jM, Int.toNat_one] <;> first | done | rfl | simp))))); (all_goals (rintro v m ⟨hR, hm⟩; subst hR; subst hm)); (all_goals (refine And.intro ?_ (And.intro ?_ (And.intro ?_ ?_)); iterate 3 (focus (first | rfl | (simp only [go_sem, jM, Int.toNat_one]; done) | (simp [go_sem, look, jM, Int.toNat_one]; done))))); (all_goals (try simp only [go_sem, jM, Int.toNat_one])); (all_goals (try simp only [go_sem, jM, Int.toNat_one])); (all_goals repeat' (first | apply And.intro | intro _)); (all_goals (first | ((refine call_hand false [(500000, 500000)] (fun k => k) (fun _ _ => rfl) ?_ (by decide) ?_ hM ?_; iterate 2 (focus (first | rfl | (simp only [go_sem, jM, Int.toNat_one] <;> first | done | rfl | simp)))); all_goals (rintro v m ⟨hR, hm⟩; subst hR; subst hm); all_goals (refine And.intro ?_ (And.intro ?_ (And.intro ?_ ?_)); iterate 3 (focus (first | rfl | (simp only [go_sem, jM, Int.toNat_one]; done) | (simp [go_sem, look, jM, Int.toNat_one]; done)))); all_goals (try simp only [go_sem, jM, Int.toNat_one]); all_goals (try simp only [go_sem, jM, Int.toNat_one]); all_goals repeat' (first | apply And.intro | intro _)) | skip)); (all_goals (first | ((refine call_hand false [(500000, 500000)] (fun k => k) (fun _ _ => rfl) ?_ (by decide) ?_ (told_12_ j hf) ?_; iterate 2 (focus (first | rfl | (simp only [go_sem, jM, Int.toNat_one] <;> first | done | rfl | simp)))); all_goals (rintro v m ⟨hR, hm⟩; subst hR; subst hm); all_goals (refine And.intro ?_ (And.intro ?_ (And.intro ?_ ?_)); iterate 3 (focus (first | rfl | (simp only [go_sem, jM, Int.toNat_one]; done) | (simp [go_sem, look, jM, Int.toNat_one]; done)))); all_goals (try simp only [go_sem, jM, Int.toNat_one]); all_goals (try simp only [go_sem, jM, Int.toNat_one]); all_goals repeat' (first | apply And.intro | intro _)) | skip)))
  | refine seq_k fun zN zM zhN zhM => ?_
  | (refine condF_k ?_ ?_; focus (first | rfl | (simp [go_sem, jM, Int.toNat_one]; done)))
  | (refine condT_k ?_ ?_; focus (first | rfl | (simp [go_sem, jM, Int.toNat_one]; done)))
theorem token_12 (j : Jd) : CtM Try.prog 17 [.w (.one (.p 500000 [])), .w (.one (.pl (.i 1))), .w (.one (.pl (.i 2)))] (jM j) (fun v m => v = .w (.one (.pl (.b (j.token true 2).1))) ∧ m = jM (j.token true 2).2) := by
 rcases hl : j.locks with _ | _
 · rcases h : j.flag true 2 with _ | _
   · have hr : j.token true 2 = (true, j.tell true 2) := by simp [Jd.token, h, hl]
     rw [hr]; exact (tok_12nf j hl h).told
   · have hr : j.token true 2 = (false, j) := by simp [Jd.token, h, hl]
     rw [hr]; exact (tok_12nt j hl h).told
 · rcases hm : j.may true with _ | _
   · have hr : j.token true 2 = (false, j) := by simp [Jd.token, hm, hl]
     rw [hr]; exact (tok_12x j hl hm).told
   · rcases h : j.flag true 2 with _ | _
     · have hr : j.token true 2 = (true, j.tell true 2) := by simp [Jd.token, h, hl, hm]
       rw [hr]; exact (tok_12mf j hl hm h).told
     · have hr : j.token true 2 = (false, j) := by simp [Jd.token, h, hl, hm]
       rw [hr]; exact (tok_12mt j hl hm h).told
end Go.Sy

